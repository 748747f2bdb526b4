/- One law of the program and what its proof stands on, put together by a program out of the texts that print.sh and this session's own programs wrote: the words of the print, contracts of Go functions, plain lemmas, the law. Conditions: those that each theorem names. -/
import Derived.Test.YtjdlepjgniokdaaGreatDoorQvb
section

namespace Go.Proofs.YtjdlepjgniokdaaGreatDoor.PA
open Go.RowKit Go.Proofs.YtjdlepjgniokdaaGreatDoorW.PrintWords Go.Proofs.YtjdlepjgniokdaaGreatDoorW.PrintLast Go.Proofs.YtjdlepjgniokdaaGreatDoorW.PrintMore
attribute [local go_sem] max2_int min2_int max_two min_two max_three min_three max_four min_four
set_option linter.unusedVariables false
set_option linter.unusedSimpArgs false
mutual
def spec_l20Value.j2 : Nat → Int → List (S27) → List Int → Int → Option ((List (S27)) × Int)
  | 0, _, _, _, _ => none
  | k + 1, x2, x7, x1000, x1001 => (spec_l20Rd_odd.f k x1000 x1001 x2).bind fun bt207 => (if bt207.1 = true then ((spec_l20Rd_pick.f k x1000 bt207.2 3).bind fun bt209 => (if bt209.1 = 0 then (if 0 < (x7.length : Int) then (some ((x7.set (0 : Int).toNat (⟨(rd_T27 x7 0).f0, (⟨#[49, 47, 50]⟩ : ByteArray), (rd_T27 x7 0).f2⟩ : S27)), bt209.2)) else (none)) else (if bt209.1 = 1 then (if 0 < (x7.length : Int) then (some ((x7.set (0 : Int).toNat (⟨4, (⟨#[97]⟩ : ByteArray), 0⟩ : S27)), bt209.2)) else (none)) else (if x7.length < 4398046511104 then (some ((x7 ++ [(⟨3, (⟨#[116, 114, 117, 101]⟩ : ByteArray), 0⟩ : S27)]), bt209.2)) else (none))))) else (some (x7, bt207.2)))
def spec_l20Value.j0 : Nat → Int → Int → Int → List Int → Int → Option ((List (S27)) × Int)
  | 0, _, _, _, _, _ => none
  | k + 1, x1, x2, x8, x1000, x1001 => spec_l20Value.l0 k x1 x2 (([(⟨5, (⟨#[]⟩ : ByteArray), x8⟩ : S27)] : List (S27))) x8 0 x1000 x1001
def spec_l20Value.l0 : Nat → Int → Int → List (S27) → Int → Int → List Int → Int → Option ((List (S27)) × Int)
  | 0, _, _, _, _, _, _, _ => none
  | k + 1, x1, x2, x7, x8, x9, x1000, x1001 => if x9 < x8 then ((spec_l20Value.f k x1000 x1001 (wrap64 (x1 - 1)) 0).bind fun bt200 => (if x7.length + bt200.1.length < 4398046511104 then (spec_l20Value.l0 k x1 x2 (x7 ++ bt200.1) x8 (wrap64 (x9 + 1)) x1000 bt200.2) else (none))) else (spec_l20Value.j2 k x2 x7 x1000 x1001)
def spec_l20Value.f : Nat → List Int → Int → Int → Int → Option ((List (S27)) × Int)
  | 0, _, _, _, _ => none
  | k + 1, s0_0, s0_1, a1, a2 => (some (([0, 0, 1, 2, 3] : List Int) : List Int)).bind fun y164 => ((spec_l20Rd_pick.f k s0_0 s0_1 5).bind fun bt167 => (if 0 ≤ bt167.1 then (if bt167.1 < (y164.length : Int) then (if (rd y164 bt167.1) = 0 then ((spec_l20Fraction.f k s0_0 bt167.2 0).bind fun bt170 => ((spec_FractionText.f k bt170.1 bt170.2.1).bind fun t173 => (spec_l20Value.j2 k a2 (([(⟨1, t173, 0⟩ : S27)] : List (S27))) s0_0 bt170.2.2))) else (if (rd y164 bt167.1) = 1 then ((some (([(⟨#[]⟩ : ByteArray), (⟨#[97]⟩ : ByteArray), (⟨#[65, 98]⟩ : ByteArray), (⟨#[122, 122]⟩ : ByteArray)] : List ByteArray) : List ByteArray)).bind fun y177 => ((spec_l20Rd_pick.f k s0_0 bt167.2 4).bind fun bt180 => (if 0 ≤ bt180.1 then (if bt180.1 < (y177.length : Int) then (spec_l20Value.j2 k a2 (([(⟨2, rdOf ByteArray.empty y177 bt180.1, 0⟩ : S27)] : List (S27))) s0_0 bt180.2) else (none)) else (none)))) else (if (rd y164 bt167.1) = 2 then ((some (([(⟨#[116, 114, 117, 101]⟩ : ByteArray), (⟨#[102, 97, 108, 115, 101]⟩ : ByteArray)] : List ByteArray) : List ByteArray)).bind fun y186 => ((spec_l20Rd_pick.f k s0_0 bt167.2 2).bind fun bt189 => (if 0 ≤ bt189.1 then (if bt189.1 < (y186.length : Int) then (spec_l20Value.j2 k a2 (([(⟨3, rdOf ByteArray.empty y186 bt189.1, 0⟩ : S27)] : List (S27))) s0_0 bt189.2) else (none)) else (none)))) else ((spec_l20Rd_pick.f k s0_0 bt167.2 4).bind fun bt195 => (if a1 ≤ 1 then (spec_l20Value.j0 k a1 a2 0 s0_0 bt195.2) else (spec_l20Value.j0 k a1 a2 bt195.1 s0_0 bt195.2)))))) else (none)) else (none)))
end
set_option maxHeartbeats 8000000 in
set_option maxRecDepth 100000 in
theorem spec_l20Value.calls (k : Nat) : ∀ (g : Nat) (s0_0 : List Int) (s0_1 : Int) (a1 : Int) (a2 : Int) (r1 : List (S27)) (r2 : Int) (w0 w : World) (hI : IsS110 w0 w g s0_0 s0_1) (hB : Below w0.heap.size w0 w) (h : spec_l20Value.f k s0_0 s0_1 a1 a2 = some (r1, r2)),
    Calls Tryz.prog 57 #[.pointer (some ⟨g, 0, none⟩), .int .i64 a1, .int .i64 a2] w fun e w' => ∃ v0_ : Value, e = .returned (v0_) ∧ Kd.R k27 27 w' w.heap.size (fun _ => True) v0_ r1 ∧ IsS110 w0 w' g s0_0 r2 ∧ Below w0.heap.size w0 w' ∧ KeepBut w w' g none := by
  induction k using Nat.strongRecOn with
  | _ k ih =>
  intro g s0_0 s0_1 a1 a2 r1 r2 w0 w hI hB h
  cases k with
  | zero => exact absurd h (by simp [spec_l20Value.f])
  | succ k =>
  simp only [spec_l20Value.f] at h
  have hu27 := Tryz.underlying27
  have HI0 := Aside0.mk hI
  have HK := Aside0.mk (KeepBut.refl w g none)
  have HL := Aside0.mk hB.size
  clear hI
  have HW0 := Aside0.mk hB.size
  have HB := Aside0.mk hB
  clear hB
  have H : ((some (([0, 0, 1, 2, 3] : List Int) : List Int)).bind fun y164 => ((spec_l20Rd_pick.f k s0_0 s0_1 5).bind fun bt167 => (if 0 ≤ bt167.1 then (if bt167.1 < (y164.length : Int) then (if (rd y164 bt167.1) = 0 then ((spec_l20Fraction.f k s0_0 bt167.2 0).bind fun bt170 => ((spec_FractionText.f k bt170.1 bt170.2.1).bind fun t173 => (spec_l20Value.j2 k a2 (([(⟨1, t173, 0⟩ : S27)] : List (S27))) s0_0 bt170.2.2))) else (if (rd y164 bt167.1) = 1 then ((some (([(⟨#[]⟩ : ByteArray), (⟨#[97]⟩ : ByteArray), (⟨#[65, 98]⟩ : ByteArray), (⟨#[122, 122]⟩ : ByteArray)] : List ByteArray) : List ByteArray)).bind fun y177 => ((spec_l20Rd_pick.f k s0_0 bt167.2 4).bind fun bt180 => (if 0 ≤ bt180.1 then (if bt180.1 < (y177.length : Int) then (spec_l20Value.j2 k a2 (([(⟨2, rdOf ByteArray.empty y177 bt180.1, 0⟩ : S27)] : List (S27))) s0_0 bt180.2) else (none)) else (none)))) else (if (rd y164 bt167.1) = 2 then ((some (([(⟨#[116, 114, 117, 101]⟩ : ByteArray), (⟨#[102, 97, 108, 115, 101]⟩ : ByteArray)] : List ByteArray) : List ByteArray)).bind fun y186 => ((spec_l20Rd_pick.f k s0_0 bt167.2 2).bind fun bt189 => (if 0 ≤ bt189.1 then (if bt189.1 < (y186.length : Int) then (spec_l20Value.j2 k a2 (([(⟨3, rdOf ByteArray.empty y186 bt189.1, 0⟩ : S27)] : List (S27))) s0_0 bt189.2) else (none)) else (none)))) else ((spec_l20Rd_pick.f k s0_0 bt167.2 4).bind fun bt195 => (if a1 ≤ 1 then (spec_l20Value.j0 k a1 a2 0 s0_0 bt195.2) else (spec_l20Value.j0 k a1 a2 bt195.1 s0_0 bt195.2)))))) else (none)) else (none)))) = some (r1, r2) := h
  clear h
  obtain ⟨y161, hy161⟩ : ∃ y_ : List (S27), y_ = (([] : List (S27))) := ⟨_, rfl⟩
  replace H : ((some (([0, 0, 1, 2, 3] : List Int) : List Int)).bind fun y164 => ((spec_l20Rd_pick.f k s0_0 s0_1 5).bind fun bt167 => (if 0 ≤ bt167.1 then (if bt167.1 < (y164.length : Int) then (if (rd y164 bt167.1) = 0 then ((spec_l20Fraction.f k s0_0 bt167.2 0).bind fun bt170 => ((spec_FractionText.f k bt170.1 bt170.2.1).bind fun t173 => (spec_l20Value.j2 k a2 (([(⟨1, t173, 0⟩ : S27)] : List (S27))) s0_0 bt170.2.2))) else (if (rd y164 bt167.1) = 1 then ((some (([(⟨#[]⟩ : ByteArray), (⟨#[97]⟩ : ByteArray), (⟨#[65, 98]⟩ : ByteArray), (⟨#[122, 122]⟩ : ByteArray)] : List ByteArray) : List ByteArray)).bind fun y177 => ((spec_l20Rd_pick.f k s0_0 bt167.2 4).bind fun bt180 => (if 0 ≤ bt180.1 then (if bt180.1 < (y177.length : Int) then (spec_l20Value.j2 k a2 (([(⟨2, rdOf ByteArray.empty y177 bt180.1, 0⟩ : S27)] : List (S27))) s0_0 bt180.2) else (none)) else (none)))) else (if (rd y164 bt167.1) = 2 then ((some (([(⟨#[116, 114, 117, 101]⟩ : ByteArray), (⟨#[102, 97, 108, 115, 101]⟩ : ByteArray)] : List ByteArray) : List ByteArray)).bind fun y186 => ((spec_l20Rd_pick.f k s0_0 bt167.2 2).bind fun bt189 => (if 0 ≤ bt189.1 then (if bt189.1 < (y186.length : Int) then (spec_l20Value.j2 k a2 (([(⟨3, rdOf ByteArray.empty y186 bt189.1, 0⟩ : S27)] : List (S27))) s0_0 bt189.2) else (none)) else (none)))) else ((spec_l20Rd_pick.f k s0_0 bt167.2 4).bind fun bt195 => (if a1 ≤ 1 then (spec_l20Value.j0 k a1 a2 0 s0_0 bt195.2) else (spec_l20Value.j0 k a1 a2 bt195.1 s0_0 bt195.2)))))) else (none)) else (none)))) = some (r1, r2) := by first | (rw [hy161]; with_reducible exact H) | (have H2_ := (Option.bind_some _ _).symm.trans H; rw [hy161]; with_reducible exact H2_) | (have H2_ := (Option.bind_some _ _).symm.trans H; with_reducible exact H2_) | with_reducible exact H | (rw [hy161]; exact H) | exact H
  have Ny161 := Aside0.mk hy161
  clear hy161
  obtain ⟨y164, hy164⟩ : ∃ y_ : List Int, y_ = (([0, 0, 1, 2, 3] : List Int)) := ⟨_, rfl⟩
  replace H : ((spec_l20Rd_pick.f k s0_0 s0_1 5).bind fun bt167 => (if 0 ≤ bt167.1 then (if bt167.1 < (y164.length : Int) then (if (rd y164 bt167.1) = 0 then ((spec_l20Fraction.f k s0_0 bt167.2 0).bind fun bt170 => ((spec_FractionText.f k bt170.1 bt170.2.1).bind fun t173 => (spec_l20Value.j2 k a2 (([(⟨1, t173, 0⟩ : S27)] : List (S27))) s0_0 bt170.2.2))) else (if (rd y164 bt167.1) = 1 then ((some (([(⟨#[]⟩ : ByteArray), (⟨#[97]⟩ : ByteArray), (⟨#[65, 98]⟩ : ByteArray), (⟨#[122, 122]⟩ : ByteArray)] : List ByteArray) : List ByteArray)).bind fun y177 => ((spec_l20Rd_pick.f k s0_0 bt167.2 4).bind fun bt180 => (if 0 ≤ bt180.1 then (if bt180.1 < (y177.length : Int) then (spec_l20Value.j2 k a2 (([(⟨2, rdOf ByteArray.empty y177 bt180.1, 0⟩ : S27)] : List (S27))) s0_0 bt180.2) else (none)) else (none)))) else (if (rd y164 bt167.1) = 2 then ((some (([(⟨#[116, 114, 117, 101]⟩ : ByteArray), (⟨#[102, 97, 108, 115, 101]⟩ : ByteArray)] : List ByteArray) : List ByteArray)).bind fun y186 => ((spec_l20Rd_pick.f k s0_0 bt167.2 2).bind fun bt189 => (if 0 ≤ bt189.1 then (if bt189.1 < (y186.length : Int) then (spec_l20Value.j2 k a2 (([(⟨3, rdOf ByteArray.empty y186 bt189.1, 0⟩ : S27)] : List (S27))) s0_0 bt189.2) else (none)) else (none)))) else ((spec_l20Rd_pick.f k s0_0 bt167.2 4).bind fun bt195 => (if a1 ≤ 1 then (spec_l20Value.j0 k a1 a2 0 s0_0 bt195.2) else (spec_l20Value.j0 k a1 a2 bt195.1 s0_0 bt195.2)))))) else (none)) else (none))) = some (r1, r2) := by first | (rw [hy164]; with_reducible exact H) | (have H2_ := (Option.bind_some _ _).symm.trans H; rw [hy164]; with_reducible exact H2_) | (have H2_ := (Option.bind_some _ _).symm.trans H; with_reducible exact H2_) | with_reducible exact H | (rw [hy164]; exact H) | exact H
  have Ny164 := Aside0.mk hy164
  clear hy164
  replace H := Option.bind_eq_some_iff.mp H
  obtain ⟨⟨t167, t168⟩, A40, H⟩ := H
  replace H : (if 0 ≤ t167 then (if t167 < (y164.length : Int) then (if (rd y164 t167) = 0 then ((spec_l20Fraction.f k s0_0 t168 0).bind fun bt170 => ((spec_FractionText.f k bt170.1 bt170.2.1).bind fun t173 => (spec_l20Value.j2 k a2 (([(⟨1, t173, 0⟩ : S27)] : List (S27))) s0_0 bt170.2.2))) else (if (rd y164 t167) = 1 then ((some (([(⟨#[]⟩ : ByteArray), (⟨#[97]⟩ : ByteArray), (⟨#[65, 98]⟩ : ByteArray), (⟨#[122, 122]⟩ : ByteArray)] : List ByteArray) : List ByteArray)).bind fun y177 => ((spec_l20Rd_pick.f k s0_0 t168 4).bind fun bt180 => (if 0 ≤ bt180.1 then (if bt180.1 < (y177.length : Int) then (spec_l20Value.j2 k a2 (([(⟨2, rdOf ByteArray.empty y177 bt180.1, 0⟩ : S27)] : List (S27))) s0_0 bt180.2) else (none)) else (none)))) else (if (rd y164 t167) = 2 then ((some (([(⟨#[116, 114, 117, 101]⟩ : ByteArray), (⟨#[102, 97, 108, 115, 101]⟩ : ByteArray)] : List ByteArray) : List ByteArray)).bind fun y186 => ((spec_l20Rd_pick.f k s0_0 t168 2).bind fun bt189 => (if 0 ≤ bt189.1 then (if bt189.1 < (y186.length : Int) then (spec_l20Value.j2 k a2 (([(⟨3, rdOf ByteArray.empty y186 bt189.1, 0⟩ : S27)] : List (S27))) s0_0 bt189.2) else (none)) else (none)))) else ((spec_l20Rd_pick.f k s0_0 t168 4).bind fun bt195 => (if a1 ≤ 1 then (spec_l20Value.j0 k a1 a2 0 s0_0 bt195.2) else (spec_l20Value.j0 k a1 a2 bt195.1 s0_0 bt195.2)))))) else (none)) else (none)) = some (r1, r2) := H
  have A4 := Aside0.mk A40
  clear A40
  by_cases c5 : 0 ≤ t167
  · rw [if_pos c5] at H
    have c5b0 : decide (0 ≤ t167) = true := decide_eq_true c5
    clear c5
    by_cases c6 : t167 < (y164.length : Int)
    · rw [if_pos c6] at H
      have c6b0 : decide (t167 < (y164.length : Int)) = true := decide_eq_true c6
      clear c6
      have HC7 := Aside0.mk H
      clear H
      go_enter Tryz.func57, Tryz.ntmps57
      go_upto_block 0 with (first | ((with_reducible refine gate_dst (N := 10) rfl ?_); refine Kd.R_lit k27 _ 27 ?hg (N := 10) ?hd (xs := ([] : List (S27))) (inner := []) (ok := fun _ => True) (okp := fun _ => True) ?hr ?hp (fun _ hk => hk) trivial (Below.refl _ _) (Nat.le_refl _) (by simp) ?_; (case hd => rfl); (case hg => rfl); (case hr => first | (go_simp; done) | (go_simp; rfl)); (case hp => exact (Reps.none _ _)); intro v162 w8 ho9 hb hg_ hnew_; clear hg_ hnew_; (first | rw [← Ny161.out] at ho9 | (simp only [Int.reduceToNat] at ho9; rw [← Ny161.out] at ho9)); have n0_ := Aside0.mk (Kd.R_lower ho9 (keep_size (w := w) (g := g) (row := none) (pl_ HK.out))); have n1_ := Aside0.mk (IsS110.below (IsS110.below HI0.out wb_) hb); have n2_ := Aside0.mk (KeepBut.trans (pl_ HK.out) (KeepBut.of_below hb g none) (.inl rfl)); have n3_ := Aside0.mk (below_step (bl_ HB.out) hb); clear HI0; clear HK; clear HB; have HO163 := n0_; have HI0 := n1_; have HK := n2_; have HB := n3_; clear n0_ n1_ n2_ n3_; clear hb ho9) | ((with_reducible refine gate_dst (N := 11) rfl ?_); refine Kd.R_lit (Kd.int .i64) _ 3 ?hg (N := 11) ?hd (xs := ([0, 0, 1, 2, 3] : List Int)) (inner := [.int .i64 0, .int .i64 0, .int .i64 1, .int .i64 2, .int .i64 3]) (ok := fun _ => True) (okp := fun _ => True) ?hr ?hp (fun _ hk => hk) trivial (Below.refl _ _) (Nat.le_refl _) (by simp) ?_; (case hd => rfl); (case hg => rfl); (case hr => first | (go_simp; done) | (go_simp; rfl)); (case hp => exact (Reps.one (show Kd.M (Kd.int .i64) _ _ _ 0 [.int .i64 0] from rfl) (Reps.one (show Kd.M (Kd.int .i64) _ _ _ 0 [.int .i64 0] from rfl) (Reps.one (show Kd.M (Kd.int .i64) _ _ _ 1 [.int .i64 1] from rfl) (Reps.one (show Kd.M (Kd.int .i64) _ _ _ 2 [.int .i64 2] from rfl) (Reps.one (show Kd.M (Kd.int .i64) _ _ _ 3 [.int .i64 3] from rfl) (Reps.none _ _))))))); intro v165 w10 ho11 hb hg_ hnew_; clear hg_ hnew_; (first | rw [← Ny164.out] at ho11 | (simp only [Int.reduceToNat] at ho11; rw [← Ny164.out] at ho11)); have n0_ := Aside0.mk (Kd.R_below (rl_ HO163.out) hb); have n1_ := Aside0.mk (Kd.R_lower ho11 (keep_size (w := w) (g := g) (row := none) (pl_ HK.out))); have n2_ := Aside0.mk (IsS110.below (IsS110.below HI0.out wb_) hb); have n3_ := Aside0.mk (KeepBut.trans (pl_ HK.out) (KeepBut.of_below hb g none) (.inl rfl)); have n4_ := Aside0.mk (below_step (bl_ HB.out) hb); clear HO163; clear HI0; clear HK; clear HB; have HO163 := n0_; have HO166 := n1_; have HI0 := n2_; have HK := n3_; have HB := n4_; clear n0_ n1_ n2_ n3_ n4_; clear hb ho11) | ((with_reducible refine gate_callee (f := 98) rfl ?_); refine goesL_ (some 13) rfl rfl Tryz.func98 (by kernel_rfl) rfl #[.pointer (some ⟨g, 0, none⟩), .int .i64 5] rfl (by (try simp only [List.map_toArray, List.map_cons, List.map_nil]); first | done | rfl | (simp only [List.length_drop, List.length_take]; rfl) | (simp only [Int.mul_one, Int.one_mul, Int.add_zero, Int.zero_add, pxw]; rfl)) ?_; (with_reducible refine (spec_l20Rd_pick.calls k g s0_0 s0_1 5 t167 t168 w0 _ ?side1 ?side2 A4.out).mono ?_); (case side1 => exact IsS110.below HI0.out wb_); (case side2 => exact bl_ HB.out); rintro e w12 ⟨rfl, hi, hb, hk⟩; refine ⟨_, rfl, ?_⟩; have n0_ := Aside0.mk (Kd.R_mono (Kd.R_keep (IsS110.apart (show IsS110 w0 _ g s0_0 s0_1 from by exact IsS110.below HI0.out wb_) (rl_ HO163.out) (by decide)) hk (fun _ h => h.2)) (fun _ h => h.1)); have n1_ := Aside0.mk (Kd.R_mono (Kd.R_keep (IsS110.apart (show IsS110 w0 _ g s0_0 s0_1 from by exact IsS110.below HI0.out wb_) (rl_ HO166.out) (by decide)) hk (fun _ h => h.2)) (fun _ h => h.1)); have n2_ := Aside0.mk (KeepBut.trans (pl_ HK.out) hk (.inl rfl)); have n3_ := Aside0.mk (hb); have n4_ := Aside0.mk (hi); clear HO163; clear HO166; clear HK; clear HB; clear HI0; have HO163 := n0_; have HO166 := n1_; have HK := n2_; have HB := n3_; have HI0 := n4_; clear n0_ n1_ n2_ n3_ n4_; (try clear hb); (try clear hb2); (try clear hk); (try clear hi); obtain ⟨Ao13, co13, eo13⟩ := Kd.R_slice HO166.out; subst eo13; have p169 : 0 ≤ (t167 : Int) := of_decide_eq_true (by assumption); have q169 : t167 < (y164.length : Int) := of_decide_eq_true (by assumption); obtain ⟨ad169, e169, hx169_0⟩ := Kd.at_int (Kd.R_reads' HO166.out).2.2 t167 p169 q169; cases e169; replace p169 := eq_true p169; replace q169 := eq_true q169))
      (try simp only [Act.put, List.setIfInBounds_toArray, List.set_cons_zero, List.set_cons_succ])
      go_cut [7] (fun v7 wc => ∃ (kq : Nat) (x7_6 : List (S27)) (x1001_6 : Int), Aside0 (spec_l20Value.j2 kq a2 x7_6 s0_0 x1001_6 = some (r1, r2)) ∧ Aside0 (kq ≤ k) ∧ Aside0 (Kd.R k27 27 wc w.heap.size (fun _ => True) v7 x7_6) ∧ Aside0 (IsS110 w0 wc g s0_0 x1001_6) ∧ Aside0 (KeepBut w wc g none) ∧ Aside0 (Below w0.heap.size w0 wc))
      case first =>
        have H := HC7.out
        clear HC7
        by_cases c14 : (rd y164 t167) = 0
        · rw [if_pos c14] at H
          have c14b0 : ((rd y164 t167) == 0) = true := beq_iff_eq.mpr c14
          have c14b1 : ((rd y164 t167) != 0) = false := bne_eq_false_iff_eq.mpr c14
          clear c14
          (first | rw [c14b0] | (simp only [i64_w, i32_w]; rw [c14b0]) | rw [c14b1] | skip)
          replace H := Option.bind_eq_some_iff.mp H
          obtain ⟨⟨t170, t171, t172⟩, A150, H⟩ := H
          replace H : ((spec_FractionText.f k t170 t171).bind fun t173 => (spec_l20Value.j2 k a2 (([(⟨1, t173, 0⟩ : S27)] : List (S27))) s0_0 t172)) = some (r1, r2) := H
          have A15 := Aside0.mk A150
          clear A150
          replace H := Option.bind_eq_some_iff.mp H
          obtain ⟨t173, A160, H⟩ := H
          replace H : (spec_l20Value.j2 k a2 (([(⟨1, t173, 0⟩ : S27)] : List (S27))) s0_0 t172) = some (r1, r2) := H
          have A16 := Aside0.mk A160
          clear A160
          obtain ⟨y174, hy174⟩ : ∃ y_ : List (S27), y_ = (([(⟨1, t173, 0⟩ : S27)] : List (S27))) := ⟨_, rfl⟩
          replace H : (spec_l20Value.j2 k a2 y174 s0_0 t172) = some (r1, r2) := by first | (rw [hy174]; with_reducible exact H) | (have H2_ := (Option.bind_some _ _).symm.trans H; rw [hy174]; with_reducible exact H2_) | (have H2_ := (Option.bind_some _ _).symm.trans H; with_reducible exact H2_) | with_reducible exact H | (rw [hy174]; exact H) | exact H
          have Ny174 := Aside0.mk hy174
          clear hy174
          have H' := Aside0.mk H
          clear H
          go_wp2_with (first | ((with_reducible refine gate_callee (f := 100) rfl ?_); refine goesL_ (some 37) rfl rfl Tryz.func100 (by kernel_rfl) rfl #[.pointer (some ⟨g, 0, none⟩), .int .i64 0] rfl (by (try simp only [List.map_toArray, List.map_cons, List.map_nil]); first | done | rfl | (simp only [List.length_drop, List.length_take]; rfl) | (simp only [Int.mul_one, Int.one_mul, Int.add_zero, Int.zero_add, pxw]; rfl)) ?_; (with_reducible refine (spec_l20Fraction.calls k g s0_0 t168 0 t170 t171 t172 w0 _ ?side1 ?side2 A15.out).mono ?_); (case side1 => exact IsS110.below HI0.out wb_); (case side2 => exact bl_ HB.out); rintro e w17 ⟨rfl, hi, hb, hk⟩; refine ⟨_, rfl, ?_⟩; have n0_ := Aside0.mk (Kd.R_mono (Kd.R_keep (IsS110.apart (show IsS110 w0 _ g s0_0 t168 from by exact IsS110.below HI0.out wb_) (rl_ HO163.out) (by decide)) hk (fun _ h => h.2)) (fun _ h => h.1)); have n1_ := Aside0.mk (Kd.R_mono (Kd.R_keep (IsS110.apart (show IsS110 w0 _ g s0_0 t168 from by exact IsS110.below HI0.out wb_) (rl_ HO166.out) (by decide)) hk (fun _ h => h.2)) (fun _ h => h.1)); have n2_ := Aside0.mk (KeepBut.trans (pl_ HK.out) hk (.inl rfl)); have n3_ := Aside0.mk (hb); have n4_ := Aside0.mk (hi); clear HO163; clear HO166; clear HK; clear HB; clear HI0; have HO163 := n0_; have HO166 := n1_; have HK := n2_; have HB := n3_; have HI0 := n4_; clear n0_ n1_ n2_ n3_ n4_; (try clear hb); (try clear hb2); (try clear hk); (try clear hi)) | ((with_reducible refine gate_callee (f := 99) rfl ?_); refine goesL_ (some 38) rfl rfl Tryz.func99 (by kernel_rfl) rfl #[.agg #[.int .i64 t170, .int .i64 t171]] rfl (by (try simp only [List.map_toArray, List.map_cons, List.map_nil]); first | done | rfl | (simp only [List.length_drop, List.length_take]; rfl) | (simp only [Int.mul_one, Int.one_mul, Int.add_zero, Int.zero_add, pxw]; rfl)) ?_; (with_reducible refine (spec_FractionText.calls k t170 t171 t173 _ A16.out).mono ?_); rintro e w18 ⟨rfl, hb⟩; refine ⟨_, rfl, ?_⟩; have n0_ := Aside0.mk (Kd.R_below (rl_ HO163.out) hb); have n1_ := Aside0.mk (Kd.R_below (rl_ HO166.out) hb); have n2_ := Aside0.mk (IsS110.below (IsS110.below HI0.out wb_) hb); have n3_ := Aside0.mk (KeepBut.trans (pl_ HK.out) (KeepBut.of_below hb g none) (.inl rfl)); have n4_ := Aside0.mk (below_step (bl_ HB.out) hb); clear HO163; clear HO166; clear HI0; clear HK; clear HB; have HO163 := n0_; have HO166 := n1_; have HI0 := n2_; have HK := n3_; have HB := n4_; clear n0_ n1_ n2_ n3_ n4_; (try clear hb); (try clear hb2); (try clear hk); (try clear hi)) | ((with_reducible refine gate_dst (N := 40) rfl ?_); refine Kd.R_lit k27 _ 27 ?hg (N := 40) ?hd (xs := ([(⟨1, t173, 0⟩ : S27)] : List (S27))) (inner := [.int .i64 1, .string t173, .int .i64 0]) (ok := fun _ => True) (okp := fun _ => True) ?hr ?hp (fun _ hk => hk) trivial (Below.refl _ _) (Nat.le_refl _) (by simp) ?_; (case hd => rfl); (case hg => rfl); (case hr => first | (go_simp; done) | (go_simp; rfl)); (case hp => exact (Reps.c3 (show Kd.M k27 _ _ _ (⟨1, t173, 0⟩ : S27) [.int .i64 1, .string t173, .int .i64 0] from (k27_mkM _ _ _ (⟨1, t173, 0⟩ : S27) )) (Reps.none _ _))); intro v175 w19 ho20 hb hg_ hnew_; clear hg_ hnew_; (first | rw [← Ny174.out] at ho20 | (simp only [Int.reduceToNat] at ho20; rw [← Ny174.out] at ho20)); have n0_ := Aside0.mk (Kd.R_elder' (rl_ HO163.out) (Kd.R_base ho20) hb); have n1_ := Aside0.mk (Kd.R_below (rl_ HO166.out) hb); have n2_ := Aside0.mk (Kd.R_lower (Kd.R_new' ho20 (Kd.R_lt (rl_ HO163.out))) (keep_size (w := w) (g := g) (row := none) (pl_ HK.out))); have n3_ := Aside0.mk (IsS110.below (IsS110.below HI0.out wb_) hb); have n4_ := Aside0.mk (KeepBut.trans (pl_ HK.out) (KeepBut.of_below hb g none) (.inl rfl)); have n5_ := Aside0.mk (below_step (bl_ HB.out) hb); clear HO163; clear HO166; clear HI0; clear HK; clear HB; have HO163 := n0_; have HO166 := n1_; have HO176 := n2_; have HI0 := n3_; have HK := n4_; have HB := n5_; clear n0_ n1_ n2_ n3_ n4_ n5_; clear hb ho20))
          go_meet
          case rel => exact ⟨_, (y174), (t172), H', ⟨by first | omega | exact Nat.le_refl _⟩, ⟨by (with_reducible repeat (first | apply Kd.R_alloc | apply Kd.R_drewN | apply Kd.R_drew)); exact Kd.R_mono HO176.out (fun _ hk => trivial)⟩, ⟨IsS110.below HI0.out wb_⟩, ⟨pl_ HK.out⟩, ⟨bl_ HB.out⟩⟩
        · rw [if_neg c14] at H
          have c14b0 : ((rd y164 t167) == 0) = false := beq_eq_false_iff_ne.mpr c14
          have c14b1 : ((rd y164 t167) != 0) = true := bne_iff_ne.mpr c14
          (first | rw [c14b0] | (simp only [i64_w, i32_w]; rw [c14b0]) | rw [c14b1] | skip)
          by_cases c21 : (rd y164 t167) = 1
          · rw [if_pos c21] at H
            have c21b0 : ((rd y164 t167) == 1) = true := beq_iff_eq.mpr c21
            have c21b1 : ((rd y164 t167) != 1) = false := bne_eq_false_iff_eq.mpr c21
            clear c21
            obtain ⟨y177, hy177⟩ : ∃ y_ : List ByteArray, y_ = (([(⟨#[]⟩ : ByteArray), (⟨#[97]⟩ : ByteArray), (⟨#[65, 98]⟩ : ByteArray), (⟨#[122, 122]⟩ : ByteArray)] : List ByteArray)) := ⟨_, rfl⟩
            replace H : ((spec_l20Rd_pick.f k s0_0 t168 4).bind fun bt180 => (if 0 ≤ bt180.1 then (if bt180.1 < (y177.length : Int) then (spec_l20Value.j2 k a2 (([(⟨2, rdOf ByteArray.empty y177 bt180.1, 0⟩ : S27)] : List (S27))) s0_0 bt180.2) else (none)) else (none))) = some (r1, r2) := by first | (rw [hy177]; with_reducible exact H) | (have H2_ := (Option.bind_some _ _).symm.trans H; rw [hy177]; with_reducible exact H2_) | (have H2_ := (Option.bind_some _ _).symm.trans H; with_reducible exact H2_) | with_reducible exact H | (rw [hy177]; exact H) | exact H
            have Ny177 := Aside0.mk hy177
            clear hy177
            replace H := Option.bind_eq_some_iff.mp H
            obtain ⟨⟨t180, t181⟩, A220, H⟩ := H
            replace H : (if 0 ≤ t180 then (if t180 < (y177.length : Int) then (spec_l20Value.j2 k a2 (([(⟨2, rdOf ByteArray.empty y177 t180, 0⟩ : S27)] : List (S27))) s0_0 t181) else (none)) else (none)) = some (r1, r2) := H
            have A22 := Aside0.mk A220
            clear A220
            by_cases c23 : 0 ≤ t180
            · rw [if_pos c23] at H
              have c23b0 : decide (0 ≤ t180) = true := decide_eq_true c23
              clear c23
              by_cases c24 : t180 < (y177.length : Int)
              · rw [if_pos c24] at H
                have c24b0 : decide (t180 < (y177.length : Int)) = true := decide_eq_true c24
                clear c24
                obtain ⟨y183, hy183⟩ : ∃ y_ : List (S27), y_ = (([(⟨2, rdOf ByteArray.empty y177 t180, 0⟩ : S27)] : List (S27))) := ⟨_, rfl⟩
                replace H : (spec_l20Value.j2 k a2 y183 s0_0 t181) = some (r1, r2) := by first | (rw [hy183]; with_reducible exact H) | (have H2_ := (Option.bind_some _ _).symm.trans H; rw [hy183]; with_reducible exact H2_) | (have H2_ := (Option.bind_some _ _).symm.trans H; with_reducible exact H2_) | with_reducible exact H | (rw [hy183]; exact H) | exact H
                have Ny183 := Aside0.mk hy183
                clear hy183
                have H' := Aside0.mk H
                clear H
                go_wp2_with (first | ((with_reducible refine gate_dst (N := 43) rfl ?_); refine Kd.R_lit Kd.string _ 9 ?hg (N := 43) ?hd (xs := ([(⟨#[]⟩ : ByteArray), (⟨#[97]⟩ : ByteArray), (⟨#[65, 98]⟩ : ByteArray), (⟨#[122, 122]⟩ : ByteArray)] : List ByteArray)) (inner := [.string (⟨#[]⟩ : ByteArray), .string (⟨#[97]⟩ : ByteArray), .string (⟨#[65, 98]⟩ : ByteArray), .string (⟨#[122, 122]⟩ : ByteArray)]) (ok := fun _ => True) (okp := fun _ => True) ?hr ?hp (fun _ hk => hk) trivial (Below.refl _ _) (Nat.le_refl _) (by simp) ?_; (case hd => rfl); (case hg => rfl); (case hr => first | (go_simp; done) | (go_simp; rfl)); (case hp => exact (Reps.one (show Kd.M Kd.string _ _ _ (⟨#[]⟩ : ByteArray) [.string (⟨#[]⟩ : ByteArray)] from rfl) (Reps.one (show Kd.M Kd.string _ _ _ (⟨#[97]⟩ : ByteArray) [.string (⟨#[97]⟩ : ByteArray)] from rfl) (Reps.one (show Kd.M Kd.string _ _ _ (⟨#[65, 98]⟩ : ByteArray) [.string (⟨#[65, 98]⟩ : ByteArray)] from rfl) (Reps.one (show Kd.M Kd.string _ _ _ (⟨#[122, 122]⟩ : ByteArray) [.string (⟨#[122, 122]⟩ : ByteArray)] from rfl) (Reps.none _ _)))))); intro v178 w25 ho26 hb hg_ hnew_; clear hg_ hnew_; (first | rw [← Ny177.out] at ho26 | (simp only [Int.reduceToNat] at ho26; rw [← Ny177.out] at ho26)); have n0_ := Aside0.mk (Kd.R_below (rl_ HO163.out) hb); have n1_ := Aside0.mk (Kd.R_below (rl_ HO166.out) hb); have n2_ := Aside0.mk (Kd.R_lower ho26 (keep_size (w := w) (g := g) (row := none) (pl_ HK.out))); have n3_ := Aside0.mk (IsS110.below (IsS110.below HI0.out wb_) hb); have n4_ := Aside0.mk (KeepBut.trans (pl_ HK.out) (KeepBut.of_below hb g none) (.inl rfl)); have n5_ := Aside0.mk (below_step (bl_ HB.out) hb); clear HO163; clear HO166; clear HI0; clear HK; clear HB; have HO163 := n0_; have HO166 := n1_; have HO179 := n2_; have HI0 := n3_; have HK := n4_; have HB := n5_; clear n0_ n1_ n2_ n3_ n4_ n5_; clear hb ho26) | ((with_reducible refine gate_callee (f := 98) rfl ?_); refine goesL_ (some 45) rfl rfl Tryz.func98 (by kernel_rfl) rfl #[.pointer (some ⟨g, 0, none⟩), .int .i64 4] rfl (by (try simp only [List.map_toArray, List.map_cons, List.map_nil]); first | done | rfl | (simp only [List.length_drop, List.length_take]; rfl) | (simp only [Int.mul_one, Int.one_mul, Int.add_zero, Int.zero_add, pxw]; rfl)) ?_; (with_reducible refine (spec_l20Rd_pick.calls k g s0_0 t168 4 t180 t181 w0 _ ?side1 ?side2 A22.out).mono ?_); (case side1 => exact IsS110.below HI0.out wb_); (case side2 => exact bl_ HB.out); rintro e w27 ⟨rfl, hi, hb, hk⟩; refine ⟨_, rfl, ?_⟩; have n0_ := Aside0.mk (Kd.R_mono (Kd.R_keep (IsS110.apart (show IsS110 w0 _ g s0_0 t168 from by exact IsS110.below HI0.out wb_) (rl_ HO163.out) (by decide)) hk (fun _ h => h.2)) (fun _ h => h.1)); have n1_ := Aside0.mk (Kd.R_mono (Kd.R_keep (IsS110.apart (show IsS110 w0 _ g s0_0 t168 from by exact IsS110.below HI0.out wb_) (rl_ HO166.out) (by decide)) hk (fun _ h => h.2)) (fun _ h => h.1)); have n2_ := Aside0.mk (Kd.R_mono (Kd.R_keep (IsS110.apart (show IsS110 w0 _ g s0_0 t168 from by exact IsS110.below HI0.out wb_) (rl_ HO179.out) (by decide)) hk (fun _ h => h.2)) (fun _ h => h.1)); have n3_ := Aside0.mk (KeepBut.trans (pl_ HK.out) hk (.inl rfl)); have n4_ := Aside0.mk (hb); have n5_ := Aside0.mk (hi); clear HO163; clear HO166; clear HO179; clear HK; clear HB; clear HI0; have HO163 := n0_; have HO166 := n1_; have HO179 := n2_; have HK := n3_; have HB := n4_; have HI0 := n5_; clear n0_ n1_ n2_ n3_ n4_ n5_; (try clear hb); (try clear hb2); (try clear hk); (try clear hi); obtain ⟨Ao28, co28, eo28⟩ := Kd.R_slice HO179.out; subst eo28; have p182 : 0 ≤ (t180 : Int) := of_decide_eq_true (by assumption); have q182 : t180 < (y177.length : Int) := of_decide_eq_true (by assumption); obtain ⟨ad182, e182, hx182_0⟩ := Kd.at_string (Kd.R_reads' HO179.out).2.2 t180 p182 q182; cases e182; replace p182 := eq_true p182; replace q182 := eq_true q182) | ((with_reducible refine gate_dst (N := 49) rfl ?_); refine Kd.R_lit k27 _ 27 ?hg (N := 49) ?hd (xs := ([(⟨2, rdOf ByteArray.empty y177 t180, 0⟩ : S27)] : List (S27))) (inner := [.int .i64 2, .string (rdOf ByteArray.empty y177 t180), .int .i64 0]) (ok := fun _ => True) (okp := fun _ => True) ?hr ?hp (fun _ hk => hk) trivial (Below.refl _ _) (Nat.le_refl _) (by simp) ?_; (case hd => rfl); (case hg => rfl); (case hr => first | (go_simp; done) | (go_simp; rfl)); (case hp => exact (Reps.c3 (show Kd.M k27 _ _ _ (⟨2, rdOf ByteArray.empty y177 t180, 0⟩ : S27) [.int .i64 2, .string (rdOf ByteArray.empty y177 t180), .int .i64 0] from (k27_mkM _ _ _ (⟨2, rdOf ByteArray.empty y177 t180, 0⟩ : S27) )) (Reps.none _ _))); intro v184 w29 ho30 hb hg_ hnew_; clear hg_ hnew_; (first | rw [← Ny183.out] at ho30 | (simp only [Int.reduceToNat] at ho30; rw [← Ny183.out] at ho30)); have n0_ := Aside0.mk (Kd.R_elder' (rl_ HO163.out) (Kd.R_base ho30) hb); have n1_ := Aside0.mk (Kd.R_below (rl_ HO166.out) hb); have n2_ := Aside0.mk (Kd.R_below (rl_ HO179.out) hb); have n3_ := Aside0.mk (Kd.R_lower (Kd.R_new' ho30 (Kd.R_lt (rl_ HO163.out))) (keep_size (w := w) (g := g) (row := none) (pl_ HK.out))); have n4_ := Aside0.mk (IsS110.below (IsS110.below HI0.out wb_) hb); have n5_ := Aside0.mk (KeepBut.trans (pl_ HK.out) (KeepBut.of_below hb g none) (.inl rfl)); have n6_ := Aside0.mk (below_step (bl_ HB.out) hb); clear HO163; clear HO166; clear HO179; clear HI0; clear HK; clear HB; have HO163 := n0_; have HO166 := n1_; have HO179 := n2_; have HO185 := n3_; have HI0 := n4_; have HK := n5_; have HB := n6_; clear n0_ n1_ n2_ n3_ n4_ n5_ n6_; clear hb ho30))
                go_meet
                case rel => exact ⟨_, (y183), (t181), H', ⟨by first | omega | exact Nat.le_refl _⟩, ⟨by (with_reducible repeat (first | apply Kd.R_alloc | apply Kd.R_drewN | apply Kd.R_drew)); exact Kd.R_mono HO185.out (fun _ hk => trivial)⟩, ⟨IsS110.below HI0.out wb_⟩, ⟨pl_ HK.out⟩, ⟨bl_ HB.out⟩⟩
              · rw [if_neg c24] at H
                exact absurd H (by simp)
            · rw [if_neg c23] at H
              exact absurd H (by simp)
          · rw [if_neg c21] at H
            have c21b0 : ((rd y164 t167) == 1) = false := beq_eq_false_iff_ne.mpr c21
            have c21b1 : ((rd y164 t167) != 1) = true := bne_iff_ne.mpr c21
            by_cases c31 : (rd y164 t167) = 2
            · rw [if_pos c31] at H
              have c31b0 : ((rd y164 t167) == 2) = true := beq_iff_eq.mpr c31
              have c31b1 : ((rd y164 t167) != 2) = false := bne_eq_false_iff_eq.mpr c31
              clear c31
              obtain ⟨y186, hy186⟩ : ∃ y_ : List ByteArray, y_ = (([(⟨#[116, 114, 117, 101]⟩ : ByteArray), (⟨#[102, 97, 108, 115, 101]⟩ : ByteArray)] : List ByteArray)) := ⟨_, rfl⟩
              replace H : ((spec_l20Rd_pick.f k s0_0 t168 2).bind fun bt189 => (if 0 ≤ bt189.1 then (if bt189.1 < (y186.length : Int) then (spec_l20Value.j2 k a2 (([(⟨3, rdOf ByteArray.empty y186 bt189.1, 0⟩ : S27)] : List (S27))) s0_0 bt189.2) else (none)) else (none))) = some (r1, r2) := by first | (rw [hy186]; with_reducible exact H) | (have H2_ := (Option.bind_some _ _).symm.trans H; rw [hy186]; with_reducible exact H2_) | (have H2_ := (Option.bind_some _ _).symm.trans H; with_reducible exact H2_) | with_reducible exact H | (rw [hy186]; exact H) | exact H
              have Ny186 := Aside0.mk hy186
              clear hy186
              replace H := Option.bind_eq_some_iff.mp H
              obtain ⟨⟨t189, t190⟩, A320, H⟩ := H
              replace H : (if 0 ≤ t189 then (if t189 < (y186.length : Int) then (spec_l20Value.j2 k a2 (([(⟨3, rdOf ByteArray.empty y186 t189, 0⟩ : S27)] : List (S27))) s0_0 t190) else (none)) else (none)) = some (r1, r2) := H
              have A32 := Aside0.mk A320
              clear A320
              by_cases c33 : 0 ≤ t189
              · rw [if_pos c33] at H
                have c33b0 : decide (0 ≤ t189) = true := decide_eq_true c33
                clear c33
                by_cases c34 : t189 < (y186.length : Int)
                · rw [if_pos c34] at H
                  have c34b0 : decide (t189 < (y186.length : Int)) = true := decide_eq_true c34
                  clear c34
                  obtain ⟨y192, hy192⟩ : ∃ y_ : List (S27), y_ = (([(⟨3, rdOf ByteArray.empty y186 t189, 0⟩ : S27)] : List (S27))) := ⟨_, rfl⟩
                  replace H : (spec_l20Value.j2 k a2 y192 s0_0 t190) = some (r1, r2) := by first | (rw [hy192]; with_reducible exact H) | (have H2_ := (Option.bind_some _ _).symm.trans H; rw [hy192]; with_reducible exact H2_) | (have H2_ := (Option.bind_some _ _).symm.trans H; with_reducible exact H2_) | with_reducible exact H | (rw [hy192]; exact H) | exact H
                  have Ny192 := Aside0.mk hy192
                  clear hy192
                  have H' := Aside0.mk H
                  clear H
                  go_wp2_with (first | ((with_reducible refine gate_dst (N := 52) rfl ?_); refine Kd.R_lit Kd.string _ 9 ?hg (N := 52) ?hd (xs := ([(⟨#[116, 114, 117, 101]⟩ : ByteArray), (⟨#[102, 97, 108, 115, 101]⟩ : ByteArray)] : List ByteArray)) (inner := [.string (⟨#[116, 114, 117, 101]⟩ : ByteArray), .string (⟨#[102, 97, 108, 115, 101]⟩ : ByteArray)]) (ok := fun _ => True) (okp := fun _ => True) ?hr ?hp (fun _ hk => hk) trivial (Below.refl _ _) (Nat.le_refl _) (by simp) ?_; (case hd => rfl); (case hg => rfl); (case hr => first | (go_simp; done) | (go_simp; rfl)); (case hp => exact (Reps.one (show Kd.M Kd.string _ _ _ (⟨#[116, 114, 117, 101]⟩ : ByteArray) [.string (⟨#[116, 114, 117, 101]⟩ : ByteArray)] from rfl) (Reps.one (show Kd.M Kd.string _ _ _ (⟨#[102, 97, 108, 115, 101]⟩ : ByteArray) [.string (⟨#[102, 97, 108, 115, 101]⟩ : ByteArray)] from rfl) (Reps.none _ _)))); intro v187 w35 ho36 hb hg_ hnew_; clear hg_ hnew_; (first | rw [← Ny186.out] at ho36 | (simp only [Int.reduceToNat] at ho36; rw [← Ny186.out] at ho36)); have n0_ := Aside0.mk (Kd.R_below (rl_ HO163.out) hb); have n1_ := Aside0.mk (Kd.R_below (rl_ HO166.out) hb); have n2_ := Aside0.mk (Kd.R_lower ho36 (keep_size (w := w) (g := g) (row := none) (pl_ HK.out))); have n3_ := Aside0.mk (IsS110.below (IsS110.below HI0.out wb_) hb); have n4_ := Aside0.mk (KeepBut.trans (pl_ HK.out) (KeepBut.of_below hb g none) (.inl rfl)); have n5_ := Aside0.mk (below_step (bl_ HB.out) hb); clear HO163; clear HO166; clear HI0; clear HK; clear HB; have HO163 := n0_; have HO166 := n1_; have HO188 := n2_; have HI0 := n3_; have HK := n4_; have HB := n5_; clear n0_ n1_ n2_ n3_ n4_ n5_; clear hb ho36) | ((with_reducible refine gate_callee (f := 98) rfl ?_); refine goesL_ (some 54) rfl rfl Tryz.func98 (by kernel_rfl) rfl #[.pointer (some ⟨g, 0, none⟩), .int .i64 2] rfl (by (try simp only [List.map_toArray, List.map_cons, List.map_nil]); first | done | rfl | (simp only [List.length_drop, List.length_take]; rfl) | (simp only [Int.mul_one, Int.one_mul, Int.add_zero, Int.zero_add, pxw]; rfl)) ?_; (with_reducible refine (spec_l20Rd_pick.calls k g s0_0 t168 2 t189 t190 w0 _ ?side1 ?side2 A32.out).mono ?_); (case side1 => exact IsS110.below HI0.out wb_); (case side2 => exact bl_ HB.out); rintro e w37 ⟨rfl, hi, hb, hk⟩; refine ⟨_, rfl, ?_⟩; have n0_ := Aside0.mk (Kd.R_mono (Kd.R_keep (IsS110.apart (show IsS110 w0 _ g s0_0 t168 from by exact IsS110.below HI0.out wb_) (rl_ HO163.out) (by decide)) hk (fun _ h => h.2)) (fun _ h => h.1)); have n1_ := Aside0.mk (Kd.R_mono (Kd.R_keep (IsS110.apart (show IsS110 w0 _ g s0_0 t168 from by exact IsS110.below HI0.out wb_) (rl_ HO166.out) (by decide)) hk (fun _ h => h.2)) (fun _ h => h.1)); have n2_ := Aside0.mk (Kd.R_mono (Kd.R_keep (IsS110.apart (show IsS110 w0 _ g s0_0 t168 from by exact IsS110.below HI0.out wb_) (rl_ HO188.out) (by decide)) hk (fun _ h => h.2)) (fun _ h => h.1)); have n3_ := Aside0.mk (KeepBut.trans (pl_ HK.out) hk (.inl rfl)); have n4_ := Aside0.mk (hb); have n5_ := Aside0.mk (hi); clear HO163; clear HO166; clear HO188; clear HK; clear HB; clear HI0; have HO163 := n0_; have HO166 := n1_; have HO188 := n2_; have HK := n3_; have HB := n4_; have HI0 := n5_; clear n0_ n1_ n2_ n3_ n4_ n5_; (try clear hb); (try clear hb2); (try clear hk); (try clear hi); obtain ⟨Ao38, co38, eo38⟩ := Kd.R_slice HO188.out; subst eo38; have p191 : 0 ≤ (t189 : Int) := of_decide_eq_true (by assumption); have q191 : t189 < (y186.length : Int) := of_decide_eq_true (by assumption); obtain ⟨ad191, e191, hx191_0⟩ := Kd.at_string (Kd.R_reads' HO188.out).2.2 t189 p191 q191; cases e191; replace p191 := eq_true p191; replace q191 := eq_true q191) | ((with_reducible refine gate_dst (N := 58) rfl ?_); refine Kd.R_lit k27 _ 27 ?hg (N := 58) ?hd (xs := ([(⟨3, rdOf ByteArray.empty y186 t189, 0⟩ : S27)] : List (S27))) (inner := [.int .i64 3, .string (rdOf ByteArray.empty y186 t189), .int .i64 0]) (ok := fun _ => True) (okp := fun _ => True) ?hr ?hp (fun _ hk => hk) trivial (Below.refl _ _) (Nat.le_refl _) (by simp) ?_; (case hd => rfl); (case hg => rfl); (case hr => first | (go_simp; done) | (go_simp; rfl)); (case hp => exact (Reps.c3 (show Kd.M k27 _ _ _ (⟨3, rdOf ByteArray.empty y186 t189, 0⟩ : S27) [.int .i64 3, .string (rdOf ByteArray.empty y186 t189), .int .i64 0] from (k27_mkM _ _ _ (⟨3, rdOf ByteArray.empty y186 t189, 0⟩ : S27) )) (Reps.none _ _))); intro v193 w39 ho40 hb hg_ hnew_; clear hg_ hnew_; (first | rw [← Ny192.out] at ho40 | (simp only [Int.reduceToNat] at ho40; rw [← Ny192.out] at ho40)); have n0_ := Aside0.mk (Kd.R_elder' (rl_ HO163.out) (Kd.R_base ho40) hb); have n1_ := Aside0.mk (Kd.R_below (rl_ HO166.out) hb); have n2_ := Aside0.mk (Kd.R_below (rl_ HO188.out) hb); have n3_ := Aside0.mk (Kd.R_lower (Kd.R_new' ho40 (Kd.R_lt (rl_ HO163.out))) (keep_size (w := w) (g := g) (row := none) (pl_ HK.out))); have n4_ := Aside0.mk (IsS110.below (IsS110.below HI0.out wb_) hb); have n5_ := Aside0.mk (KeepBut.trans (pl_ HK.out) (KeepBut.of_below hb g none) (.inl rfl)); have n6_ := Aside0.mk (below_step (bl_ HB.out) hb); clear HO163; clear HO166; clear HO188; clear HI0; clear HK; clear HB; have HO163 := n0_; have HO166 := n1_; have HO188 := n2_; have HO194 := n3_; have HI0 := n4_; have HK := n5_; have HB := n6_; clear n0_ n1_ n2_ n3_ n4_ n5_ n6_; clear hb ho40))
                  go_meet
                  case rel => exact ⟨_, (y192), (t190), H', ⟨by first | omega | exact Nat.le_refl _⟩, ⟨by (with_reducible repeat (first | apply Kd.R_alloc | apply Kd.R_drewN | apply Kd.R_drew)); exact Kd.R_mono HO194.out (fun _ hk => trivial)⟩, ⟨IsS110.below HI0.out wb_⟩, ⟨pl_ HK.out⟩, ⟨bl_ HB.out⟩⟩
                · rw [if_neg c34] at H
                  exact absurd H (by simp)
              · rw [if_neg c33] at H
                exact absurd H (by simp)
            · rw [if_neg c31] at H
              have c31b0 : ((rd y164 t167) == 2) = false := beq_eq_false_iff_ne.mpr c31
              have c31b1 : ((rd y164 t167) != 2) = true := bne_iff_ne.mpr c31
              replace H := Option.bind_eq_some_iff.mp H
              obtain ⟨⟨t195, t196⟩, A410, H⟩ := H
              replace H : (if a1 ≤ 1 then (spec_l20Value.j0 k a1 a2 0 s0_0 t196) else (spec_l20Value.j0 k a1 a2 t195 s0_0 t196)) = some (r1, r2) := H
              have A41 := Aside0.mk A410
              clear A410
              have HC42 := Aside0.mk H
              clear H
              go_upto_if 19 with (first | ((with_reducible refine gate_callee (f := 98) rfl ?_); refine goesL_ (some 17) rfl rfl Tryz.func98 (by kernel_rfl) rfl #[.pointer (some ⟨g, 0, none⟩), .int .i64 4] rfl (by (try simp only [List.map_toArray, List.map_cons, List.map_nil]); first | done | rfl | (simp only [List.length_drop, List.length_take]; rfl) | (simp only [Int.mul_one, Int.one_mul, Int.add_zero, Int.zero_add, pxw]; rfl)) ?_; (with_reducible refine (spec_l20Rd_pick.calls k g s0_0 t168 4 t195 t196 w0 _ ?side1 ?side2 A41.out).mono ?_); (case side1 => exact IsS110.below HI0.out wb_); (case side2 => exact bl_ HB.out); rintro e w43 ⟨rfl, hi, hb, hk⟩; refine ⟨_, rfl, ?_⟩; have n0_ := Aside0.mk (Kd.R_mono (Kd.R_keep (IsS110.apart (show IsS110 w0 _ g s0_0 t168 from by exact IsS110.below HI0.out wb_) (rl_ HO163.out) (by decide)) hk (fun _ h => h.2)) (fun _ h => h.1)); have n1_ := Aside0.mk (Kd.R_mono (Kd.R_keep (IsS110.apart (show IsS110 w0 _ g s0_0 t168 from by exact IsS110.below HI0.out wb_) (rl_ HO166.out) (by decide)) hk (fun _ h => h.2)) (fun _ h => h.1)); have n2_ := Aside0.mk (KeepBut.trans (pl_ HK.out) hk (.inl rfl)); have n3_ := Aside0.mk (hb); have n4_ := Aside0.mk (hi); clear HO163; clear HO166; clear HK; clear HB; clear HI0; have HO163 := n0_; have HO166 := n1_; have HK := n2_; have HB := n3_; have HI0 := n4_; clear n0_ n1_ n2_ n3_ n4_; (try clear hb); (try clear hb2); (try clear hk); (try clear hi)))
              (try simp only [Act.put, List.setIfInBounds_toArray, List.set_cons_zero, List.set_cons_succ])
              go_cut [8] (fun v8 wc => ∃ (kq : Nat) (x8_41 : Int), v8 = .int .i64 x8_41 ∧ Aside0 (spec_l20Value.j0 kq a1 a2 x8_41 s0_0 t196 = some (r1, r2)) ∧ Aside0 (kq ≤ k) ∧ Aside0 (IsS110 w0 wc g s0_0 t196) ∧ Aside0 (KeepBut w wc g none) ∧ Aside0 (Below w0.heap.size w0 wc))
              case first =>
                have H := HC42.out
                clear HC42
                by_cases c44 : a1 ≤ 1
                · rw [if_pos c44] at H
                  have c44b0 : decide (a1 ≤ 1) = true := decide_eq_true c44
                  clear c44
                  (first | rw [c44b0] | (simp only [i64_w, i32_w]; rw [c44b0]) | skip)
                  have H' := Aside0.mk H
                  clear H
                  go_wp2
                  go_meet
                  case rel => exact ⟨_, (0), (by first | rfl | simp [*]), H', ⟨by first | omega | exact Nat.le_refl _⟩, ⟨IsS110.below HI0.out wb_⟩, ⟨pl_ HK.out⟩, ⟨bl_ HB.out⟩⟩
                · rw [if_neg c44] at H
                  have c44b0 : decide (a1 ≤ 1) = false := decide_eq_false c44
                  clear c44
                  (first | rw [c44b0] | (simp only [i64_w, i32_w]; rw [c44b0]) | skip)
                  have H' := Aside0.mk H
                  clear H
                  go_wp2
                  go_meet
                  case rel => exact ⟨_, (t195), (by first | rfl | simp [*]), H', ⟨by first | omega | exact Nat.le_refl _⟩, ⟨IsS110.below HI0.out wb_⟩, ⟨pl_ HK.out⟩, ⟨bl_ HB.out⟩⟩
              case rest =>
                clear HC42
                try clear c1
                try clear p1
                try clear q1
                try clear hx1
                try clear c2
                try clear p2
                try clear c3
                try clear c4
                try clear c5
                try clear c5b0
                try clear c6
                try clear c6b0
                try clear c9
                try clear c10
                try clear c14
                try clear c14b0
                try clear c14b1
                try clear p16
                try clear q16
                try clear hx16
                try clear p18
                try clear q18
                try clear hx18
                try clear p19
                try clear q19
                try clear hx19
                try clear c21
                try clear c21b0
                try clear c21b1
                try clear c23
                try clear c23b0
                try clear c24
                try clear c24b0
                try clear c31
                try clear c31b0
                try clear c31b1
                try clear c33
                try clear c33b0
                try clear c34
                try clear c34b0
                try clear c44
                try clear c44b0
                try clear hx169_0
                try clear hx182_0
                try clear hx191_0
                try clear p169
                try clear p182
                try clear p191
                try clear q169
                try clear q182
                try clear q191
                obtain ⟨kq, x8_41, rfl, HA, HJ41, HI0, HK, HB⟩ := hcut
                cases kq with
                | zero => exact absurd HA.out (by simp [spec_l20Value.j0])
                | succ kj41 =>
                  have H := HA.out
                  clear HA
                  simp only [spec_l20Value.j0] at H
                  obtain ⟨y197, hy197⟩ : ∃ y_ : List (S27), y_ = (([(⟨5, (⟨#[]⟩ : ByteArray), x8_41⟩ : S27)] : List (S27))) := ⟨_, rfl⟩
                  replace H : (spec_l20Value.l0 kj41 a1 a2 y197 x8_41 0 s0_0 t196) = some (r1, r2) := by first | (rw [hy197]; with_reducible exact H) | (have H2_ := (Option.bind_some _ _).symm.trans H; rw [hy197]; with_reducible exact H2_) | (have H2_ := (Option.bind_some _ _).symm.trans H; with_reducible exact H2_) | with_reducible exact H | (rw [hy197]; exact H) | exact H
                  have Ny197 := Aside0.mk hy197
                  clear hy197
                  have H' := Aside0.mk H
                  clear H
                  go_wp2_with (first | ((with_reducible refine gate_dst (N := 22) rfl ?_); refine Kd.R_lit k27 _ 27 ?hg (N := 22) ?hd (xs := ([(⟨5, (⟨#[]⟩ : ByteArray), x8_41⟩ : S27)] : List (S27))) (inner := [.int .i64 5, .string (⟨#[]⟩ : ByteArray), .int .i64 x8_41]) (ok := fun _ => True) (okp := fun _ => True) ?hr ?hp (fun _ hk => hk) trivial (Below.refl _ _) (Nat.le_refl _) (by simp) ?_; (case hd => rfl); (case hg => rfl); (case hr => first | (go_simp; done) | (go_simp; rfl)); (case hp => exact (Reps.c3 (show Kd.M k27 _ _ _ (⟨5, (⟨#[]⟩ : ByteArray), x8_41⟩ : S27) [.int .i64 5, .string (⟨#[]⟩ : ByteArray), .int .i64 x8_41] from (k27_mkM _ _ _ (⟨5, (⟨#[]⟩ : ByteArray), x8_41⟩ : S27) )) (Reps.none _ _))); intro v198 w45 ho46 hb hg_ hnew_; clear hg_ hnew_; (first | rw [← Ny197.out] at ho46 | (simp only [Int.reduceToNat] at ho46; rw [← Ny197.out] at ho46)); have n0_ := Aside0.mk (Kd.R_lower ho46 (keep_size (w := w) (g := g) (row := none) (pl_ HK.out))); have n1_ := Aside0.mk (IsS110.below (IsS110.below HI0.out wb_) hb); have n2_ := Aside0.mk (KeepBut.trans (pl_ HK.out) (KeepBut.of_below hb g none) (.inl rfl)); have n3_ := Aside0.mk (below_step (bl_ HB.out) hb); clear HI0; clear HK; clear HB; have HO199 := n0_; have HI0 := n1_; have HK := n2_; have HB := n3_; clear n0_ n1_ n2_ n3_; clear hb ho46))
                  go_loopg [7, 9] kj41 (fun kq v7 v9 w' => ∃ (x7_2 : List (S27)) (x9_2 : Int) (x1001_2 : Int), v9 = .int .i64 x9_2 ∧ Aside0 (spec_l20Value.l0 kq a1 a2 x7_2 x8_41 x9_2 s0_0 x1001_2 = some (r1, r2)) ∧ Aside0 (kq ≤ kj41) ∧ Aside0 (Kd.R k27 27 w' w.heap.size (fun _ => True) v7 x7_2) ∧ Aside0 (IsS110 w0 w' g s0_0 x1001_2) ∧ Aside0 (KeepBut w w' g none) ∧ Aside0 (Below w0.heap.size w0 w'))
                  case atStart => exact ⟨(y197), (0), (t196), (by first | rfl | simp [*]), H', ⟨Nat.le_refl _⟩, ⟨by (with_reducible repeat (first | apply Kd.R_alloc | apply Kd.R_drewN | apply Kd.R_drew)); exact HO199.out⟩, ⟨IsS110.below HI0.out wb_⟩, ⟨pl_ HK.out⟩, ⟨bl_ HB.out⟩⟩
                  case round =>
                    clear H'
                    try clear c1
                    try clear p1
                    try clear q1
                    try clear hx1
                    try clear c2
                    try clear p2
                    try clear c3
                    try clear c4
                    try clear c5
                    try clear c5b0
                    try clear c6
                    try clear c6b0
                    try clear c9
                    try clear c10
                    try clear c14
                    try clear c14b0
                    try clear c14b1
                    try clear p16
                    try clear q16
                    try clear hx16
                    try clear p18
                    try clear q18
                    try clear hx18
                    try clear p19
                    try clear q19
                    try clear hx19
                    try clear c21
                    try clear c21b0
                    try clear c21b1
                    try clear c23
                    try clear c23b0
                    try clear c24
                    try clear c24b0
                    try clear c31
                    try clear c31b0
                    try clear c31b1
                    try clear c33
                    try clear c33b0
                    try clear c34
                    try clear c34b0
                    try clear c44
                    try clear c44b0
                    try clear hx169_0
                    try clear hx182_0
                    try clear hx191_0
                    try clear p1
                    try clear p16
                    try clear p169
                    try clear p18
                    try clear p182
                    try clear p19
                    try clear p191
                    try clear p2
                    try clear q1
                    try clear q16
                    try clear q169
                    try clear q18
                    try clear q182
                    try clear q19
                    try clear q191
                    obtain ⟨x7_2, x9_2, x1001_2, rfl, HA, HK2, HO_7, HI0, HK, HB⟩ := hrel
                    cases gk with
                    | zero => exact absurd HA.out (by simp [spec_l20Value.l0])
                    | succ k2 =>
                      have H := HA.out
                      clear HA
                      simp only [spec_l20Value.l0] at H
                      by_cases c47 : x9_2 < x8_41
                      · rw [if_pos c47] at H
                        have c47b0 : decide (x9_2 < x8_41) = true := decide_eq_true c47
                        clear c47
                        replace H := Option.bind_eq_some_iff.mp H
                        obtain ⟨⟨t200, t203⟩, A480, H⟩ := H
                        replace H : (if x7_2.length + t200.length < 4398046511104 then (spec_l20Value.l0 k2 a1 a2 (x7_2 ++ t200) x8_41 (wrap64 (x9_2 + 1)) s0_0 t203) else (none)) = some (r1, r2) := H
                        have A48 := Aside0.mk A480
                        clear A480
                        by_cases c49 : x7_2.length + t200.length < 4398046511104
                        · rw [if_pos c49] at H
                          have LMc49 := Aside0.mk c49
                          clear c49
                          obtain ⟨y204, hy204⟩ : ∃ y_ : List (S27), y_ = (x7_2 ++ t200) := ⟨_, rfl⟩
                          replace H : (spec_l20Value.l0 k2 a1 a2 y204 x8_41 (wrap64 (x9_2 + 1)) s0_0 t203) = some (r1, r2) := by first | (rw [hy204]; with_reducible exact H) | (have H2_ := (Option.bind_some _ _).symm.trans H; rw [hy204]; with_reducible exact H2_) | (have H2_ := (Option.bind_some _ _).symm.trans H; with_reducible exact H2_) | with_reducible exact H | (rw [hy204]; exact H) | exact H
                          have Ny204 := Aside0.mk hy204
                          clear hy204
                          have H' := Aside0.mk H
                          clear H
                          go_wp2_with (first | ((with_reducible refine gate_callee (f := 57) rfl ?_); refine goesL_ (some 32) rfl rfl Tryz.func57 (by kernel_rfl) rfl #[.pointer (some ⟨g, 0, none⟩), .int .i64 (wrap64 (a1 - 1)), .int .i64 0] rfl (by (try simp only [List.map_toArray, List.map_cons, List.map_nil]); first | done | rfl | (simp only [List.length_drop, List.length_take]; rfl) | (simp only [Int.mul_one, Int.one_mul, Int.add_zero, Int.zero_add, pxw]; rfl)) ?_; (with_reducible refine (ih k2 (by have := HJ41.out; have := HK2.out; omega) g s0_0 x1001_2 (wrap64 (a1 - 1)) 0 t200 t203 w0 _ ?side1 ?side2 A48.out).mono ?_); (case side1 => exact IsS110.below HI0.out wb_); (case side2 => exact bl_ HB.out); rintro e w50 ⟨v201, rfl, ho0, hi, hb, hk⟩; refine ⟨_, rfl, ?_⟩; have n0_ := Aside0.mk (Kd.R_mono (Kd.R_told (Kd.R_oldK (IsS110.apart (show IsS110 w0 _ g s0_0 x1001_2 from by exact IsS110.below HI0.out wb_) (rl_ HO_7.out) (by decide)) hk) (Kd.R_base ho0)) (fun _ h_ => h_.1)); have n1_ := Aside0.mk (Kd.R_lower (Kd.R_new' ho0 (Kd.R_lt (rl_ HO_7.out))) (keep_size (w := w) (g := g) (row := none) (pl_ HK.out))); have n2_ := Aside0.mk (KeepBut.trans (pl_ HK.out) hk (.inl rfl)); have n3_ := Aside0.mk (hb); have n4_ := Aside0.mk (hi); clear HO_7; clear HK; clear HB; clear HI0; have HO_7 := n0_; have HO202 := n1_; have HK := n2_; have HB := n3_; have HI0 := n4_; clear n0_ n1_ n2_ n3_ n4_; (try clear hb); (try clear hb2); (try clear hk); (try clear hi); (try clear ho0); obtain ⟨Ao52, co52, eo52⟩ := Kd.R_slice HO202.out; subst eo52) | ((with_reducible refine gate_builtin (b := .append) (xs := #[.tmp 28, .tmp 32]) rfl ?_); at_builtin; refine Kd.R_append_rows k27 w.heap.size rfl (.tmp 28) (.tmp 32) 23 27 (.agg #[(.int .i64 0), (.string ⟨#[]⟩), (.int .i64 0)]) 32 rfl Tryz.underlying23 info27 rfl (by decide) (by omega) u7 x7_2 t200 _ _ _ (fun k_ => some k_ ≠ (.slice Ao52 t200.length co52 : Value).ownBlock) (fun _ => False) rfl rfl ?aO ?aR (fun _ _ h => h) (fun _ h => h.elim) ?aF (Below.refl _ _) ?aS ?aL ?_; (case aR => repeat (first | exact (Kd.R_reads' HO202.out).2.2 | (with_reducible refine Kd.C_alloc ?_ _) | (with_reducible refine Kd.C_drewN ?_ _) | (with_reducible refine Kd.C_drew ?_))); (case aF => exact (fun k_ hk => Kd.fresh' (Kd.R_lt (rl_ HO202.out)) k_ hk)); (case aO => exact (by (with_reducible repeat (first | apply Kd.R_alloc | apply Kd.R_drewN | apply Kd.R_drew)); exact Kd.R_mono HO_7.out (fun _ hk => hk.2))); (case aS => exact (keep_size (w := w) (g := g) (row := none) (pl_ HK.out))); (case aL => have := LMc49.out; omega); intro v205 w51 ho hb hg hat; rw [← Ny204.out] at ho; have n0_ := Aside0.mk (IsS110.grown (IsS110.below HI0.out wb_) hg (IsS110.own_ne HI0.out HO_7.out (by decide))); have n1_ := Aside0.mk (Kd.R_after (ok := (fun _ => True)) (rl_ HO202.out) hg hat); have n2_ := Aside0.mk (below_weaken (bl_ HB.out) HL.out hb); have n3_ := Aside0.mk (KeepBut.trans (pl_ HK.out) (KeepBut.of_grown hg g) (Kd.R_base2 HO_7.out)); have n4_ := Aside0.mk (ho); clear HI0; clear HO202; clear HB; clear HK; clear HO_7; have HI0 := n0_; have HO202 := n1_; have HB := n2_; have HK := n3_; have HO206 := n4_; clear n0_ n1_ n2_ n3_ n4_; clear ho hb hg hat))
                          go_roundg k2
                          case measure => have := HJ41.out; have := HK2.out; omega
                          case rel => exact ⟨(y204), (wrap64 (x9_2 + 1)), (t203), (by first | rfl | simp [*]), H', ⟨by have := HJ41.out; have := HK2.out; omega⟩, ⟨by (with_reducible repeat (first | apply Kd.R_alloc | apply Kd.R_drewN | apply Kd.R_drew)); exact Kd.R_mono HO206.out (fun _ hk => trivial)⟩, ⟨IsS110.below HI0.out wb_⟩, ⟨pl_ HK.out⟩, ⟨bl_ HB.out⟩⟩
                        · rw [if_neg c49] at H
                          exact absurd H (by simp)
                      · rw [if_neg c47] at H
                        have c47b0 : decide (x9_2 < x8_41) = false := decide_eq_false c47
                        clear c47
                        have H' := Aside0.mk H
                        clear H
                        go_wp2
                        go_meet
                        case rel => exact ⟨_, (x7_2), (x1001_2), H', ⟨by have := HJ41.out; have := HK2.out; first | omega | exact Nat.le_refl _⟩, ⟨by (with_reducible repeat (first | apply Kd.R_alloc | apply Kd.R_drewN | apply Kd.R_drew)); exact HO_7.out⟩, ⟨IsS110.below HI0.out wb_⟩, ⟨pl_ HK.out⟩, ⟨bl_ HB.out⟩⟩
      case rest =>
        clear HC7
        try clear c1
        try clear p1
        try clear q1
        try clear hx1
        try clear c2
        try clear p2
        try clear c3
        try clear c4
        try clear c5
        try clear c5b0
        try clear c6
        try clear c6b0
        try clear p6
        try clear c9
        try clear c10
        try clear c14
        try clear c14b0
        try clear c14b1
        try clear p16
        try clear q16
        try clear hx16
        try clear p18
        try clear q18
        try clear hx18
        try clear p19
        try clear q19
        try clear hx19
        try clear c21
        try clear c21b0
        try clear c21b1
        try clear c23
        try clear c23b0
        try clear c24
        try clear c24b0
        try clear c31
        try clear c31b0
        try clear c31b1
        try clear c33
        try clear c33b0
        try clear c34
        try clear c34b0
        try clear c44
        try clear c44b0
        try clear c47
        try clear c47b0
        try clear c49
        try clear hx169_0
        try clear hx182_0
        try clear hx191_0
        try clear p1
        try clear p16
        try clear p169
        try clear p18
        try clear p182
        try clear p19
        try clear p191
        try clear p2
        try clear q1
        try clear q16
        try clear q169
        try clear q18
        try clear q182
        try clear q19
        try clear q191
        obtain ⟨kq, x7_6, x1001_6, HA, HJ6, HO_7, HI0, HK, HB⟩ := hcut
        cases kq with
        | zero => exact absurd HA.out (by simp [spec_l20Value.j2])
        | succ kj6 =>
          have H := HA.out
          clear HA
          simp only [spec_l20Value.j2] at H
          replace H := Option.bind_eq_some_iff.mp H
          obtain ⟨⟨t207, t208⟩, A530, H⟩ := H
          replace H : (if t207 = true then ((spec_l20Rd_pick.f kj6 s0_0 t208 3).bind fun bt209 => (if bt209.1 = 0 then (if 0 < (x7_6.length : Int) then (some ((x7_6.set (0 : Int).toNat (⟨(rd_T27 x7_6 0).f0, (⟨#[49, 47, 50]⟩ : ByteArray), (rd_T27 x7_6 0).f2⟩ : S27)), bt209.2)) else (none)) else (if bt209.1 = 1 then (if 0 < (x7_6.length : Int) then (some ((x7_6.set (0 : Int).toNat (⟨4, (⟨#[97]⟩ : ByteArray), 0⟩ : S27)), bt209.2)) else (none)) else (if x7_6.length < 4398046511104 then (some ((x7_6 ++ [(⟨3, (⟨#[116, 114, 117, 101]⟩ : ByteArray), 0⟩ : S27)]), bt209.2)) else (none))))) else (some (x7_6, t208))) = some (r1, r2) := H
          have A53 := Aside0.mk A530
          clear A530
          have HU_ := Aside0.mk H
          clear H
          go_upto_if 61 with (first | ((with_reducible refine gate_callee (f := 88) rfl ?_); refine goesL_ (some 61) rfl rfl Tryz.func88 (by kernel_rfl) rfl #[.pointer (some ⟨g, 0, none⟩), .int .i64 a2] rfl (by (try simp only [List.map_toArray, List.map_cons, List.map_nil]); first | done | rfl | (simp only [List.length_drop, List.length_take]; rfl) | (simp only [Int.mul_one, Int.one_mul, Int.add_zero, Int.zero_add, pxw]; rfl)) ?_; (with_reducible refine (spec_l20Rd_odd.calls kj6 g s0_0 x1001_6 a2 t207 t208 w0 _ ?side1 ?side2 A53.out).mono ?_); (case side1 => exact IsS110.below HI0.out wb_); (case side2 => exact bl_ HB.out); rintro e w54 ⟨rfl, hi, hb, hk⟩; refine ⟨_, rfl, ?_⟩; have n0_ := Aside0.mk (Kd.R_mono (Kd.R_keep (IsS110.apart (show IsS110 w0 _ g s0_0 x1001_6 from by exact IsS110.below HI0.out wb_) (rl_ HO_7.out) (by decide)) hk (fun _ h => h.2)) (fun _ h => h.1)); have n1_ := Aside0.mk (KeepBut.trans (pl_ HK.out) hk (.inl rfl)); have n2_ := Aside0.mk (hb); have n3_ := Aside0.mk (hi); clear HO_7; clear HK; clear HB; clear HI0; have HO_7 := n0_; have HK := n1_; have HB := n2_; have HI0 := n3_; clear n0_ n1_ n2_ n3_; (try clear hb); (try clear hb2); (try clear hk); (try clear hi)))
          (try simp only [Act.put, List.setIfInBounds_toArray, List.set_cons_zero, List.set_cons_succ])
          have H := HU_.out
          clear HU_
          by_cases c55 : t207 = true
          · subst c55
            have H1 : ((spec_l20Rd_pick.f kj6 s0_0 t208 3).bind fun bt209 => (if bt209.1 = 0 then (if 0 < (x7_6.length : Int) then (some ((x7_6.set (0 : Int).toNat (⟨(rd_T27 x7_6 0).f0, (⟨#[49, 47, 50]⟩ : ByteArray), (rd_T27 x7_6 0).f2⟩ : S27)), bt209.2)) else (none)) else (if bt209.1 = 1 then (if 0 < (x7_6.length : Int) then (some ((x7_6.set (0 : Int).toNat (⟨4, (⟨#[97]⟩ : ByteArray), 0⟩ : S27)), bt209.2)) else (none)) else (if x7_6.length < 4398046511104 then (some ((x7_6 ++ [(⟨3, (⟨#[116, 114, 117, 101]⟩ : ByteArray), 0⟩ : S27)]), bt209.2)) else (none))))) = some (r1, r2) := by rw [if_pos rfl] at H; exact H
            clear H
            have H := H1
            clear H1
            replace H := Option.bind_eq_some_iff.mp H
            obtain ⟨⟨t209, t210⟩, A560, H⟩ := H
            replace H : (if t209 = 0 then (if 0 < (x7_6.length : Int) then (some ((x7_6.set (0 : Int).toNat (⟨(rd_T27 x7_6 0).f0, (⟨#[49, 47, 50]⟩ : ByteArray), (rd_T27 x7_6 0).f2⟩ : S27)), t210)) else (none)) else (if t209 = 1 then (if 0 < (x7_6.length : Int) then (some ((x7_6.set (0 : Int).toNat (⟨4, (⟨#[97]⟩ : ByteArray), 0⟩ : S27)), t210)) else (none)) else (if x7_6.length < 4398046511104 then (some ((x7_6 ++ [(⟨3, (⟨#[116, 114, 117, 101]⟩ : ByteArray), 0⟩ : S27)]), t210)) else (none)))) = some (r1, r2) := H
            have A56 := Aside0.mk A560
            clear A560
            have HU_ := Aside0.mk H
            clear H
            go_upto_if 68 with (first | ((with_reducible refine gate_callee (f := 98) rfl ?_); refine goesL_ (some 63) rfl rfl Tryz.func98 (by kernel_rfl) rfl #[.pointer (some ⟨g, 0, none⟩), .int .i64 3] rfl (by (try simp only [List.map_toArray, List.map_cons, List.map_nil]); first | done | rfl | (simp only [List.length_drop, List.length_take]; rfl) | (simp only [Int.mul_one, Int.one_mul, Int.add_zero, Int.zero_add, pxw]; rfl)) ?_; (with_reducible refine (spec_l20Rd_pick.calls kj6 g s0_0 t208 3 t209 t210 w0 _ ?side1 ?side2 A56.out).mono ?_); (case side1 => exact IsS110.below HI0.out wb_); (case side2 => exact bl_ HB.out); rintro e w57 ⟨rfl, hi, hb, hk⟩; refine ⟨_, rfl, ?_⟩; have n0_ := Aside0.mk (Kd.R_mono (Kd.R_keep (IsS110.apart (show IsS110 w0 _ g s0_0 t208 from by exact IsS110.below HI0.out wb_) (rl_ HO_7.out) (by decide)) hk (fun _ h => h.2)) (fun _ h => h.1)); have n1_ := Aside0.mk (KeepBut.trans (pl_ HK.out) hk (.inl rfl)); have n2_ := Aside0.mk (hb); have n3_ := Aside0.mk (hi); clear HO_7; clear HK; clear HB; clear HI0; have HO_7 := n0_; have HK := n1_; have HB := n2_; have HI0 := n3_; clear n0_ n1_ n2_ n3_; (try clear hb); (try clear hb2); (try clear hk); (try clear hi)))
            (try simp only [Act.put, List.setIfInBounds_toArray, List.set_cons_zero, List.set_cons_succ])
            have H := HU_.out
            clear HU_
            by_cases c58 : t209 = 0
            · rw [if_pos c58] at H
              have c58b0 : (t209 == 0) = true := beq_iff_eq.mpr c58
              have c58b1 : (t209 != 0) = false := bne_eq_false_iff_eq.mpr c58
              clear c58
              (first | rw [c58b0] | (simp only [i64_w, i32_w]; rw [c58b0]) | rw [c58b1] | skip)
              by_cases c59 : 0 < (x7_6.length : Int)
              · rw [if_pos c59] at H
                have c59b0 : decide (0 < (x7_6.length : Int)) = true := decide_eq_true c59
                have c59b1 : decide (0 < x7_6.length) = true := decide_eq_true (by omega)
                clear c59
                obtain ⟨y211, hy211⟩ : ∃ y_ : List (S27), y_ = (x7_6.set (0 : Int).toNat (⟨(rd_T27 x7_6 0).f0, (⟨#[49, 47, 50]⟩ : ByteArray), (rd_T27 x7_6 0).f2⟩ : S27)) := ⟨_, rfl⟩
                replace H : (some (y211, t210)) = some (r1, r2) := by first | (rw [hy211]; with_reducible exact H) | (have H2_ := (Option.bind_some _ _).symm.trans H; rw [hy211]; with_reducible exact H2_) | (have H2_ := (Option.bind_some _ _).symm.trans H; with_reducible exact H2_) | with_reducible exact H | (rw [hy211]; exact H) | exact H
                have Ny211 := Aside0.mk hy211
                clear hy211
                simp only [Option.some.injEq, Prod.mk.injEq] at H
                obtain ⟨rfl, rfl⟩ := H
                have p60 : 0 ≤ (0 : Int) := (by omega)
                have q60 : (0 : Int) < ((x7_6.length : Int) : Int) := of_decide_eq_true (by assumption)
                have qi60 : (0 < x7_6.length) = True := eq_true (by omega)
                obtain ⟨go60, co60, eo60, gb60, gl60, cl60, HG60⟩ := Kd.R_form HO_7.out (by omega)
                (first | cases eo60 | (injection eo60 with ea_ en_ ec_; (first | subst ea_ | (injection ea_ with ea_; subst ea_)); subst ec_; clear en_))
                have GB60 := Aside0.mk gb60
                have GG60 := Aside0.mk HG60
                clear gb60 gl60 HG60
                obtain ⟨ce60, hcl60, hM60, hcc60, hfr60⟩ := Kd.R_elem HO_7.out z27 (0 : Int) p60 q60
                obtain rfl := k27_openM hM60
                have hx60_0 : w57.cell? ⟨go60, (0 : Int).toNat * 3, none⟩ = some (.int .i64 ((rd_T27 x7_6 0).f0)) := hcc60 0 _ rfl
                have hx60_1 : w57.cell? ⟨go60, (0 : Int).toNat * 3 + 1, none⟩ = some (.string ((rd_T27 x7_6 0).f1)) := hcc60 1 _ rfl
                have hx60_2 : w57.cell? ⟨go60, (0 : Int).toNat * 3 + 2, none⟩ = some (.int .i64 ((rd_T27 x7_6 0).f2)) := hcc60 2 _ rfl
                have hf60_0 : w57.frozen? ⟨go60, (0 : Int).toNat * 3, none⟩ = false := hfr60 0
                have hf60_1 : w57.frozen? ⟨go60, (0 : Int).toNat * 3 + 1, none⟩ = false := hfr60 1
                have hf60_2 : w57.frozen? ⟨go60, (0 : Int).toNat * 3 + 2, none⟩ = false := hfr60 2
                clear hcl60 hcc60 hfr60 hM60
                (try rw [show ((0 : Int)).toNat = 0 from rfl] at hx60_0)
                (try simp only [Nat.reduceMul, Nat.zero_mul, Nat.zero_add, Nat.reduceAdd] at hx60_0)
                (try rw [show ((0 : Int)).toNat = 0 from rfl] at hf60_0)
                (try simp only [Nat.reduceMul, Nat.zero_mul, Nat.zero_add, Nat.reduceAdd] at hf60_0)
                (try rw [show ((0 : Int)).toNat = 0 from rfl] at hx60_1)
                (try simp only [Nat.reduceMul, Nat.zero_mul, Nat.zero_add, Nat.reduceAdd] at hx60_1)
                (try rw [show ((0 : Int)).toNat = 0 from rfl] at hf60_1)
                (try simp only [Nat.reduceMul, Nat.zero_mul, Nat.zero_add, Nat.reduceAdd] at hf60_1)
                (try rw [show ((0 : Int)).toNat = 0 from rfl] at hx60_2)
                (try simp only [Nat.reduceMul, Nat.zero_mul, Nat.zero_add, Nat.reduceAdd] at hx60_2)
                (try rw [show ((0 : Int)).toNat = 0 from rfl] at hf60_2)
                (try simp only [Nat.reduceMul, Nat.zero_mul, Nat.zero_add, Nat.reduceAdd] at hf60_2)
                replace p60 := eq_true p60
                replace q60 := eq_true q60
                have HX61 := Aside0.mk (show Kd.R k27 27 w57 w.heap.size (fun _ => True) (.slice (some ⟨go60, 0, none⟩) x7_6.length co60) x7_6 from (rl_ HO_7.out))
                obtain ⟨ce61, hcl61, hM61, hcc61, hfr61⟩ := Kd.R_elem HX61.out z27 (0 : Int) (by omega) (by have h_ : (0 : Int) < ((x7_6.length : Int) : Int) := of_decide_eq_true (by assumption); first | exact h_ | (have e_ := (Kd.R_reads' HO_7.out).1; omega) | simpa using h_)
                obtain rfl := k27_openM hM61
                have HP61 := Kd.R_seg HX61.out (0 : Int) (by omega) (by have h_ : (0 : Int) < ((x7_6.length : Int) : Int) := of_decide_eq_true (by assumption); first | exact h_ | (have e_ := (Kd.R_reads' HO_7.out).1; omega) | simpa using h_) (seg := [.string (⟨#[49, 47, 50]⟩ : ByteArray)]) (j := 1) hcl61 hcc61 (show 2 ≤ 3 from by decide) (x' := (⟨(rd_T27 x7_6 0).f0, (⟨#[49, 47, 50]⟩ : ByteArray), (rd_T27 x7_6 0).f2⟩ : S27)) (k27_mkM _ _ _ (⟨(rd_T27 x7_6 0).f0, (⟨#[49, 47, 50]⟩ : ByteArray), (rd_T27 x7_6 0).f2⟩ : S27) ) (fun _ hk => hk)
                have hx61_1 := hcc61 1 _ rfl
                (try simp only [show (k27).sz = 3 from rfl, Nat.mul_one, Nat.add_zero] at hx61_1)
                (try rw [show ((0 : Int)).toNat = 0 from rfl] at hx61_1)
                (try simp only [Nat.reduceMul, Nat.zero_mul, Nat.zero_add, Nat.reduceAdd] at hx61_1)
                have hf61_1 := hfr61 1
                (try simp only [show (k27).sz = 3 from rfl, Nat.mul_one, Nat.add_zero] at hf61_1)
                (try rw [show ((0 : Int)).toNat = 0 from rfl] at hf61_1)
                (try simp only [Nat.reduceMul, Nat.zero_mul, Nat.zero_add, Nat.reduceAdd] at hf61_1)
                clear hcl61 hcc61 hfr61 hM61
                go_wp2_with (first | ((with_reducible refine gate_store (t := 9) (p := 72) rfl ?_); refine store_event (t := 9) (p := 72) (v := ?vo_w62) (w1 := (w57.setCell ⟨go60, 1, none⟩ (.string (⟨#[49, 47, 50]⟩ : ByteArray)))) ?hg ?ho ?hn ?hr ?_; (case ho => rfl); (case hg => rfl); (case hn => rfl); (case hr => first | (go_simp; done) | (go_simp; rfl)); intro w62 hw; have hg : w57.grownBy w62 (some go60) := (by rw [hw]; exact HP61.2); have hp_ : Kd.R k27 27 w62 w.heap.size (fun _ => True) (.slice (some ⟨go60, 0, none⟩) x7_6.length co60) y211 := (by rw [hw, Ny211.out]; exact HP61.1); clear HP61; have n0_ := Aside0.mk (hp_); have n1_ := Aside0.mk (IsS110.grown (IsS110.below HI0.out wb_) hg (IsS110.own_ne HI0.out HO_7.out (by decide))); have n2_ := Aside0.mk ((by rw [hw]; exact below_set (HB.out) (Nat.le_trans HL.out GB60.out) : Below w0.heap.size w0 w62)); have n3_ := Aside0.mk (KeepBut.trans (pl_ HK.out) (KeepBut.of_grown hg g) (Kd.R_base2 HO_7.out)); clear HO_7; clear HI0; clear HB; clear HK; have HO_7 := n0_; have HI0 := n1_; have HB := n2_; have HK := n3_; clear n0_ n1_ n2_ n3_; clear hg hw hp_))
                go_ret
                exact ⟨_, by first | rfl | simp [*], by (with_reducible repeat (first | apply Kd.R_alloc | apply Kd.R_drewN | apply Kd.R_drew)); exact HO_7.out, IsS110.below HI0.out wb_, bl_ HB.out, pl_ HK.out⟩
              · rw [if_neg c59] at H
                exact absurd H (by simp)
            · rw [if_neg c58] at H
              have c58b0 : (t209 == 0) = false := beq_eq_false_iff_ne.mpr c58
              have c58b1 : (t209 != 0) = true := bne_iff_ne.mpr c58
              (first | rw [c58b0] | (simp only [i64_w, i32_w]; rw [c58b0]) | rw [c58b1] | skip)
              by_cases c63 : t209 = 1
              · rw [if_pos c63] at H
                have c63b0 : (t209 == 1) = true := beq_iff_eq.mpr c63
                have c63b1 : (t209 != 1) = false := bne_eq_false_iff_eq.mpr c63
                clear c63
                by_cases c64 : 0 < (x7_6.length : Int)
                · rw [if_pos c64] at H
                  have c64b0 : decide (0 < (x7_6.length : Int)) = true := decide_eq_true c64
                  have c64b1 : decide (0 < x7_6.length) = true := decide_eq_true (by omega)
                  clear c64
                  obtain ⟨y212, hy212⟩ : ∃ y_ : List (S27), y_ = (x7_6.set (0 : Int).toNat (⟨4, (⟨#[97]⟩ : ByteArray), 0⟩ : S27)) := ⟨_, rfl⟩
                  replace H : (some (y212, t210)) = some (r1, r2) := by first | (rw [hy212]; with_reducible exact H) | (have H2_ := (Option.bind_some _ _).symm.trans H; rw [hy212]; with_reducible exact H2_) | (have H2_ := (Option.bind_some _ _).symm.trans H; with_reducible exact H2_) | with_reducible exact H | (rw [hy212]; exact H) | exact H
                  have Ny212 := Aside0.mk hy212
                  clear hy212
                  simp only [Option.some.injEq, Prod.mk.injEq] at H
                  obtain ⟨rfl, rfl⟩ := H
                  have p65 : 0 ≤ (0 : Int) := (by omega)
                  have q65 : (0 : Int) < ((x7_6.length : Int) : Int) := of_decide_eq_true (by assumption)
                  have qi65 : (0 < x7_6.length) = True := eq_true (by omega)
                  obtain ⟨go65, co65, eo65, gb65, gl65, cl65, HG65⟩ := Kd.R_form HO_7.out (by omega)
                  (first | cases eo65 | (injection eo65 with ea_ en_ ec_; (first | subst ea_ | (injection ea_ with ea_; subst ea_)); subst ec_; clear en_))
                  have GB65 := Aside0.mk gb65
                  have GG65 := Aside0.mk HG65
                  clear gb65 gl65 HG65
                  obtain ⟨ce65, hcl65, hM65, hcc65, hfr65⟩ := Kd.R_elem HO_7.out z27 (0 : Int) p65 q65
                  obtain rfl := k27_openM hM65
                  have hx65_0 : w57.cell? ⟨go65, (0 : Int).toNat * 3, none⟩ = some (.int .i64 ((rd_T27 x7_6 0).f0)) := hcc65 0 _ rfl
                  have hx65_1 : w57.cell? ⟨go65, (0 : Int).toNat * 3 + 1, none⟩ = some (.string ((rd_T27 x7_6 0).f1)) := hcc65 1 _ rfl
                  have hx65_2 : w57.cell? ⟨go65, (0 : Int).toNat * 3 + 2, none⟩ = some (.int .i64 ((rd_T27 x7_6 0).f2)) := hcc65 2 _ rfl
                  have hf65_0 : w57.frozen? ⟨go65, (0 : Int).toNat * 3, none⟩ = false := hfr65 0
                  have hf65_1 : w57.frozen? ⟨go65, (0 : Int).toNat * 3 + 1, none⟩ = false := hfr65 1
                  have hf65_2 : w57.frozen? ⟨go65, (0 : Int).toNat * 3 + 2, none⟩ = false := hfr65 2
                  clear hcl65 hcc65 hfr65 hM65
                  (try rw [show ((0 : Int)).toNat = 0 from rfl] at hx65_0)
                  (try simp only [Nat.reduceMul, Nat.zero_mul, Nat.zero_add, Nat.reduceAdd] at hx65_0)
                  (try rw [show ((0 : Int)).toNat = 0 from rfl] at hf65_0)
                  (try simp only [Nat.reduceMul, Nat.zero_mul, Nat.zero_add, Nat.reduceAdd] at hf65_0)
                  (try rw [show ((0 : Int)).toNat = 0 from rfl] at hx65_1)
                  (try simp only [Nat.reduceMul, Nat.zero_mul, Nat.zero_add, Nat.reduceAdd] at hx65_1)
                  (try rw [show ((0 : Int)).toNat = 0 from rfl] at hf65_1)
                  (try simp only [Nat.reduceMul, Nat.zero_mul, Nat.zero_add, Nat.reduceAdd] at hf65_1)
                  (try rw [show ((0 : Int)).toNat = 0 from rfl] at hx65_2)
                  (try simp only [Nat.reduceMul, Nat.zero_mul, Nat.zero_add, Nat.reduceAdd] at hx65_2)
                  (try rw [show ((0 : Int)).toNat = 0 from rfl] at hf65_2)
                  (try simp only [Nat.reduceMul, Nat.zero_mul, Nat.zero_add, Nat.reduceAdd] at hf65_2)
                  replace p65 := eq_true p65
                  replace q65 := eq_true q65
                  have HX66 := Aside0.mk (show Kd.R k27 27 w57 w.heap.size (fun _ => True) (.slice (some ⟨go65, 0, none⟩) x7_6.length co65) x7_6 from (rl_ HO_7.out))
                  obtain ⟨ce66, hcl66, hM66, hcc66, hfr66⟩ := Kd.R_elem HX66.out z27 (0 : Int) (by omega) (by have h_ : (0 : Int) < ((x7_6.length : Int) : Int) := of_decide_eq_true (by assumption); first | exact h_ | (have e_ := (Kd.R_reads' HO_7.out).1; omega) | simpa using h_)
                  obtain rfl := k27_openM hM66
                  have HP66 := Kd.R_seg HX66.out (0 : Int) (by omega) (by have h_ : (0 : Int) < ((x7_6.length : Int) : Int) := of_decide_eq_true (by assumption); first | exact h_ | (have e_ := (Kd.R_reads' HO_7.out).1; omega) | simpa using h_) (seg := [.int .i64 4, .string (⟨#[97]⟩ : ByteArray), .int .i64 0]) (j := 0) hcl66 hcc66 (show 3 ≤ 3 from by decide) (x' := (⟨4, (⟨#[97]⟩ : ByteArray), 0⟩ : S27)) (k27_mkM _ _ _ (⟨4, (⟨#[97]⟩ : ByteArray), 0⟩ : S27) ) (fun _ hk => hk)
                  have hx66_0 := hcc66 0 _ rfl
                  (try simp only [show (k27).sz = 3 from rfl, Nat.mul_one, Nat.add_zero] at hx66_0)
                  (try rw [show ((0 : Int)).toNat = 0 from rfl] at hx66_0)
                  (try simp only [Nat.reduceMul, Nat.zero_mul, Nat.zero_add, Nat.reduceAdd] at hx66_0)
                  have hf66_0 := hfr66 0
                  (try simp only [show (k27).sz = 3 from rfl, Nat.mul_one, Nat.add_zero] at hf66_0)
                  (try rw [show ((0 : Int)).toNat = 0 from rfl] at hf66_0)
                  (try simp only [Nat.reduceMul, Nat.zero_mul, Nat.zero_add, Nat.reduceAdd] at hf66_0)
                  have hx66_1 := hcc66 1 _ rfl
                  (try simp only [show (k27).sz = 3 from rfl, Nat.mul_one, Nat.add_zero] at hx66_1)
                  (try rw [show ((0 : Int)).toNat = 0 from rfl] at hx66_1)
                  (try simp only [Nat.reduceMul, Nat.zero_mul, Nat.zero_add, Nat.reduceAdd] at hx66_1)
                  have hf66_1 := hfr66 1
                  (try simp only [show (k27).sz = 3 from rfl, Nat.mul_one, Nat.add_zero] at hf66_1)
                  (try rw [show ((0 : Int)).toNat = 0 from rfl] at hf66_1)
                  (try simp only [Nat.reduceMul, Nat.zero_mul, Nat.zero_add, Nat.reduceAdd] at hf66_1)
                  have hx66_2 := hcc66 2 _ rfl
                  (try simp only [show (k27).sz = 3 from rfl, Nat.mul_one, Nat.add_zero] at hx66_2)
                  (try rw [show ((0 : Int)).toNat = 0 from rfl] at hx66_2)
                  (try simp only [Nat.reduceMul, Nat.zero_mul, Nat.zero_add, Nat.reduceAdd] at hx66_2)
                  have hf66_2 := hfr66 2
                  (try simp only [show (k27).sz = 3 from rfl, Nat.mul_one, Nat.add_zero] at hf66_2)
                  (try rw [show ((0 : Int)).toNat = 0 from rfl] at hf66_2)
                  (try simp only [Nat.reduceMul, Nat.zero_mul, Nat.zero_add, Nat.reduceAdd] at hf66_2)
                  clear hcl66 hcc66 hfr66 hM66
                  go_wp2_with (first | ((with_reducible refine gate_store (t := 27) (p := 77) rfl ?_); refine store_event (t := 27) (p := 77) (v := ?vo_w67) (w1 := (((w57.setCell ⟨go65, 0, none⟩ (.int .i64 4)).setCell ⟨go65, 1, none⟩ (.string (⟨#[97]⟩ : ByteArray))).setCell ⟨go65, 2, none⟩ (.int .i64 0))) ?hg ?ho ?hn ?hr ?_; (case ho => rfl); (case hg => rfl); (case hn => rfl); (case hr => first | (go_simp; done) | (go_simp; rfl)); intro w67 hw; have hg : w57.grownBy w67 (some go65) := (by rw [hw]; exact HP66.2); have hp_ : Kd.R k27 27 w67 w.heap.size (fun _ => True) (.slice (some ⟨go65, 0, none⟩) x7_6.length co65) y212 := (by rw [hw, Ny212.out]; exact HP66.1); clear HP66; have n0_ := Aside0.mk (hp_); have n1_ := Aside0.mk (IsS110.grown (IsS110.below HI0.out wb_) hg (IsS110.own_ne HI0.out HO_7.out (by decide))); have n2_ := Aside0.mk ((by rw [hw]; exact below_set (below_set (below_set (HB.out) (Nat.le_trans HL.out GB65.out)) (Nat.le_trans HL.out GB65.out)) (Nat.le_trans HL.out GB65.out) : Below w0.heap.size w0 w67)); have n3_ := Aside0.mk (KeepBut.trans (pl_ HK.out) (KeepBut.of_grown hg g) (Kd.R_base2 HO_7.out)); clear HO_7; clear HI0; clear HB; clear HK; have HO_7 := n0_; have HI0 := n1_; have HB := n2_; have HK := n3_; clear n0_ n1_ n2_ n3_; clear hg hw hp_))
                  go_ret
                  exact ⟨_, by first | rfl | simp [*], by (with_reducible repeat (first | apply Kd.R_alloc | apply Kd.R_drewN | apply Kd.R_drew)); exact HO_7.out, IsS110.below HI0.out wb_, bl_ HB.out, pl_ HK.out⟩
                · rw [if_neg c64] at H
                  exact absurd H (by simp)
              · rw [if_neg c63] at H
                have c63b0 : (t209 == 1) = false := beq_eq_false_iff_ne.mpr c63
                have c63b1 : (t209 != 1) = true := bne_iff_ne.mpr c63
                by_cases c68 : x7_6.length < 4398046511104
                · rw [if_pos c68] at H
                  have LMc68 := Aside0.mk c68
                  clear c68
                  obtain ⟨y213, hy213⟩ : ∃ y_ : List (S27), y_ = (x7_6 ++ [(⟨3, (⟨#[116, 114, 117, 101]⟩ : ByteArray), 0⟩ : S27)]) := ⟨_, rfl⟩
                  replace H : (some (y213, t210)) = some (r1, r2) := by first | (rw [hy213]; with_reducible exact H) | (have H2_ := (Option.bind_some _ _).symm.trans H; rw [hy213]; with_reducible exact H2_) | (have H2_ := (Option.bind_some _ _).symm.trans H; with_reducible exact H2_) | with_reducible exact H | (rw [hy213]; exact H) | exact H
                  have Ny213 := Aside0.mk hy213
                  clear hy213
                  simp only [Option.some.injEq, Prod.mk.injEq] at H
                  obtain ⟨rfl, rfl⟩ := H
                  go_wp2_with (first | ((with_reducible refine gate_builtin (b := .append) (xs := #[.tmp 64, .tmp 66]) rfl ?_); at_builtin; refine Kd.R_append k27 w.heap.size rfl (.tmp 64) (.tmp 66) 23 27 (.agg #[(.int .i64 0), (.string ⟨#[]⟩), (.int .i64 0)]) 32 rfl Tryz.underlying23 info27 rfl (by decide) (by omega) u7 x7_6 (⟨3, (⟨#[116, 114, 117, 101]⟩ : ByteArray), 0⟩ : S27) [.int .i64 3, .string (⟨#[116, 114, 117, 101]⟩ : ByteArray), .int .i64 0] (fun _ => True) (fun _ => False) rfl rfl ?aP (fun _ hk => hk.elim) ?aF ?aO (Below.refl _ _) ?aS ?aL ?_; (case aP => exact k27_mkM _ _ _ (⟨3, (⟨#[116, 114, 117, 101]⟩ : ByteArray), 0⟩ : S27)); (case aF => exact (fun _ _ => trivial)); (case aO => exact (rl_ HO_7.out)); (case aS => exact (keep_size (w := w) (g := g) (row := none) (pl_ HK.out))); (case aL => have := LMc68.out; omega); intro v214 w69 ho hb hg hat; rw [← Ny213.out] at ho; have n0_ := Aside0.mk (IsS110.grown (IsS110.below HI0.out wb_) hg (IsS110.own_ne HI0.out HO_7.out (by decide))); have n1_ := Aside0.mk (below_weaken (bl_ HB.out) HL.out hb); have n2_ := Aside0.mk (KeepBut.trans (pl_ HK.out) (KeepBut.of_grown hg g) (Kd.R_base2 HO_7.out)); have n3_ := Aside0.mk (ho); clear HI0; clear HB; clear HK; clear HO_7; have HI0 := n0_; have HB := n1_; have HK := n2_; have HO215 := n3_; clear n0_ n1_ n2_ n3_; clear ho hb hg hat))
                  go_ret
                  exact ⟨_, by first | rfl | simp [*], by (with_reducible repeat (first | apply Kd.R_alloc | apply Kd.R_drewN | apply Kd.R_drew)); exact HO215.out, IsS110.below HI0.out wb_, bl_ HB.out, pl_ HK.out⟩
                · rw [if_neg c68] at H
                  exact absurd H (by simp)
          · replace c55 := Bool.eq_false_iff.mpr c55
            subst c55
            have H1 : (some (x7_6, t208)) = some (r1, r2) := by rw [if_neg (show ¬ (false = true) by decide)] at H; exact H
            clear H
            have H := H1
            clear H1
            simp only [Option.some.injEq, Prod.mk.injEq] at H
            obtain ⟨rfl, rfl⟩ := H
            go_wp2
            go_ret
            exact ⟨_, by first | rfl | simp [*], by (with_reducible repeat (first | apply Kd.R_alloc | apply Kd.R_drewN | apply Kd.R_drew)); exact HO_7.out, IsS110.below HI0.out wb_, bl_ HB.out, pl_ HK.out⟩
    · rw [if_neg c6] at H
      exact absurd H (by simp)
  · rw [if_neg c5] at H
    exact absurd H (by simp)
end Go.Proofs.YtjdlepjgniokdaaGreatDoor.PA

end
section

namespace Go.Proofs.YtjdlepjgniokdaaGreatDoor.PA
open Go.RowKit Go.Proofs.YtjdlepjgniokdaaGreatDoorW.PrintWords Go.Proofs.YtjdlepjgniokdaaGreatDoorW.PrintLast Go.Proofs.YtjdlepjgniokdaaGreatDoorW.PrintMore
attribute [local go_sem] max2_int min2_int max_two min_two max_three min_three max_four min_four
set_option linter.unusedVariables false
set_option linter.unusedSimpArgs false
def spec_l20Open.f (l0 : List Int) : Option (List Int × Int) := if (l0.length : Int) > 2000 then (if 2000 ≤ (l0.length : Int) then (some (l0.take 2000, 0)) else (none)) else (some (l0, 0))
set_option maxHeartbeats 8000000 in
set_option maxRecDepth 100000 in
theorem spec_l20Open.calls (A0 : Option Addr) (c0 : Nat) (l0 : List Int) (r1 : List Int) (r2 : Int) (w0 w : World) (hB : Below w0.heap.size w0 w) (hr0 : Kd.C (Kd.int .u8) w0 A0 l0.length l0) (hc0 : l0.length ≤ c0) (h : spec_l20Open.f l0 = some (r1, r2)) :
    Calls Tryz.prog 58 #[.slice A0 l0.length c0] w fun e w' => ∃ g_ : Nat, e = .returned (.pointer (some ⟨g_, 0, none⟩)) ∧ IsS110 w0 w' g_ r1 r2 ∧ Below w0.heap.size w0 w' ∧ Below w.heap.size w w' := by
  have hu110 := Tryz.underlying110
  have HR0 := Aside0.mk hr0
  have HC0 := Aside0.mk hc0
  clear hr0 hc0
  have HBW := Aside0.mk (Below.refl w.heap.size w)
  have HW0 := Aside0.mk hB.size
  have HB := Aside0.mk hB
  clear hB
  have H : (if (l0.length : Int) > 2000 then (if 2000 ≤ (l0.length : Int) then (some (l0.take 2000, 0)) else (none)) else (some (l0, 0))) = some (r1, r2) := h
  clear h
  by_cases c2 : (l0.length : Int) > 2000
  · rw [if_pos c2] at H
    have c2b0 : decide (2000 < (l0.length : Int)) = true := decide_eq_true c2
    have c2b1 : decide (2000 < l0.length) = true := decide_eq_true (by omega)
    clear c2
    by_cases c3 : 2000 ≤ (l0.length : Int)
    · rw [if_pos c3] at H
      have c3b0 := eq_true c3
      have c3b1 : decide (2000 ≤ (l0.length : Int)) = true := decide_eq_true c3
      clear c3
      simp only [Option.some.injEq, Prod.mk.injEq] at H
      obtain ⟨rfl, rfl⟩ := H
      obtain ⟨i04, hi04, _, hsz4, _⟩ := info_parts info5
      obtain ⟨hcut4, hA4, hC4⟩ := print_take_of (P := Tryz.prog) (Value.int .u8) 0 22 5 .i64 Tryz.underlying22 hi04 hsz4 A0 c0 l0 2000 (by omega) (of_decide_eq_true (by assumption)) HC0.out
      have HR216 := Aside0.mk (Kd.C_of_reads (h1 := fun _ => rfl) (hA4 _ (Kd.reads_of_C HR0.out)))
      have HC216 := Aside0.mk hC4
      clear hA4 hC4 hi04 hsz4
      go_enter Tryz.func58, Tryz.ntmps58
      go_wp2_with (first | ((with_reducible refine gate_dst (N := 10) rfl ?_); refine box_event ?hg (N := 10) ?hd (cs := #[.slice A0 (l0.take 2000).length c0, .int .i64 0]) (t := 110) ?hr ?_; (case hd => rfl); (case hg => rfl); (case hr => first | (go_simp; done) | (go_simp; rfl)); intro gb217 hg w5 hbox hb; have n0_ := Aside0.mk (below_step HBW.out hb); have n1_ := Aside0.mk (below_step (bl_ HB.out) hb); have n2_ := Aside0.mk (hbox); have n3_ := Aside0.mk ((by rw [hg]; exact (below_size (bl_ HBW.out)) : w.heap.size ≤ gb217)); have n4_ := Aside0.mk ((Nat.le_trans HW0.out (by rw [hg]; exact (below_size (bl_ HBW.out)) : w.heap.size ≤ gb217) : w0.heap.size ≤ gb217)); clear HBW; clear HB; have HBW := n0_; have HB := n1_; have BK217 := n2_; have GW217 := n3_; have GE217 := n4_; clear n0_ n1_ n2_ n3_ n4_; clear hb hbox hg))
      go_ret
      exact ⟨_, rfl, (show IsS110 w0 _ gb217 (l0.take 2000) 0 from ⟨_, _, by (with_reducible repeat (first | refine blk_drewN ?_ _ | refine blk_drew ?_ | refine blk_alloc ?_ _)); exact BK217.out, GE217.out, HR216.out⟩), bl_ HB.out, bl_ HBW.out⟩
    · rw [if_neg c3] at H
      exact absurd H (by simp)
  · rw [if_neg c2] at H
    have c2b0 : decide (2000 < (l0.length : Int)) = false := decide_eq_false c2
    have c2b1 : decide (2000 < l0.length) = false := decide_eq_false (by omega)
    clear c2
    simp only [Option.some.injEq, Prod.mk.injEq] at H
    obtain ⟨rfl, rfl⟩ := H
    go_enter Tryz.func58, Tryz.ntmps58
    go_wp2_with (first | ((with_reducible refine gate_dst (N := 10) rfl ?_); refine box_event ?hg (N := 10) ?hd (cs := #[.slice A0 l0.length c0, .int .i64 0]) (t := 110) ?hr ?_; (case hd => rfl); (case hg => rfl); (case hr => first | (go_simp; done) | (go_simp; rfl)); intro gb218 hg w6 hbox hb; have n0_ := Aside0.mk (below_step HBW.out hb); have n1_ := Aside0.mk (below_step (bl_ HB.out) hb); have n2_ := Aside0.mk (hbox); have n3_ := Aside0.mk ((by rw [hg]; exact (below_size (bl_ HBW.out)) : w.heap.size ≤ gb218)); have n4_ := Aside0.mk ((Nat.le_trans HW0.out (by rw [hg]; exact (below_size (bl_ HBW.out)) : w.heap.size ≤ gb218) : w0.heap.size ≤ gb218)); clear HBW; clear HB; have HBW := n0_; have HB := n1_; have BK218 := n2_; have GW218 := n3_; have GE218 := n4_; clear n0_ n1_ n2_ n3_ n4_; clear hb hbox hg))
    go_ret
    exact ⟨_, rfl, (show IsS110 w0 _ gb218 l0 0 from ⟨_, _, by (with_reducible repeat (first | refine blk_drewN ?_ _ | refine blk_drew ?_ | refine blk_alloc ?_ _)); exact BK218.out, GE218.out, HR0.out⟩), bl_ HB.out, bl_ HBW.out⟩
def spec_DrawValueValid.f (k : Nat) (l0 : List Int) : Option ((List (S27))) := (spec_l20Open.f l0).bind fun bt219 => ((spec_l20Value.f k bt219.1 bt219.2 3 2).bind fun bt222 => (some bt222.1))
set_option maxHeartbeats 8000000 in
set_option maxRecDepth 100000 in
theorem spec_DrawValueValid.calls (k : Nat) (A0 : Option Addr) (c0 : Nat) (l0 : List Int) (r : List (S27)) (w : World) (hr0 : Kd.C (Kd.int .u8) w A0 l0.length l0) (hc0 : l0.length ≤ c0) (h : spec_DrawValueValid.f k l0 = some r) :
    Calls Tryz.prog 14 #[.slice A0 l0.length c0] w fun e w' => ∃ v0_ : Value, e = .returned (v0_) ∧ Kd.R k27 27 w' w.heap.size (fun _ => True) v0_ r ∧ Below w.heap.size w w' := by
  have HR0 := Aside0.mk hr0
  have HC0 := Aside0.mk hc0
  clear hr0 hc0
  have HB := Aside0.mk (Below.refl w.heap.size w)
  have H : ((spec_l20Open.f l0).bind fun bt219 => ((spec_l20Value.f k bt219.1 bt219.2 3 2).bind fun bt222 => (some bt222.1))) = some r := h
  clear h
  replace H := Option.bind_eq_some_iff.mp H
  obtain ⟨⟨t219, t220⟩, A20, H⟩ := H
  replace H : ((spec_l20Value.f k t219 t220 3 2).bind fun bt222 => (some bt222.1)) = some r := H
  have A2 := Aside0.mk A20
  clear A20
  replace H := Option.bind_eq_some_iff.mp H
  obtain ⟨⟨t222, t225⟩, A30, H⟩ := H
  replace H : (some t222) = some r := H
  have A3 := Aside0.mk A30
  clear A30
  obtain rfl := Option.some.inj H
  go_enter Tryz.func14, Tryz.ntmps14
  go_wp2_with (first | ((with_reducible refine gate_callee (f := 58) rfl ?_); refine goesL_ (some 4) rfl rfl Tryz.func58 (by kernel_rfl) rfl #[.slice A0 l0.length c0] rfl (by (try simp only [List.map_toArray, List.map_cons, List.map_nil]); first | done | rfl | (simp only [List.length_drop, List.length_take]; rfl) | (simp only [Int.mul_one, Int.one_mul, Int.add_zero, Int.zero_add, pxw]; rfl)) ?_; (with_reducible refine (spec_l20Open.calls _ _ l0 t219 t220 w _ ?side1 ?side2 ?side3 A2.out).mono ?_); (case side1 => exact bl_ HB.out); (case side2 => exact HR0.out); (case side3 => exact HC0.out); rintro e w4 ⟨g221, rfl, hi, hb, hb2⟩; refine ⟨_, rfl, ?_⟩; have n0_ := Aside0.mk (hb); have n1_ := Aside0.mk (hi); clear HB; have HB := n0_; have HI221 := n1_; clear n0_ n1_; (try clear hb); (try clear hb2); (try clear hk); (try clear hi)) | ((with_reducible refine gate_callee (f := 57) rfl ?_); refine goesL_ (some 5) rfl rfl Tryz.func57 (by kernel_rfl) rfl #[.pointer (some ⟨g221, 0, none⟩), .int .i64 3, .int .i64 2] rfl (by (try simp only [List.map_toArray, List.map_cons, List.map_nil]); first | done | rfl | (simp only [List.length_drop, List.length_take]; rfl) | (simp only [Int.mul_one, Int.one_mul, Int.add_zero, Int.zero_add, pxw]; rfl)) ?_; (with_reducible refine (spec_l20Value.calls k g221 t219 t220 3 2 t222 t225 w _ ?side1 ?side2 A3.out).mono ?_); (case side1 => exact IsS110.below HI221.out wb_); (case side2 => exact bl_ HB.out); rintro e w5 ⟨v223, rfl, ho0, hi, hb, hk⟩; refine ⟨_, rfl, ?_⟩; have n0_ := Aside0.mk (Kd.R_lower ho0 (below_size (bl_ HB.out))); have n1_ := Aside0.mk (hb); have n2_ := Aside0.mk (hi); clear HB; clear HI221; have HO224 := n0_; have HB := n1_; have HI221 := n2_; clear n0_ n1_ n2_; (try clear hb); (try clear hb2); (try clear hk); (try clear hi); (try clear ho0)))
  go_ret
  exact ⟨_, by first | rfl | simp [*], by (with_reducible repeat (first | apply Kd.R_alloc | apply Kd.R_drewN | apply Kd.R_drew)); exact HO224.out, bl_ HB.out⟩
def impl_in.f (a0 : Int) (a1 : Int) (a2 : Int) : Option (Bool) := if a0 ≥ a1 then (some (decide (a0 ≤ a2))) else (some false)
set_option maxHeartbeats 8000000 in
set_option maxRecDepth 100000 in
theorem impl_in.calls (a0 : Int) (a1 : Int) (a2 : Int) (r : Bool) (w : World) (h : impl_in.f a0 a1 a2 = some r) :
    Calls Tryz.prog 59 #[.int .i64 a0, .int .i64 a1, .int .i64 a2] w fun e w' => e = .returned (.bool r) ∧ Drawn0 w w' := by
  have H : (if a0 ≥ a1 then (some (decide (a0 ≤ a2))) else (some false)) = some r := h
  clear h
  by_cases c4 : a0 ≥ a1
  · rw [if_pos c4] at H
    have c4b0 : decide (a1 ≤ a0) = true := decide_eq_true c4
    clear c4
    obtain rfl := Option.some.inj H
    go_enter Tryz.func59, Tryz.ntmps59
    go_wp2
    go_ret
    exact ⟨by first | rfl | (simp; done) | (simp [*]; done), by repeat (first | exact Drawn0.refl _ | apply Drawn0.step)⟩
  · rw [if_neg c4] at H
    have c4b0 : decide (a1 ≤ a0) = false := decide_eq_false c4
    clear c4
    obtain rfl := Option.some.inj H
    go_enter Tryz.func59, Tryz.ntmps59
    go_wp2
    go_ret
    exact ⟨by first | rfl | (simp; done) | (simp [*]; done), by repeat (first | exact Drawn0.refl _ | apply Drawn0.step)⟩
def stringslite_HasPrefix.f (a0 : ByteArray) (a1 : ByteArray) : Option (Bool) := if (a0.size : Int) ≥ (a1.size : Int) then (if 0 ≤ (a1.size : Int) then (if (a1.size : Int) ≤ (a0.size : Int) then (some ((a0.extract 0 ((a1.size : Int) : Int).toNat).toList == a1.toList)) else (none)) else (none)) else (some false)
set_option maxHeartbeats 8000000 in
set_option maxRecDepth 100000 in
theorem stringslite_HasPrefix.calls (a0 : ByteArray) (a1 : ByteArray) (r : Bool) (w : World) (h : stringslite_HasPrefix.f a0 a1 = some r) :
    Calls Tryz.prog 146 #[.string a0, .string a1] w fun e w' => e = .returned (.bool r) ∧ Drawn0 w w' := by
  have H : (if (a0.size : Int) ≥ (a1.size : Int) then (if 0 ≤ (a1.size : Int) then (if (a1.size : Int) ≤ (a0.size : Int) then (some ((a0.extract 0 ((a1.size : Int) : Int).toNat).toList == a1.toList)) else (none)) else (none)) else (some false)) = some r := h
  clear h
  by_cases c3 : (a0.size : Int) ≥ (a1.size : Int)
  · rw [if_pos c3] at H
    have c3b0 : decide ((a1.size : Int) ≤ (a0.size : Int)) = true := decide_eq_true c3
    have c3b1 : decide (a1.size ≤ a0.size) = true := decide_eq_true (Int.ofNat_le.mp c3)
    clear c3
    by_cases c4 : 0 ≤ (a1.size : Int)
    · rw [if_pos c4] at H
      have c4b0 := eq_true c4
      have c4b1 : decide (0 ≤ (a1.size : Int)) = true := decide_eq_true c4
      clear c4
      by_cases c5 : (a1.size : Int) ≤ (a0.size : Int)
      · rw [if_pos c5] at H
        have c5b0 := eq_true c5
        have c5b1 : decide ((a1.size : Int) ≤ (a0.size : Int)) = true := decide_eq_true c5
        clear c5
        obtain rfl := Option.some.inj H
        go_enter Tryz.func146, Tryz.ntmps146
        go_wp2
        go_ret
        exact ⟨by first | rfl | (simp; done) | (simp [*]; done), by repeat (first | exact Drawn0.refl _ | apply Drawn0.step)⟩
      · rw [if_neg c5] at H
        exact absurd H (by simp)
    · rw [if_neg c4] at H
      exact absurd H (by simp)
  · rw [if_neg c3] at H
    have c3b0 : decide ((a1.size : Int) ≤ (a0.size : Int)) = false := decide_eq_false c3
    have c3b1 : decide (a1.size ≤ a0.size) = false := decide_eq_false (fun h => c3 (Int.ofNat_le.mpr h))
    clear c3
    obtain rfl := Option.some.inj H
    go_enter Tryz.func146, Tryz.ntmps146
    go_wp2
    go_ret
    exact ⟨by first | rfl | (simp; done) | (simp [*]; done), by repeat (first | exact Drawn0.refl _ | apply Drawn0.step)⟩
def stringslite_CutPrefix.f (a0 : ByteArray) (a1 : ByteArray) : Option (ByteArray × Bool) := (stringslite_HasPrefix.f a0 a1).bind fun t226 => (if t226 = true then (if 0 ≤ (a1.size : Int) then (if (a1.size : Int) ≤ (a0.size : Int) then (some (a0.extract ((a1.size : Int) : Int).toNat a0.size, true)) else (none)) else (none)) else (some (a0, false)))
set_option maxHeartbeats 8000000 in
set_option maxRecDepth 100000 in
theorem stringslite_CutPrefix.calls (a0 : ByteArray) (a1 : ByteArray) (r1 : ByteArray) (r2 : Bool) (w : World) (h : stringslite_CutPrefix.f a0 a1 = some (r1, r2)) :
    Calls Tryz.prog 135 #[.string a0, .string a1] w fun e w' => e = .returned (.tuple #[.string r1, .bool r2]) ∧ Drawn0 w w' := by
  have H : ((stringslite_HasPrefix.f a0 a1).bind fun t226 => (if t226 = true then (if 0 ≤ (a1.size : Int) then (if (a1.size : Int) ≤ (a0.size : Int) then (some (a0.extract ((a1.size : Int) : Int).toNat a0.size, true)) else (none)) else (none)) else (some (a0, false)))) = some (r1, r2) := h
  clear h
  replace H := Option.bind_eq_some_iff.mp H
  obtain ⟨t226, A30, H⟩ := H
  replace H : (if t226 = true then (if 0 ≤ (a1.size : Int) then (if (a1.size : Int) ≤ (a0.size : Int) then (some (a0.extract ((a1.size : Int) : Int).toNat a0.size, true)) else (none)) else (none)) else (some (a0, false))) = some (r1, r2) := H
  have A3 := Aside0.mk A30
  clear A30
  have HU_ := Aside0.mk H
  clear H
  go_enter Tryz.func135, Tryz.ntmps135
  go_upto_if 9 with (first | ((with_reducible refine gate_callee (f := 146) rfl ?_); refine goesL_ (some 8) rfl rfl Tryz.func146 (by kernel_rfl) rfl #[.string a0, .string a1] rfl (by (try simp only [List.map_toArray, List.map_cons, List.map_nil]); first | done | rfl | (simp only [List.length_drop, List.length_take]; rfl) | (simp only [Int.mul_one, Int.one_mul, Int.add_zero, Int.zero_add, pxw]; rfl)) ?_; (with_reducible refine (stringslite_HasPrefix.calls a0 a1 t226 _ A3.out).mono ?_); rintro e w' ⟨rfl, ⟨nd, rfl⟩⟩; refine ⟨_, rfl, ?_⟩))
  (try simp only [Act.put, List.setIfInBounds_toArray, List.set_cons_zero, List.set_cons_succ])
  have H := HU_.out
  clear HU_
  by_cases c4 : t226 = true
  · subst c4
    have H1 : (if 0 ≤ (a1.size : Int) then (if (a1.size : Int) ≤ (a0.size : Int) then (some (a0.extract ((a1.size : Int) : Int).toNat a0.size, true)) else (none)) else (none)) = some (r1, r2) := by rw [if_pos rfl] at H; exact H
    clear H
    have H := H1
    clear H1
    by_cases c5 : 0 ≤ (a1.size : Int)
    · rw [if_pos c5] at H
      have c5b0 := eq_true c5
      have c5b1 : decide (0 ≤ (a1.size : Int)) = true := decide_eq_true c5
      clear c5
      by_cases c6 : (a1.size : Int) ≤ (a0.size : Int)
      · rw [if_pos c6] at H
        have c6b0 := eq_true c6
        have c6b1 : decide ((a1.size : Int) ≤ (a0.size : Int)) = true := decide_eq_true c6
        clear c6
        simp only [Option.some.injEq, Prod.mk.injEq] at H
        obtain ⟨rfl, rfl⟩ := H
        go_wp2
        go_ret2
        exact ⟨by first | rfl | (simp; done) | (simp [*]; done), by repeat (first | exact Drawn0.refl _ | apply Drawn0.step)⟩
      · rw [if_neg c6] at H
        exact absurd H (by simp)
    · rw [if_neg c5] at H
      exact absurd H (by simp)
  · replace c4 := Bool.eq_false_iff.mpr c4
    subst c4
    have H1 : (some (a0, false)) = some (r1, r2) := by rw [if_neg (show ¬ (false = true) by decide)] at H; exact H
    clear H
    have H := H1
    clear H1
    simp only [Option.some.injEq, Prod.mk.injEq] at H
    obtain ⟨rfl, rfl⟩ := H
    go_wp2
    go_ret2
    exact ⟨by first | rfl | (simp; done) | (simp [*]; done), by repeat (first | exact Drawn0.refl _ | apply Drawn0.step)⟩
def strings_CutPrefix.f (a0 : ByteArray) (a1 : ByteArray) : Option (ByteArray × Bool) := (stringslite_CutPrefix.f a0 a1).bind fun bt227 => (some (bt227.1, bt227.2))
set_option maxHeartbeats 8000000 in
set_option maxRecDepth 100000 in
theorem strings_CutPrefix.calls (a0 : ByteArray) (a1 : ByteArray) (r1 : ByteArray) (r2 : Bool) (w : World) (h : strings_CutPrefix.f a0 a1 = some (r1, r2)) :
    Calls Tryz.prog 122 #[.string a0, .string a1] w fun e w' => e = .returned (.tuple #[.string r1, .bool r2]) ∧ Drawn0 w w' := by
  have H : ((stringslite_CutPrefix.f a0 a1).bind fun bt227 => (some (bt227.1, bt227.2))) = some (r1, r2) := h
  clear h
  replace H := Option.bind_eq_some_iff.mp H
  obtain ⟨⟨t227, t228⟩, A30, H⟩ := H
  replace H : (some (t227, t228)) = some (r1, r2) := H
  have A3 := Aside0.mk A30
  clear A30
  simp only [Option.some.injEq, Prod.mk.injEq] at H
  obtain ⟨rfl, rfl⟩ := H
  go_enter Tryz.func122, Tryz.ntmps122
  go_wp2_with (first | ((with_reducible refine gate_callee (f := 135) rfl ?_); refine goesL_ (some 8) rfl rfl Tryz.func135 (by kernel_rfl) rfl #[.string a0, .string a1] rfl (by (try simp only [List.map_toArray, List.map_cons, List.map_nil]); first | done | rfl | (simp only [List.length_drop, List.length_take]; rfl) | (simp only [Int.mul_one, Int.one_mul, Int.add_zero, Int.zero_add, pxw]; rfl)) ?_; (with_reducible refine (stringslite_CutPrefix.calls a0 a1 t227 t228 _ A3.out).mono ?_); rintro e w' ⟨rfl, ⟨nd, rfl⟩⟩; refine ⟨_, rfl, ?_⟩))
  go_ret2
  exact ⟨by first | rfl | (simp; done) | (simp [*]; done), by repeat (first | exact Drawn0.refl _ | apply Drawn0.step)⟩
def byteAt (l : List UInt8) (c : UInt8) : Int := Go.Lib.indexByte l c
def stringslite_Index.f (a0 : ByteArray) (a1 : ByteArray) : Option (Int) := match a1.data.toList with | [c] => some (byteAt a0.data.toList c) | _ => none
theorem stringslite_Index.calls (a0 : ByteArray) (a1 : ByteArray) (r : Int) (w : World) (h : stringslite_Index.f a0 a1 = some r) :
    Calls Tryz.prog 145 #[.string a0, .string a1] w fun e w' => e = .returned (.int .i64 r) ∧ Drawn0 w w' := by
  obtain ⟨⟨l⟩⟩ := a1
  match l, h with
  | [c], h =>
    refine (Tryz.stringslite_Index_one a0 c w).mono ?_
    rintro e w' ⟨rfl, rfl⟩
    refine ⟨?_, Drawn0.refl _⟩
    have h' : byteAt a0.data.toList c = r := by simpa [stringslite_Index.f] using h
    rw [← h']
    rfl
end Go.Proofs.YtjdlepjgniokdaaGreatDoor.PA

end
section

namespace Go.Proofs.YtjdlepjgniokdaaGreatDoor.PA
open Go.RowKit Go.Proofs.YtjdlepjgniokdaaGreatDoorW.PrintWords Go.Proofs.YtjdlepjgniokdaaGreatDoorW.PrintLast Go.Proofs.YtjdlepjgniokdaaGreatDoorW.PrintMore
attribute [local go_sem] max2_int min2_int max_two min_two max_three min_three max_four min_four
set_option linter.unusedVariables false
set_option linter.unusedSimpArgs false
def impl_TextValid.l0 : Nat → ByteArray → Int → Option (Bool)
  | 0, _, _ => none
  | k + 1, x0, x3 => if x3 < (x0.size : Int) then (if 0 ≤ x3 then (if (bt x0 x3) = 10 then (impl_TextValid.l0 k x0 (wrap64 (x3 + 1))) else ((impl_in.f (wrap64 (bt x0 x3)) 32 126).bind fun t267 => (if t267 = true then (impl_TextValid.l0 k x0 (wrap64 (x3 + 1))) else (some false)))) else (none)) else (some (decide ((x0.size : Int) ≤ 20000)))
def impl_TextValid.f (k : Nat) (a0 : ByteArray) : Option (Bool) := impl_TextValid.l0 k a0 0
set_option maxHeartbeats 8000000 in
set_option maxRecDepth 100000 in
theorem impl_TextValid.calls (k : Nat) (a0 : ByteArray) (r : Bool) (w : World) (h : impl_TextValid.f k a0 = some r) :
    Calls Tryz.prog 63 #[.string a0] w fun e w' => e = .returned (.bool r) ∧ Drawn0 w w' := by
  have H : (impl_TextValid.l0 k a0 0) = some r := h
  clear h
  have H' := Aside0.mk H
  clear H
  go_enter Tryz.func63, Tryz.ntmps63
  go_wp2
  go_loopg [3] k (fun kq v3 w' => ∃ (x3_1 : Int), v3 = .int .i64 x3_1 ∧ Aside0 (impl_TextValid.l0 kq a0 x3_1 = some r) ∧ Aside0 (kq ≤ k) ∧ Drawn0 w w')
  case atStart => exact ⟨(0), (by first | rfl | simp [*]), H', ⟨Nat.le_refl _⟩, by repeat (first | exact Drawn0.refl _ | apply Drawn0.step)⟩
  case round =>
    clear H'
    obtain ⟨x3_1, rfl, HA, HK1, ⟨m1, rfl⟩⟩ := hrel
    cases gk with
    | zero => exact absurd HA.out (by simp [impl_TextValid.l0])
    | succ k1 =>
      have H := HA.out
      clear HA
      simp only [impl_TextValid.l0] at H
      by_cases c2 : x3_1 < (a0.size : Int)
      · rw [if_pos c2] at H
        have c2b0 : decide (x3_1 < (a0.size : Int)) = true := decide_eq_true c2
        clear c2
        by_cases c3 : 0 ≤ x3_1
        · rw [if_pos c3] at H
          have c3b0 : decide (0 ≤ x3_1) = true := decide_eq_true c3
          clear c3
          by_cases c5 : (bt a0 x3_1) = 10
          · rw [if_pos c5] at H
            have c5b0 : ((bt a0 x3_1) == 10) = true := beq_iff_eq.mpr c5
            have c5b1 : ((bt a0 x3_1) != 10) = false := bne_eq_false_iff_eq.mpr c5
            clear c5
            have H' := Aside0.mk H
            clear H
            have p4 : 0 ≤ (x3_1 : Int) := of_decide_eq_true (by assumption)
            have q4 : x3_1 < (a0.size : Int) := of_decide_eq_true (by assumption)
            have hx4 := bt_at a0 x3_1
            replace p4 := eq_true p4
            replace q4 := eq_true q4
            go_wp2
            go_roundg k1
            case measure => have := HK1.out; omega
            case rel => exact ⟨(wrap64 (x3_1 + 1)), (by first | rfl | simp [*]), H', ⟨by have := HK1.out; omega⟩, by repeat (first | exact Drawn0.refl _ | apply Drawn0.step)⟩
          · rw [if_neg c5] at H
            have c5b0 : ((bt a0 x3_1) == 10) = false := beq_eq_false_iff_ne.mpr c5
            have c5b1 : ((bt a0 x3_1) != 10) = true := bne_iff_ne.mpr c5
            replace H := Option.bind_eq_some_iff.mp H
            obtain ⟨t267, A70, H⟩ := H
            replace H : (if t267 = true then (impl_TextValid.l0 k1 a0 (wrap64 (x3_1 + 1))) else (some false)) = some r := H
            have A7 := Aside0.mk A70
            clear A70
            have HU_ := Aside0.mk H
            clear H
            have p4 : 0 ≤ (x3_1 : Int) := of_decide_eq_true (by assumption)
            have q4 : x3_1 < (a0.size : Int) := of_decide_eq_true (by assumption)
            have hx4 := bt_at a0 x3_1
            replace p4 := eq_true p4
            replace q4 := eq_true q4
            have p6 : 0 ≤ (x3_1 : Int) := of_decide_eq_true (by assumption)
            have q6 : x3_1 < (a0.size : Int) := of_decide_eq_true (by assumption)
            have hx6 := bt_at a0 x3_1
            replace p6 := eq_true p6
            replace q6 := eq_true q6
            go_upto_if 21 with (first | (go_at_call 59; (with_reducible refine (impl_in.calls (wrap64 (bt a0 x3_1)) 32 126 t267 _ A7.out).mono ?_); rintro e w' ⟨rfl, ⟨nd, rfl⟩⟩))
            (try simp only [Act.put, List.setIfInBounds_toArray, List.set_cons_zero, List.set_cons_succ])
            have H := HU_.out
            clear HU_
            by_cases c8 : t267 = true
            · subst c8
              have H1 : (impl_TextValid.l0 k1 a0 (wrap64 (x3_1 + 1))) = some r := by rw [if_pos rfl] at H; exact H
              clear H
              have H := H1
              clear H1
              have H' := Aside0.mk H
              clear H
              go_wp2
              go_roundg k1
              case measure => have := HK1.out; omega
              case rel => exact ⟨(wrap64 (x3_1 + 1)), (by first | rfl | simp [*]), H', ⟨by have := HK1.out; omega⟩, by repeat (first | exact Drawn0.refl _ | apply Drawn0.step)⟩
            · replace c8 := Bool.eq_false_iff.mpr c8
              subst c8
              have H1 : (some false) = some r := by rw [if_neg (show ¬ (false = true) by decide)] at H; exact H
              clear H
              have H := H1
              clear H1
              obtain rfl := Option.some.inj H
              go_wp2
              go_ret
              exact ⟨by first | rfl | (simp; done) | (simp [*]; done), by repeat (first | exact Drawn0.refl _ | apply Drawn0.step)⟩
        · rw [if_neg c3] at H
          exact absurd H (by simp)
      · rw [if_neg c2] at H
        have c2b0 : decide (x3_1 < (a0.size : Int)) = false := decide_eq_false c2
        clear c2
        obtain rfl := Option.some.inj H
        go_wp2
        go_ret
        exact ⟨by first | rfl | (simp; done) | (simp [*]; done), by repeat (first | exact Drawn0.refl _ | apply Drawn0.step)⟩
def strings_genSplit.f (a0 : ByteArray) (a1 : ByteArray) (a2 : Int) (a3 : Int) : Option (List ByteArray) := if a0.size < 4294967281 ∧ a1.size = 1 ∧ a2 = 0 ∧ a3 = -1 then some (Go.Lib.splitB a1 0 (Go.Lib.countB a0 a1) a0) else none
theorem strings_genSplit.calls (a0 : ByteArray) (a1 : ByteArray) (a2 : Int) (a3 : Int) (r : List ByteArray) (w : World) (h : strings_genSplit.f a0 a1 a2 a3 = some r) :
    Calls Tryz.prog 130 #[.string a0, .string a1, .int .i64 a2, .int .i64 a3] w fun e w' => ∃ v0_ : Value, e = .returned (v0_) ∧ Kd.R Kd.string 9 w' w.heap.size (fun _ => True) v0_ r ∧ Below w.heap.size w w' := by
  unfold strings_genSplit.f at h
  split at h
  · rename_i hc
    obtain ⟨hs, h1, rfl, rfl⟩ := hc
    obtain rfl := Option.some.inj h
    have hle := Go.Lib.countB_le a1 (by omega) a0.size a0 (Nat.le_refl _)
    have hlen := Go.Lib.splitB_all a1 (by omega) 0 _ a0 rfl
    have hsep : ∃ c : UInt8, a1 = ⟨#[c]⟩ := by
      obtain ⟨⟨l⟩⟩ := a1
      match l, h1 with
      | [c], _ => exact ⟨c, rfl⟩
    obtain ⟨c, rfl⟩ := hsep
    have c1 := Any.strings_genSplit_core Tryz.lays221 (by kernel_rfl) a0 ⟨#[c]⟩ 0 (-1) (Go.Lib.countB a0 ⟨#[c]⟩ + 1) w hs (Nat.le_of_eq h1.symm) (Nat.zero_le _)
      (fun x cs hx => (Tryz.strings_Index_one x c _).mono fun e w' ⟨he, hw⟩ => ⟨by rw [he]; rw [show Go.Lib.indexB x ⟨#[c]⟩ = Go.Lib.indexByte x.data.toList c from Go.Lib.index_one _ _], hw⟩)
      ((Tryz.strings_Count_one a0 c w).mono fun e w' ⟨he, hw⟩ => ⟨by rw [he, show Go.Lib.countB a0 ⟨#[c]⟩ = Go.Lib.countByte a0.data.toList c from Go.Lib.count_one _ _], hw⟩)
      (by decide) (by decide) (by rw [if_pos (by decide)]; omega)
    rw [Nat.add_sub_cancel, hlen] at c1
    have e2 : Go.Lib.cellsOf (Go.Lib.splitB ⟨#[c]⟩ 0 (Go.Lib.countB a0 ⟨#[c]⟩) a0) (Go.Lib.countB a0 ⟨#[c]⟩ + 1) = (encs Value.string (Go.Lib.splitB ⟨#[c]⟩ 0 (Go.Lib.countB a0 ⟨#[c]⟩) a0)).toArray := by rw [← hlen]; exact Go.Lib.cellsOf_full _
    rw [e2] at c1
    refine c1.mono ?_
    rintro e w' ⟨rfl, rfl⟩
    refine ⟨_, rfl, Kd.R_of_own (h1 := fun _ => rfl) ?_ (fun _ _ => trivial), (Below.refl _ _).alloc (Nat.le_refl _) _⟩
    have ho := own_lit_of (enc := Value.string) w w.heap.size 9 (Go.Lib.splitB ⟨#[c]⟩ 0 (Go.Lib.countB a0 ⟨#[c]⟩) a0) (Nat.le_refl _) (by rw [hlen]; omega)
    rw [hlen] at ho ⊢
    exact ho
  · cases h
def strings_Split.f (a0 : ByteArray) (a1 : ByteArray) : Option (List ByteArray) := (strings_genSplit.f a0 a1 0 (-1)).bind fun t268 => (some t268)
set_option maxHeartbeats 8000000 in
set_option maxRecDepth 100000 in
theorem strings_Split.calls (a0 : ByteArray) (a1 : ByteArray) (r : List ByteArray) (w : World) (h : strings_Split.f a0 a1 = some r) :
    Calls Tryz.prog 105 #[.string a0, .string a1] w fun e w' => ∃ v0_ : Value, e = .returned (v0_) ∧ Kd.R Kd.string 9 w' w.heap.size (fun _ => True) v0_ r ∧ Below w.heap.size w w' := by
  have HB := Aside0.mk (Below.refl w.heap.size w)
  have H : ((strings_genSplit.f a0 a1 0 (-1)).bind fun t268 => (some t268)) = some r := h
  clear h
  replace H := Option.bind_eq_some_iff.mp H
  obtain ⟨t268, A30, H⟩ := H
  replace H : (some t268) = some r := H
  have A3 := Aside0.mk A30
  clear A30
  obtain rfl := Option.some.inj H
  go_enter Tryz.func105, Tryz.ntmps105
  go_wp2_with (first | ((with_reducible refine gate_callee (f := 130) rfl ?_); refine goesL_ (some 7) rfl rfl Tryz.func130 (by kernel_rfl) rfl #[.string a0, .string a1, .int .i64 0, .int .i64 (-1)] rfl (by (try simp only [List.map_toArray, List.map_cons, List.map_nil]); first | done | rfl | (simp only [List.length_drop, List.length_take]; rfl) | (simp only [Int.mul_one, Int.one_mul, Int.add_zero, Int.zero_add, pxw]; rfl)) ?_; (with_reducible refine (strings_genSplit.calls a0 a1 0 (-1) t268 _ A3.out).mono ?_); rintro e w4 ⟨v269, rfl, ho0, hb⟩; refine ⟨_, rfl, ?_⟩; have n0_ := Aside0.mk (Kd.R_lower ho0 (below_size (bl_ HB.out))); have n1_ := Aside0.mk (below_step (bl_ HB.out) hb); clear HB; have HO270 := n0_; have HB := n1_; clear n0_ n1_; (try clear hb); (try clear hb2); (try clear hk); (try clear hi); (try clear ho0)))
  go_ret
  exact ⟨_, by first | rfl | simp [*], by (with_reducible repeat (first | apply Kd.R_alloc | apply Kd.R_drewN | apply Kd.R_drew)); exact HO270.out, bl_ HB.out⟩
def impl_isSmall.f (a0 : Int) : Option (Bool) := (impl_in.f (wrap64 (a0)) 97 122).bind fun t271 => (some t271)
set_option maxHeartbeats 8000000 in
set_option maxRecDepth 100000 in
theorem impl_isSmall.calls (a0 : Int) (r : Bool) (w : World) (h : impl_isSmall.f a0 = some r) :
    Calls Tryz.prog 131 #[.int .u8 a0] w fun e w' => e = .returned (.bool r) ∧ Drawn0 w w' := by
  have H : ((impl_in.f (wrap64 (a0)) 97 122).bind fun t271 => (some t271)) = some r := h
  clear h
  replace H := Option.bind_eq_some_iff.mp H
  obtain ⟨t271, A20, H⟩ := H
  replace H : (some t271) = some r := H
  have A2 := Aside0.mk A20
  clear A20
  obtain rfl := Option.some.inj H
  go_enter Tryz.func131, Tryz.ntmps131
  go_wp2_with (first | ((with_reducible refine gate_callee (f := 59) rfl ?_); refine goesL_ (some 5) rfl rfl Tryz.func59 (by kernel_rfl) rfl #[.int .i64 (wrap64 (a0)), .int .i64 97, .int .i64 122] rfl (by (try simp only [List.map_toArray, List.map_cons, List.map_nil]); first | done | rfl | (simp only [List.length_drop, List.length_take]; rfl) | (simp only [Int.mul_one, Int.one_mul, Int.add_zero, Int.zero_add, pxw]; rfl)) ?_; (with_reducible refine (impl_in.calls (wrap64 (a0)) 97 122 t271 _ A2.out).mono ?_); rintro e w' ⟨rfl, ⟨nd, rfl⟩⟩; refine ⟨_, rfl, ?_⟩))
  go_ret
  exact ⟨by first | rfl | (simp; done) | (simp [*]; done), by repeat (first | exact Drawn0.refl _ | apply Drawn0.step)⟩
def impl_isDigit.f (a0 : Int) : Option (Bool) := (impl_in.f (wrap64 (a0)) 48 57).bind fun t272 => (some t272)
set_option maxHeartbeats 8000000 in
set_option maxRecDepth 100000 in
theorem impl_isDigit.calls (a0 : Int) (r : Bool) (w : World) (h : impl_isDigit.f a0 = some r) :
    Calls Tryz.prog 132 #[.int .u8 a0] w fun e w' => e = .returned (.bool r) ∧ Drawn0 w w' := by
  have H : ((impl_in.f (wrap64 (a0)) 48 57).bind fun t272 => (some t272)) = some r := h
  clear h
  replace H := Option.bind_eq_some_iff.mp H
  obtain ⟨t272, A20, H⟩ := H
  replace H : (some t272) = some r := H
  have A2 := Aside0.mk A20
  clear A20
  obtain rfl := Option.some.inj H
  go_enter Tryz.func132, Tryz.ntmps132
  go_wp2_with (first | ((with_reducible refine gate_callee (f := 59) rfl ?_); refine goesL_ (some 5) rfl rfl Tryz.func59 (by kernel_rfl) rfl #[.int .i64 (wrap64 (a0)), .int .i64 48, .int .i64 57] rfl (by (try simp only [List.map_toArray, List.map_cons, List.map_nil]); first | done | rfl | (simp only [List.length_drop, List.length_take]; rfl) | (simp only [Int.mul_one, Int.one_mul, Int.add_zero, Int.zero_add, pxw]; rfl)) ?_; (with_reducible refine (impl_in.calls (wrap64 (a0)) 48 57 t272 _ A2.out).mono ?_); rintro e w' ⟨rfl, ⟨nd, rfl⟩⟩; refine ⟨_, rfl, ?_⟩))
  go_ret
  exact ⟨by first | rfl | (simp; done) | (simp [*]; done), by repeat (first | exact Drawn0.refl _ | apply Drawn0.step)⟩
end Go.Proofs.YtjdlepjgniokdaaGreatDoor.PA

end
section

namespace Go.Proofs.YtjdlepjgniokdaaGreatDoor.PA
open Go.RowKit Go.Proofs.YtjdlepjgniokdaaGreatDoorW.PrintWords Go.Proofs.YtjdlepjgniokdaaGreatDoorW.PrintLast Go.Proofs.YtjdlepjgniokdaaGreatDoorW.PrintMore
attribute [local go_sem] max2_int min2_int max_two min_two max_three min_three max_four min_four
set_option linter.unusedVariables false
set_option linter.unusedSimpArgs false
def stringslite_Cut.f (a0 : ByteArray) (a1 : ByteArray) : Option (ByteArray × ByteArray × Bool) := (stringslite_Index.f a0 a1).bind fun t229 => (if t229 ≥ 0 then (if 0 ≤ t229 then (if t229 ≤ (a0.size : Int) then (if 0 ≤ (wrap64 (t229 + (a1.size : Int))) then (if (wrap64 (t229 + (a1.size : Int))) ≤ (a0.size : Int) then (some (a0.extract 0 (t229 : Int).toNat, a0.extract ((wrap64 (t229 + (a1.size : Int))) : Int).toNat a0.size, true)) else (none)) else (none)) else (none)) else (none)) else (some (a0, (⟨#[]⟩ : ByteArray), false)))
set_option maxHeartbeats 8000000 in
set_option maxRecDepth 100000 in
theorem stringslite_Cut.calls (a0 : ByteArray) (a1 : ByteArray) (r1 : ByteArray) (r2 : ByteArray) (r3 : Bool) (w : World) (h : stringslite_Cut.f a0 a1 = some (r1, r2, r3)) :
    Calls Tryz.prog 137 #[.string a0, .string a1] w fun e w' => e = .returned (.tuple #[.string r1, .string r2, .bool r3]) ∧ Drawn0 w w' := by
  have H : ((stringslite_Index.f a0 a1).bind fun t229 => (if t229 ≥ 0 then (if 0 ≤ t229 then (if t229 ≤ (a0.size : Int) then (if 0 ≤ (wrap64 (t229 + (a1.size : Int))) then (if (wrap64 (t229 + (a1.size : Int))) ≤ (a0.size : Int) then (some (a0.extract 0 (t229 : Int).toNat, a0.extract ((wrap64 (t229 + (a1.size : Int))) : Int).toNat a0.size, true)) else (none)) else (none)) else (none)) else (none)) else (some (a0, (⟨#[]⟩ : ByteArray), false)))) = some (r1, r2, r3) := h
  clear h
  replace H := Option.bind_eq_some_iff.mp H
  obtain ⟨t229, A30, H⟩ := H
  replace H : (if t229 ≥ 0 then (if 0 ≤ t229 then (if t229 ≤ (a0.size : Int) then (if 0 ≤ (wrap64 (t229 + (a1.size : Int))) then (if (wrap64 (t229 + (a1.size : Int))) ≤ (a0.size : Int) then (some (a0.extract 0 (t229 : Int).toNat, a0.extract ((wrap64 (t229 + (a1.size : Int))) : Int).toNat a0.size, true)) else (none)) else (none)) else (none)) else (none)) else (some (a0, (⟨#[]⟩ : ByteArray), false))) = some (r1, r2, r3) := H
  have A3 := Aside0.mk A30
  clear A30
  have HU_ := Aside0.mk H
  clear H
  go_enter Tryz.func137, Tryz.ntmps137
  go_upto_if 12 with (first | (go_at_call 145; (with_reducible refine (stringslite_Index.calls a0 a1 t229 _ A3.out).mono ?_); rintro e w' ⟨rfl, ⟨nd, rfl⟩⟩; (try first | exact ⟨rfl, _, World.drewN_drewN _ _ _⟩ | exact ⟨rfl, _, Eq.trans (World.drewN_drewN _ _ _) (congrArg (World.drewN _) (Nat.add_assoc _ _ _))⟩)))
  repeat (go_quiet (first | (go_at_call 145; (with_reducible refine (stringslite_Index.calls a0 a1 t229 _ A3.out).mono ?_); rintro e w' ⟨rfl, ⟨nd, rfl⟩⟩; (try first | exact ⟨rfl, _, World.drewN_drewN _ _ _⟩ | exact ⟨rfl, _, Eq.trans (World.drewN_drewN _ _ _) (congrArg (World.drewN _) (Nat.add_assoc _ _ _))⟩))); go_upto_if 12 with (first | (go_at_call 145; (with_reducible refine (stringslite_Index.calls a0 a1 t229 _ A3.out).mono ?_); rintro e w' ⟨rfl, ⟨nd, rfl⟩⟩; (try first | exact ⟨rfl, _, World.drewN_drewN _ _ _⟩ | exact ⟨rfl, _, Eq.trans (World.drewN_drewN _ _ _) (congrArg (World.drewN _) (Nat.add_assoc _ _ _))⟩))))
  (try simp only [Act.put, List.setIfInBounds_toArray, List.set_cons_zero, List.set_cons_succ])
  have H := HU_.out
  clear HU_
  by_cases c4 : t229 ≥ 0
  · rw [if_pos c4] at H
    have c4b0 : decide (0 ≤ t229) = true := decide_eq_true c4
    clear c4
    (first | rw [c4b0] | (simp only [i64_w, i32_w]; rw [c4b0]) | skip)
    by_cases c5 : 0 ≤ t229
    · rw [if_pos c5] at H
      have c5b0 := eq_true c5
      have c5b1 : decide (0 ≤ t229) = true := decide_eq_true c5
      clear c5
      by_cases c6 : t229 ≤ (a0.size : Int)
      · rw [if_pos c6] at H
        have c6b0 := eq_true c6
        have c6b1 : decide (t229 ≤ (a0.size : Int)) = true := decide_eq_true c6
        clear c6
        obtain ⟨ji7, hji7⟩ : ∃ j_ : Int, (wrap64 (t229 + (a1.size : Int))) = j_ := ⟨_, rfl⟩
        replace H : (if 0 ≤ (ji7) then (if (ji7) ≤ (a0.size : Int) then (some (a0.extract 0 (t229 : Int).toNat, a0.extract ((ji7) : Int).toNat a0.size, true)) else (none)) else (none)) = some (r1, r2, r3) := by first | (rw [hji7] at H; exact H) | (simp only [hji7] at H ⊢; exact H)
        have hji7w : (IntKind.i64.wrap (t229 + (a1.size : Int))) = ji7 := (i64_w _).trans hji7
        by_cases c8 : 0 ≤ (ji7)
        · rw [if_pos c8] at H
          have c8b0 := eq_true c8
          have c8b1 : decide (0 ≤ (ji7)) = true := decide_eq_true c8
          clear c8
          by_cases c9 : (ji7) ≤ (a0.size : Int)
          · rw [if_pos c9] at H
            have c9b0 := eq_true c9
            have c9b1 : decide ((ji7) ≤ (a0.size : Int)) = true := decide_eq_true c9
            clear c9
            simp only [Option.some.injEq, Prod.mk.injEq] at H
            obtain ⟨rfl, rfl, rfl⟩ := H
            go_wp2
            repeat (go_quiet (fail); try go_wp2)
            go_ret3
            exact ⟨by first | rfl | (simp; done) | (simp only [← hji7] <;> (first | rfl | simp)) | (simp [*]; done), by repeat (first | exact Drawn0.refl _ | apply Drawn0.step)⟩
          · rw [if_neg c9] at H
            exact absurd H (by simp)
        · rw [if_neg c8] at H
          exact absurd H (by simp)
      · rw [if_neg c6] at H
        exact absurd H (by simp)
    · rw [if_neg c5] at H
      exact absurd H (by simp)
  · rw [if_neg c4] at H
    have c4b0 : decide (0 ≤ t229) = false := decide_eq_false c4
    clear c4
    (first | rw [c4b0] | (simp only [i64_w, i32_w]; rw [c4b0]) | skip)
    simp only [Option.some.injEq, Prod.mk.injEq] at H
    obtain ⟨rfl, rfl, rfl⟩ := H
    go_wp2
    repeat (go_quiet (fail); try go_wp2)
    go_ret3
    exact ⟨by first | rfl | (simp; done) | (simp [*]; done), by repeat (first | exact Drawn0.refl _ | apply Drawn0.step)⟩
def strings_Cut.f (a0 : ByteArray) (a1 : ByteArray) : Option (ByteArray × ByteArray × Bool) := (stringslite_Cut.f a0 a1).bind fun bt230 => (some (bt230.1, bt230.2.1, bt230.2.2))
set_option maxHeartbeats 8000000 in
set_option maxRecDepth 100000 in
theorem strings_Cut.calls (a0 : ByteArray) (a1 : ByteArray) (r1 : ByteArray) (r2 : ByteArray) (r3 : Bool) (w : World) (h : strings_Cut.f a0 a1 = some (r1, r2, r3)) :
    Calls Tryz.prog 124 #[.string a0, .string a1] w fun e w' => e = .returned (.tuple #[.string r1, .string r2, .bool r3]) ∧ Drawn0 w w' := by
  have H : ((stringslite_Cut.f a0 a1).bind fun bt230 => (some (bt230.1, bt230.2.1, bt230.2.2))) = some (r1, r2, r3) := h
  clear h
  replace H := Option.bind_eq_some_iff.mp H
  obtain ⟨⟨t230, t231, t232⟩, A30, H⟩ := H
  replace H : (some (t230, t231, t232)) = some (r1, r2, r3) := H
  have A3 := Aside0.mk A30
  clear A30
  simp only [Option.some.injEq, Prod.mk.injEq] at H
  obtain ⟨rfl, rfl, rfl⟩ := H
  go_enter Tryz.func124, Tryz.ntmps124
  go_wp2_with (first | ((with_reducible refine gate_callee (f := 137) rfl ?_); refine goesL_ (some 9) rfl rfl Tryz.func137 (by kernel_rfl) rfl #[.string a0, .string a1] rfl (by (try simp only [List.map_toArray, List.map_cons, List.map_nil]); first | done | rfl | (simp only [List.length_drop, List.length_take]; rfl) | (simp only [Int.mul_one, Int.one_mul, Int.add_zero, Int.zero_add, pxw]; rfl)) ?_; (with_reducible refine (stringslite_Cut.calls a0 a1 t230 t231 t232 _ A3.out).mono ?_); rintro e w' ⟨rfl, ⟨nd, rfl⟩⟩; refine ⟨_, rfl, ?_⟩))
  go_ret3
  exact ⟨by first | rfl | (simp; done) | (simp [*]; done), by repeat (first | exact Drawn0.refl _ | apply Drawn0.step)⟩
def impl_digits.l0 : Nat → ByteArray → Int → Int → Int → Option (Bool)
  | 0, _, _, _, _ => none
  | k + 1, x0, x1, x2, x7 => if x7 < (x0.size : Int) then (if 0 ≤ x7 then ((impl_in.f (wrap64 (bt x0 x7)) 48 57).bind fun t233 => (if t233 = true then (impl_digits.l0 k x0 x1 x2 (wrap64 (x7 + 1))) else (some false))) else (none)) else ((impl_in.f (x0.size : Int) x1 x2).bind fun t234 => (some t234))
def impl_digits.f (k : Nat) (a0 : ByteArray) (a1 : Int) (a2 : Int) : Option (Bool) := impl_digits.l0 k a0 a1 a2 0
set_option maxHeartbeats 8000000 in
set_option maxRecDepth 100000 in
theorem impl_digits.calls (k : Nat) (a0 : ByteArray) (a1 : Int) (a2 : Int) (r : Bool) (w : World) (h : impl_digits.f k a0 a1 a2 = some r) :
    Calls Tryz.prog 125 #[.string a0, .int .i64 a1, .int .i64 a2] w fun e w' => e = .returned (.bool r) ∧ Drawn0 w w' := by
  have H : (impl_digits.l0 k a0 a1 a2 0) = some r := h
  clear h
  have H' := Aside0.mk H
  clear H
  go_enter Tryz.func125, Tryz.ntmps125
  go_wp2
  go_loopg [7] k (fun kq v7 w' => ∃ (x7_1 : Int), v7 = .int .i64 x7_1 ∧ Aside0 (impl_digits.l0 kq a0 a1 a2 x7_1 = some r) ∧ Aside0 (kq ≤ k) ∧ Drawn0 w w')
  case atStart => exact ⟨(0), (by first | rfl | simp [*]), H', ⟨Nat.le_refl _⟩, by repeat (first | exact Drawn0.refl _ | apply Drawn0.step)⟩
  case round =>
    clear H'
    try clear c1
    try clear p2
    obtain ⟨x7_1, rfl, HA, HK1, ⟨m1, rfl⟩⟩ := hrel
    cases gk with
    | zero => exact absurd HA.out (by simp [impl_digits.l0])
    | succ k1 =>
      have H := HA.out
      clear HA
      simp only [impl_digits.l0] at H
      by_cases c4 : x7_1 < (a0.size : Int)
      · rw [if_pos c4] at H
        have c4b0 : decide (x7_1 < (a0.size : Int)) = true := decide_eq_true c4
        clear c4
        by_cases c5 : 0 ≤ x7_1
        · rw [if_pos c5] at H
          have c5b0 : decide (0 ≤ x7_1) = true := decide_eq_true c5
          clear c5
          replace H := Option.bind_eq_some_iff.mp H
          obtain ⟨t233, A70, H⟩ := H
          replace H : (if t233 = true then (impl_digits.l0 k1 a0 a1 a2 (wrap64 (x7_1 + 1))) else (some false)) = some r := H
          have A7 := Aside0.mk A70
          clear A70
          have HU_ := Aside0.mk H
          clear H
          have p6 : 0 ≤ (x7_1 : Int) := of_decide_eq_true (by assumption)
          have q6 : x7_1 < (a0.size : Int) := of_decide_eq_true (by assumption)
          have hx6 := bt_at a0 x7_1
          replace p6 := eq_true p6
          replace q6 := eq_true q6
          go_upto_if 19 with (first | ((with_reducible refine gate_callee (f := 59) rfl ?_); refine goesL_ (some 18) rfl rfl Tryz.func59 (by kernel_rfl) rfl #[.int .i64 (wrap64 (bt a0 x7_1)), .int .i64 48, .int .i64 57] rfl (by (try simp only [List.map_toArray, List.map_cons, List.map_nil]); first | done | rfl | (simp only [List.length_drop, List.length_take]; rfl) | (simp only [Int.mul_one, Int.one_mul, Int.add_zero, Int.zero_add, pxw]; rfl)) ?_; (with_reducible refine (impl_in.calls (wrap64 (bt a0 x7_1)) 48 57 t233 _ A7.out).mono ?_); rintro e w' ⟨rfl, ⟨nd, rfl⟩⟩; refine ⟨_, rfl, ?_⟩))
          (try simp only [Act.put, List.setIfInBounds_toArray, List.set_cons_zero, List.set_cons_succ])
          have H := HU_.out
          clear HU_
          by_cases c8 : t233 = true
          · subst c8
            have H1 : (impl_digits.l0 k1 a0 a1 a2 (wrap64 (x7_1 + 1))) = some r := by rw [if_pos rfl] at H; exact H
            clear H
            have H := H1
            clear H1
            have H' := Aside0.mk H
            clear H
            go_wp2
            go_roundg k1
            case measure => have := HK1.out; omega
            case rel => exact ⟨(wrap64 (x7_1 + 1)), (by first | rfl | simp [*]), H', ⟨by have := HK1.out; omega⟩, by repeat (first | exact Drawn0.refl _ | apply Drawn0.step)⟩
          · replace c8 := Bool.eq_false_iff.mpr c8
            subst c8
            have H1 : (some false) = some r := by rw [if_neg (show ¬ (false = true) by decide)] at H; exact H
            clear H
            have H := H1
            clear H1
            obtain rfl := Option.some.inj H
            go_wp2
            go_ret
            exact ⟨by first | rfl | (simp; done) | (simp [*]; done), by repeat (first | exact Drawn0.refl _ | apply Drawn0.step)⟩
        · rw [if_neg c5] at H
          exact absurd H (by simp)
      · rw [if_neg c4] at H
        have c4b0 : decide (x7_1 < (a0.size : Int)) = false := decide_eq_false c4
        clear c4
        replace H := Option.bind_eq_some_iff.mp H
        obtain ⟨t234, A90, H⟩ := H
        replace H : (some t234) = some r := H
        have A9 := Aside0.mk A90
        clear A90
        obtain rfl := Option.some.inj H
        go_wp2_with (first | ((with_reducible refine gate_callee (f := 59) rfl ?_); refine goesL_ (some 24) rfl rfl Tryz.func59 (by kernel_rfl) rfl #[.int .i64 (a0.size : Int), .int .i64 a1, .int .i64 a2] rfl (by (try simp only [List.map_toArray, List.map_cons, List.map_nil]); first | done | rfl | (simp only [List.length_drop, List.length_take]; rfl) | (simp only [Int.mul_one, Int.one_mul, Int.add_zero, Int.zero_add, pxw]; rfl)) ?_; (with_reducible refine (impl_in.calls (a0.size : Int) a1 a2 t234 _ A9.out).mono ?_); rintro e w' ⟨rfl, ⟨nd, rfl⟩⟩; refine ⟨_, rfl, ?_⟩))
        go_ret
        exact ⟨by first | rfl | (simp; done) | (simp [*]; done), by repeat (first | exact Drawn0.refl _ | apply Drawn0.step)⟩
def strconv_Atoi.f (a0 : ByteArray) : Option (Int × Option Int) := if a0.size ≤ 18 then (Go.Lib.atoi a0.data.toList).map fun n => (n, none) else none
theorem strconv_Atoi.calls (a0 : ByteArray) (r1 : Int) (r2 : Option Int) (w : World) (h : strconv_Atoi.f a0 = some (r1, r2)) :
    Calls Tryz.prog 126 #[.string a0] w fun e w' => e = .returned (.tuple #[.int .i64 r1, errW r2]) ∧ Below w.heap.size w w' := by
  unfold strconv_Atoi.f at h
  split at h
  · rename_i hs
    cases e : Go.Lib.atoi a0.data.toList with
    | none => rw [e] at h; cases h
    | some n =>
      rw [e] at h
      simp only [Option.map_some, Option.some.injEq, Prod.mk.injEq] at h
      obtain ⟨rfl, rfl⟩ := h
      refine (Tryz.strconv_Atoi a0 n hs e w).mono ?_
      rintro e w' ⟨rfl, t, rfl⟩
      exact ⟨rfl, bytes_below (Below.refl _ _) (Nat.le_refl _) _ _⟩
  · cases h
end Go.Proofs.YtjdlepjgniokdaaGreatDoor.PA

end
section

namespace Go.Proofs.YtjdlepjgniokdaaGreatDoor.PA
open Go.RowKit Go.Proofs.YtjdlepjgniokdaaGreatDoorW.PrintWords Go.Proofs.YtjdlepjgniokdaaGreatDoorW.PrintLast Go.Proofs.YtjdlepjgniokdaaGreatDoorW.PrintMore
attribute [local go_sem] max2_int min2_int max_two min_two max_three min_three max_four min_four
set_option linter.unusedVariables false
set_option linter.unusedSimpArgs false
def impl_divisor.l0 : Nat → Int → Int → Option (Int)
  | 0, _, _ => none
  | k + 1, x0, x1 => if x1 = 0 then (some x0) else (impl_divisor.l0 k x1 (Int.tmod x0 x1))
def impl_divisor.f (k : Nat) (a0 : Int) (a1 : Int) : Option (Int) := impl_divisor.l0 k a0 a1
set_option maxHeartbeats 8000000 in
set_option maxRecDepth 100000 in
theorem impl_divisor.calls (k : Nat) (a0 : Int) (a1 : Int) (r : Int) (w : World) (h : impl_divisor.f k a0 a1 = some r) :
    Calls Tryz.prog 147 #[.int .i64 a0, .int .i64 a1] w fun e w' => e = .returned (.int .i64 r) ∧ Drawn0 w w' := by
  have H : (impl_divisor.l0 k a0 a1) = some r := h
  clear h
  have H' := Aside0.mk H
  clear H
  go_enter Tryz.func147, Tryz.ntmps147
  go_wp2
  repeat (go_quiet (fail); try go_wp2)
  go_loopg [0, 1] k (fun kq v0 v1 w' => ∃ (x0_1 : Int) (x1_1 : Int), v0 = .int .i64 x0_1 ∧ v1 = .int .i64 x1_1 ∧ Aside0 (impl_divisor.l0 kq x0_1 x1_1 = some r) ∧ Aside0 (kq ≤ k) ∧ Drawn0 w w')
  case atStart => exact ⟨(a0), (a1), (by first | rfl | simp [*]), (by first | rfl | simp [*]), H', ⟨Nat.le_refl _⟩, by repeat (first | exact Drawn0.refl _ | apply Drawn0.step)⟩
  case round =>
    clear H'
    try clear c1
    try clear p2
    obtain ⟨x0_1, x1_1, rfl, rfl, HA, HK1, ⟨m1, rfl⟩⟩ := hrel
    cases gk with
    | zero => exact absurd HA.out (by simp [impl_divisor.l0])
    | succ k1 =>
      have H := HA.out
      clear HA
      simp only [impl_divisor.l0] at H
      by_cases c3 : x1_1 = 0
      · rw [if_pos c3] at H
        have c3b0 : (x1_1 == 0) = true := beq_iff_eq.mpr c3
        have c3b1 : (x1_1 != 0) = false := bne_eq_false_iff_eq.mpr c3
        clear c3
        obtain rfl := Option.some.inj H
        go_wp2
        repeat (go_quiet (fail); try go_wp2)
        go_ret
        exact ⟨by first | rfl | (simp; done) | (simp [*]; done), by repeat (first | exact Drawn0.refl _ | apply Drawn0.step)⟩
      · rw [if_neg c3] at H
        have c3b0 : (x1_1 == 0) = false := beq_eq_false_iff_ne.mpr c3
        have c3b1 : (x1_1 != 0) = true := bne_iff_ne.mpr c3
        have H' := Aside0.mk H
        clear H
        go_wp2
        repeat (go_quiet (fail); try go_wp2)
        go_roundg k1
        case measure => have := HK1.out; omega
        case rel => exact ⟨(x1_1), (Int.tmod x0_1 x1_1), (by first | rfl | simp [*]), (by first | rfl | simp [*]), H', ⟨by have := HK1.out; omega⟩, by repeat (first | exact Drawn0.refl _ | apply Drawn0.step)⟩
def impl_FractionValid.f (k : Nat) (a0_0 : Int) (a0_1 : Int) : Option (Bool) := (impl_in.f a0_0 (-1000000000) 1000000000).bind fun t236 => (if t236 = true then ((impl_in.f a0_1 1 1000000).bind fun t237 => (if t237 = true then ((impl_divisor.f k (mx a0_0 (wrap64 (-a0_0))) a0_1).bind fun t238 => (some (t238 == 1))) else (some false))) else (some false))
set_option maxHeartbeats 8000000 in
set_option maxRecDepth 100000 in
theorem impl_FractionValid.calls (k : Nat) (a0_0 : Int) (a0_1 : Int) (r : Bool) (w : World) (h : impl_FractionValid.f k a0_0 a0_1 = some r) :
    Calls Tryz.prog 140 #[.agg #[.int .i64 a0_0, .int .i64 a0_1]] w fun e w' => e = .returned (.bool r) ∧ Below w.heap.size w w' := by
  have hu76 := Tryz.underlying76
  have HB := Aside0.mk (Below.refl w.heap.size w)
  have H : ((impl_in.f a0_0 (-1000000000) 1000000000).bind fun t236 => (if t236 = true then ((impl_in.f a0_1 1 1000000).bind fun t237 => (if t237 = true then ((impl_divisor.f k (mx a0_0 (wrap64 (-a0_0))) a0_1).bind fun t238 => (some (t238 == 1))) else (some false))) else (some false))) = some r := h
  clear h
  replace H := Option.bind_eq_some_iff.mp H
  obtain ⟨t236, A20, H⟩ := H
  replace H : (if t236 = true then ((impl_in.f a0_1 1 1000000).bind fun t237 => (if t237 = true then ((impl_divisor.f k (mx a0_0 (wrap64 (-a0_0))) a0_1).bind fun t238 => (some (t238 == 1))) else (some false))) else (some false)) = some r := H
  have A2 := Aside0.mk A20
  clear A20
  by_cases c3 : t236 = true
  · subst c3
    have H1 : ((impl_in.f a0_1 1 1000000).bind fun t237 => (if t237 = true then ((impl_divisor.f k (mx a0_0 (wrap64 (-a0_0))) a0_1).bind fun t238 => (some (t238 == 1))) else (some false))) = some r := by rw [if_pos rfl] at H; exact H
    clear H
    have H := H1
    clear H1
    replace H := Option.bind_eq_some_iff.mp H
    obtain ⟨t237, A40, H⟩ := H
    replace H : (if t237 = true then ((impl_divisor.f k (mx a0_0 (wrap64 (-a0_0))) a0_1).bind fun t238 => (some (t238 == 1))) else (some false)) = some r := H
    have A4 := Aside0.mk A40
    clear A40
    by_cases c5 : t237 = true
    · subst c5
      have H1 : ((impl_divisor.f k (mx a0_0 (wrap64 (-a0_0))) a0_1).bind fun t238 => (some (t238 == 1))) = some r := by rw [if_pos rfl] at H; exact H
      clear H
      have H := H1
      clear H1
      obtain ⟨ji6, hji6⟩ : ∃ j_ : Int, (mx a0_0 (wrap64 (-a0_0))) = j_ := ⟨_, rfl⟩
      replace H : ((impl_divisor.f k (ji6) a0_1).bind fun t238 => (some (t238 == 1))) = some r := by first | (rw [hji6] at H; exact H) | (simp only [hji6] at H ⊢; exact H)
      (try rw [hji6] at A2)
      (try rw [hji6] at A4)
      have hji6_ : (if a0_0 < (wrap64 (-a0_0)) then (wrap64 (-a0_0)) else a0_0) = ji6 := hji6
      replace H := Option.bind_eq_some_iff.mp H
      obtain ⟨t238, A70, H⟩ := H
      replace H : (some (t238 == 1)) = some r := H
      have A7 := Aside0.mk A70
      clear A70
      obtain rfl := Option.some.inj H
      go_enter Tryz.func140, Tryz.ntmps140
      go_wp2_with (first | ((with_reducible refine gate_dst (N := 1) rfl ?_); (try (refine gate_guard (by rfl) ?_; dsimp only)); refine box_event ?hg (N := 1) ?hd (cs := #[.int .i64 a0_0, .int .i64 a0_1]) (t := 76) ?hr ?_; (case hd => rfl); (case hg => rfl); (case hr => first | (go_simp; done) | (go_simp; rfl)); intro gb235 hg w8 hbox hb; have n0_ := Aside0.mk (below_step (bl_ HB.out) hb); have n1_ := Aside0.mk (hbox); have n2_ := Aside0.mk ((by rw [hg]; exact (below_size (bl_ HB.out)) : w.heap.size ≤ gb235)); have n3_ := Aside0.mk ((by rw [hg]; exact (below_size (bl_ HB.out)) : w.heap.size ≤ gb235)); clear HB; have HB := n0_; have BK235 := n1_; have GW235 := n2_; have GE235 := n3_; clear n0_ n1_ n2_ n3_; clear hb hbox hg; have hcz9_0 : w8.cell? ⟨gb235, 0, none⟩ = some (.int .i64 a0_0) := (blk_cell BK235.out 0).trans rfl; have hcz9_1 : w8.cell? ⟨gb235, 1, none⟩ = some (.int .i64 a0_1) := (blk_cell BK235.out 1).trans rfl; have hfz9_0 := blk_frozen BK235.out 0; have hfz9_1 := blk_frozen BK235.out 1) | ((with_reducible refine gate_callee (f := 59) rfl ?_); refine goesL_ (some 5) rfl rfl Tryz.func59 (by kernel_rfl) rfl #[.int .i64 a0_0, .int .i64 (-1000000000), .int .i64 1000000000] rfl (by (try simp only [List.map_toArray, List.map_cons, List.map_nil]); first | done | rfl | (simp only [List.length_drop, List.length_take]; rfl) | (simp only [Int.mul_one, Int.one_mul, Int.add_zero, Int.zero_add, pxw]; rfl)) ?_; (with_reducible refine (impl_in.calls a0_0 (-1000000000) 1000000000 true _ A2.out).mono ?_); rintro e w' ⟨rfl, ⟨nd, rfl⟩⟩; refine ⟨_, rfl, ?_⟩) | (go_at_call 59; (with_reducible refine (impl_in.calls a0_1 1 1000000 true _ A4.out).mono ?_); rintro e w' ⟨rfl, ⟨nd, rfl⟩⟩) | (go_at_call 147; (with_reducible refine (impl_divisor.calls k ji6 a0_1 t238 _ A7.out).mono ?_); rintro e w' ⟨rfl, ⟨nd, rfl⟩⟩))
      go_ret
      exact ⟨by first | rfl | (simp [errW_none, errW_some] <;> rfl) | (simp only [← hji6]; first | rfl | (simp [errW_none, errW_some] <;> rfl)) | (simp [*, errW_none, errW_some] <;> rfl), bl_ HB.out⟩
    · replace c5 := Bool.eq_false_iff.mpr c5
      subst c5
      have H1 : (some false) = some r := by rw [if_neg (show ¬ (false = true) by decide)] at H; exact H
      clear H
      have H := H1
      clear H1
      obtain rfl := Option.some.inj H
      go_enter Tryz.func140, Tryz.ntmps140
      go_wp2_with (first | ((with_reducible refine gate_dst (N := 1) rfl ?_); (try (refine gate_guard (by rfl) ?_; dsimp only)); refine box_event ?hg (N := 1) ?hd (cs := #[.int .i64 a0_0, .int .i64 a0_1]) (t := 76) ?hr ?_; (case hd => rfl); (case hg => rfl); (case hr => first | (go_simp; done) | (go_simp; rfl)); intro gb235 hg w10 hbox hb; have n0_ := Aside0.mk (below_step (bl_ HB.out) hb); have n1_ := Aside0.mk (hbox); have n2_ := Aside0.mk ((by rw [hg]; exact (below_size (bl_ HB.out)) : w.heap.size ≤ gb235)); have n3_ := Aside0.mk ((by rw [hg]; exact (below_size (bl_ HB.out)) : w.heap.size ≤ gb235)); clear HB; have HB := n0_; have BK235 := n1_; have GW235 := n2_; have GE235 := n3_; clear n0_ n1_ n2_ n3_; clear hb hbox hg; have hcz11_0 : w10.cell? ⟨gb235, 0, none⟩ = some (.int .i64 a0_0) := (blk_cell BK235.out 0).trans rfl; have hcz11_1 : w10.cell? ⟨gb235, 1, none⟩ = some (.int .i64 a0_1) := (blk_cell BK235.out 1).trans rfl; have hfz11_0 := blk_frozen BK235.out 0; have hfz11_1 := blk_frozen BK235.out 1) | ((with_reducible refine gate_callee (f := 59) rfl ?_); refine goesL_ (some 5) rfl rfl Tryz.func59 (by kernel_rfl) rfl #[.int .i64 a0_0, .int .i64 (-1000000000), .int .i64 1000000000] rfl (by (try simp only [List.map_toArray, List.map_cons, List.map_nil]); first | done | rfl | (simp only [List.length_drop, List.length_take]; rfl) | (simp only [Int.mul_one, Int.one_mul, Int.add_zero, Int.zero_add, pxw]; rfl)) ?_; (with_reducible refine (impl_in.calls a0_0 (-1000000000) 1000000000 true _ A2.out).mono ?_); rintro e w' ⟨rfl, ⟨nd, rfl⟩⟩; refine ⟨_, rfl, ?_⟩) | (go_at_call 59; (with_reducible refine (impl_in.calls a0_1 1 1000000 false _ A4.out).mono ?_); rintro e w' ⟨rfl, ⟨nd, rfl⟩⟩))
      go_ret
      exact ⟨by first | rfl | simp [*], bl_ HB.out⟩
  · replace c3 := Bool.eq_false_iff.mpr c3
    subst c3
    have H1 : (some false) = some r := by rw [if_neg (show ¬ (false = true) by decide)] at H; exact H
    clear H
    have H := H1
    clear H1
    obtain rfl := Option.some.inj H
    go_enter Tryz.func140, Tryz.ntmps140
    go_wp2_with (first | ((with_reducible refine gate_dst (N := 1) rfl ?_); (try (refine gate_guard (by rfl) ?_; dsimp only)); refine box_event ?hg (N := 1) ?hd (cs := #[.int .i64 a0_0, .int .i64 a0_1]) (t := 76) ?hr ?_; (case hd => rfl); (case hg => rfl); (case hr => first | (go_simp; done) | (go_simp; rfl)); intro gb235 hg w12 hbox hb; have n0_ := Aside0.mk (below_step (bl_ HB.out) hb); have n1_ := Aside0.mk (hbox); have n2_ := Aside0.mk ((by rw [hg]; exact (below_size (bl_ HB.out)) : w.heap.size ≤ gb235)); have n3_ := Aside0.mk ((by rw [hg]; exact (below_size (bl_ HB.out)) : w.heap.size ≤ gb235)); clear HB; have HB := n0_; have BK235 := n1_; have GW235 := n2_; have GE235 := n3_; clear n0_ n1_ n2_ n3_; clear hb hbox hg; have hcz13_0 : w12.cell? ⟨gb235, 0, none⟩ = some (.int .i64 a0_0) := (blk_cell BK235.out 0).trans rfl; have hcz13_1 : w12.cell? ⟨gb235, 1, none⟩ = some (.int .i64 a0_1) := (blk_cell BK235.out 1).trans rfl; have hfz13_0 := blk_frozen BK235.out 0; have hfz13_1 := blk_frozen BK235.out 1) | ((with_reducible refine gate_callee (f := 59) rfl ?_); refine goesL_ (some 5) rfl rfl Tryz.func59 (by kernel_rfl) rfl #[.int .i64 a0_0, .int .i64 (-1000000000), .int .i64 1000000000] rfl (by (try simp only [List.map_toArray, List.map_cons, List.map_nil]); first | done | rfl | (simp only [List.length_drop, List.length_take]; rfl) | (simp only [Int.mul_one, Int.one_mul, Int.add_zero, Int.zero_add, pxw]; rfl)) ?_; (with_reducible refine (impl_in.calls a0_0 (-1000000000) 1000000000 false _ A2.out).mono ?_); rintro e w' ⟨rfl, ⟨nd, rfl⟩⟩; refine ⟨_, rfl, ?_⟩))
    go_ret
    exact ⟨by first | rfl | simp [*], bl_ HB.out⟩
end Go.Proofs.YtjdlepjgniokdaaGreatDoor.PA

end
section

namespace Go.Proofs.YtjdlepjgniokdaaGreatDoor.PA
open Go.RowKit Go.Proofs.YtjdlepjgniokdaaGreatDoorW.PrintWords Go.Proofs.YtjdlepjgniokdaaGreatDoorW.PrintLast Go.Proofs.YtjdlepjgniokdaaGreatDoorW.PrintMore
attribute [local go_sem] max2_int min2_int max_two min_two max_three min_three max_four min_four
set_option linter.unusedVariables false
set_option linter.unusedSimpArgs false
def impl_reduced.j0 : Nat → Int → Int → Option (Int × Int × Bool)
  | 0, _, _ => none
  | k + 1, x0, x1 => (impl_divisor.f k (mx x0 (wrap64 (-x0))) x1).bind fun t240 => (if t240 = 0 then (none) else ((impl_FractionValid.f k (wrap64 (Int.tdiv x0 t240)) (wrap64 (Int.tdiv x1 t240))).bind fun t242 => (if t242 = true then (some (wrap64 (Int.tdiv x0 t240), wrap64 (Int.tdiv x1 t240), true)) else (some (0, 0, false)))))
def impl_reduced.f (k : Nat) (a0 : Int) (a1 : Int) : Option (Int × Int × Bool) := if a1 < 0 then (impl_reduced.j0 k (wrap64 (-a0)) (wrap64 (-a1))) else (impl_reduced.j0 k a0 a1)
def impl_reduced.T4 : Bool × List (List Nat × List Nat) := (true, [([], []), ([], []), ([0, 1], [0, 1]), ([], []), ([], []), ([3, 4], [3, 4]), ([2, 5], [2, 5]), ([], []), ([7, 6, 0, 1, 2, 3, 4, 5, 6, 7], [6, 7])])
def impl_reduced.B4 : List Nat := [0, 0, 3, 0, 0, 24, 63, 0, 255]
theorem impl_reduced.tab4 : rtab .any (opsOf Tryz.f136 4) = impl_reduced.T4 := by kernel_rfl
theorem impl_reduced.bits4 : waitsOk impl_reduced.T4.2 impl_reduced.B4 = true := by kernel_rfl
set_option maxHeartbeats 8000000 in
set_option maxRecDepth 100000 in
theorem impl_reduced.calls (k : Nat) (a0 : Int) (a1 : Int) (r1 : Int) (r2 : Int) (r3 : Bool) (w : World) (h : impl_reduced.f k a0 a1 = some (r1, r2, r3)) :
    Calls Tryz.prog 136 #[.int .i64 a0, .int .i64 a1] w fun e w' => e = .returned (.tuple #[.agg #[.int .i64 r1, .int .i64 r2], .bool r3]) ∧ Below w.heap.size w w' := by
  have hu76 := Tryz.underlying76
  have HB := Aside0.mk (Below.refl w.heap.size w)
  have H : (if a1 < 0 then (impl_reduced.j0 k (wrap64 (-a0)) (wrap64 (-a1))) else (impl_reduced.j0 k a0 a1)) = some (r1, r2, r3) := h
  clear h
  have HC3 := Aside0.mk H
  clear H
  go_enter Tryz.func136, Tryz.ntmps136
  go_upto_if 9 with (first | ((with_reducible refine gate_dst (N := 4) rfl ?_); refine box_event ?hg (N := 4) ?hd (cs := #[.int .i64 0, .int .i64 0]) (t := 76) ?hr ?_; (case hd => rfl); (case hg => rfl); (case hr => first | (go_simp; done) | (go_simp; rfl)); intro gb239 hg w4 hbox hb; have n0_ := Aside0.mk (below_step (by repeat (first | (with_reducible first | exact HB.out | apply below_alloc | apply pw_below_drewN | apply below_drew1) | exact HB.out)) hb); have n1_ := Aside0.mk (hbox); have n2_ := Aside0.mk ((by rw [hg]; exact (below_size (by repeat (first | (with_reducible first | exact HB.out | apply below_alloc | apply pw_below_drewN | apply below_drew1) | exact HB.out))) : w.heap.size ≤ gb239)); have n3_ := Aside0.mk ((by rw [hg]; exact (below_size (by repeat (first | (with_reducible first | exact HB.out | apply below_alloc | apply pw_below_drewN | apply below_drew1) | exact HB.out))) : w.heap.size ≤ gb239)); clear HB; have HB := n0_; have BK239 := n1_; have GW239 := n2_; have GE239 := n3_; clear n0_ n1_ n2_ n3_; clear hb hbox hg))
  (try simp only [Act.put, List.setIfInBounds_toArray, List.set_cons_zero, List.set_cons_succ])
  go_cut [0, 1] (fun v0 v1 wc => ∃ (kq : Nat) (x0_2 : Int) (x1_2 : Int), v0 = .int .i64 x0_2 ∧ v1 = .int .i64 x1_2 ∧ Aside0 (impl_reduced.j0 kq x0_2 x1_2 = some (r1, r2, r3)) ∧ Aside0 (kq ≤ k) ∧ Aside0 (wc.heap[gb239]? = some (.cells #[.int .i64 0, .int .i64 0] 76 (0, 0))) ∧ Aside0 (Below w.heap.size w wc))
  case first =>
    have H := HC3.out
    clear HC3
    by_cases c5 : a1 < 0
    · rw [if_pos c5] at H
      have c5b0 : decide (a1 < 0) = true := decide_eq_true c5
      clear c5
      (first | rw [c5b0] | (simp only [i64_w, i32_w]; rw [c5b0]) | skip)
      have H' := Aside0.mk H
      clear H
      go_wp2
      go_meet
      case rel => exact ⟨_, (wrap64 (-a0)), (wrap64 (-a1)), (by first | rfl | (simp; done) | (simp [*]; done)), (by first | rfl | (simp; done) | (simp [*]; done)), H', ⟨by first | omega | exact Nat.le_refl _⟩, ⟨by (with_reducible repeat (first | refine blk_drewN ?_ _ | refine blk_drew ?_ | refine blk_alloc ?_ _)); exact BK239.out⟩, ⟨by repeat (first | (with_reducible first | exact HB.out | apply below_alloc | apply pw_below_drewN | apply below_drew1 | refine below_set ?_ GE239.out) | exact HB.out)⟩⟩
    · rw [if_neg c5] at H
      have c5b0 : decide (a1 < 0) = false := decide_eq_false c5
      clear c5
      (first | rw [c5b0] | (simp only [i64_w, i32_w]; rw [c5b0]) | skip)
      have H' := Aside0.mk H
      clear H
      go_wp2
      go_meet
      case rel => exact ⟨_, (a0), (a1), (by first | rfl | (simp; done) | (simp [*]; done)), (by first | rfl | (simp; done) | (simp [*]; done)), H', ⟨by first | omega | exact Nat.le_refl _⟩, ⟨by (with_reducible repeat (first | refine blk_drewN ?_ _ | refine blk_drew ?_ | refine blk_alloc ?_ _)); exact BK239.out⟩, ⟨by repeat (first | (with_reducible first | exact HB.out | apply below_alloc | apply pw_below_drewN | apply below_drew1 | refine below_set ?_ GE239.out) | exact HB.out)⟩⟩
  case rest =>
    clear HC3
    try clear c1
    try clear p2
    try clear c5
    try clear c5b0
    obtain ⟨kq, x0_2, x1_2, rfl, rfl, HA, HJ2, BK239, HB⟩ := hcut
    cases kq with
    | zero => exact absurd HA.out (by simp [impl_reduced.j0])
    | succ kj2 =>
      have H := HA.out
      clear HA
      simp only [impl_reduced.j0] at H
      obtain ⟨ji6, hji6⟩ : ∃ j_ : Int, (mx x0_2 (wrap64 (-x0_2))) = j_ := ⟨_, rfl⟩
      replace H : ((impl_divisor.f kj2 (ji6) x1_2).bind fun t240 => (if t240 = 0 then (none) else ((impl_FractionValid.f kj2 (wrap64 (Int.tdiv x0_2 t240)) (wrap64 (Int.tdiv x1_2 t240))).bind fun t242 => (if t242 = true then (some (wrap64 (Int.tdiv x0_2 t240), wrap64 (Int.tdiv x1_2 t240), true)) else (some (0, 0, false)))))) = some (r1, r2, r3) := by first | (rw [hji6] at H; exact H) | (simp only [hji6] at H ⊢; exact H)
      have hji6_ : (if x0_2 < (wrap64 (-x0_2)) then (wrap64 (-x0_2)) else x0_2) = ji6 := hji6
      replace H := Option.bind_eq_some_iff.mp H
      obtain ⟨t240, A70, H⟩ := H
      replace H : (if t240 = 0 then (none) else ((impl_FractionValid.f kj2 (wrap64 (Int.tdiv x0_2 t240)) (wrap64 (Int.tdiv x1_2 t240))).bind fun t242 => (if t242 = true then (some (wrap64 (Int.tdiv x0_2 t240), wrap64 (Int.tdiv x1_2 t240), true)) else (some (0, 0, false))))) = some (r1, r2, r3) := H
      have A7 := Aside0.mk A70
      clear A70
      by_cases c8 : t240 = 0
      · rw [if_pos c8] at H
        exact absurd H (by simp)
      · rw [if_neg c8] at H
        have c8b0 : (t240 == 0) = false := beq_eq_false_iff_ne.mpr c8
        have c8b1 : (t240 != 0) = true := bne_iff_ne.mpr c8
        replace H := Option.bind_eq_some_iff.mp H
        obtain ⟨t242, A90, H⟩ := H
        replace H : (if t242 = true then (some (wrap64 (Int.tdiv x0_2 t240), wrap64 (Int.tdiv x1_2 t240), true)) else (some (0, 0, false))) = some (r1, r2, r3) := H
        have A9 := Aside0.mk A90
        clear A90
        have HU_ := Aside0.mk H
        clear H
        try go_wp2_with (first | ((with_reducible refine gate_callee (f := 147) rfl ?_); refine goesL_ (some 19) rfl rfl Tryz.func147 (by kernel_rfl) rfl #[.int .i64 ji6, .int .i64 x1_2] rfl (by (try simp only [List.map_toArray, List.map_cons, List.map_nil]); first | done | (simp only [hji6]; rfl) | rfl | (simp only [List.length_drop, List.length_take]; rfl) | (simp only [Int.mul_one, Int.one_mul, Int.add_zero, Int.zero_add, pxw]; rfl)) ?_; (with_reducible refine (impl_divisor.calls kj2 ji6 x1_2 t240 _ A7.out).mono ?_); rintro e w' ⟨rfl, ⟨nd, rfl⟩⟩; refine ⟨_, rfl, ?_⟩; (try (rw [drewN_self wc]; generalize hq_ : World.drewN wc _ = wc; have n0_ : Aside0 (wc.heap[gb239]? = some (.cells #[.int .i64 0, .int .i64 0] 76 (0, 0))) := ⟨by rw [← hq_]; exact (by (with_reducible repeat (first | refine blk_drewN ?_ _ | refine blk_drew ?_ | refine blk_alloc ?_ _)); exact BK239.out)⟩; have n1_ : Aside0 (Below w.heap.size w wc) := ⟨by rw [← hq_]; exact (by repeat (first | (with_reducible first | exact HB.out | apply below_alloc | apply pw_below_drewN | apply below_drew1 | refine below_set ?_ GE239.out) | exact HB.out))⟩; clear BK239 HB hq_; have BK239 := n0_; have HB := n1_; clear n0_ n1_))))
        have n0_ := Aside0.mk (blk_drew BK239.out)
        have n1_ := Aside0.mk (below_drew1 HB.out)
        clear BK239
        clear HB
        have BK239 := n0_
        have HB := n1_
        clear n0_ n1_
        refine start_ (n := 9) (S := fun w' => True) (ds := []) #[false, false, false, false, false, false, false, false, false] (by kernel_rfl) rfl rfl trivial (fun hHeld => ?_); refine with_tabW impl_reduced.tab4 impl_reduced.bits4 (fun HT_ HW_ => ?_)
        generalize wc.drew = w10 at BK239 HB hHeld ⊢
        refine pure_ (i := 0) (N := some 20) (v := ?_) (a' := ?_) #[true, false, false, false, false, false, false, false, false] rfl rfl (any_of HT_.out (by kernel_rfl)) (fun _ _ _ h => h) (Or.inl ⟨by rfl, ?_⟩) ?_ ?_
        rotate_left
        · intro w'
          go_simp
          with_reducible rfl
        rotate_left
        · simp only [Act.put, List.setIfInBounds_toArray, List.set_cons_zero, List.set_cons_succ, i64_w, i32_w]
          rfl
        refine pure_ (i := 1) (N := some 21) (v := ?_) (a' := ?_) #[true, true, false, false, false, false, false, false, false] rfl rfl (any_of HT_.out (by kernel_rfl)) (fun _ _ _ h => h) (Or.inl ⟨by rfl, ?_⟩) ?_ ?_
        rotate_left
        · intro w'
          go_simp
          with_reducible rfl
        rotate_left
        · simp only [Act.put, List.setIfInBounds_toArray, List.set_cons_zero, List.set_cons_succ, i64_w, i32_w]
          rfl
        refine pure_ (i := 2) (N := some 22) (v := ?_) (a' := ?_) #[true, true, true, false, false, false, false, false, false] rfl rfl (any_of HT_.out (by kernel_rfl)) (fun _ _ _ h => h) (Or.inl ⟨by rfl, ?_⟩) ?_ ?_
        rotate_left
        · intro w'
          go_simp
          with_reducible rfl
        rotate_left
        · simp only [Act.put, List.setIfInBounds_toArray, List.set_cons_zero, List.set_cons_succ, i64_w, i32_w]
          rfl
        refine pure_ (i := 3) (N := some 23) (v := ?_) (a' := ?_) #[true, true, true, true, false, false, false, false, false] rfl rfl (any_of HT_.out (by kernel_rfl)) (fun _ _ _ h => h) (Or.inl ⟨by rfl, ?_⟩) ?_ ?_
        rotate_left
        · intro w'
          go_simp
          with_reducible rfl
        rotate_left
        · simp only [Act.put, List.setIfInBounds_toArray, List.set_cons_zero, List.set_cons_succ, i64_w, i32_w]
          rfl
        refine pure_ (i := 4) (N := some 24) (v := ?_) (a' := ?_) #[true, true, true, true, true, false, false, false, false] rfl rfl (any_of HT_.out (by kernel_rfl)) (fun _ _ _ h => h) (Or.inl ⟨by rfl, ?_⟩) ?_ ?_
        rotate_left
        · intro w'
          go_simp
          with_reducible rfl
        rotate_left
        · simp only [Act.put, List.setIfInBounds_toArray, List.set_cons_zero, List.set_cons_succ, i64_w, i32_w]
          rfl
        refine pure_ (i := 5) (N := some 25) (v := ?_) (a' := ?_) #[true, true, true, true, true, true, false, false, false] rfl rfl (any_of HT_.out (by kernel_rfl)) (fun _ _ _ h => h) (Or.inl ⟨by rfl, ?_⟩) ?_ ?_
        rotate_left
        · intro w'
          go_simp
          with_reducible rfl
        rotate_left
        · simp only [Act.put, List.setIfInBounds_toArray, List.set_cons_zero, List.set_cons_succ, i64_w, i32_w]
          rfl
        refine pure_ (i := 6) (N := some 26) (v := ?_) (a' := ?_) #[true, true, true, true, true, true, true, false, false] rfl rfl (any_of HT_.out (by kernel_rfl)) (fun _ _ _ h => h) (Or.inl ⟨by rfl, ?_⟩) ?_ ?_
        rotate_left
        · intro w'
          go_simp
          with_reducible rfl
        rotate_left
        · simp only [Act.put, List.setIfInBounds_toArray, List.set_cons_zero, List.set_cons_succ, i64_w, i32_w]
          rfl
        refine one_ (i := 7) (N := some 7) #[true, true, true, true, true, true, true, true, false] rfl rfl (one_of HT_.out (by kernel_rfl)) (by decide) (fun K hK => ?_)
        refine box_step ?hg (N := 7) ?hd (cs := #[.int .i64 0, .int .i64 0]) (t := 76) ?hr ?_; (case hd => rfl); (case hg => rfl); (case hr => first | (go_simp; done) | (go_simp; rfl))
        intro gb241 hg w11 hbox hb
        have n0_ := Aside0.mk (blk_below (g := gb239) (o := .cells #[.int .i64 0, .int .i64 0] 76 (0, 0)) (by (with_reducible repeat (first | refine blk_drewN ?_ _ | refine blk_drew ?_ | refine blk_alloc ?_ _)); exact BK239.out) hb)
        have n1_ := Aside0.mk (below_step (by repeat (first | (with_reducible first | exact HB.out | apply below_alloc | apply pw_below_drewN | apply below_drew1 | refine below_set ?_ GE239.out) | exact HB.out)) hb)
        have n2_ := Aside0.mk (hbox)
        have n3_ := Aside0.mk ((by rw [hg]; exact (below_size (by repeat (first | (with_reducible first | exact HB.out | apply below_alloc | apply pw_below_drewN | apply below_drew1 | refine below_set ?_ GE239.out) | exact HB.out))) : w.heap.size ≤ gb241))
        have n4_ := Aside0.mk ((by rw [hg]; exact (below_size (by repeat (first | (with_reducible first | exact HB.out | apply below_alloc | apply pw_below_drewN | apply below_drew1 | refine below_set ?_ GE239.out) | exact HB.out))) : w.heap.size ≤ gb241))
        have n5_ := Aside0.mk ((by rw [hg]; exact Nat.ne_of_lt (blk_lt (g := gb239) (o := .cells #[.int .i64 0, .int .i64 0] 76 (0, 0)) (by (with_reducible repeat (first | refine blk_drewN ?_ _ | refine blk_drew ?_ | refine blk_alloc ?_ _)); exact BK239.out)) : gb239 ≠ gb241))
        have n6_ := Aside0.mk ((by rw [hg]; exact Nat.ne_of_gt (blk_lt (g := gb239) (o := .cells #[.int .i64 0, .int .i64 0] 76 (0, 0)) (by (with_reducible repeat (first | refine blk_drewN ?_ _ | refine blk_drew ?_ | refine blk_alloc ?_ _)); exact BK239.out)) : gb241 ≠ gb239))
        clear BK239
        clear HB
        have BK239 := n0_
        have HB := n1_
        have BK241 := n2_
        have GW241 := n3_
        have GE241 := n4_
        have NB239_241 := n5_
        have NB241_239 := n6_
        clear n0_ n1_ n2_ n3_ n4_ n5_ n6_
        clear hb hbox hg
        refine hK.out _ _ trivial (fun hHeld => ?_)
        clear hK K
        refine norm_ (a' := ?_) ?_ ?_
        rotate_left
        · show Act.put _ (some 7) _ = _
          simp only [Act.put, List.setIfInBounds_toArray, List.set_cons_zero, List.set_cons_succ, i64_w, i32_w]
          rfl
        refine one_ (i := 8) (N := none) #[true, true, true, true, true, true, true, true, true] rfl rfl (one_of HT_.out (by kernel_rfl)) (by decide) (fun K hK => ?_)
        have hs12 : w11.cell? ⟨gb241, 0, none⟩ = some (.int .i64 0) := (blk_cell BK241.out 0).trans rfl
        have hfs12 := blk_frozen BK241.out 0
        have hns12_0 := NB239_241.out
        have hms12_0 := NB241_239.out
        have hs13 : w11.cell? ⟨gb241, 1, none⟩ = some (.int .i64 0) := (blk_cell BK241.out 1).trans rfl
        have hfs13 := blk_frozen BK241.out 1
        have hns13_0 := NB239_241.out
        have hms13_0 := NB241_239.out
        refine skip_ (w1 := ?_) (by rfl) rfl ?_ ?_
        rotate_left
        · go_simp
          rfl
        refine hK.out _ _ trivial (fun hHeld => ?_)
        clear hK K
        refine done_ (done_of HT_.out (by kernel_rfl)) ?_
        have hnb14 := NB241_239.out
        have hnc14 := NB239_241.out
        have hcz15_0 : w11.cell? ⟨gb241, 0, none⟩ = some (.int .i64 0) := (blk_cell BK241.out 0).trans rfl
        have hcz15_1 : w11.cell? ⟨gb241, 1, none⟩ = some (.int .i64 0) := (blk_cell BK241.out 1).trans rfl
        have hfz15_0 := blk_frozen BK241.out 0
        have hfz15_1 := blk_frozen BK241.out 1
        go_upto_if 29 with (first | ((with_reducible refine gate_callee (f := 140) rfl ?_); refine goesL_ (some 28) rfl rfl Tryz.func140 (by kernel_rfl) rfl #[.agg #[.int .i64 (wrap64 (Int.tdiv x0_2 t240)), .int .i64 (wrap64 (Int.tdiv x1_2 t240))]] rfl (by (try simp only [List.map_toArray, List.map_cons, List.map_nil]); first | done | rfl | (simp only [List.length_drop, List.length_take]; rfl) | (simp only [Int.mul_one, Int.one_mul, Int.add_zero, Int.zero_add, pxw]; rfl)) ?_; (with_reducible refine (impl_FractionValid.calls kj2 (wrap64 (Int.tdiv x0_2 t240)) (wrap64 (Int.tdiv x1_2 t240)) t242 _ A9.out).mono ?_); rintro e w16 ⟨rfl, hb⟩; refine ⟨_, rfl, ?_⟩; have n0_ := Aside0.mk (blk_below (g := gb239) (o := .cells #[.int .i64 0, .int .i64 0] 76 (0, 0)) (by (with_reducible repeat (first | refine blk_drewN ?_ _ | refine blk_drew ?_ | refine blk_alloc ?_ _)); refine blk_far ?_ NB239_241.out _; (with_reducible repeat (first | refine blk_drewN ?_ _ | refine blk_drew ?_ | refine blk_alloc ?_ _)); refine blk_far ?_ NB239_241.out _; (with_reducible repeat (first | refine blk_drewN ?_ _ | refine blk_drew ?_ | refine blk_alloc ?_ _)); exact BK239.out) hb); have n1_ := Aside0.mk (blk_below (g := gb241) (o := .cells #[.int .i64 (wrap64 (Int.tdiv x0_2 t240)), .int .i64 (wrap64 (Int.tdiv x1_2 t240))] 76 (0, 0)) (by (with_reducible repeat (first | refine blk_drewN ?_ _ | refine blk_drew ?_ | refine blk_alloc ?_ _)); refine blk_put (cs := #[.int .i64 (wrap64 (Int.tdiv x0_2 t240)), .int .i64 0]) ?_ 1 _ rfl; (with_reducible repeat (first | refine blk_drewN ?_ _ | refine blk_drew ?_ | refine blk_alloc ?_ _)); refine blk_put (cs := #[.int .i64 0, .int .i64 0]) ?_ 0 _ rfl; (with_reducible repeat (first | refine blk_drewN ?_ _ | refine blk_drew ?_ | refine blk_alloc ?_ _)); exact BK241.out) hb); have n2_ := Aside0.mk (below_step (by repeat (first | (with_reducible first | exact HB.out | apply below_alloc | apply pw_below_drewN | apply below_drew1 | refine below_set ?_ GE239.out | refine below_set ?_ GE241.out) | exact HB.out)) hb); clear BK239; clear BK241; clear HB; have BK239 := n0_; have BK241 := n1_; have HB := n2_; clear n0_ n1_ n2_; (try clear hb); (try clear hb2); (try clear hk); (try clear hi)))
        (try simp only [Act.put, List.setIfInBounds_toArray, List.set_cons_zero, List.set_cons_succ])
        have H := HU_.out
        clear HU_
        by_cases c17 : t242 = true
        · subst c17
          have H1 : (some (wrap64 (Int.tdiv x0_2 t240), wrap64 (Int.tdiv x1_2 t240), true)) = some (r1, r2, r3) := by rw [if_pos rfl] at H; exact H
          clear H
          have H := H1
          clear H1
          simp only [Option.some.injEq, Prod.mk.injEq] at H
          obtain ⟨rfl, rfl, rfl⟩ := H
          have hnb18 := NB241_239.out
          have hnc18 := NB239_241.out
          have hcz19_0 : w16.cell? ⟨gb241, 0, none⟩ = some (.int .i64 (wrap64 (Int.tdiv x0_2 t240))) := (blk_cell BK241.out 0).trans rfl
          have hcz19_1 : w16.cell? ⟨gb241, 1, none⟩ = some (.int .i64 (wrap64 (Int.tdiv x1_2 t240))) := (blk_cell BK241.out 1).trans rfl
          have hfz19_0 := blk_frozen BK241.out 0
          have hfz19_1 := blk_frozen BK241.out 1
          have hcz20_0 : w16.cell? ⟨gb239, 0, none⟩ = some (.int .i64 0) := (blk_cell BK239.out 0).trans rfl
          have hcz20_1 : w16.cell? ⟨gb239, 1, none⟩ = some (.int .i64 0) := (blk_cell BK239.out 1).trans rfl
          have hfz20_0 := blk_frozen BK239.out 0
          have hfz20_1 := blk_frozen BK239.out 1
          go_wp2
          refine bodyPost_ret (results_ct rfl _ _ gb239 76 #[.int .i64 (wrap64 (Int.tdiv x0_2 t240)), .int .i64 (wrap64 (Int.tdiv x1_2 t240))] (0, 0) _ rfl (by (with_reducible repeat (first | refine blk_drewN ?_ _ | refine blk_drew ?_ | refine blk_alloc ?_ _)); refine blk_put (cs := #[.int .i64 (wrap64 (Int.tdiv x0_2 t240)), .int .i64 0]) ?_ 1 _ rfl; (with_reducible repeat (first | refine blk_drewN ?_ _ | refine blk_drew ?_ | refine blk_alloc ?_ _)); refine blk_put (cs := #[.int .i64 0, .int .i64 0]) ?_ 0 _ rfl; (with_reducible repeat (first | refine blk_drewN ?_ _ | refine blk_drew ?_ | refine blk_alloc ?_ _)); exact BK239.out) Tryz.underlying76 rfl (by kernel_rfl)) rfl ?_
          exact ⟨by first | rfl | (simp [errW_none, errW_some] <;> rfl) | (simp only [← hji6]; first | rfl | (simp [errW_none, errW_some] <;> rfl)) | (simp [*, errW_none, errW_some] <;> rfl), by repeat (first | (with_reducible first | exact HB.out | apply below_alloc | apply pw_below_drewN | apply below_drew1 | refine below_set ?_ GE239.out | refine below_set ?_ GE241.out) | exact HB.out)⟩
        · replace c17 := Bool.eq_false_iff.mpr c17
          subst c17
          have H1 : (some (0, 0, false)) = some (r1, r2, r3) := by rw [if_neg (show ¬ (false = true) by decide)] at H; exact H
          clear H
          have H := H1
          clear H1
          simp only [Option.some.injEq, Prod.mk.injEq] at H
          obtain ⟨rfl, rfl, rfl⟩ := H
          have hnb21 := NB239_241.out
          have hnc21 := NB241_239.out
          have hcz22_0 : w16.cell? ⟨gb239, 0, none⟩ = some (.int .i64 0) := (blk_cell BK239.out 0).trans rfl
          have hcz22_1 : w16.cell? ⟨gb239, 1, none⟩ = some (.int .i64 0) := (blk_cell BK239.out 1).trans rfl
          have hfz22_0 := blk_frozen BK239.out 0
          have hfz22_1 := blk_frozen BK239.out 1
          go_wp2
          refine bodyPost_ret (results_ct rfl _ _ gb239 76 #[.int .i64 0, .int .i64 0] (0, 0) _ rfl (by (with_reducible repeat (first | refine blk_drewN ?_ _ | refine blk_drew ?_ | refine blk_alloc ?_ _)); refine blk_put (cs := #[.int .i64 0, .int .i64 0]) ?_ 1 _ rfl; (with_reducible repeat (first | refine blk_drewN ?_ _ | refine blk_drew ?_ | refine blk_alloc ?_ _)); refine blk_put (cs := #[.int .i64 0, .int .i64 0]) ?_ 0 _ rfl; (with_reducible repeat (first | refine blk_drewN ?_ _ | refine blk_drew ?_ | refine blk_alloc ?_ _)); exact BK239.out) Tryz.underlying76 rfl (by kernel_rfl)) rfl ?_
          exact ⟨by first | rfl | (simp [errW_none, errW_some] <;> rfl) | (simp only [← hji6]; first | rfl | (simp [errW_none, errW_some] <;> rfl)) | (simp [*, errW_none, errW_some] <;> rfl), by repeat (first | (with_reducible first | exact HB.out | apply below_alloc | apply pw_below_drewN | apply below_drew1 | refine below_set ?_ GE239.out | refine below_set ?_ GE241.out) | exact HB.out)⟩
end Go.Proofs.YtjdlepjgniokdaaGreatDoor.PA

end
section

namespace Go.Proofs.YtjdlepjgniokdaaGreatDoor.PA
open Go.RowKit Go.Proofs.YtjdlepjgniokdaaGreatDoorW.PrintWords Go.Proofs.YtjdlepjgniokdaaGreatDoorW.PrintLast Go.Proofs.YtjdlepjgniokdaaGreatDoorW.PrintMore
attribute [local go_sem] max2_int min2_int max_two min_two max_three min_three max_four min_four
set_option linter.unusedVariables false
set_option linter.unusedSimpArgs false
def tens : Nat → Int
  | 0 => 1
  | n + 1 => 10 * tens n
def impl_DecimalOf.rest (k : Nat) (w0 w1 : ByteArray) : Option (Int × Int × Bool) :=
  if w0.size + w1.size ≤ 18 ∧ w1.data.toList.all (· < 128) = true then (strconv_Atoi.f (w0 ++ w1)).bind fun t => impl_reduced.f k t.1 (tens w1.size) else none
def impl_DecimalOf.f (k : Nat) (a0 : ByteArray) : Option (Int × Int × Bool) :=
  (strings_Cut.f a0 (⟨#[46]⟩ : ByteArray)).bind fun c => (impl_digits.f k c.1 1 10).bind fun d =>
    if d = true then (if c.2.2 = true then ((impl_digits.f k c.2.1 1 6).bind fun e => if e = true then impl_DecimalOf.rest k c.1 c.2.1 else some (0, 0, false)) else impl_DecimalOf.rest k c.1 c.2.1) else some (0, 0, false)
theorem tens_at (n : Nat) : tens (n + 1) = 10 * tens n := rfl
theorem tens_pos : ∀ n, n ≤ 18 → 1 ≤ tens n ∧ tens n ≤ 1000000000000000000
  | n, h => by
    have : n = 0 ∨ n = 1 ∨ n = 2 ∨ n = 3 ∨ n = 4 ∨ n = 5 ∨ n = 6 ∨ n = 7 ∨ n = 8 ∨ n = 9 ∨ n = 10 ∨ n = 11 ∨ n = 12 ∨ n = 13 ∨ n = 14 ∨ n = 15 ∨ n = 16 ∨ n = 17 ∨ n = 18 := by omega
    rcases this with rfl | rfl | rfl | rfl | rfl | rfl | rfl | rfl | rfl | rfl | rfl | rfl | rfl | rfl | rfl | rfl | rfl | rfl | rfl <;> decide
theorem ascii_at (s : ByteArray) (h : s.data.toList.all (· < 128) = true) (i : Nat) (hi : i < s.size) : (s[i]'hi).toNat < 128 := by
  have := List.all_eq_true.1 h (s[i]'hi) (by simp [ByteArray.getElem_eq_getElem_data])
  simpa [UInt8.lt_iff_toNat_lt] using this
set_option maxHeartbeats 8000000 in
set_option maxRecDepth 100000 in
theorem impl_DecimalOf.rest_calls (k : Nat) (a0 c0 c1 : ByteArray) (c2 d2 : Bool) (r1 : Int) (r2 : Int) (r3 : Bool) (w : World)
    (A1 : Aside0 (strings_Cut.f a0 (⟨#[46]⟩ : ByteArray) = some (c0, c1, c2))) (A2 : Aside0 (impl_digits.f k c0 1 10 = some true)) (A3 : Aside0 (c2 = true → impl_digits.f k c1 1 6 = some true)) (h : impl_DecimalOf.rest k c0 c1 = some (r1, r2, r3)) :
    Calls Tryz.prog 123 #[.string a0] w fun e w' => e = .returned (.tuple #[.agg #[.int .i64 r1, .int .i64 r2], .bool r3]) ∧ Below w.heap.size w w' := by
  unfold impl_DecimalOf.rest at h
  by_cases hc : c0.size + c1.size ≤ 18 ∧ c1.data.toList.all (· < 128) = true
  · rw [if_pos hc] at h
    obtain ⟨⟨t1, t2⟩, A40, h⟩ := Option.bind_eq_some_iff.mp h
    have A4 := Aside0.mk A40
    have A5 := Aside0.mk (show impl_reduced.f k t1 (tens c1.size) = some (r1, r2, r3) from h)
    have HC := Aside0.mk hc
    have hcat : (c0 ++ c1).size ≤ 9223372036854775807 := by rw [ByteArray.size_append]; omega
    have hcat2 : c0.size + c1.size ≤ 9223372036854775807 := by omega
    have hcat3 : (9223372036854775807 < c0.size + c1.size) = False := eq_false (by omega)
    have hu := Tryz.underlying76
    clear h A40 hc
    cases c2
    all_goals
      try have A6 := Aside0.mk (A3.out rfl)
      clear A3
      go_enter Tryz.func123, Tryz.ntmps123
      go_wp2_with (first
        | ((with_reducible refine gate_dst (N := 2) rfl ?_); refine box_event ?hg (N := 2) ?hd (cs := #[.int .i64 0, .int .i64 0]) (t := 76) ?hr ?_; (case hd => rfl); (case hg => rfl); (case hr => first | (go_simp; done) | (go_simp; rfl)); intro gb hg w4 hbox hb; have HB := Aside0.mk (below_step (Below.refl _ _) hb); have BK := Aside0.mk hbox; have GE := Aside0.mk ((by rw [hg]; exact Nat.le_refl _) : w.heap.size ≤ gb); clear hb hbox hg)
        | (go_at_call 124; (with_reducible refine (strings_Cut.calls a0 (⟨#[46]⟩ : ByteArray) c0 c1 _ _ A1.out).mono ?_); rintro e w' ⟨rfl, ⟨nd, rfl⟩⟩)
        | (go_at_call 125; (with_reducible refine (impl_digits.calls k c0 1 10 true _ A2.out).mono ?_); rintro e w' ⟨rfl, ⟨nd, rfl⟩⟩)
        | (go_at_call 125; (with_reducible refine (impl_digits.calls k c1 1 6 true _ A6.out).mono ?_); rintro e w' ⟨rfl, ⟨nd, rfl⟩⟩)
        | (go_at_call 126; (with_reducible refine (strconv_Atoi.calls (c0 ++ c1) t1 t2 _ A4.out).mono ?_); rintro e w5 ⟨rfl, hb⟩; have BK1 := Aside0.mk (blk_below (g := gb) (o := .cells #[.int .i64 0, .int .i64 0] 76 (0, 0)) (kl_ BK.out) hb); have HB1 := Aside0.mk (below_step (bl_ HB.out) hb); clear BK HB hb))
      go_loopw [9] (fun n w' => ∃ (pos : Nat), pos ≤ c1.size ∧ w' = World.iter w5 c1 pos ∧ n = .int .i64 (tens pos)) (fun _ w' => c1.size - w'.iterPos w5.heap.size)
      case atStart => exact ⟨0, Nat.zero_le _, rfl, rfl⟩
      case round =>
        obtain ⟨pos, hpos, rfl, rfl⟩ := hrel
        by_cases hp : pos < c1.size
        · have hnx : ∀ ty, (Instr.next (.pointer (some ⟨w5.heap.size, 0, none⟩)) true ty).run Tryz.prog (World.iter w5 c1 pos) = _ := fun ty => run_next_ascii w5 c1 pos ty hp (ascii_at c1 HC.out.2 pos hp)
          have ht := tens_pos (pos + 1) (by have := HC.out.1; omega)
          have HT := Aside0.mk (tens_at pos)
          go_wp2
          go_roundw
          case rel => exact ⟨pos + 1, by omega, rfl, by rw [HT.out] at ht ⊢; rw [show tens pos * 10 = 10 * tens pos from Int.mul_comm _ _]; simp only [wrap64]; congr 1; omega⟩
          case measure => simp; omega
        · have hnx : ∀ ty, (Instr.next (.pointer (some ⟨w5.heap.size, 0, none⟩)) true ty).run Tryz.prog (World.iter w5 c1 pos) = _ := fun ty => run_next_end w5 c1 pos ty hp
          obtain rfl : pos = c1.size := by omega
          go_wp2_with (go_at_call 136; (with_reducible refine (impl_reduced.calls k t1 (tens c1.size) r1 r2 r3 _ A5.out).mono ?_); rintro e w6 ⟨rfl, hb⟩; have BK2 := Aside0.mk (blk_below (g := gb) (o := .cells #[.int .i64 0, .int .i64 0] 76 (0, 0)) (blk_alloc BK1.out (.stringIter c1 c1.size)) hb); have HB2 := Aside0.mk (below_step (below_alloc HB1.out (.stringIter c1 c1.size)) hb); clear BK1 HB1 hb; have hcz0 : w6.cell? ⟨gb, 0, none⟩ = some (.int .i64 0) := (blk_cell BK2.out 0).trans rfl; have hcz1 : w6.cell? ⟨gb, 1, none⟩ = some (.int .i64 0) := (blk_cell BK2.out 1).trans rfl; have hfz0 := blk_frozen BK2.out 0; have hfz1 := blk_frozen BK2.out 1)
          refine bodyPost_ret (results_ct rfl _ _ gb 76 #[.int .i64 r1, .int .i64 r2] (0, 0) _ rfl (by (with_reducible repeat (first | refine blk_drewN ?_ _ | refine blk_drew ?_ | refine blk_alloc ?_ _)); refine blk_put (cs := #[.int .i64 r1, .int .i64 0]) ?_ 1 _ rfl; (with_reducible repeat (first | refine blk_drewN ?_ _ | refine blk_drew ?_ | refine blk_alloc ?_ _)); refine blk_put (cs := #[.int .i64 0, .int .i64 0]) ?_ 0 _ rfl; (with_reducible repeat (first | refine blk_drewN ?_ _ | refine blk_drew ?_ | refine blk_alloc ?_ _)); exact BK2.out) Tryz.underlying76 rfl (by kernel_rfl)) rfl ?_
          exact ⟨rfl, by repeat (first | (with_reducible first | exact HB2.out | apply below_alloc | apply pw_below_drewN | apply below_drew1 | refine below_set ?_ GE.out) | exact HB2.out)⟩
  · rw [if_neg hc] at h
    cases h
set_option maxHeartbeats 8000000 in
set_option maxRecDepth 100000 in
theorem impl_DecimalOf.zero1 (k : Nat) (a0 c0 c1 : ByteArray) (c2 : Bool) (w : World) (A1 : Aside0 (strings_Cut.f a0 (⟨#[46]⟩ : ByteArray) = some (c0, c1, c2))) (A2 : Aside0 (impl_digits.f k c0 1 10 = some false)) :
    Calls Tryz.prog 123 #[.string a0] w fun e w' => e = .returned (.tuple #[.agg #[.int .i64 0, .int .i64 0], .bool false]) ∧ Below w.heap.size w w' := by
  have hu := Tryz.underlying76
  go_enter Tryz.func123, Tryz.ntmps123
  go_wp2_with (first | ((with_reducible refine gate_dst (N := 2) rfl ?_); refine box_event ?hg (N := 2) ?hd (cs := #[.int .i64 0, .int .i64 0]) (t := 76) ?hr ?_; (case hd => rfl); (case hg => rfl); (case hr => first | (go_simp; done) | (go_simp; rfl)); intro gb hg w4 hbox hb; have HB := Aside0.mk (below_step (Below.refl _ _) hb); have BK := Aside0.mk hbox; have GE := Aside0.mk ((by rw [hg]; exact Nat.le_refl _) : w.heap.size ≤ gb); clear hb hbox hg; have hcz0 : w4.cell? ⟨gb, 0, none⟩ = some (.int .i64 0) := (blk_cell BK.out 0).trans rfl; have hcz1 : w4.cell? ⟨gb, 1, none⟩ = some (.int .i64 0) := (blk_cell BK.out 1).trans rfl; have hfz0 := blk_frozen BK.out 0; have hfz1 := blk_frozen BK.out 1) | (go_at_call 124; (with_reducible refine (strings_Cut.calls a0 (⟨#[46]⟩ : ByteArray) c0 c1 _ _ A1.out).mono ?_); rintro e w' ⟨rfl, ⟨nd, rfl⟩⟩) | (go_at_call 125; (with_reducible refine (impl_digits.calls k c0 1 10 false _ A2.out).mono ?_); rintro e w' ⟨rfl, ⟨nd, rfl⟩⟩))
  refine bodyPost_ret (results_ct rfl _ _ gb 76 #[.int .i64 0, .int .i64 0] (0, 0) _ rfl (by (with_reducible repeat (first | refine blk_drewN ?_ _ | refine blk_drew ?_ | refine blk_alloc ?_ _)); refine blk_put (cs := #[.int .i64 0, .int .i64 0]) ?_ 1 _ rfl; (with_reducible repeat (first | refine blk_drewN ?_ _ | refine blk_drew ?_ | refine blk_alloc ?_ _)); refine blk_put (cs := #[.int .i64 0, .int .i64 0]) ?_ 0 _ rfl; (with_reducible repeat (first | refine blk_drewN ?_ _ | refine blk_drew ?_ | refine blk_alloc ?_ _)); exact BK.out) Tryz.underlying76 rfl (by kernel_rfl)) rfl ?_
  exact ⟨rfl, by repeat (first | (with_reducible first | exact HB.out | apply below_alloc | apply pw_below_drewN | apply below_drew1 | refine below_set ?_ GE.out) | exact HB.out)⟩
set_option maxHeartbeats 8000000 in
set_option maxRecDepth 100000 in
theorem impl_DecimalOf.zero2 (k : Nat) (a0 c0 c1 : ByteArray) (w : World) (A1 : Aside0 (strings_Cut.f a0 (⟨#[46]⟩ : ByteArray) = some (c0, c1, true))) (A2 : Aside0 (impl_digits.f k c0 1 10 = some true)) (A3 : Aside0 (impl_digits.f k c1 1 6 = some false)) :
    Calls Tryz.prog 123 #[.string a0] w fun e w' => e = .returned (.tuple #[.agg #[.int .i64 0, .int .i64 0], .bool false]) ∧ Below w.heap.size w w' := by
  have hu := Tryz.underlying76
  go_enter Tryz.func123, Tryz.ntmps123
  go_wp2_with (first | ((with_reducible refine gate_dst (N := 2) rfl ?_); refine box_event ?hg (N := 2) ?hd (cs := #[.int .i64 0, .int .i64 0]) (t := 76) ?hr ?_; (case hd => rfl); (case hg => rfl); (case hr => first | (go_simp; done) | (go_simp; rfl)); intro gb hg w4 hbox hb; have HB := Aside0.mk (below_step (Below.refl _ _) hb); have BK := Aside0.mk hbox; have GE := Aside0.mk ((by rw [hg]; exact Nat.le_refl _) : w.heap.size ≤ gb); clear hb hbox hg; have hcz0 : w4.cell? ⟨gb, 0, none⟩ = some (.int .i64 0) := (blk_cell BK.out 0).trans rfl; have hcz1 : w4.cell? ⟨gb, 1, none⟩ = some (.int .i64 0) := (blk_cell BK.out 1).trans rfl; have hfz0 := blk_frozen BK.out 0; have hfz1 := blk_frozen BK.out 1) | (go_at_call 124; (with_reducible refine (strings_Cut.calls a0 (⟨#[46]⟩ : ByteArray) c0 c1 _ _ A1.out).mono ?_); rintro e w' ⟨rfl, ⟨nd, rfl⟩⟩) | (go_at_call 125; (with_reducible refine (impl_digits.calls k c0 1 10 true _ A2.out).mono ?_); rintro e w' ⟨rfl, ⟨nd, rfl⟩⟩) | (go_at_call 125; (with_reducible refine (impl_digits.calls k c1 1 6 false _ A3.out).mono ?_); rintro e w' ⟨rfl, ⟨nd, rfl⟩⟩))
  refine bodyPost_ret (results_ct rfl _ _ gb 76 #[.int .i64 0, .int .i64 0] (0, 0) _ rfl (by (with_reducible repeat (first | refine blk_drewN ?_ _ | refine blk_drew ?_ | refine blk_alloc ?_ _)); refine blk_put (cs := #[.int .i64 0, .int .i64 0]) ?_ 1 _ rfl; (with_reducible repeat (first | refine blk_drewN ?_ _ | refine blk_drew ?_ | refine blk_alloc ?_ _)); refine blk_put (cs := #[.int .i64 0, .int .i64 0]) ?_ 0 _ rfl; (with_reducible repeat (first | refine blk_drewN ?_ _ | refine blk_drew ?_ | refine blk_alloc ?_ _)); exact BK.out) Tryz.underlying76 rfl (by kernel_rfl)) rfl ?_
  exact ⟨rfl, by repeat (first | (with_reducible first | exact HB.out | apply below_alloc | apply pw_below_drewN | apply below_drew1 | refine below_set ?_ GE.out) | exact HB.out)⟩
theorem impl_DecimalOf.calls (k : Nat) (a0 : ByteArray) (r1 : Int) (r2 : Int) (r3 : Bool) (w : World) (h : impl_DecimalOf.f k a0 = some (r1, r2, r3)) :
    Calls Tryz.prog 123 #[.string a0] w fun e w' => e = .returned (.tuple #[.agg #[.int .i64 r1, .int .i64 r2], .bool r3]) ∧ Below w.heap.size w w' := by
  unfold impl_DecimalOf.f at h
  obtain ⟨⟨c0, c1, c2⟩, A1, h⟩ := Option.bind_eq_some_iff.mp h
  obtain ⟨d, A2, h⟩ := Option.bind_eq_some_iff.mp h
  dsimp only at A1 A2 h
  cases d with
  | false =>
    simp only [Bool.false_eq_true, if_false, Option.some.injEq, Prod.mk.injEq] at h
    obtain ⟨rfl, rfl, rfl⟩ := h
    exact impl_DecimalOf.zero1 k a0 c0 c1 c2 w ⟨A1⟩ ⟨A2⟩
  | true =>
    simp only [if_true] at h
    cases c2 with
    | false =>
      simp only [Bool.false_eq_true, if_false] at h
      exact impl_DecimalOf.rest_calls k a0 c0 c1 false false r1 r2 r3 w ⟨A1⟩ ⟨A2⟩ ⟨fun e => by cases e⟩ h
    | true =>
      simp only [if_true] at h
      obtain ⟨e, A3, h⟩ := Option.bind_eq_some_iff.mp h
      cases e with
      | false =>
        simp only [Bool.false_eq_true, if_false, Option.some.injEq, Prod.mk.injEq] at h
        obtain ⟨rfl, rfl, rfl⟩ := h
        exact impl_DecimalOf.zero2 k a0 c0 c1 w ⟨A1⟩ ⟨A2⟩ ⟨A3⟩
      | true =>
        simp only [if_true] at h
        exact impl_DecimalOf.rest_calls k a0 c0 c1 true true r1 r2 r3 w ⟨A1⟩ ⟨A2⟩ ⟨fun _ => A3⟩ h
def strconv_Itoa.f (a0 : Int) : Option (ByteArray) := if -9223372036854775808 ≤ a0 ∧ a0 ≤ 9223372036854775807 then some ⟨(Go.Lib.itoa a0).toArray⟩ else none
theorem strconv_Itoa.calls (a0 : Int) (r : ByteArray) (w : World) (hG : Glob w) (h : strconv_Itoa.f a0 = some r) :
    Calls Tryz.prog 141 #[.int .i64 a0] w fun e w' => e = .returned (.string r) ∧ Below w.heap.size w w' := by
  unfold strconv_Itoa.f at h
  split at h
  · rename_i hb
    obtain rfl := Option.some.inj h
    refine (Tryz.strconv_Itoa a0 hb.1 hb.2 w hG).mono ?_
    rintro e w' ⟨rfl, k, os, rfl⟩
    exact ⟨rfl, pxgrow k os⟩
  · cases h
end Go.Proofs.YtjdlepjgniokdaaGreatDoor.PA

end
section

namespace Go.Proofs.YtjdlepjgniokdaaGreatDoor.PA
open Go.RowKit Go.Proofs.YtjdlepjgniokdaaGreatDoorW.PrintWords Go.Proofs.YtjdlepjgniokdaaGreatDoorW.PrintLast Go.Proofs.YtjdlepjgniokdaaGreatDoorW.PrintMore
attribute [local go_sem] max2_int min2_int max_two min_two max_three min_three max_four min_four
set_option linter.unusedVariables false
set_option linter.unusedSimpArgs false
mutual
def impl_FractionText.j0 : Nat → ByteArray → Int → Int → Int → Option (ByteArray)
  | 0, _, _, _, _ => none
  | k + 1, x3, x4, x244000, x244001 => if x244001 = 0 then (none) else (if ((1000000 : Int) % x244001) = 0 then ((strconv_Itoa.f (wrap64 (Int.tdiv x4 x244001))).bind fun t247 => (if x3.size + t247.size ≤ 9223372036854775807 then (if (Int.tmod x4 x244001) > 0 then (if x3.size + t247.size + 1 ≤ 9223372036854775807 then (impl_FractionText.j1 k ((x3 ++ t247) ++ (⟨#[46]⟩ : ByteArray)) (Int.tmod x4 x244001) x244000 x244001) else (none)) else (impl_FractionText.j1 k (x3 ++ t247) (Int.tmod x4 x244001) x244000 x244001)) else (none))) else ((strconv_Itoa.f x4).bind fun t245 => (if x3.size + t245.size ≤ 9223372036854775807 then (if x3.size + t245.size + 1 ≤ 9223372036854775807 then ((strconv_Itoa.f x244001).bind fun t246 => (if x3.size + t245.size + 1 + t246.size ≤ 9223372036854775807 then (some (((x3 ++ t245) ++ (⟨#[47]⟩ : ByteArray)) ++ t246)) else (none))) else (none)) else (none))))
def impl_FractionText.j1 : Nat → ByteArray → Int → Int → Int → Option (ByteArray)
  | 0, _, _, _, _ => none
  | k + 1, x5, x6, x244000, x244001 => impl_FractionText.l0 k x5 x6 x244000 x244001
def impl_FractionText.l0 : Nat → ByteArray → Int → Int → Int → Option (ByteArray)
  | 0, _, _, _, _ => none
  | k + 1, x5, x6, x244000, x244001 => if x6 > 0 then (if x244001 = 0 then (none) else ((strconv_Itoa.f (wrap64 (Int.tdiv (wrap64 (x6 * 10)) x244001))).bind fun t248 => (if x5.size + t248.size ≤ 9223372036854775807 then (impl_FractionText.l0 k (x5 ++ t248) (Int.tmod (wrap64 (x6 * 10)) x244001) x244000 x244001) else (none)))) else (some x5)
end
def impl_FractionText.f (k : Nat) (a0_0 : Int) (a0_1 : Int) : Option (ByteArray) := (impl_FractionValid.f k a0_0 a0_1).bind fun t244 => (if t244 = true then (if a0_0 < 0 then (impl_FractionText.j0 k (⟨#[45]⟩ : ByteArray) (wrap64 (-a0_0)) a0_0 a0_1) else (impl_FractionText.j0 k (⟨#[]⟩ : ByteArray) a0_0 a0_0 a0_1)) else (some (⟨#[]⟩ : ByteArray)))
def impl_FractionText.T7 : Bool × List (List Nat × List Nat) := (true, [([], []), ([], []), ([1], [1]), ([0, 2], [0, 2]), ([3], [3]), ([], []), ([5], [5]), ([6, 2], [6]), ([4, 7], [4, 7]), ([8, 7, 0, 1, 2, 3, 4, 5, 6, 7, 8], [8])])
def impl_FractionText.B7 : List Nat := [0, 0, 2, 7, 15, 0, 32, 102, 255, 511]
theorem impl_FractionText.tab7 : rtab .any (opsOf Tryz.f127 7) = impl_FractionText.T7 := by kernel_rfl
theorem impl_FractionText.bits7 : waitsOk impl_FractionText.T7.2 impl_FractionText.B7 = true := by kernel_rfl
set_option maxHeartbeats 8000000 in
set_option maxRecDepth 100000 in
theorem impl_FractionText.calls (k : Nat) (a0_0 : Int) (a0_1 : Int) (r : ByteArray) (w : World) (hG : Glob w) (h : impl_FractionText.f k a0_0 a0_1 = some r) :
    Calls Tryz.prog 127 #[.agg #[.int .i64 a0_0, .int .i64 a0_1]] w fun e w' => e = .returned (.string r) ∧ Below w.heap.size w w' := by
  have hu76 := Tryz.underlying76
  have HG := Aside0.mk hG
  clear hG
  have HB := Aside0.mk (Below.refl w.heap.size w)
  have H : ((impl_FractionValid.f k a0_0 a0_1).bind fun t244 => (if t244 = true then (if a0_0 < 0 then (impl_FractionText.j0 k (⟨#[45]⟩ : ByteArray) (wrap64 (-a0_0)) a0_0 a0_1) else (impl_FractionText.j0 k (⟨#[]⟩ : ByteArray) a0_0 a0_0 a0_1)) else (some (⟨#[]⟩ : ByteArray)))) = some r := h
  clear h
  replace H := Option.bind_eq_some_iff.mp H
  obtain ⟨t244, A20, H⟩ := H
  replace H : (if t244 = true then (if a0_0 < 0 then (impl_FractionText.j0 k (⟨#[45]⟩ : ByteArray) (wrap64 (-a0_0)) a0_0 a0_1) else (impl_FractionText.j0 k (⟨#[]⟩ : ByteArray) a0_0 a0_0 a0_1)) else (some (⟨#[]⟩ : ByteArray))) = some r := H
  have A2 := Aside0.mk A20
  clear A20
  have HU_ := Aside0.mk H
  clear H
  go_enter Tryz.func127, Tryz.ntmps127
  go_upto_if 9 with (first | ((with_reducible refine gate_dst (N := 1) rfl ?_); refine box_event ?hg (N := 1) ?hd (cs := #[.int .i64 a0_0, .int .i64 a0_1]) (t := 76) ?hr ?_; (case hd => rfl); (case hg => rfl); (case hr => first | (go_simp; done) | (go_simp; rfl)); intro gb243 hg w3 hbox hb; have n0_ := Aside0.mk (below_step (bl_ HB.out) hb); have n1_ := Aside0.mk (hbox); have n2_ := Aside0.mk ((by rw [hg]; exact (below_size (bl_ HB.out)) : w.heap.size ≤ gb243)); have n3_ := Aside0.mk ((by rw [hg]; exact (below_size (bl_ HB.out)) : w.heap.size ≤ gb243)); clear HB; have HB := n0_; have BK243 := n1_; have GW243 := n2_; have GE243 := n3_; clear n0_ n1_ n2_ n3_; clear hb hbox hg; have hcz4_0 : w3.cell? ⟨gb243, 0, none⟩ = some (.int .i64 a0_0) := (blk_cell BK243.out 0).trans rfl; have hcz4_1 : w3.cell? ⟨gb243, 1, none⟩ = some (.int .i64 a0_1) := (blk_cell BK243.out 1).trans rfl; have hfz4_0 := blk_frozen BK243.out 0; have hfz4_1 := blk_frozen BK243.out 1) | ((with_reducible refine gate_callee (f := 140) rfl ?_); refine goesL_ (some 8) rfl rfl Tryz.func140 (by kernel_rfl) rfl #[.agg #[.int .i64 a0_0, .int .i64 a0_1]] rfl (by (try simp only [List.map_toArray, List.map_cons, List.map_nil]); first | done | rfl | (simp only [List.length_drop, List.length_take]; rfl) | (simp only [Int.mul_one, Int.one_mul, Int.add_zero, Int.zero_add, pxw]; rfl)) ?_; (with_reducible refine (impl_FractionValid.calls k a0_0 a0_1 t244 _ A2.out).mono ?_); rintro e w5 ⟨rfl, hb⟩; refine ⟨_, rfl, ?_⟩; have n0_ := Aside0.mk (blk_below (g := gb243) (o := .cells #[.int .i64 a0_0, .int .i64 a0_1] 76 (0, 0)) (kl_ BK243.out) hb); have n1_ := Aside0.mk (below_step (bl_ HB.out) hb); clear BK243; clear HB; have BK243 := n0_; have HB := n1_; clear n0_ n1_; (try clear hb); (try clear hb2); (try clear hk); (try clear hi)))
  (try simp only [Act.put, List.setIfInBounds_toArray, List.set_cons_zero, List.set_cons_succ])
  have H := HU_.out
  clear HU_
  by_cases c6 : t244 = true
  · subst c6
    have H1 : (if a0_0 < 0 then (impl_FractionText.j0 k (⟨#[45]⟩ : ByteArray) (wrap64 (-a0_0)) a0_0 a0_1) else (impl_FractionText.j0 k (⟨#[]⟩ : ByteArray) a0_0 a0_0 a0_1)) = some r := by rw [if_pos rfl] at H; exact H
    clear H
    have H := H1
    clear H1
    have HC7 := Aside0.mk H
    clear H
    try go_wp2
    have n0_ := Aside0.mk (blk_drew BK243.out)
    have n1_ := Aside0.mk (below_drew1 HB.out)
    clear BK243
    clear HB
    have BK243 := n0_
    have HB := n1_
    clear n0_ n1_
    refine start_ (n := 4) (S := fun w' => w'.cell? ⟨gb243, 0, none⟩ = some (.int .i64 a0_0) ∧ w'.cell? ⟨gb243, 1, none⟩ = some (.int .i64 a0_1)) (ds := []) #[false, false, false, false] (by kernel_rfl) rfl rfl ⟨(blk_cell BK243.out 0).trans rfl, (blk_cell BK243.out 1).trans rfl⟩ (fun hHeld => ?_)
    generalize w5.drew = w8 at BK243 HB hHeld ⊢
    refine pure_ (i := 0) (N := some 10) (v := ?_) (a' := ?_) #[true, false, false, false] rfl rfl (by kernel_rfl) (fun _ _ _ h => h) (Or.inl ⟨by rfl, ?_⟩) ?_ ?_
    rotate_left
    · intro w'
      go_simp
      with_reducible rfl
    rotate_left
    · simp only [Act.put, List.setIfInBounds_toArray, List.set_cons_zero, List.set_cons_succ, i64_w, i32_w]
      rfl
    refine pure_ (i := 2) (N := some 3) (v := ?_) (a' := ?_) #[true, false, true, false] rfl rfl (by kernel_rfl) (fun _ _ _ h => h) (Or.inl ⟨by rfl, ?_⟩) ?_ ?_
    rotate_left
    · intro w'
      go_simp
      with_reducible rfl
    rotate_left
    · simp only [Act.put, List.setIfInBounds_toArray, List.set_cons_zero, List.set_cons_succ, i64_w, i32_w]
      rfl
    refine take_ (i := 1) (N := some 11) (v := ?_) (a' := ?_) #[true, true, true, false] rfl rfl (by kernel_rfl) (fun _ _ _ h => h) (Or.inl ⟨by rfl, ?_⟩) hHeld ?_ ?_
    rotate_left
    · rintro w' ⟨s0, s1⟩
      go_simp
      with_reducible rfl
    rotate_left
    · simp only [Act.put, List.setIfInBounds_toArray, List.set_cons_zero, List.set_cons_succ, i64_w, i32_w]
      rfl
    refine pure_ (i := 3) (N := some 4) (v := ?_) (a' := ?_) #[true, true, true, true] rfl rfl (by kernel_rfl) (fun _ _ _ h => h) (Or.inl ⟨by rfl, ?_⟩) ?_ ?_
    rotate_left
    · intro w'
      go_simp
      with_reducible rfl
    rotate_left
    · simp only [Act.put, List.setIfInBounds_toArray, List.set_cons_zero, List.set_cons_succ, i64_w, i32_w]
      rfl
    refine done_ (by kernel_rfl) ?_
    go_upto_if 13 with (fail)
    go_cut [3, 4] (fun v3 v4 wc => ∃ (kq : Nat) (x3_6 : ByteArray) (x4_6 : Int), v3 = .string x3_6 ∧ v4 = .int .i64 x4_6 ∧ Aside0 (impl_FractionText.j0 kq x3_6 x4_6 a0_0 a0_1 = some r) ∧ Aside0 (kq ≤ k) ∧ Aside0 (wc.heap[gb243]? = some (.cells #[.int .i64 a0_0, .int .i64 a0_1] 76 (0, 0))) ∧ Aside0 (Below w.heap.size w wc))
    case first =>
      have H := HC7.out
      clear HC7
      by_cases c9 : a0_0 < 0
      · rw [if_pos c9] at H
        have c9b0 : decide (a0_0 < 0) = true := decide_eq_true c9
        clear c9
        (first | rw [c9b0] | (simp only [i64_w, i32_w]; rw [c9b0]) | skip)
        have H' := Aside0.mk H
        clear H
        go_wp2
        go_meet
        case rel => exact ⟨_, ((⟨#[45]⟩ : ByteArray)), (wrap64 (-a0_0)), (by first | rfl | simp [*]), (by first | rfl | simp [*]), H', ⟨by first | omega | exact Nat.le_refl _⟩, ⟨by (with_reducible repeat (first | refine blk_drewN ?_ _ | refine blk_drew ?_ | refine blk_alloc ?_ _)); exact BK243.out⟩, ⟨bl_ HB.out⟩⟩
      · rw [if_neg c9] at H
        have c9b0 : decide (a0_0 < 0) = false := decide_eq_false c9
        clear c9
        (first | rw [c9b0] | (simp only [i64_w, i32_w]; rw [c9b0]) | skip)
        have H' := Aside0.mk H
        clear H
        go_wp2
        go_meet
        case rel => exact ⟨_, ((⟨#[]⟩ : ByteArray)), (a0_0), (by first | rfl | simp [*]), (by first | rfl | simp [*]), H', ⟨by first | omega | exact Nat.le_refl _⟩, ⟨by (with_reducible repeat (first | refine blk_drewN ?_ _ | refine blk_drew ?_ | refine blk_alloc ?_ _)); exact BK243.out⟩, ⟨bl_ HB.out⟩⟩
    case rest =>
      clear HC7
      try clear c1
      try clear p2
      try clear c6
      try clear p6
      try clear c9
      try clear c9b0
      try clear hcz4_0
      try clear hcz4_1
      try clear hfz4_0
      try clear hfz4_1
      obtain ⟨kq, x3_6, x4_6, rfl, rfl, HA, HJ6, BK243, HB⟩ := hcut
      cases kq with
      | zero => exact absurd HA.out (by simp [impl_FractionText.j0])
      | succ kj6 =>
        have H := HA.out
        clear HA
        simp only [impl_FractionText.j0] at H
        by_cases c10 : a0_1 = 0
        · rw [if_pos c10] at H
          exact absurd H (by simp)
        · rw [if_neg c10] at H
          have c10b0 : (a0_1 == 0) = false := beq_eq_false_iff_ne.mpr c10
          have c10b1 : (a0_1 != 0) = true := bne_iff_ne.mpr c10
          by_cases c11 : ((1000000 : Int) % a0_1) = 0
          · rw [if_pos c11] at H
            have c11b0 : (((1000000 : Int) % a0_1) == 0) = true := beq_iff_eq.mpr c11
            have c11b1 : (((1000000 : Int) % a0_1) != 0) = false := bne_eq_false_iff_eq.mpr c11
            clear c11
            replace H := Option.bind_eq_some_iff.mp H
            obtain ⟨t247, A120, H⟩ := H
            replace H : (if x3_6.size + t247.size ≤ 9223372036854775807 then (if (Int.tmod x4_6 a0_1) > 0 then (if x3_6.size + t247.size + 1 ≤ 9223372036854775807 then (impl_FractionText.j1 kj6 ((x3_6 ++ t247) ++ (⟨#[46]⟩ : ByteArray)) (Int.tmod x4_6 a0_1) a0_0 a0_1) else (none)) else (impl_FractionText.j1 kj6 (x3_6 ++ t247) (Int.tmod x4_6 a0_1) a0_0 a0_1)) else (none)) = some r := H
            have A12 := Aside0.mk A120
            clear A120
            by_cases c13 : x3_6.size + t247.size ≤ 9223372036854775807
            · rw [if_pos c13] at H
              have c13b0 := eq_true c13
              have c13b1 : decide (x3_6.size + t247.size ≤ 9223372036854775807) = true := decide_eq_true c13
              try have c13b2 : (9223372036854775807 < x3_6.size + t247.size) = False := eq_false (Nat.not_lt.2 c13)
              have HC14 := Aside0.mk H
              clear H
              have hcz15_0 : wc.cell? ⟨gb243, 0, none⟩ = some (.int .i64 a0_0) := (blk_cell BK243.out 0).trans rfl
              have hcz15_1 : wc.cell? ⟨gb243, 1, none⟩ = some (.int .i64 a0_1) := (blk_cell BK243.out 1).trans rfl
              have hfz15_0 := blk_frozen BK243.out 0
              have hfz15_1 := blk_frozen BK243.out 1
              go_upto_if 41 with (first | ((with_reducible refine gate_callee (f := 141) rfl ?_); refine goesL_ (some 34) rfl rfl Tryz.func141 (by kernel_rfl) rfl #[.int .i64 (wrap64 (Int.tdiv x4_6 a0_1))] rfl (by (try simp only [List.map_toArray, List.map_cons, List.map_nil]); first | done | rfl | (simp only [List.length_drop, List.length_take]; rfl) | (simp only [Int.mul_one, Int.one_mul, Int.add_zero, Int.zero_add, pxw]; rfl)) ?_; (with_reducible refine (strconv_Itoa.calls (wrap64 (Int.tdiv x4_6 a0_1)) t247 _ ?side1 A12.out).mono ?_); (case side1 => exact Glob.below HG.out (bl_ HB.out)); rintro e w16 ⟨rfl, hb⟩; refine ⟨_, rfl, ?_⟩; have n0_ := Aside0.mk (blk_below (g := gb243) (o := .cells #[.int .i64 a0_0, .int .i64 a0_1] 76 (0, 0)) (kl_ BK243.out) hb); have n1_ := Aside0.mk (below_step (bl_ HB.out) hb); clear BK243; clear HB; have BK243 := n0_; have HB := n1_; clear n0_ n1_; (try clear hb); (try clear hb2); (try clear hk); (try clear hi); have hcz17_0 : w16.cell? ⟨gb243, 0, none⟩ = some (.int .i64 a0_0) := (blk_cell BK243.out 0).trans rfl; have hcz17_1 : w16.cell? ⟨gb243, 1, none⟩ = some (.int .i64 a0_1) := (blk_cell BK243.out 1).trans rfl; have hfz17_0 := blk_frozen BK243.out 0; have hfz17_1 := blk_frozen BK243.out 1))
              (try simp only [Act.put, List.setIfInBounds_toArray, List.set_cons_zero, List.set_cons_succ])
              go_cut [5] (fun v5 wc => ∃ (kq : Nat) (x5_13 : ByteArray), v5 = .string x5_13 ∧ Aside0 (impl_FractionText.j1 kq x5_13 (Int.tmod x4_6 a0_1) a0_0 a0_1 = some r) ∧ Aside0 (kq ≤ kj6) ∧ Aside0 (wc.heap[gb243]? = some (.cells #[.int .i64 a0_0, .int .i64 a0_1] 76 (0, 0))) ∧ Aside0 (Below w.heap.size w wc))
              case first =>
                have H := HC14.out
                clear HC14
                by_cases c18 : (Int.tmod x4_6 a0_1) > 0
                · rw [if_pos c18] at H
                  have c18b0 : decide (0 < (Int.tmod x4_6 a0_1)) = true := decide_eq_true c18
                  clear c18
                  (first | rw [c18b0] | (simp only [i64_w, i32_w]; rw [c18b0]) | skip)
                  by_cases c19 : x3_6.size + t247.size + 1 ≤ 9223372036854775807
                  · rw [if_pos c19] at H
                    have c19b0 := eq_true c19
                    have c19b1 : decide (x3_6.size + t247.size + 1 ≤ 9223372036854775807) = true := decide_eq_true c19
                    try have c19b2 : (9223372036854775807 < x3_6.size + t247.size + 1) = False := eq_false (Nat.not_lt.2 c19)
                    have H' := Aside0.mk H
                    clear H
                    go_wp2
                    go_meet
                    case rel => exact ⟨_, ((x3_6 ++ t247) ++ (⟨#[46]⟩ : ByteArray)), (by first | rfl | simp [*]), H', ⟨by have := HJ6.out; first | omega | exact Nat.le_refl _⟩, ⟨by (with_reducible repeat (first | refine blk_drewN ?_ _ | refine blk_drew ?_ | refine blk_alloc ?_ _)); exact BK243.out⟩, ⟨bl_ HB.out⟩⟩
                  · rw [if_neg c19] at H
                    exact absurd H (by simp)
                · rw [if_neg c18] at H
                  have c18b0 : decide (0 < (Int.tmod x4_6 a0_1)) = false := decide_eq_false c18
                  clear c18
                  (first | rw [c18b0] | (simp only [i64_w, i32_w]; rw [c18b0]) | skip)
                  have H' := Aside0.mk H
                  clear H
                  go_wp2
                  go_meet
                  case rel => exact ⟨_, (x3_6 ++ t247), (by first | rfl | simp [*]), H', ⟨by have := HJ6.out; first | omega | exact Nat.le_refl _⟩, ⟨by (with_reducible repeat (first | refine blk_drewN ?_ _ | refine blk_drew ?_ | refine blk_alloc ?_ _)); exact BK243.out⟩, ⟨bl_ HB.out⟩⟩
              case rest =>
                clear HC14
                try clear c1
                try clear p2
                try clear c6
                try clear p6
                try clear c9
                try clear c9b0
                try clear c10
                try clear c10b0
                try clear c10b1
                try clear c11
                try clear c11b0
                try clear c11b1
                try clear c12
                try clear c13
                try clear c13b0
                try clear c13b1
                try clear c13b2
                try clear c14
                try clear c18
                try clear c18b0
                try clear c19
                try clear c19b0
                try clear c19b1
                try clear c19b2
                try clear hcz15_0
                try clear hcz15_1
                try clear hcz17_0
                try clear hcz17_1
                try clear hcz4_0
                try clear hcz4_1
                try clear hfz15_0
                try clear hfz15_1
                try clear hfz17_0
                try clear hfz17_1
                try clear hfz4_0
                try clear hfz4_1
                try clear p2
                try clear p6
                obtain ⟨kq, x5_13, rfl, HA, HJ13, BK243, HB⟩ := hcut
                cases kq with
                | zero => exact absurd HA.out (by simp [impl_FractionText.j1])
                | succ kj13 =>
                  have H := HA.out
                  clear HA
                  simp only [impl_FractionText.j1] at H
                  have H' := Aside0.mk H
                  clear H
                  go_wp2
                  go_loopg [5, 6] kj13 (fun kq v5 v6 w' => ∃ (x5_3 : ByteArray) (x6_3 : Int), v5 = .string x5_3 ∧ v6 = .int .i64 x6_3 ∧ Aside0 (impl_FractionText.l0 kq x5_3 x6_3 a0_0 a0_1 = some r) ∧ Aside0 (kq ≤ kj13) ∧ Aside0 (w'.heap[gb243]? = some (.cells #[.int .i64 a0_0, .int .i64 a0_1] 76 (0, 0))) ∧ Aside0 (Below w.heap.size w w'))
                  case atStart => exact ⟨(x5_13), ((Int.tmod x4_6 a0_1)), (by first | rfl | simp [*]), (by first | rfl | simp [*]), H', ⟨Nat.le_refl _⟩, ⟨by (with_reducible repeat (first | refine blk_drewN ?_ _ | refine blk_drew ?_ | refine blk_alloc ?_ _)); exact BK243.out⟩, ⟨bl_ HB.out⟩⟩
                  case round =>
                    clear H'
                    try clear c1
                    try clear p2
                    try clear c6
                    try clear p6
                    try clear c9
                    try clear c9b0
                    try clear c10
                    try clear c10b0
                    try clear c10b1
                    try clear c11
                    try clear c11b0
                    try clear c11b1
                    try clear c12
                    try clear c13
                    try clear c13b0
                    try clear c13b1
                    try clear c13b2
                    try clear c14
                    try clear c18
                    try clear c18b0
                    try clear c19
                    try clear c19b0
                    try clear c19b1
                    try clear c19b2
                    try clear hcz15_0
                    try clear hcz15_1
                    try clear hcz17_0
                    try clear hcz17_1
                    try clear hcz4_0
                    try clear hcz4_1
                    try clear hfz15_0
                    try clear hfz15_1
                    try clear hfz17_0
                    try clear hfz17_1
                    try clear hfz4_0
                    try clear hfz4_1
                    try clear p2
                    try clear p6
                    obtain ⟨x5_3, x6_3, rfl, rfl, HA, HK3, BK243, HB⟩ := hrel
                    cases gk with
                    | zero => exact absurd HA.out (by simp [impl_FractionText.l0])
                    | succ k3 =>
                      have H := HA.out
                      clear HA
                      simp only [impl_FractionText.l0] at H
                      by_cases c20 : x6_3 > 0
                      · rw [if_pos c20] at H
                        have c20b0 : decide (0 < x6_3) = true := decide_eq_true c20
                        clear c20
                        by_cases c21 : a0_1 = 0
                        · rw [if_pos c21] at H
                          exact absurd H (by simp)
                        · rw [if_neg c21] at H
                          have c21b0 : (a0_1 == 0) = false := beq_eq_false_iff_ne.mpr c21
                          have c21b1 : (a0_1 != 0) = true := bne_iff_ne.mpr c21
                          replace H := Option.bind_eq_some_iff.mp H
                          obtain ⟨t248, A220, H⟩ := H
                          replace H : (if x5_3.size + t248.size ≤ 9223372036854775807 then (impl_FractionText.l0 k3 (x5_3 ++ t248) (Int.tmod (wrap64 (x6_3 * 10)) a0_1) a0_0 a0_1) else (none)) = some r := H
                          have A22 := Aside0.mk A220
                          clear A220
                          by_cases c23 : x5_3.size + t248.size ≤ 9223372036854775807
                          · rw [if_pos c23] at H
                            have c23b0 := eq_true c23
                            have c23b1 : decide (x5_3.size + t248.size ≤ 9223372036854775807) = true := decide_eq_true c23
                            try have c23b2 : (9223372036854775807 < x5_3.size + t248.size) = False := eq_false (Nat.not_lt.2 c23)
                            have H' := Aside0.mk H
                            clear H
                            have hcz24_0 : wr.cell? ⟨gb243, 0, none⟩ = some (.int .i64 a0_0) := (blk_cell BK243.out 0).trans rfl
                            have hcz24_1 : wr.cell? ⟨gb243, 1, none⟩ = some (.int .i64 a0_1) := (blk_cell BK243.out 1).trans rfl
                            have hfz24_0 := blk_frozen BK243.out 0
                            have hfz24_1 := blk_frozen BK243.out 1
                            go_wp2_with (first | ((with_reducible refine gate_callee (f := 141) rfl ?_); refine goesL_ (some 53) rfl rfl Tryz.func141 (by kernel_rfl) rfl #[.int .i64 (wrap64 (Int.tdiv (wrap64 (x6_3 * 10)) a0_1))] rfl (by (try simp only [List.map_toArray, List.map_cons, List.map_nil]); first | done | rfl | (simp only [List.length_drop, List.length_take]; rfl) | (simp only [Int.mul_one, Int.one_mul, Int.add_zero, Int.zero_add, pxw]; rfl)) ?_; (with_reducible refine (strconv_Itoa.calls (wrap64 (Int.tdiv (wrap64 (x6_3 * 10)) a0_1)) t248 _ ?side1 A22.out).mono ?_); (case side1 => exact Glob.below HG.out (bl_ HB.out)); rintro e w25 ⟨rfl, hb⟩; refine ⟨_, rfl, ?_⟩; have n0_ := Aside0.mk (blk_below (g := gb243) (o := .cells #[.int .i64 a0_0, .int .i64 a0_1] 76 (0, 0)) (kl_ BK243.out) hb); have n1_ := Aside0.mk (below_step (bl_ HB.out) hb); clear BK243; clear HB; have BK243 := n0_; have HB := n1_; clear n0_ n1_; (try clear hb); (try clear hb2); (try clear hk); (try clear hi); have hcz26_0 : w25.cell? ⟨gb243, 0, none⟩ = some (.int .i64 a0_0) := (blk_cell BK243.out 0).trans rfl; have hcz26_1 : w25.cell? ⟨gb243, 1, none⟩ = some (.int .i64 a0_1) := (blk_cell BK243.out 1).trans rfl; have hfz26_0 := blk_frozen BK243.out 0; have hfz26_1 := blk_frozen BK243.out 1))
                            go_roundg k3
                            case measure => have := HJ6.out; have := HJ13.out; have := HK3.out; omega
                            case rel => exact ⟨(x5_3 ++ t248), (Int.tmod (wrap64 (x6_3 * 10)) a0_1), (by first | rfl | simp [*]), (by first | rfl | simp [*]), H', ⟨by have := HJ6.out; have := HJ13.out; have := HK3.out; omega⟩, ⟨by (with_reducible repeat (first | refine blk_drewN ?_ _ | refine blk_drew ?_ | refine blk_alloc ?_ _)); exact BK243.out⟩, ⟨bl_ HB.out⟩⟩
                          · rw [if_neg c23] at H
                            exact absurd H (by simp)
                      · rw [if_neg c20] at H
                        have c20b0 : decide (0 < x6_3) = false := decide_eq_false c20
                        clear c20
                        obtain rfl := Option.some.inj H
                        go_wp2
                        go_ret
                        exact ⟨by first | rfl | simp [*], bl_ HB.out⟩
            · rw [if_neg c13] at H
              exact absurd H (by simp)
          · rw [if_neg c11] at H
            have c11b0 : (((1000000 : Int) % a0_1) == 0) = false := beq_eq_false_iff_ne.mpr c11
            have c11b1 : (((1000000 : Int) % a0_1) != 0) = true := bne_iff_ne.mpr c11
            replace H := Option.bind_eq_some_iff.mp H
            obtain ⟨t245, A270, H⟩ := H
            replace H : (if x3_6.size + t245.size ≤ 9223372036854775807 then (if x3_6.size + t245.size + 1 ≤ 9223372036854775807 then ((strconv_Itoa.f a0_1).bind fun t246 => (if x3_6.size + t245.size + 1 + t246.size ≤ 9223372036854775807 then (some (((x3_6 ++ t245) ++ (⟨#[47]⟩ : ByteArray)) ++ t246)) else (none))) else (none)) else (none)) = some r := H
            have A27 := Aside0.mk A270
            clear A270
            by_cases c28 : x3_6.size + t245.size ≤ 9223372036854775807
            · rw [if_pos c28] at H
              have c28b0 := eq_true c28
              have c28b1 : decide (x3_6.size + t245.size ≤ 9223372036854775807) = true := decide_eq_true c28
              try have c28b2 : (9223372036854775807 < x3_6.size + t245.size) = False := eq_false (Nat.not_lt.2 c28)
              by_cases c29 : x3_6.size + t245.size + 1 ≤ 9223372036854775807
              · rw [if_pos c29] at H
                have c29b0 := eq_true c29
                have c29b1 : decide (x3_6.size + t245.size + 1 ≤ 9223372036854775807) = true := decide_eq_true c29
                try have c29b2 : (9223372036854775807 < x3_6.size + t245.size + 1) = False := eq_false (Nat.not_lt.2 c29)
                replace H := Option.bind_eq_some_iff.mp H
                obtain ⟨t246, A300, H⟩ := H
                replace H : (if x3_6.size + t245.size + 1 + t246.size ≤ 9223372036854775807 then (some (((x3_6 ++ t245) ++ (⟨#[47]⟩ : ByteArray)) ++ t246)) else (none)) = some r := H
                have A30 := Aside0.mk A300
                clear A300
                by_cases c31 : x3_6.size + t245.size + 1 + t246.size ≤ 9223372036854775807
                · rw [if_pos c31] at H
                  have c31b0 := eq_true c31
                  have c31b1 : decide (x3_6.size + t245.size + 1 + t246.size ≤ 9223372036854775807) = true := decide_eq_true c31
                  try have c31b2 : (9223372036854775807 < x3_6.size + t245.size + 1 + t246.size) = False := eq_false (Nat.not_lt.2 c31)
                  obtain rfl := Option.some.inj H
                  have hcz32_0 : wc.cell? ⟨gb243, 0, none⟩ = some (.int .i64 a0_0) := (blk_cell BK243.out 0).trans rfl
                  have hcz32_1 : wc.cell? ⟨gb243, 1, none⟩ = some (.int .i64 a0_1) := (blk_cell BK243.out 1).trans rfl
                  have hfz32_0 := blk_frozen BK243.out 0
                  have hfz32_1 := blk_frozen BK243.out 1
                  try go_wp2
                  have n0_ := Aside0.mk (blk_drew BK243.out)
                  have n1_ := Aside0.mk (below_drew1 HB.out)
                  clear BK243
                  clear HB
                  have BK243 := n0_
                  have HB := n1_
                  clear n0_ n1_
                  refine start_ (n := 10) (S := fun w' => w'.cell? ⟨gb243, 0, none⟩ = some (.int .i64 a0_0) ∧ w'.cell? ⟨gb243, 1, none⟩ = some (.int .i64 a0_1)) (ds := []) #[false, false, false, false, false, false, false, false, false, false] (by kernel_rfl) rfl rfl ⟨(blk_cell BK243.out 0).trans rfl, (blk_cell BK243.out 1).trans rfl⟩ (fun hHeld => ?_); refine with_tabW impl_FractionText.tab7 impl_FractionText.bits7 (fun HT_ HW_ => ?_)
                  generalize wc.drew = w33 at BK243 HB hHeld ⊢
                  refine pure_ (i := 0) (N := some 20) (v := ?_) (a' := ?_) #[true, false, false, false, false, false, false, false, false, false] rfl rfl (any_of HT_.out (by kernel_rfl)) (fun _ _ _ h => h) (Or.inl ⟨by rfl, ?_⟩) ?_ ?_
                  rotate_left
                  · intro w'
                    go_simp
                    with_reducible rfl
                  rotate_left
                  · simp only [Act.put, List.setIfInBounds_toArray, List.set_cons_zero, List.set_cons_succ, i64_w, i32_w]
                    rfl
                  refine pure_ (i := 1) (N := some 21) (v := ?_) (a' := ?_) #[true, true, false, false, false, false, false, false, false, false] rfl rfl (any_of HT_.out (by kernel_rfl)) (fun _ _ _ h => h) (Or.inl ⟨by rfl, ?_⟩) ?_ ?_
                  rotate_left
                  · intro w'
                    go_simp
                    with_reducible rfl
                  rotate_left
                  · simp only [Act.put, List.setIfInBounds_toArray, List.set_cons_zero, List.set_cons_succ, i64_w, i32_w]
                    rfl
                  refine pure_ (i := 5) (N := some 25) (v := ?_) (a' := ?_) #[true, true, false, false, false, true, false, false, false, false] rfl rfl (any_of HT_.out (by kernel_rfl)) (fun _ _ _ h => h) (Or.inl ⟨by rfl, ?_⟩) ?_ ?_
                  rotate_left
                  · intro w'
                    go_simp
                    with_reducible rfl
                  rotate_left
                  · simp only [Act.put, List.setIfInBounds_toArray, List.set_cons_zero, List.set_cons_succ, i64_w, i32_w]
                    rfl
                  refine take_ (i := 6) (N := some 26) (v := ?_) (a' := ?_) #[true, true, false, false, false, true, true, false, false, false] rfl rfl (take_ofW HT_.out HW_.out (by kernel_rfl)) (fun _ _ _ h => h) (Or.inl ⟨by rfl, ?_⟩) hHeld ?_ ?_
                  rotate_left
                  · rintro w' ⟨s0, s1⟩
                    go_simp
                    with_reducible rfl
                  rotate_left
                  · simp only [Act.put, List.setIfInBounds_toArray, List.set_cons_zero, List.set_cons_succ, i64_w, i32_w]
                    rfl
                  refine one_ (i := 2) (N := some 22) #[true, true, true, false, false, true, true, false, false, false] rfl rfl (one_of HT_.out (by kernel_rfl)) (by decide) (fun K hK => ?_)
                  refine goes_ Tryz.func141 (by kernel_rfl) rfl #[.int .i64 x4_6] (by rfl) rfl rfl (by (try simp only [List.map_toArray, List.map_cons, List.map_nil]); first | done | rfl | (simp only [List.length_drop, List.length_take]; rfl)) ?_
                  with_reducible refine (strconv_Itoa.calls x4_6 t245 _ ?side1 A27.out).mono ?_
                  (case side1 => exact Glob.below HG.out (bl_ HB.out))
                  rintro e w34 ⟨rfl, hb⟩
                  refine ⟨_, rfl, ?_⟩
                  have n0_ := Aside0.mk (blk_below (g := gb243) (o := .cells #[.int .i64 a0_0, .int .i64 a0_1] 76 (0, 0)) (kl_ BK243.out) hb)
                  have n1_ := Aside0.mk (below_step (bl_ HB.out) hb)
                  clear BK243
                  clear HB
                  have BK243 := n0_
                  have HB := n1_
                  clear n0_ n1_
                  (try clear hb)
                  (try clear hb2)
                  (try clear hk)
                  (try clear hi)
                  refine hK.out _ _ ⟨(blk_cell BK243.out 0).trans rfl, (blk_cell BK243.out 1).trans rfl⟩ (fun hHeld => ?_)
                  clear hK K
                  refine norm_ (a' := ?_) ?_ ?_
                  rotate_left
                  · show Act.put _ (some 22) _ = _
                    simp only [Act.put, List.setIfInBounds_toArray, List.set_cons_zero, List.set_cons_succ, i64_w, i32_w]
                    rfl
                  refine pure_ (i := 3) (N := some 23) (v := ?_) (a' := ?_) #[true, true, true, true, false, true, true, false, false, false] rfl rfl (any_of HT_.out (by kernel_rfl)) (fun _ _ _ h => h) (Or.inl ⟨by rfl, ?_⟩) ?_ ?_
                  rotate_left
                  · intro w'
                    go_simp
                    with_reducible rfl
                  rotate_left
                  · simp only [Act.put, List.setIfInBounds_toArray, List.set_cons_zero, List.set_cons_succ, i64_w, i32_w]
                    rfl
                  refine pure_ (i := 4) (N := some 24) (v := ?_) (a' := ?_) #[true, true, true, true, true, true, true, false, false, false] rfl rfl (any_of HT_.out (by kernel_rfl)) (fun _ _ _ h => h) (Or.inl ⟨by rfl, ?_⟩) ?_ ?_
                  rotate_left
                  · intro w'
                    go_simp
                    with_reducible rfl
                  rotate_left
                  · simp only [Act.put, List.setIfInBounds_toArray, List.set_cons_zero, List.set_cons_succ, i64_w, i32_w]
                    rfl
                  refine one_ (i := 7) (N := some 27) #[true, true, true, true, true, true, true, true, false, false] rfl rfl (one_of HT_.out (by kernel_rfl)) (by decide) (fun K hK => ?_)
                  refine goes_ Tryz.func141 (by kernel_rfl) rfl #[.int .i64 a0_1] (by rfl) rfl rfl (by (try simp only [List.map_toArray, List.map_cons, List.map_nil]); first | done | rfl | (simp only [List.length_drop, List.length_take]; rfl)) ?_
                  with_reducible refine (strconv_Itoa.calls a0_1 t246 _ ?side1 A30.out).mono ?_
                  (case side1 => exact Glob.below HG.out (bl_ HB.out))
                  rintro e w35 ⟨rfl, hb⟩
                  refine ⟨_, rfl, ?_⟩
                  have n0_ := Aside0.mk (blk_below (g := gb243) (o := .cells #[.int .i64 a0_0, .int .i64 a0_1] 76 (0, 0)) (kl_ BK243.out) hb)
                  have n1_ := Aside0.mk (below_step (bl_ HB.out) hb)
                  clear BK243
                  clear HB
                  have BK243 := n0_
                  have HB := n1_
                  clear n0_ n1_
                  (try clear hb)
                  (try clear hb2)
                  (try clear hk)
                  (try clear hi)
                  refine hK.out _ _ ⟨(blk_cell BK243.out 0).trans rfl, (blk_cell BK243.out 1).trans rfl⟩ (fun hHeld => ?_)
                  clear hK K
                  refine norm_ (a' := ?_) ?_ ?_
                  rotate_left
                  · show Act.put _ (some 27) _ = _
                    simp only [Act.put, List.setIfInBounds_toArray, List.set_cons_zero, List.set_cons_succ, i64_w, i32_w]
                    rfl
                  refine pure_ (i := 8) (N := some 28) (v := ?_) (a' := ?_) #[true, true, true, true, true, true, true, true, true, false] rfl rfl (any_of HT_.out (by kernel_rfl)) (fun _ _ _ h => h) (Or.inl ⟨by rfl, ?_⟩) ?_ ?_
                  rotate_left
                  · intro w'
                    go_simp
                    with_reducible rfl
                  rotate_left
                  · simp only [Act.put, List.setIfInBounds_toArray, List.set_cons_zero, List.set_cons_succ, i64_w, i32_w]
                    rfl
                  refine pure_ (i := 9) (N := some 2) (v := ?_) (a' := ?_) #[true, true, true, true, true, true, true, true, true, true] rfl rfl (any_of HT_.out (by kernel_rfl)) (fun _ _ _ h => h) (Or.inl ⟨by rfl, ?_⟩) ?_ ?_
                  rotate_left
                  · intro w'
                    go_simp
                    with_reducible rfl
                  rotate_left
                  · simp only [Act.put, List.setIfInBounds_toArray, List.set_cons_zero, List.set_cons_succ, i64_w, i32_w]
                    rfl
                  refine done_ (done_of HT_.out (by kernel_rfl)) ?_
                  try go_wp2
                  go_ret
                  exact ⟨by first | rfl | simp [*], bl_ HB.out⟩
                · rw [if_neg c31] at H
                  exact absurd H (by simp)
              · rw [if_neg c29] at H
                exact absurd H (by simp)
            · rw [if_neg c28] at H
              exact absurd H (by simp)
  · replace c6 := Bool.eq_false_iff.mpr c6
    subst c6
    have H1 : (some (⟨#[]⟩ : ByteArray)) = some r := by rw [if_neg (show ¬ (false = true) by decide)] at H; exact H
    clear H
    have H := H1
    clear H1
    obtain rfl := Option.some.inj H
    go_wp2
    go_ret
    exact ⟨by first | rfl | simp [*], bl_ HB.out⟩
end Go.Proofs.YtjdlepjgniokdaaGreatDoor.PA

end
