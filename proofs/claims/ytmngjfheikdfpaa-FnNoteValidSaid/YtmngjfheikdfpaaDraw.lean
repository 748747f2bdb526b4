/- The reader of a code: what pick and odd hand back, and that the place goes on by one. -/
import Derived.Test.YtmngjfheikdfpaaBase
import Derived.Test.YtmngjfheikdfpaaPAx5
import Derived.Test.YtmngjfheikdfpaaPAx6
namespace Go.Proofs.Ytmngjfheikdfpaa.Pure
open Go.RowKit Go.Proofs.Ytmngjfheikdfpaa.PA Go.Proofs.YtmngjfheikdfpaaW.PrintWords Go.Proofs.Ytmngjfheikdfpaa.Base
set_option linter.unusedVariables false
set_option linter.unusedSimpArgs false

theorem xor_nat (a b : Nat) (ha : a < 2 ^ 62) (hb : b < 2 ^ 62) : Go.bits .xor .i64 a b = ((a ^^^ b : Nat) : Int) := by
  have ha' : a % 2 ^ 64 = a := Nat.mod_eq_of_lt (by omega)
  have hb' : b % 2 ^ 64 = b := Nat.mod_eq_of_lt (by omega)
  have hx : a ^^^ b < 2 ^ 62 := Nat.xor_lt_two_pow ha hb
  simp only [Go.bits, BitVec.ofInt_natCast, BitVec.toNat_xor, BitVec.toNat_ofNat]
  show IntKind.i64.wrap _ = _
  rw [show IntKind.i64.bits = 64 from rfl, ha', hb', IntKind.wrap_i64]
  omega
theorem xor_nonneg (a b : Int) (ha : 0 ≤ a) (ha' : a < 2 ^ 62) (hb : 0 ≤ b) (hb' : b < 2 ^ 62) : 0 ≤ Go.bits .xor .i64 a b ∧ Go.bits .xor .i64 a b < 2 ^ 62 := by
  obtain ⟨x, rfl⟩ := Int.eq_ofNat_of_zero_le ha
  obtain ⟨y, rfl⟩ := Int.eq_ofNat_of_zero_le hb
  have h1 : x < 2 ^ 62 := by omega
  have h2 : y < 2 ^ 62 := by omega
  have := Nat.xor_lt_two_pow h1 h2
  rw [xor_nat x y h1 h2]
  omega

/-- A code as the reader holds it. -/
def Code (l : List Int) : Prop := l.length ≤ 2000 ∧ ∀ x ∈ l, 0 ≤ x ∧ x ≤ 255
theorem rd_code {l : List Int} (h : Code l) (i : Int) : 0 ≤ rd l i ∧ rd l i ≤ 255 := by
  unfold rd
  rw [List.getD_eq_getElem?_getD]
  by_cases hi : i.toNat < l.length
  · rw [List.getElem?_eq_getElem hi]
    exact h.2 _ (List.getElem_mem hi)
  · rw [List.getElem?_eq_none (by omega)]
    simp

theorem tmod_range (a n : Int) (ha : 0 ≤ a) (hn : 0 < n) : 0 ≤ Int.tmod a n ∧ Int.tmod a n < n :=
  ⟨Int.tmod_nonneg _ ha, Int.tmod_lt_of_pos _ hn⟩

set_option maxRecDepth 4000 in
theorem pick_ev {l : List Int} (h : Code l) (p n : Int) (hp : 0 ≤ p) (hp' : p < 1073741824) :
    ∃ r, Ev (fun k => spec_l20Rd_pick.f k l p n) (r, p + 1) ∧ 0 ≤ r ∧ (n < 1 → r = 0) ∧ (1 ≤ n → r < n) := by
  simp only [spec_l20Rd_pick.f]
  rw [wrap64_id (x := p + 1) (by omega) (by omega)]
  by_cases hn : n < 1
  · refine ⟨0, ?_, by omega, fun _ => rfl, fun _ => by omega⟩
    simp only [hn, if_true]
    apply Ev.succ
    simp only [spec_l20Rd_pick.j0, if_true]
    exact Ev.now _
  · simp only [hn, if_false]
    by_cases hl : (l.length : Int) = 0
    · refine ⟨0, ?_, by omega, fun _ => rfl, fun _ => by omega⟩
      apply Ev.succ
      simp only [spec_l20Rd_pick.j0, hl, beq_self_eq_true, if_true]
      exact Ev.now _
    · have hb : ((l.length : Int) == 0) = false := by simpa using hl
      have hlen := h.1
      have hpos : (0 : Int) < l.length := by omega
      have e1 : p + 1 - 1 = p := by omega
      have n0 : ¬ n = 0 := by omega
      by_cases hlt : p < (l.length : Int)
      · have r1 := rd_code h p
        have t1 := tmod_range (rd l p) n r1.1 (by omega)
        refine ⟨Int.tmod (rd l p) n, ?_, t1.1, fun h => h.elim, fun _ => t1.2⟩
        apply Ev.succ
        simp only [spec_l20Rd_pick.j0, hb, Bool.false_eq_true, if_false, e1, wrap64_id (x := p) (by omega) (by omega), hlt, if_true, hp, n0, wrap64_id (x := rd l p) (by omega) (by omega)]
        exact Ev.now _
      · have m1 := tmod_range p (l.length : Int) hp hpos
        have m2 := tmod_range (p * 7 + 3) (l.length : Int) (by omega) hpos
        have r1 := rd_code h (Int.tmod p (l.length : Int))
        have r2 := rd_code h (Int.tmod (p * 7 + 3) (l.length : Int))
        have d1 : 0 ≤ Int.tdiv p (l.length : Int) := Int.tdiv_nonneg hp (by omega)
        have d2 : Int.tdiv p (l.length : Int) ≤ p := by
          rw [Int.tdiv_eq_ediv_of_nonneg hp]
          exact Int.ediv_le_self _ hp
        generalize hX : rd l (Int.tmod p (l.length : Int)) * 131 + rd l (Int.tmod (p * 7 + 3) (l.length : Int)) * 1117 + p * 29 + Int.tdiv p (l.length : Int) * 53 = X
        have x0 : 0 ≤ X ∧ X < 1099511627776 := by omega
        have d3 : 0 ≤ Int.tdiv X 64 := Int.tdiv_nonneg x0.1 (by omega)
        have d4 : Int.tdiv X 64 ≤ X := by
          rw [Int.tdiv_eq_ediv_of_nonneg x0.1]
          exact Int.ediv_le_self _ x0.1
        have xr := xor_nonneg X (Int.tdiv X 64) x0.1 (by omega) d3 (by omega)
        have t1 := tmod_range (Go.bits .xor .i64 X (Int.tdiv X 64)) n xr.1 (by omega)
        refine ⟨Int.tmod (Go.bits .xor .i64 X (Int.tdiv X 64)) n, ?_, t1.1, fun h => h.elim, fun _ => t1.2⟩
        apply Ev.succ
        simp only [spec_l20Rd_pick.j0, hb, Bool.false_eq_true, if_false, e1, wrap64_id (x := p) (by omega) (by omega), hlt, hl, wrap64_id (x := p * 7) (by omega) (by omega), wrap64_id (x := p * 7 + 3) (by omega) (by omega), m1.1, m1.2, m2.1, m2.2, if_true, n0,
          wrap64_id (x := rd l (Int.tmod p (l.length : Int))) (by omega) (by omega), wrap64_id (x := rd l (Int.tmod (p * 7 + 3) (l.length : Int))) (by omega) (by omega),
          wrap64_id (x := rd l (Int.tmod p (l.length : Int)) * 131) (by omega) (by omega), wrap64_id (x := rd l (Int.tmod (p * 7 + 3) (l.length : Int)) * 1117) (by omega) (by omega),
          wrap64_id (x := rd l (Int.tmod p (l.length : Int)) * 131 + rd l (Int.tmod (p * 7 + 3) (l.length : Int)) * 1117) (by omega) (by omega), wrap64_id (x := p * 29) (by omega) (by omega),
          wrap64_id (x := rd l (Int.tmod p (l.length : Int)) * 131 + rd l (Int.tmod (p * 7 + 3) (l.length : Int)) * 1117 + p * 29) (by omega) (by omega), wrap64_id (x := Int.tdiv p (l.length : Int)) (by omega) (by omega), wrap64_id (x := Int.tdiv p (l.length : Int) * 53) (by omega) (by omega), hX, wrap64_id (x := X) (by omega) (by omega), wrap64_id (x := Int.tdiv X 64) (by omega) (by omega)]
        exact Ev.now _

theorem odd_ev {l : List Int} (h : Code l) (p n : Int) (hp : 0 ≤ p) (hp' : p < 1073741824) :
    ∃ b q, Ev (fun k => spec_l20Rd_odd.f k l p n) (b, q) ∧ p ≤ q ∧ q ≤ p + 1 ∧ (n ≤ 0 → b = false) := by
  simp only [spec_l20Rd_odd.f]
  by_cases hn : n > 0
  · obtain ⟨r, hr, _⟩ := pick_ev h p n hp hp'
    refine ⟨r == wrap64 (n - 1), p + 1, ?_, by omega, by omega, fun h => absurd hn (by omega)⟩
    simp only [hn, if_true]
    exact Ev.bind hr (Ev.now _)
  · refine ⟨false, p, ?_, by omega, by omega, fun _ => rfl⟩
    simp only [hn, if_false]
    exact Ev.now _

theorem open_ev (l : List Int) (hw : ∀ x ∈ l, (Lit.int .u8 x).wf = true) : ∃ m, spec_l20Open.f l = some (m, 0) ∧ Code m := by
  have hb : ∀ x ∈ l, 0 ≤ x ∧ x ≤ 255 := fun x hx => by
    have := hw x hx
    simp [Lit.wf, IntKind.min, IntKind.max, IntKind.bits, IntKind.signed] at this
    omega
  unfold spec_l20Open.f
  by_cases h : (l.length : Int) > 2000
  · refine ⟨l.take 2000, by simp only [h, if_true, show (2000 : Int) ≤ l.length from by omega], ?_, ?_⟩
    · simp only [List.length_take]
      omega
    · exact fun x hx => hb x (List.mem_of_mem_take hx)
  · exact ⟨l, by simp only [h, if_false], by omega, hb⟩
end Go.Proofs.Ytmngjfheikdfpaa.Pure
