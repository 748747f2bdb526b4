/- The drawn notes: which texts l20Note hands back. -/
import Derived.Test.YtmngjfheikdfpaaDraw
import Derived.Test.YtmngjfheikdfpaaPAx6
namespace Go.Proofs.Ytmngjfheikdfpaa.Pure
open Go.RowKit Go.Proofs.Ytmngjfheikdfpaa.PA Go.Proofs.YtmngjfheikdfpaaW.PrintWords Go.Proofs.Ytmngjfheikdfpaa.Base
set_option linter.unusedVariables false
set_option linter.unusedSimpArgs false

theorem rdOf_mem {α : Type} (d : α) (xs : List α) (i : Int) (h0 : 0 ≤ i) (h1 : i < (xs.length : Int)) : rdOf d xs i ∈ xs := by
  unfold rdOf
  rw [List.getD_eq_getElem?_getD, List.getElem?_eq_getElem (by omega)]
  exact List.getElem_mem _

def noteBad : List ByteArray := [⟨#[32, 97]⟩, ⟨#[97, 32]⟩, ⟨#[97, 10, 98]⟩, ⟨#[1]⟩, ⟨#[97, 97, 97, 97, 97, 97, 97, 97, 97, 97, 98, 98, 98, 98, 98, 98, 98, 98, 98, 98, 99, 99, 99, 99, 99, 99, 99, 99, 99, 99, 100, 100, 100, 100, 100, 100, 100, 100, 100, 100, 101, 101, 101, 101, 101, 101, 101, 101, 101, 101, 102, 102, 102, 102, 102, 102, 102, 102, 102, 102, 103]⟩]
def noteGood : List ByteArray := [⟨#[]⟩, ⟨#[97, 32, 110, 111, 116, 101]⟩, ⟨#[35, 32, 120]⟩, ⟨#[115, 97, 121, 32, 34, 104, 105, 34]⟩, ⟨#[111, 110, 101, 32, 116, 119, 111, 32, 116, 104, 114, 101, 101, 32, 102, 111, 117, 114, 32, 102, 105, 118, 101]⟩, ⟨#[97, 32, 32, 98]⟩, ⟨#[123]⟩]

theorem note_ev {l : List Int} (h : Code l) (p n : Int) (hp : 0 ≤ p) (hp' : p < 1073741822) :
    ∃ s q, Ev (fun k => spec_l20Note.f k l p n) (s, q) ∧ p ≤ q ∧ q ≤ p + 2 ∧ (s ∈ noteGood ∨ (0 < n ∧ s ∈ noteBad)) := by
  obtain ⟨b, q, hb, hq0, hq1, hn⟩ := odd_ev h p n hp (by omega)
  simp only [spec_l20Note.f]
  cases b with
  | true =>
    obtain ⟨r, hr, r0, _, r1⟩ := pick_ev h q 5 (by omega) (by omega)
    have r2 := r1 (by omega)
    refine ⟨rdOf ByteArray.empty noteBad r, q + 1, ?_, by omega, by omega, .inr ⟨?_, rdOf_mem _ _ _ r0 (by simpa [noteBad] using r2)⟩⟩
    · refine Ev.bind hb ?_
      simp only [if_true, Option.bind_some]
      refine Ev.bind hr ?_
      simp only [r0, if_true, List.length_cons, List.length_nil, Nat.reduceAdd, show r < ((5 : Nat) : Int) from r2]
      exact Ev.now _
    · rcases Int.lt_or_le 0 n with h' | h'
      · exact h'
      · exact absurd (hn h') (by simp)
  | false =>
    obtain ⟨r, hr, r0, _, r1⟩ := pick_ev h q 7 (by omega) (by omega)
    have r2 := r1 (by omega)
    refine ⟨rdOf ByteArray.empty noteGood r, q + 1, ?_, by omega, by omega, .inl (rdOf_mem _ _ _ r0 (by simpa [noteGood] using r2))⟩
    refine Ev.bind hb ?_
    simp only [Bool.false_eq_true, if_false, Option.bind_some]
    refine Ev.bind hr ?_
    simp only [r0, if_true, List.length_cons, List.length_nil, Nat.reduceAdd, show r < ((7 : Nat) : Int) from r2]
    exact Ev.now _
theorem note_size {s : ByteArray} (h : s ∈ noteGood ∨ s ∈ noteBad) : s.size ≤ 61 := by
  have : ∀ s ∈ noteGood ++ noteBad, s.size ≤ 61 := by decide
  exact this s (by simpa using h)
end Go.Proofs.Ytmngjfheikdfpaa.Pure
