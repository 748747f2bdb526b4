/- FnExactNoteValid: the program's NoteValid and the reference's answer alike, for every text. Conditions: none. -/
import Derived.Test.YtmngjfheikdfpaaTexts
import Derived.Test.YtmngjfheikdfpaaPAx4
namespace Go.Proofs.Ytmngjfheikdfpaa.Pure
open Go.RowKit Go.Proofs.Ytmngjfheikdfpaa.PA Go.Proofs.YtmngjfheikdfpaaW.PrintWords Go.Proofs.Ytmngjfheikdfpaa.Base

theorem FnExactNoteValid : laws_FnExactNoteValid.Pure := by
  intro s hs
  apply Ev.rounds
  simp only [laws_FnExactNoteValid.f]
  by_cases h : (s.size : Int) > 1048576
  · simp only [h, if_true]
    exact Ev.now _
  · simp only [h, if_false]
    refine Ev.bind (nv_spec s hs) (Ev.bind (nv_impl s hs) ?_)
    simp only [bne_self_eq_false, Bool.false_eq_true, if_false]
    exact Ev.now _
end Go.Proofs.Ytmngjfheikdfpaa.Pure
