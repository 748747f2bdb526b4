/- FnNoteValid: a valid note between two words is valid, if it is short enough; with a space behind it, it is not; and the program's NoteValid answers as the reference's, at every drawn text. Conditions: none. -/
import Derived.Test.YtmngjfheikdfpaaTexts
import Derived.Test.YtmngjfheikdfpaaNotes
import Derived.Test.YtmngjfheikdfpaaPAx4
import Derived.Test.YtmngjfheikdfpaaPAx6
import Derived.Test.YtmngjfheikdfpaaPAx7
namespace Go.Proofs.Ytmngjfheikdfpaa.Pure
open Go.RowKit Go.Proofs.Ytmngjfheikdfpaa.PA Go.Proofs.YtmngjfheikdfpaaW.PrintWords Go.Proofs.Ytmngjfheikdfpaa.Base
set_option linter.unusedVariables false
set_option linter.unusedSimpArgs false

theorem alive_ev : Ev (fun k => laws_alive.f k) true := by
  simp only [laws_alive.f]
  have e : textOk ⟨#[97]⟩ = true := by decide
  refine Ev.bind (tv_impl _ (by decide)) ?_
  rw [e]
  exact Ev.now _
theorem draw_note_ev (l : List Int) (hw : ∀ x ∈ l, (Lit.int .u8 x).wf = true) : ∃ s, Ev (fun k => spec_DrawNoteValid.f k l) s ∧ s.size ≤ 61 := by
  obtain ⟨m, hm, hc⟩ := open_ev l hw
  obtain ⟨s, q, hs, _, _, hin⟩ := note_ev hc 0 2 (by omega) (by omega)
  refine ⟨s, ?_, note_size (hin.imp_right And.right)⟩
  simp only [spec_DrawNoteValid.f]
  exact Ev.bind0 hm (Ev.bind hs (Ev.now _))
theorem textOk_append (s t : ByteArray) (h : textOk s = true) (ht : (bs t).all okByte = true) (hl : s.size + t.size ≤ 20000) : textOk (s ++ t) = true := by
  simp only [textOk, Bool.and_eq_true, decide_eq_true_eq] at h ⊢
  rw [bs_append, List.all_append, h.1, ht, ByteArray.size_append]
  exact ⟨rfl, hl⟩
theorem textOk_append_left (s t : ByteArray) (h : textOk t = true) (hs : (bs s).all okByte = true) (hl : s.size + t.size ≤ 20000) : textOk (s ++ t) = true := by
  simp only [textOk, Bool.and_eq_true, decide_eq_true_eq] at h ⊢
  rw [bs_append, List.all_append, h.1, hs, ByteArray.size_append]
  exact ⟨rfl, hl⟩
theorem note_space (s : ByteArray) : noteOk (s ++ ⟨#[32]⟩) = false := by
  unfold noteOk
  have e : bs (s ++ ⟨#[32]⟩) = bs s ++ [32] := bs_append _ _
  have h : (bs s ++ [32]).getLast? = some 32 := by simp
  have h2 : (bs s ++ [32]).isEmpty = false := by simp
  rw [e, h, h2]
  simp
theorem note_between (s : ByteArray) (h : noteOk s = true) (hl : s.size ≤ 50) : noteOk ((⟨#[97, 32]⟩ ++ s) ++ ⟨#[32, 98]⟩) = true := by
  unfold noteOk at h ⊢
  simp only [Bool.and_eq_true, decide_eq_true_eq, Bool.not_eq_true'] at h ⊢
  obtain ⟨⟨⟨h1, h2⟩, h3⟩, h4⟩ := h
  have z : (⟨#[97, 32]⟩ ++ s ++ ⟨#[32, 98]⟩ : ByteArray).size = s.size + 4 := by
    simp only [ByteArray.size_append]
    show 2 + s.size + 2 = s.size + 4
    omega
  have e : bs ((⟨#[97, 32]⟩ ++ s) ++ ⟨#[32, 98]⟩) = 97 :: 32 :: bs s ++ [32, 98] := by
    rw [bs_append, bs_append]
    rfl
  refine ⟨⟨⟨?_, by omega⟩, ?_⟩, ?_⟩
  · refine textOk_append _ _ (textOk_append_left _ _ h1 (by decide) ?_) (by decide) ?_
    · show 2 + s.size ≤ 20000
      omega
    · simp only [ByteArray.size_append]
      show 2 + s.size + 2 ≤ 20000
      omega
  · rw [e]
    simpa using h3
  · rw [e, show 97 :: 32 :: bs s ++ [32, 98] = (97 :: 32 :: bs s ++ [32]) ++ [98] from by simp, List.getLast?_append]
    simp
theorem FnNoteValid : laws_FnNoteValid.Pure := by
  intro l h1 h2 hw
  apply Ev.rounds
  simp only [laws_FnNoteValid.f]
  by_cases h : (l.length : Int) > 1048576
  · simp only [h, if_true]
    exact Ev.now _
  · simp only [h, if_false]
    obtain ⟨s, hs, hz⟩ := draw_note_ev l hw
    refine Ev.bind hs (Ev.bind (nv_impl s (by omega)) (Ev.bind (nv_spec s (by omega)) ?_))
    have h32 : Ev (fun k => impl_NoteValid.f k (s ++ ⟨#[32]⟩)) false := by
      have := nv_impl (s ++ ⟨#[32]⟩) (by rw [ByteArray.size_append]; show s.size + 1 ≤ _; omega)
      rwa [note_space] at this
    have tail : Ev (fun k => (impl_NoteValid.f k (s ++ ⟨#[32]⟩)).bind fun t => (if t = true then (some false) else ((laws_alive.f k).bind fun u => (some u)))) true := by
      refine Ev.bind h32 ?_
      simp only [Bool.false_eq_true, if_false]
      exact Ev.bind alive_ev (Ev.now _)
    simp only [bne_self_eq_false, Bool.false_eq_true, if_false, show s.size + 1 ≤ 9223372036854775807 from by omega, show 2 + s.size ≤ 9223372036854775807 from by omega, show 2 + s.size + 2 ≤ 9223372036854775807 from by omega, if_true]
    by_cases ho : noteOk s = true
    · simp only [ho, if_true]
      by_cases h50 : (s.size : Int) > 50
      · simp only [h50, if_true]
        exact tail
      · simp only [h50, if_false]
        have hb := nv_impl ((⟨#[97, 32]⟩ ++ s) ++ ⟨#[32, 98]⟩) (by simp only [ByteArray.size_append]; show 2 + s.size + 2 ≤ _; omega)
        rw [note_between s ho (by omega)] at hb
        refine Ev.bind hb ?_
        simp only [if_true]
        exact tail
    · simp only [ho, Bool.false_eq_true, if_false]
      exact tail
end Go.Proofs.Ytmngjfheikdfpaa.Pure
