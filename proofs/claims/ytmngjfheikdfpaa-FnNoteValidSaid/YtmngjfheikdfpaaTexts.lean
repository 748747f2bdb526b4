/- What TextValid (both), the reference's l1Has and NoteValid (both) answer, as plain functions of a string's bytes. -/
import Derived.Test.YtmngjfheikdfpaaBase
import Derived.Test.YtmngjfheikdfpaaPAx1
import Derived.Test.YtmngjfheikdfpaaPAx2
import Derived.Test.YtmngjfheikdfpaaPAx3
import Derived.Test.YtmngjfheikdfpaaPAx4
namespace Go.Proofs.Ytmngjfheikdfpaa.Pure
open Go.RowKit Go.Proofs.Ytmngjfheikdfpaa.PA Go.Proofs.YtmngjfheikdfpaaW.PrintWords Go.Proofs.Ytmngjfheikdfpaa.Base
set_option linter.unusedVariables false
set_option linter.unusedSimpArgs false

def okByte (b : UInt8) : Bool := b == 10 || (32 ≤ b && b ≤ 126)
def textOk (s : ByteArray) : Bool := (bs s).all okByte && decide (s.size ≤ 20000)

theorem in_spec (a b c : Int) : spec_l1In.f a b c = some (decide (b ≤ a ∧ a ≤ c)) := by
  unfold spec_l1In.f
  by_cases h : b ≤ a <;> simp [h]
theorem in_impl (a b c : Int) : impl_in.f a b c = some (decide (b ≤ a ∧ a ≤ c)) := by
  unfold impl_in.f
  by_cases h : b ≤ a <;> simp [h]

theorem okByte_iff (b : UInt8) : okByte b = (decide ((b.toNat : Int) = 10) || decide (32 ≤ (b.toNat : Int) ∧ (b.toNat : Int) ≤ 126)) := by
  have h1 : (b == 10) = decide ((b.toNat : Int) = 10) := by
    rw [Bool.eq_iff_iff]
    simp only [beq_iff_eq, decide_eq_true_eq]
    constructor
    · rintro rfl; rfl
    · intro h; apply UInt8.toNat_inj.1; have : b.toNat = 10 := by omega
      rw [this]; rfl
  have h2 : (32 ≤ b && b ≤ 126 : Bool) = decide (32 ≤ (b.toNat : Int) ∧ (b.toNat : Int) ≤ 126) := by
    rw [Bool.eq_iff_iff]
    simp [UInt8.le_iff_toNat_le]
    omega
  unfold okByte
  rw [h1, h2]

theorem drop_cons {l : List UInt8} {i : Nat} (h : i < l.length) : l.drop i = l[i] :: l.drop (i + 1) := List.drop_eq_getElem_cons h

theorem tv_spec_from (s : ByteArray) (hs : s.size ≤ 140737488351232) (d : Nat) : ∀ i : Nat, i + d = s.size → Ev (fun k => spec_TextValid.l0 k s i) (((bs s).drop i).all okByte && decide (s.size ≤ 20000)) := by
  induction d with
  | zero =>
    intro i hi
    apply Ev.succ
    simp only [spec_TextValid.l0]
    simp only [show ¬ ((i : Int) < (s.size : Int)) from by omega, if_false]
    apply Ev.some
    rw [List.drop_of_length_le (by rw [bs_length]; omega)]
    have : ((s.size : Int) ≤ 20000) ↔ s.size ≤ 20000 := by omega
    simp [this]
  | succ d ih =>
    intro i hi
    apply Ev.succ
    simp only [spec_TextValid.l0]
    have hb := bt_get s i (by omega)
    have hlt : i < (bs s).length := by rw [bs_length]; omega
    rw [drop_cons hlt, List.all_cons, okByte_iff]
    rw [wrap64_id (x := (i : Int) + 1) (by omega) (by omega)]
    have hr := bt_range s i
    simp only [show ((i : Int) < (s.size : Int)) from by omega, show (0 : Int) ≤ i from by omega, if_true, ← hb, in_spec]
    rw [wrap64_id (x := bt s i) (by omega) (by omega)]
    have ih' := ih (i + 1) (by omega)
    by_cases h10 : bt s i = 10
    · simp only [h10, if_true]
      simpa using ih'
    · simp only [h10, if_false, Option.bind_some]
      by_cases hr' : 32 ≤ bt s i ∧ bt s i ≤ 126
      · simp only [hr', and_self, decide_true, if_true]
        simpa using ih'
      · simp only [hr', decide_false, Bool.false_eq_true, if_false]
        apply Ev.some
        simp
theorem tv_impl_eq : ∀ k s i, impl_TextValid.l0 k s i = spec_TextValid.l0 k s i
  | 0, _, _ => rfl
  | k + 1, s, i => by
    simp only [impl_TextValid.l0, spec_TextValid.l0, in_impl, in_spec, tv_impl_eq k]
theorem tv_spec (s : ByteArray) (hs : s.size ≤ 140737488351232) : Ev (fun k => spec_TextValid.f k s) (textOk s) := by
  have := tv_spec_from s hs s.size 0 (by omega)
  simpa [textOk, spec_TextValid.f] using this
theorem tv_impl (s : ByteArray) (hs : s.size ≤ 140737488351232) : Ev (fun k => impl_TextValid.f k s) (textOk s) := by
  refine Ev.congr (fun k => ?_) (tv_spec s hs)
  simp only [impl_TextValid.f, spec_TextValid.f, tv_impl_eq]

theorem has_from (s : ByteArray) (hs : s.size ≤ 140737488351232) (c : UInt8) (d : Nat) : ∀ i : Nat, i + d = s.size → Ev (fun k => spec_l1Has.l0 k s c.toNat i) (((bs s).drop i).contains c) := by
  induction d with
  | zero =>
    intro i hi
    apply Ev.succ
    simp only [spec_l1Has.l0]
    simp only [show ¬ ((i : Int) < (s.size : Int)) from by omega, if_false]
    apply Ev.some
    rw [List.drop_of_length_le (by rw [bs_length]; omega)]
    simp
  | succ d ih =>
    intro i hi
    apply Ev.succ
    simp only [spec_l1Has.l0]
    have hb := bt_get s i (by omega)
    have hlt : i < (bs s).length := by rw [bs_length]; omega
    rw [drop_cons hlt, List.contains_cons]
    rw [wrap64_id (x := (i : Int) + 1) (by omega) (by omega)]
    simp only [show ((i : Int) < (s.size : Int)) from by omega, show (0 : Int) ≤ i from by omega, if_true, hb]
    have ih' := ih (i + 1) (by omega)
    by_cases hc : (bs s)[i] = c
    · simp only [hc, if_true]
      apply Ev.some
      simp
    · have : ¬ (((bs s)[i].toNat : Int) = (c.toNat : Int)) := fun h => hc (UInt8.toNat_inj.1 (by omega))
      simp only [this, if_false]
      have h2 : (c == (bs s)[i]) = false := by simpa using fun h => hc h.symm
      rw [h2, Bool.false_or]
      simpa using ih'
theorem has_spec (s : ByteArray) (hs : s.size ≤ 140737488351232) (c : UInt8) : Ev (fun k => spec_l1Has.f k s c.toNat) ((bs s).contains c) := by
  have := has_from s hs c s.size 0 (by omega)
  simpa [spec_l1Has.f] using this
theorem hasEnd (s : ByteArray) : impl_hasLineEnd.f s = some ((bs s).contains 10) := by
  simp [impl_hasLineEnd.f, strings_Contains.f, bs]

/-- A note, as both programs see it. -/
def noteOk (s : ByteArray) : Bool := textOk s && decide (s.size ≤ 60) && !(bs s).contains 10 && ((bs s).isEmpty || (bs s).head? != some 32 && (bs s).getLast? != some 32)

theorem n32 (b : UInt8) : ((b.toNat : Int) = 32) ↔ b = 32 := by
  constructor
  · intro h
    apply UInt8.toNat_inj.1
    have h' : b.toNat = 32 := by omega
    rw [h']
    rfl
  · rintro rfl
    rfl
theorem nv_tail (s : ByteArray) (h : s.size ≤ 60) :
    (if s.toList = ([] : List UInt8) then (some true) else (if 0 < (s.size : Int) then (if (bt s 0) = 32 then (some false) else (if 0 ≤ (wrap64 ((s.size : Int) - 1)) then (if (wrap64 ((s.size : Int) - 1)) < (s.size : Int) then (some ((bt s (wrap64 ((s.size : Int) - 1))) != 32)) else (none)) else (none))) else (none)))
      = some ((bs s).isEmpty || (bs s).head? != some 32 && (bs s).getLast? != some 32) := by
  by_cases he : bs s = []
  · simp [toList_nil, he]
  · have hpos : 0 < (bs s).length := List.length_pos_iff.2 he
    have hpos' : 0 < s.size := by rw [← bs_length]; exact hpos
    have h0 := bt_get s 0 hpos'
    have hlast : s.size - 1 < (bs s).length := by rw [bs_length]; omega
    have hl := bt_get s (s.size - 1) (by omega)
    have e1 : wrap64 ((s.size : Int) - 1) = ((s.size - 1 : Nat) : Int) := by rw [wrap64_id (by omega) (by omega)]; omega
    have hne : ¬ (s.toList = ([] : List UInt8)) := by rw [toList_nil]; exact he
    rw [e1]
    simp only [hne, if_false, show (0 : Int) < (s.size : Int) from by omega, if_true, show (0 : Int) ≤ ((s.size - 1 : Nat) : Int) from by omega, show ((s.size - 1 : Nat) : Int) < (s.size : Int) from by omega]
    have e2 : (bs s).head? = some ((bs s)[0]'hpos) := by rw [List.head?_eq_getElem?]; exact List.getElem?_eq_getElem hpos
    have e3 : (bs s).getLast? = some ((bs s)[s.size - 1]'hlast) := by
      rw [List.getLast?_eq_getElem?, bs_length]
      exact List.getElem?_eq_getElem hlast
    rw [e2, e3]
    have hie : (bs s).isEmpty = false := by simpa using he
    rw [hie]
    have h0' : bt s 0 = (((bs s)[0]'hpos).toNat : Int) := h0
    rw [h0', hl]
    generalize (bs s)[0]'hpos = x
    generalize (bs s)[s.size - 1]'hlast = y
    by_cases c0 : x = 32
    · simp [n32, c0]
    · simp only [n32, c0, if_false]
      by_cases c1 : y = 32
      · subst c1
        simp
      · have hb : ((y.toNat : Int) != 32) = true := by simp [n32, c1]
        rw [hb]
        simp [c0, c1]

theorem nv_spec (s : ByteArray) (hs : s.size ≤ 140737488351232) : Ev (fun k => spec_NoteValid.f k s) (noteOk s) := by
  simp only [spec_NoteValid.f]
  refine Ev.bind (tv_spec s hs) ?_
  unfold noteOk
  by_cases h1 : textOk s = true
  · by_cases h2 : s.size ≤ 60
    · simp only [h1, if_true, show ((s.size : Int) ≤ 60) from by omega, h2, decide_true, Bool.true_and]
      refine Ev.bind (a := (bs s).contains 10) (has_spec s hs 10) ?_
      rw [nv_tail s h2]
      by_cases h3 : (bs s).contains 10 = true
      · simp only [h3, if_true]
        exact Ev.some (by simp)
      · simp only [Bool.not_eq_true] at h3
        simp only [h3, Bool.false_eq_true, if_false]
        exact Ev.some (by simp)
    · simp only [h1, if_true, show ¬ ((s.size : Int) ≤ 60) from by omega, h2, decide_false, if_false]
      exact Ev.some (by simp)
  · simp only [h1, Bool.false_eq_true, if_false]
    simp only [Bool.not_eq_true] at h1
    exact Ev.some (by simp [h1])
theorem nv_impl (s : ByteArray) (hs : s.size ≤ 140737488351232) : Ev (fun k => impl_NoteValid.f k s) (noteOk s) := by
  simp only [impl_NoteValid.f]
  refine Ev.bind (tv_impl s hs) ?_
  unfold noteOk
  by_cases h1 : textOk s = true
  · by_cases h2 : s.size ≤ 60
    · simp only [h1, if_true, show ((s.size : Int) ≤ 60) from by omega, h2, decide_true, Bool.true_and]
      refine Ev.bind0 (hasEnd s) ?_
      rw [nv_tail s h2]
      by_cases h3 : (bs s).contains 10 = true
      · simp only [h3, if_true]
        exact Ev.some (by simp)
      · simp only [Bool.not_eq_true] at h3
        simp only [h3, Bool.false_eq_true, if_false]
        exact Ev.some (by simp)
    · simp only [h1, if_true, show ¬ ((s.size : Int) ≤ 60) from by omega, h2, decide_false, if_false]
      exact Ev.some (by simp)
  · simp only [h1, Bool.false_eq_true, if_false]
    simp only [Bool.not_eq_true] at h1
    exact Ev.some (by simp [h1])
end Go.Proofs.Ytmngjfheikdfpaa.Pure
