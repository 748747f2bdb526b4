/- One law of the program and what its proof stands on, put together by a program out of the texts that print.sh and this session's own programs wrote: the words of the print, contracts of Go functions, plain lemmas, the law. Conditions: those that each theorem names. -/
import Derived.Deep.Slices
import Derived.ChangeArms
import Derived.WideShapes
import Derived.Test.YtjdlepjgniokdaaGreatDoorQvf
section

namespace Go.Proofs.YtjdlepjgniokdaaGreatDoor.Opens
open Go.RowKit Go.Proofs.YtjdlepjgniokdaaGreatDoorW.PrintWords Go.Deep Go.ChangeShapes Go.WideShapes
set_option linter.unusedVariables false
def Opens {α : Type} (P : Program) (W : World) (t : TypeId) (d : Kd α) (good : α → Prop) : Prop :=
  ∀ {H : Type} (enc : TypeId × Value → H) (base : Nat) (spare : Nat → Bool) (held : Bool) (fuel : Nat) (cs : List Value) (x : DataW H × List MemPlace), DataW.trod enc P W base spare held fuel t cs = some x → ∃ a, d.K W a cs ∧ good a
variable {P : Program} {W : World}
theorem opens_int {t : TypeId} {k : IntKind} (ht : P.underlying t = some (.int k)) : Opens P W t (Kd.int k) (fun n => (Lit.int k n).wf = true) := by
  intro H enc base spare held fuel cs x h
  obtain ⟨n, rfl, _, hw⟩ := DataW.trod_int ht h
  exact ⟨n, rfl, hw⟩
theorem opens_slice {α : Type} {t e : TypeId} {d : Kd α} {good : α → Prop} (ht : P.underlying t = some (.slice e)) (hc : P.cellsOf e = d.sz) (he : Opens P W e d good) :
    Opens P W t (Kd.slice e d) (fun xs => xs.length ≤ maxLen ∧ ∀ a ∈ xs, good a) := by
  intro H enc base spare held fuel cs x h
  rcases open_slice ht h with ⟨rfl, _⟩ | ⟨a, len, cap, m, n, D, Pl, rfl, hb, hl, hm, hmm, _, hi⟩
  · exact ⟨[], ⟨none, 0, rfl, Nat.le_refl _, ⟨rfl, Nat.zero_le _, fun h => absurd h (by simp)⟩⟩, Nat.zero_le _, fun a h => by simp at h⟩
  · have hlm : len ≤ m := by rw [hmm]; split <;> omega
    have hex : ∀ i : Fin len, ∃ y : α, (∃ c, d.K W y c ∧ W.cells? base (a.add (i.val * P.cellsOf e)) (P.cellsOf e) = some c) ∧ good y := by
      intro i
      obtain ⟨c, hc1, hc2⟩ := hi i.val (by omega)
      obtain ⟨y, hk, hg⟩ := he enc base spare held n c _ hc2
      exact ⟨y, ⟨c, hk, hc1⟩, hg⟩
    refine ⟨List.ofFn fun i : Fin len => (hex i).choose, ⟨some a, cap, ?_, ?_, ?_⟩, ?_, ?_⟩
    · rw [List.length_ofFn]
    · rw [List.length_ofFn]; exact hl
    · refine ⟨rfl, ?_, fun _ => ⟨a, rfl, ?_⟩⟩
      · rw [List.length_ofFn]
        have := hm
        unfold maxLen at this
        omega
      · intro j p hp
        obtain ⟨hj, rfl⟩ := List.getElem?_eq_some_iff.1 hp
        rw [List.length_ofFn] at hj
        rw [List.getElem_ofFn]
        obtain ⟨⟨c, hk, hc1⟩, _⟩ := (hex ⟨j, hj⟩).choose_spec
        obtain ⟨_, hcl, hat⟩ := World.cells?_some hc1
        refine ⟨c, d.K_len hk, hk, fun i u hu => ?_⟩
        have hil : i < c.length := (List.getElem?_eq_some_iff.1 hu).1
        have h1 := hat i (by omega)
        rw [← hu, ← h1, ← hc, ← Go.Deep.add_add]
    · rw [List.length_ofFn]; omega
    · intro y hy
      obtain ⟨i, hi, rfl⟩ := List.mem_iff_getElem.1 hy
      rw [List.getElem_ofFn]
      exact (hex _).choose_spec.2
theorem open_slice_arg {α : Type} {t e : TypeId} {d : Kd α} {good : α → Prop} {H : Type} {enc : TypeId × Value → H} {base : Nat} {spare : Nat → Bool} {held : Bool} {v : Value} {dd : DataW H} {p : List MemPlace} (ht : P.underlying t = some (.slice e)) (hc : P.cellsOf e = d.sz) (he : Opens P W e d good)
    (hv : ∃ a len cap, v = .slice a len cap) (h : DataW.Trod enc P W base spare held t v dd p) : ∃ A c l, v = .slice A l.length c ∧ l.length ≤ c ∧ Kd.C d W A l.length l ∧ l.length ≤ maxLen ∧ ∀ a ∈ l, good a := by
  obtain ⟨fuel, hf⟩ := h
  obtain ⟨a, len, cap, rfl⟩ := hv
  obtain ⟨xs, ⟨A, c, hcs, hl, hC⟩, h1, h2⟩ := opens_slice ht hc he enc base spare held fuel _ _ hf
  simp only [Value.cells, List.cons.injEq, and_true] at hcs
  exact ⟨A, c, xs, by simpa using hcs, hl, hC, h1, h2⟩
end Go.Proofs.YtjdlepjgniokdaaGreatDoor.Opens

end
