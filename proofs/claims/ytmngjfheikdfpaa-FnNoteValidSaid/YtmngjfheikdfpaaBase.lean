/- Small lemmas for the pure side: rounds, 64-bit numbers, bytes of a string. No Go function is named here. -/
import Derived.Test.YtmngjfheikdfpaaWWords
import Derived.Test.YtmngjfheikdfpaaWMore
import Derived.Lib.Bytes
namespace Go.Proofs.Ytmngjfheikdfpaa.Base
open Go.RowKit Go.Proofs.YtmngjfheikdfpaaW.PrintWords

theorem Ev.succ {α : Type} {g : Nat → Option α} {r : α} (h : Ev (fun k => g (k + 1)) r) : Ev g r := Ev.step (fun _ => rfl) h
theorem Ev.uniq {α : Type} {g : Nat → Option α} {r q : α} (h : Ev g r) (h' : Ev g q) : r = q := by
  obtain ⟨K, h⟩ := h
  obtain ⟨K', h'⟩ := h'
  have h1 := h (max K K') (by omega)
  have h2 := h' (max K K') (by omega)
  exact Option.some.inj (h1.symm.trans h2)
theorem Ev.some {α : Type} {r q : α} (h : q = r) : Ev (fun _ => Option.some q) r := by subst h; exact Ev.now _
theorem Ev.ofEq {α : Type} {o : Option α} {r : α} (h : o = Option.some r) : Ev (fun _ => o) r := ⟨0, fun _ _ => h⟩
theorem Ev.bind0 {α β : Type} {o : Option α} {f : Nat → α → Option β} {a : α} {r : β} (h : o = Option.some a) (k : Ev (fun n => f n a) r) : Ev (fun n => o.bind (f n)) r :=
  Ev.bind (g := fun _ => o) (Ev.ofEq h) k
theorem Ev.bindE {α β : Type} {g : Nat → Option α} {f : Nat → α → Option β} {P : α → Prop} {Q : β → Prop} (h : ∃ a, Ev g a ∧ P a) (k : ∀ a, P a → ∃ r, Ev (fun n => f n a) r ∧ Q r) : ∃ r, Ev (fun n => (g n).bind (f n)) r ∧ Q r := by
  obtain ⟨a, ha, hp⟩ := h
  obtain ⟨r, hr, hq⟩ := k a hp
  exact ⟨r, Ev.bind ha hr, hq⟩

theorem wrap64_id {x : Int} (h0 : -9223372036854775808 ≤ x) (h1 : x < 9223372036854775808) : wrap64 x = x := by
  unfold wrap64
  omega

/-- A string's bytes. -/
def bs (s : ByteArray) : List UInt8 := s.data.toList
theorem bs_length (s : ByteArray) : (bs s).length = s.size := data_length s
theorem bs_inj {s t : ByteArray} (h : bs s = bs t) : s = t := by
  obtain ⟨⟨l⟩⟩ := s
  obtain ⟨⟨m⟩⟩ := t
  simp only [bs] at h
  subst h
  rfl
theorem bs_append (s t : ByteArray) : bs (s ++ t) = bs s ++ bs t := by
  simp [bs, ByteArray.data_append]
theorem bs_mk (l : List UInt8) : bs ⟨l.toArray⟩ = l := by simp [bs]
theorem toList_nil (s : ByteArray) : s.toList = ([] : List UInt8) ↔ bs s = [] := by
  rw [Go.Lib.toList_data]
  rfl
theorem bt_get (s : ByteArray) (i : Nat) (h : i < s.size) : bt s i = (((bs s)[i]'(by rw [bs_length]; exact h)).toNat : Int) := by
  have : ((i : Int)).toNat = i := by omega
  simp only [bt, this, dif_pos h]
  rfl
end Go.Proofs.Ytmngjfheikdfpaa.Base
