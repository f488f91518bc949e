/- Racks. -/
import Derived.Test.YtkdoegjnnfmpaaaYfK
namespace Go.Mch

/-! ### As many places as numbers -/

theorem len_le_of_sub {α : Type} [DecidableEq α] : ∀ (l p : List α), l.Nodup → (∀ x ∈ l, x ∈ p) → l.length ≤ p.length
  | [], _, _, _ => by simp
  | a :: l, p, hd, hs => by
    have ha : a ∈ p := hs a (by simp)
    have hn := List.nodup_cons.1 hd
    have := len_le_of_sub l (p.erase a) hn.2 fun x hx => by
      have hne : x ≠ a := fun e => hn.1 (e ▸ hx)
      exact (List.mem_erase_of_ne hne).2 (hs x (by simp [hx]))
    have h2 := List.length_erase_of_mem ha
    have h3 : 0 < p.length := List.length_pos_of_mem ha
    simp only [List.length_cons]
    omega

theorem nodup_of_sub {α : Type} [DecidableEq α] : ∀ (l p : List α), l.Nodup → (∀ x ∈ l, x ∈ p) → p.length = l.length → p.Nodup
  | [], p, _, _, h => by
    have : p = [] := List.eq_nil_of_length_eq_zero (by simpa using h)
    subst this
    exact List.nodup_nil
  | a :: l, p, hd, hs, h => by
    have ha : a ∈ p := hs a (by simp)
    have hn := List.nodup_cons.1 hd
    have h2 := List.length_erase_of_mem ha
    have h4 : (p.erase a).length = l.length := by simp only [List.length_cons] at h; omega
    have hsub : ∀ x ∈ l, x ∈ p.erase a := fun x hx => by
      have hne : x ≠ a := fun e => hn.1 (e ▸ hx)
      exact (List.mem_erase_of_ne hne).2 (hs x (by simp [hx]))
    have hp := nodup_of_sub l (p.erase a) hn.2 hsub h4
    have hna : a ∉ p.erase a := fun hm => by
      have := len_le_of_sub (a :: l) (p.erase a) hd fun x hx => by
        rcases List.mem_cons.1 hx with rfl | hx
        · exact hm
        · exact hsub x hx
      simp only [List.length_cons] at this
      omega
    exact (List.perm_cons_erase ha).nodup_iff.2 (List.nodup_cons.2 ⟨hna, hp⟩)

def nums (n : Nat) : List Int := (List.range n).map Int.ofNat
theorem nums_nodup (n : Nat) : (nums n).Nodup := by
  refine List.Pairwise.map _ (fun a b h => ?_) (List.nodup_range (n := n))
  intro e
  exact h (Int.ofNat.inj e)
theorem perm_permuted {p : List Int} (h1 : 1 ≤ p.length) (h2 : p.length ≤ 12) (hr : ∀ x ∈ p, 0 ≤ x ∧ x < p.length) : isPerm p ↔ isPermuted p := by
  constructor
  · intro h
    refine ⟨hr, nodup_of_sub (nums p.length) p (nums_nodup _) (fun x hx => ?_) (by simp [nums])⟩
    simp only [nums, List.mem_map, List.mem_range] at hx
    obtain ⟨k, hk, rfl⟩ := hx
    exact h.2.2 k hk
  · intro h
    refine ⟨h1, h2, fun x hx => ?_⟩
    by_cases hm : (x : Int) ∈ p
    · exact hm
    · have := len_le_of_sub p ((nums p.length).erase x) h.2 fun y hy => by
        have hy2 := hr y hy
        have hne : y ≠ (x : Int) := fun e => hm (e ▸ hy)
        refine (List.mem_erase_of_ne hne).2 ?_
        simp only [nums, List.mem_map, List.mem_range]
        exact ⟨y.toNat, by omega, by show ((y.toNat : Nat) : Int) = y; omega⟩
      have hx2 : (x : Int) ∈ nums p.length := by
        simp only [nums, List.mem_map, List.mem_range]
        exact ⟨x, hx, rfl⟩
      have h3 := List.length_erase_of_mem hx2
      have h4 : (nums p.length).length = p.length := by simp [nums]
      omega
end Go.Mch
