/- A table's sizes: powers of two; how they move. -/
import Derived.Test.YtalhmegjomfbaaaApp
namespace Go.V
set_option linter.unusedVariables false
set_option linter.unusedSimpArgs false
section
variable {α : Type} {T : Tb α}
def P2 (n : Nat) : Prop := ∃ k, n = 2 ^ (k + 2)
theorem P2.dbl {n : Nat} (h : P2 n) : P2 (2 * n) := by obtain ⟨k, rfl⟩ := h; exact ⟨k + 1, by rw [Nat.pow_succ 2 (k + 2)]; omega⟩
theorem P2.half {n : Nat} (h : P2 n) (h4 : 4 < n) : P2 (n / 2) ∧ n = 2 * (n / 2) ∧ n % 8 = 0 := by
  obtain ⟨k, rfl⟩ := h
  cases k with
  | zero => simp at h4
  | succ k =>
    have h1 : 2 ^ (k + 1 + 2) = 2 * 2 ^ (k + 2) := by rw [Nat.pow_succ 2 (k + 2)]; omega
    have h2 : 2 ^ (k + 2) = 4 * 2 ^ k := by rw [Nat.pow_succ, Nat.pow_succ]; omega
    refine ⟨⟨k, by omega⟩, by omega, by omega⟩
theorem P2.pos {n : Nat} (h : P2 n) : 4 ≤ n := by
  obtain ⟨k, rfl⟩ := h
  have h2 : 2 ^ (k + 2) = 4 * 2 ^ k := by rw [Nat.pow_succ, Nat.pow_succ]; omega
  have := Nat.two_pow_pos k
  omega
theorem P2.next {k n : Nat} (hk : P2 k) (hn : P2 n) (h : k ≤ n) (hne : k ≠ n) : 2 * k ≤ n := by
  obtain ⟨i, rfl⟩ := hk
  obtain ⟨j, rfl⟩ := hn
  have hij : i < j := by
    rcases Nat.lt_or_ge i j with h1 | h1
    · exact h1
    · exact absurd (Nat.le_antisymm h (Nat.pow_le_pow_right (by decide) (by omega))) hne
  have h1 : 2 * 2 ^ (i + 2) = 2 ^ (i + 3) := by rw [Nat.pow_succ 2 (i + 2)]; omega
  rw [h1]
  exact Nat.pow_le_pow_right (by decide) (by omega)
theorem P2.four : P2 4 := ⟨0, rfl⟩
/-- The sizes of a table: N bounds how many keys there were. -/
structure Tb.Pw (T : Tb α) (N : Nat) : Prop where
  pa : P2 T.a.length
  pb : T.b.length ≠ 0 → P2 T.b.length ∧ (T.b.length = 2 * T.a.length ∨ T.a.length = 2 * T.b.length)
  ld : T.b.length = 0 → T.n ≤ T.a.length
  ba : T.a.length ≤ 4 + 2 * N
  bb : T.b.length ≤ 4 + 2 * N
theorem Tb.Pw.mono {N M : Nat} (h : T.Pw N) (hm : N ≤ M) : T.Pw M := ⟨h.pa, h.pb, h.ld, by have := h.ba; omega, by have := h.bb; omega⟩
variable {N : Nat}
theorem newT_pw (seed : Nat) : (newT seed : Tb α).Pw N := ⟨⟨0, rfl⟩, fun h => absurd rfl h, fun _ => by simp [newT], by simp [newT], by simp [newT]⟩
theorem tbStep_pw (h : T.Pw N) (hn : T.n ≤ N) : (tbStep T).Pw N := by
  unfold tbStep
  by_cases hb : T.b.length = 0
  · rw [if_pos hb]; exact h
  rw [if_neg hb]
  have hl := movedT_b T
  have hl2 := movedT_a T
  obtain ⟨h1, h2⟩ := h.pb hb
  by_cases hc : T.moved + 1 < T.a.length
  · rw [if_pos hc]
    exact ⟨by rw [hl2]; exact h.pa, fun _ => by rw [hl, hl2]; exact ⟨h1, h2⟩, fun h0 => absurd (hl ▸ h0) hb, by rw [hl2]; exact h.ba, by rw [hl]; exact h.bb⟩
  rw [if_neg hc]
  have hbb := h.bb
  by_cases hg : T.n > (movedT T).b.length
  · rw [if_pos hg]
    have hlen : (startT (swapT (movedT T)) (2 * (movedT T).b.length)).b.length = 2 * T.b.length := by rw [← hl]; simp [startT]
    refine ⟨?_, fun _ => ⟨?_, .inl ?_⟩, fun h0 => ?_, ?_, ?_⟩
    · show P2 (movedT T).b.length; rw [hl]; exact h1
    · rw [hlen]; exact h1.dbl
    · rw [hlen]; show 2 * T.b.length = 2 * (movedT T).b.length; rw [hl]
    · rw [hlen] at h0; omega
    · show (movedT T).b.length ≤ _; rw [hl]; omega
    · rw [hlen]; omega
  · rw [if_neg hg]
    refine ⟨?_, fun h0 => absurd rfl h0, fun _ => ?_, ?_, ?_⟩
    · show P2 (movedT T).b.length; rw [hl]; exact h1
    · show T.n ≤ (movedT T).b.length; omega
    · show (movedT T).b.length ≤ _; rw [hl]; omega
    · show 0 ≤ _; omega
theorem updT_pw (h : T.Pw N) (k : ByteArray) (v : α) : (updT T k v).Pw N := by
  unfold updT
  split
  · exact ⟨by show P2 (setV ..).length; rw [setV_length]; exact h.pa, fun h0 => by show _ ∧ (_ = 2 * (setV ..).length ∨ (setV ..).length = _); rw [setV_length]; exact h.pb h0, fun h0 => by show _ ≤ (setV ..).length; rw [setV_length]; exact h.ld h0, by show (setV ..).length ≤ _; rw [setV_length]; exact h.ba, h.bb⟩
  · have e : ∀ i j, (setV T.b i j v).length = T.b.length := fun i j => setV_length _ _ _ _
    exact ⟨h.pa, fun h0 => by show P2 (setV ..).length ∧ ((setV ..).length = _ ∨ _ = 2 * (setV ..).length); rw [e]; exact h.pb (by rwa [e] at h0), fun h0 => h.ld (by have h1 : (setV ..).length = 0 := h0; rwa [e] at h1), h.ba, by show (setV ..).length ≤ _; rw [e]; exact h.bb⟩
theorem insT_pw (h : T.Pw N) (hn : T.n + 1 ≤ N) (k : ByteArray) (v : α) : (insT T k v).Pw N := by
  have e : (putB T.seed T.a (k, v)).length = T.a.length := putB_length _ _ _
  unfold insT
  by_cases hb : T.b.length = 0
  · rw [if_pos hb]
    by_cases hg : T.n + 1 > T.a.length
    · rw [if_pos hg]
      have hlen : (startT ({ T with a := putB T.seed T.a (k, v), n := T.n + 1 } : Tb α) (2 * T.a.length)).b.length = 2 * T.a.length := by simp [startT]
      have := h.pa.pos
      refine ⟨?_, fun _ => ⟨?_, .inl ?_⟩, fun h0 => ?_, ?_, ?_⟩
      · show P2 (putB ..).length; rw [e]; exact h.pa
      · rw [hlen]; exact h.pa.dbl
      · rw [hlen]; show _ = 2 * (putB ..).length; rw [e]
      · rw [hlen] at h0; omega
      · show (putB ..).length ≤ _; rw [e]; omega
      · rw [hlen]; omega
    · rw [if_neg hg]
      exact ⟨by show P2 (putB ..).length; rw [e]; exact h.pa, fun h0 => absurd hb h0, fun _ => by show T.n + 1 ≤ (putB ..).length; rw [e]; omega, by show (putB ..).length ≤ _; rw [e]; exact h.ba, h.bb⟩
  · rw [if_neg hb]
    have e : (putB T.seed T.b (k, v)).length = T.b.length := putB_length _ _ _
    exact ⟨h.pa, fun h0 => by show P2 (putB ..).length ∧ ((putB ..).length = _ ∨ _ = 2 * (putB ..).length); rw [e]; exact h.pb hb, fun h0 => absurd (by have h1 : (putB ..).length = 0 := h0; rwa [e] at h1) hb, h.ba, by show (putB ..).length ≤ _; rw [e]; exact h.bb⟩
theorem tbStep_n' (T : Tb α) : (tbStep T).n = T.n := by
  unfold tbStep
  split
  · rfl
  · split
    · rfl
    · split <;> rfl
theorem putT_pw (h : T.Pw N) (hn : T.n + 1 ≤ N) (k : ByteArray) (v : α) : (putT T k v).Pw N := by
  have h1 := tbStep_pw h (by omega)
  unfold putT put1T
  split
  · exact updT_pw h1 k v
  · exact insT_pw h1 (by rw [tbStep_n']; exact hn) k v
theorem rm1T_pw (h : T.Pw N) (k : ByteArray) : (rm1T T k).Pw N := by
  unfold rm1T
  split
  · have e : ∀ i j, (rmV T.a i j).length = T.a.length := fun i j => rmV_length _ _ _
    exact ⟨by show P2 (rmV ..).length; rw [e]; exact h.pa, fun h0 => by show _ ∧ (_ = 2 * (rmV ..).length ∨ (rmV ..).length = _); rw [e]; exact h.pb h0, fun h0 => by show T.n - 1 ≤ (rmV ..).length; rw [e]; have := h.ld h0; omega, by show (rmV ..).length ≤ _; rw [e]; exact h.ba, h.bb⟩
  · have e : ∀ i j, (rmV T.b i j).length = T.b.length := fun i j => rmV_length _ _ _
    exact ⟨h.pa, fun h0 => by show P2 (rmV ..).length ∧ ((rmV ..).length = _ ∨ _ = 2 * (rmV ..).length); rw [e]; exact h.pb (by rwa [e] at h0), fun h0 => by show T.n - 1 ≤ T.a.length; have := h.ld (by have h1 : (rmV ..).length = 0 := h0; rwa [e] at h1); omega, h.ba, by show (rmV ..).length ≤ _; rw [e]; exact h.bb⟩
theorem shrT_pw (h : T.Pw N) : (shrT T).Pw N := by
  unfold shrT
  split
  · rename_i hc
    obtain ⟨h1, h2, h3⟩ := h.pa.half hc.2.1
    have hlen : (startT T (T.a.length / 2)).b.length = T.a.length / 2 := by simp [startT]
    have hba := h.ba
    refine ⟨h.pa, fun _ => ⟨?_, .inr ?_⟩, fun h0 => ?_, hba, ?_⟩
    · rw [hlen]; exact h1
    · rw [hlen]; exact h2
    · rw [hlen] at h0; omega
    · rw [hlen]; omega
  · exact h
theorem delT_pw (h : T.Pw N) (hn : T.n ≤ N) (k : ByteArray) : (delT T k).Pw N := by
  have h1 := tbStep_pw h hn
  unfold delT del1T
  split
  · exact shrT_pw (rm1T_pw h1 k)
  · exact h1
theorem updT_n (T : Tb α) (k : ByteArray) (v : α) : (updT T k v).n = T.n := by unfold updT; split <;> rfl
theorem insT_n (T : Tb α) (k : ByteArray) (v : α) : (insT T k v).n = T.n + 1 := by
  unfold insT
  split
  · split <;> rfl
  · rfl
theorem putT_n (T : Tb α) (k : ByteArray) (v : α) : (putT T k v).n ≤ T.n + 1 := by
  unfold putT put1T
  split
  · rw [updT_n, tbStep_n']; omega
  · rw [insT_n, tbStep_n']; omega
theorem delT_n (T : Tb α) (k : ByteArray) : (delT T k).n ≤ T.n := by
  unfold delT del1T
  split
  · have h1 : (shrT (rm1T (tbStep T) k)).n = (rm1T (tbStep T) k).n := by unfold shrT; split <;> rfl
    have h2 : (rm1T (tbStep T) k).n ≤ (tbStep T).n := by
      unfold rm1T
      split <;> (show (tbStep T).n - 1 ≤ _; omega)
    rw [h1]; rw [tbStep_n'] at h2; exact h2
  · rw [tbStep_n']; omega
end
end Go.V
