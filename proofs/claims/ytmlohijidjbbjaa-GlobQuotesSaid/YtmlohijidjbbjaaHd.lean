/- Plain law: what matches begins with the head. -/
import Derived.Test.YtmlohijidjbbjaaWk
import Derived.Test.YtmlohijidjbbjaaWo
namespace Go.Proofs.Ytmlohijidjbbjaa
open Go.V Go.Base
set_option linter.unusedVariables false
theorem mat_head : ∀ {l : List Glob} {s : List Int}, Mat false l s → ∃ r, s = headI l ++ r
  | [], s, h => ⟨s, rfl⟩
  | g :: l, s, h => by
    by_cases hk : g.kind = 3
    · obtain ⟨c, r, rfl, ho, hm⟩ := (mat_one (by omega)).1 h
      obtain ⟨r', rfl⟩ := mat_head hm
      refine ⟨r', ?_⟩
      have hc : c = g.c := by
        unfold oneB at ho
        rw [if_neg (by omega), if_pos hk] at ho
        have := of_decide_eq_true ho
        rwa [sF_f rfl, sF_f rfl] at this
      unfold headI
      rw [List.takeWhile_cons_of_pos (by simpa using hk), List.map_cons, hc]; rfl
    · exact ⟨s, by unfold headI; rw [List.takeWhile_cons_of_neg (by simpa using hk)]; rfl⟩
theorem headI_bytes (p : ByteArray) : ∀ x ∈ headI (parse (ints p)), 0 ≤ x ∧ x ≤ 255 := by
  intro x hx
  unfold headI at hx
  obtain ⟨g, hg, rfl⟩ := List.mem_map.1 hx
  have h := (parse_good_mem _ (byt_ints p) g ((List.takeWhile_subset _) hg)).1
  exact ⟨h.1, h.2.1⟩
theorem headS_ints (p : ByteArray) : ints (headS p) = headI (parse (ints p)) := ints_strI (headI_bytes p)
theorem heads {p s : ByteArray} (h1 : p.size ≤ 500) (h2 : s.size ≤ 500) (h : rmat p s false = true) : (headS p).size ≤ s.size ∧ s.extract (0 : Int).toNat ((headS p).size : Int).toNat = headS p := by
  rw [rmat_mat (by omega) (by omega)] at h
  obtain ⟨r, hr⟩ := mat_head h
  have hl := congrArg List.length hr
  rw [List.length_append, ints_length] at hl
  have hz : (headS p).size = (headI (parse (ints p))).length := strI_size _
  refine ⟨by omega, ints_inj ?_⟩
  rw [ints_extract, headS_ints, hr, Int.toNat_natCast, hz]
  show (List.drop 0 _).take _ = _
  rw [List.drop_zero, Int.toNat_zero, Nat.sub_zero, List.take_left]
end Go.Proofs.Ytmlohijidjbbjaa
