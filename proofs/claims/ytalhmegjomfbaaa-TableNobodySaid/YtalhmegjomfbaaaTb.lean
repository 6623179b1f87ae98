/- Walks: buckets, find. -/
import Derived.Test.YtalhmegjomfbaaaProg
import Derived.Test.YtalhmegjomfbaaaTa
import Derived.Test.YtalhmegjomfbaaaUnr
import Derived.Test.YtalhmegjomfbaaaAgg
namespace Go.Proofs.Ytalhmegjomfbaaa
open Go.V Go.Base
open Go.RowKit (Below)
attribute [local irreducible] Act.put Act.eval
set_option linter.unusedVariables false
set_option linter.unusedSimpArgs false
theorem info86 : (Try.prog.info? 86).map (fun i => (i.zero, i.size, i.bytes)) = some (some (.agg #[.string ⟨#[]⟩, .int .i64 0]), 2, 24) := by kernel_rfl
theorem info87 : (Try.prog.info? 87).map (fun i => (i.zero, i.size, i.bytes)) = some (some (.slice none 0 0), 1, 24) := by kernel_rfl
def itI : Rp (ByteArray × Int) := Rp.flat (⟨#[]⟩, 0) 2 (fun x => [.string x.1, .int .i64 x.2]) (fun _ => rfl) (fun x u hu => by simp at hu; rcases hu with rfl | rfl <;> rfl)
theorem bkt_lt (seed : Nat) (k : ByteArray) {n : Nat} (h : 0 < n) : bkt seed n k < n := Nat.mod_lt _ h
theorem miss_step {α : Type} (R : Rp (ByteArray × α)) {l : List (ByteArray × α)} {k : ByteArray} {i : Nat} (h : ∀ (j : Nat) (x : ByteArray × α), j < i → l[j]? = some x → x.1 ≠ k) (hi : i < l.length) (hn : ¬ (at_ R l (i : Int)).1 = k) : ∀ (j : Nat) (x : ByteArray × α), j < i + 1 → l[j]? = some x → x.1 ≠ k := by
  intro j x hj hx
  by_cases hji : j = i
  · subst hji
    have := at_some R (xs := l) (i := (j : Int)) (by omega) (by omega)
    rw [Int.toNat_natCast, hx] at this
    injection this with this
    rw [this]; exact hn
  · exact h j x (by omega) hx
theorem miss_end {α : Type} {l : List (ByteArray × α)} {k : ByteArray} {i : Nat} (h : ∀ (j : Nat) (x : ByteArray × α), j < i → l[j]? = some x → x.1 ≠ k) (hi : l.length ≤ i) : ixI l k = -1 :=
  ixI_miss fun j x hx => h j x (by have := (List.getElem?_eq_some_iff.1 hx).1; omega) hx
theorem hit_end {α : Type} (R : Rp (ByteArray × α)) {l : List (ByteArray × α)} {k : ByteArray} {i : Nat} (h : ∀ (j : Nat) (x : ByteArray × α), j < i → l[j]? = some x → x.1 ≠ k) (hi : i < l.length) (hk : (at_ R l (i : Int)).1 = k) : ixI l k = (i : Int) :=
  ixI_hit hi h (at_some R (xs := l) (i := (i : Int)) (by omega) (by omega)) hk
set_option maxHeartbeats 4000000 in
set_option maxRecDepth 20000 in
theorem made_N (w : World) (t : Nat) (seed n0 n1 c1 gA gB : Nat) (m1 m2 : Value) (hB : Blk w t [.int .u64 (seed : Int), .slice (some ⟨gA, 0, none⟩) n0 n0, .slice none 0 0, m1, m2] 67) : Calls Try.prog 51 #[.pointer (some ⟨t, 0, none⟩)] w (fun e w' => e = .returned (.bool true) ∧ Fr [] w w') := by
 have hF := Fr.refl [] w
 refine V.enter 13 Try.func51 rfl rfl ?_
 intro a hz ha
 have s0 : a.eval (.tmp 0) = (.pointer (some ⟨t, 0, none⟩)) := ha 0 _ rfl
 clear ha
 refine V.seq (fun K1 hK2 => ?_)
 refine V.rg ?_
 refine V.ga evc ?_
 refine V.nil ?_
 refine V.then_n (hK2 _ _ ?_)
 refine V.seq (fun K3 hK4 => ?_)
 refine V.rg ?_
 refine V.gm (o1 rfl s0) ?_
 refine V.ge_ [(3, .pointer (some ⟨t, 0, none⟩))] ⟨(sm hz.p1 rfl), trivial⟩ (.bool true) ?_
 refine V.gm (sm hz.p2 rfl) ?_
 refine V.go_on 5 (by kernel_rfl) (sm hz.p2.p1 rfl) (V.mv (o4 rfl s0) ?_)
 refine V.go_on 5 (by kernel_rfl) (o1 rfl (sm hz.p2.p1 rfl)) (V.pv [(6, .pointer (some ⟨t, 0, none⟩))] ⟨(sm hz.p4 rfl), trivial⟩ (by kernel_rfl) (.pointer (some ⟨t, 0, none⟩)) (by kernel_rfl) ?_)
 refine V.go_on 5 (by kernel_rfl) (o2 rfl (sm hz.p2.p1 rfl)) (V.pv [(7, .pointer (some ⟨t, 0, none⟩))] ⟨(sm hz.p4.p1 rfl), trivial⟩ (by kernel_rfl) (.pointer (some ⟨t, 1, none⟩)) (by kernel_rfl) ?_)
 refine V.go_on 5 (by kernel_rfl) (o2 rfl (o1 rfl (sm hz.p2.p1 rfl))) (V.pv [(8, .pointer (some ⟨t, 1, none⟩))] ⟨(sm hz.p4.p2 rfl), trivial⟩ (by kernel_rfl) (.pointer (some ⟨t, 1, none⟩)) (by kernel_rfl) ?_)
 refine V.go_on 5 (by kernel_rfl) (o4 rfl (sm hz.p2.p1 rfl)) (V.ld ⟨t, 1, none⟩ (.slice (some ⟨gA, 0, none⟩) n0 n0) (sm hz.p4.p2.p1 rfl) (by kernel_rfl) (hB.at 1 rfl) ?_)
 refine V.go_on 5 (by kernel_rfl) (o4 rfl (o1 rfl (sm hz.p2.p1 rfl))) (V.pv [(10, .slice (some ⟨gA, 0, none⟩) n0 n0)] ⟨(sm hz.p8 rfl), trivial⟩ (by kernel_rfl) (.bool true) (by kernel_rfl) ?_)
 refine V.go (V.pk_t (o4 rfl (o2 rfl (sm hz.p2.p1 rfl))) (v := (.bool true)) (sm hz.p8.p1 rfl) ?_)
 refine V.ga (sm hz.p8.p2 rfl) ?_
 refine V.nil ?_
 refine V.then_n (hK4 _ _ ?_)
 refine V.flushW hz.p8.p4 (fun a5 hz6 up7 => ?_)
 have s2_8 := up7 2 _ (sm hz.p8.p2.p1 rfl)
 clear up7
 refine V.ret ?_
 refine V.ret1 hz6 rfl (s2_8) ?_
 exact ⟨rfl, hF⟩
set_option maxHeartbeats 4000000 in
set_option maxRecDepth 20000 in
theorem made_M (w : World) (t : Nat) (seed n0 n1 c1 gA gB : Nat) (m1 m2 : Value) (hB : Blk w t [.int .u64 (seed : Int), .slice (some ⟨gA, 0, none⟩) n0 n0, .slice (some ⟨gB, 0, none⟩) n1 n1, m1, m2] 67) : Calls Try.prog 51 #[.pointer (some ⟨t, 0, none⟩)] w (fun e w' => e = .returned (.bool true) ∧ Fr [] w w') := by
 have hF := Fr.refl [] w
 refine V.enter 13 Try.func51 rfl rfl ?_
 intro a hz ha
 have s0 : a.eval (.tmp 0) = (.pointer (some ⟨t, 0, none⟩)) := ha 0 _ rfl
 clear ha
 refine V.seq (fun K1 hK2 => ?_)
 refine V.rg ?_
 refine V.ga evc ?_
 refine V.nil ?_
 refine V.then_n (hK2 _ _ ?_)
 refine V.seq (fun K3 hK4 => ?_)
 refine V.rg ?_
 refine V.gm (o1 rfl s0) ?_
 refine V.ge_ [(3, .pointer (some ⟨t, 0, none⟩))] ⟨(sm hz.p1 rfl), trivial⟩ (.bool true) ?_
 refine V.gm (sm hz.p2 rfl) ?_
 refine V.go_on 5 (by kernel_rfl) (sm hz.p2.p1 rfl) (V.mv (o4 rfl s0) ?_)
 refine V.go_on 5 (by kernel_rfl) (o1 rfl (sm hz.p2.p1 rfl)) (V.pv [(6, .pointer (some ⟨t, 0, none⟩))] ⟨(sm hz.p4 rfl), trivial⟩ (by kernel_rfl) (.pointer (some ⟨t, 0, none⟩)) (by kernel_rfl) ?_)
 refine V.go_on 5 (by kernel_rfl) (o2 rfl (sm hz.p2.p1 rfl)) (V.pv [(7, .pointer (some ⟨t, 0, none⟩))] ⟨(sm hz.p4.p1 rfl), trivial⟩ (by kernel_rfl) (.pointer (some ⟨t, 1, none⟩)) (by kernel_rfl) ?_)
 refine V.go_on 5 (by kernel_rfl) (o2 rfl (o1 rfl (sm hz.p2.p1 rfl))) (V.pv [(8, .pointer (some ⟨t, 1, none⟩))] ⟨(sm hz.p4.p2 rfl), trivial⟩ (by kernel_rfl) (.pointer (some ⟨t, 1, none⟩)) (by kernel_rfl) ?_)
 refine V.go_on 5 (by kernel_rfl) (o4 rfl (sm hz.p2.p1 rfl)) (V.ld ⟨t, 1, none⟩ (.slice (some ⟨gA, 0, none⟩) n0 n0) (sm hz.p4.p2.p1 rfl) (by kernel_rfl) (hB.at 1 rfl) ?_)
 refine V.go_on 5 (by kernel_rfl) (o4 rfl (o1 rfl (sm hz.p2.p1 rfl))) (V.pv [(10, .slice (some ⟨gA, 0, none⟩) n0 n0)] ⟨(sm hz.p8 rfl), trivial⟩ (by kernel_rfl) (.bool true) (by kernel_rfl) ?_)
 refine V.go (V.pk_t (o4 rfl (o2 rfl (sm hz.p2.p1 rfl))) (v := (.bool true)) (sm hz.p8.p1 rfl) ?_)
 refine V.ga (sm hz.p8.p2 rfl) ?_
 refine V.nil ?_
 refine V.then_n (hK4 _ _ ?_)
 refine V.flushW hz.p8.p4 (fun a5 hz6 up7 => ?_)
 have s2_8 := up7 2 _ (sm hz.p8.p2.p1 rfl)
 clear up7
 refine V.ret ?_
 refine V.ret1 hz6 rfl (s2_8) ?_
 exact ⟨rfl, hF⟩
set_option maxHeartbeats 4000000 in
set_option maxRecDepth 20000 in
theorem moves_N (w : World) (t : Nat) (seed n0 n1 c1 gA gB : Nat) (m1 m2 : Value) (hB : Blk w t [.int .u64 (seed : Int), .slice (some ⟨gA, 0, none⟩) n0 n0, .slice none 0 0, m1, m2] 67) : Calls Try.prog 65 #[.pointer (some ⟨t, 0, none⟩)] w (fun e w' => e = .returned (.bool false) ∧ Fr [] w w') := by
 have hF := Fr.refl [] w
 refine V.enter 9 Try.func65 rfl rfl ?_
 intro a hz ha
 have s0 : a.eval (.tmp 0) = (.pointer (some ⟨t, 0, none⟩)) := ha 0 _ rfl
 clear ha
 refine V.seq (fun K1 hK2 => ?_)
 refine V.rg ?_
 refine V.ga evc ?_
 refine V.nil ?_
 refine V.then_n (hK2 _ _ ?_)
 refine V.seq (fun K3 hK4 => ?_)
 refine V.rg ?_
 refine V.gm (o1 rfl s0) ?_
 refine V.ge_ [(3, .pointer (some ⟨t, 0, none⟩))] ⟨(sm hz.p1 rfl), trivial⟩ (.pointer (some ⟨t, 0, none⟩)) ?_
 refine V.ge_ [(4, .pointer (some ⟨t, 0, none⟩))] ⟨(sm hz.p2 rfl), trivial⟩ (.pointer (some ⟨t, 1, none⟩)) ?_
 refine V.ge_ [(5, .pointer (some ⟨t, 1, none⟩))] ⟨(sm hz.p2.p1 rfl), trivial⟩ (.pointer (some ⟨t, 2, none⟩)) ?_
 refine V.go (V.ld ⟨t, 2, none⟩ (.slice none 0 0) (sm hz.p4 rfl) (by kernel_rfl) (hB.at 2 rfl) ?_)
 refine V.ge_ [(7, .slice none 0 0)] ⟨(sm hz.p4.p1 rfl), trivial⟩ (.bool false) ?_
 refine V.ga (sm hz.p4.p2 rfl) ?_
 refine V.nil ?_
 refine V.then_n (hK4 _ _ ?_)
 refine V.flushW hz.p8 (fun a5 hz6 up7 => ?_)
 have s2_8 := up7 2 _ (sm hz.p4.p2.p1 rfl)
 clear up7
 refine V.ret ?_
 refine V.ret1 hz6 rfl (s2_8) ?_
 exact ⟨rfl, hF⟩
set_option maxHeartbeats 4000000 in
set_option maxRecDepth 20000 in
theorem moves_M (w : World) (t : Nat) (seed n0 n1 c1 gA gB : Nat) (m1 m2 : Value) (hB : Blk w t [.int .u64 (seed : Int), .slice (some ⟨gA, 0, none⟩) n0 n0, .slice (some ⟨gB, 0, none⟩) n1 n1, m1, m2] 67) : Calls Try.prog 65 #[.pointer (some ⟨t, 0, none⟩)] w (fun e w' => e = .returned (.bool true) ∧ Fr [] w w') := by
 have hF := Fr.refl [] w
 refine V.enter 9 Try.func65 rfl rfl ?_
 intro a hz ha
 have s0 : a.eval (.tmp 0) = (.pointer (some ⟨t, 0, none⟩)) := ha 0 _ rfl
 clear ha
 refine V.seq (fun K1 hK2 => ?_)
 refine V.rg ?_
 refine V.ga evc ?_
 refine V.nil ?_
 refine V.then_n (hK2 _ _ ?_)
 refine V.seq (fun K3 hK4 => ?_)
 refine V.rg ?_
 refine V.gm (o1 rfl s0) ?_
 refine V.ge_ [(3, .pointer (some ⟨t, 0, none⟩))] ⟨(sm hz.p1 rfl), trivial⟩ (.pointer (some ⟨t, 0, none⟩)) ?_
 refine V.ge_ [(4, .pointer (some ⟨t, 0, none⟩))] ⟨(sm hz.p2 rfl), trivial⟩ (.pointer (some ⟨t, 1, none⟩)) ?_
 refine V.ge_ [(5, .pointer (some ⟨t, 1, none⟩))] ⟨(sm hz.p2.p1 rfl), trivial⟩ (.pointer (some ⟨t, 2, none⟩)) ?_
 refine V.go (V.ld ⟨t, 2, none⟩ (.slice (some ⟨gB, 0, none⟩) n1 n1) (sm hz.p4 rfl) (by kernel_rfl) (hB.at 2 rfl) ?_)
 refine V.ge_ [(7, .slice (some ⟨gB, 0, none⟩) n1 n1)] ⟨(sm hz.p4.p1 rfl), trivial⟩ (.bool true) ?_
 refine V.ga (sm hz.p4.p2 rfl) ?_
 refine V.nil ?_
 refine V.then_n (hK4 _ _ ?_)
 refine V.flushW hz.p8 (fun a5 hz6 up7 => ?_)
 have s2_8 := up7 2 _ (sm hz.p4.p2.p1 rfl)
 clear up7
 refine V.ret ?_
 refine V.ret1 hz6 rfl (s2_8) ?_
 exact ⟨rfl, hF⟩
set_option maxHeartbeats 4000000 in
set_option maxRecDepth 20000 in
theorem bucket_N0 (w : World) (t : Nat) (seed n0 n1 c1 gA gB : Nat) (m1 m2 : Value) (hB : Blk w t [.int .u64 (seed : Int), .slice (some ⟨gA, 0, none⟩) n0 n0, .slice none 0 0, m1, m2] 67) (k : ByteArray) (hsd : seed < 18446744073709551616) (hk : k.size ≤ 9223372036854775807) (hn : 0 < n0) (hn2 : n0 ≤ 4398046511104) : Calls Try.prog 66 #[.pointer (some ⟨t, 0, none⟩), .int .i64 0, .string k] w (fun e w' => e = .returned (.int .i64 ((bkt seed n0 k : Nat) : Int)) ∧ Fr [] w w') := by
 have hF := Fr.refl [] w
 have hbk := bkt_lt seed k hn
 refine V.enter 23 Try.func66 rfl rfl ?_
 intro a hz ha
 have s0 : a.eval (.tmp 0) = (.pointer (some ⟨t, 0, none⟩)) := ha 0 _ rfl
 have s1 : a.eval (.tmp 1) = (.int .i64 0) := ha 1 _ rfl
 have s2 : a.eval (.tmp 2) = (.string k) := ha 2 _ rfl
 clear ha
 refine V.seq (fun K1 hK2 => ?_)
 refine V.rg ?_
 refine V.ga evc ?_
 refine V.nil ?_
 refine V.then_n (hK2 _ _ ?_)
 refine V.seq (fun K3 hK4 => ?_)
 refine V.plan [[], [0], [0, 1], [0, 1, 2], [], [0, 1, 2, 3, 4], [], [], [6], [6, 8], [6, 7, 8, 9], [6, 7, 8, 9, 10], [6, 7, 8, 9, 10, 11], [6, 7, 8, 9, 10, 11, 12], [0, 1, 2, 3, 4, 5, 6, 7, 8, 9, 10, 11, 12, 13], [0, 1, 2, 3, 4, 5, 6, 7, 8, 9, 10, 11, 12, 13, 14], [0, 1, 2, 3, 4, 5, 6, 7, 8, 9, 10, 11, 12, 13, 14, 15]] [([0, 1, 2, 3, 4, 6, 7, 8, 9, 10, 11, 12, 13], some (5, [11])), ([14, 15, 16], none)] (by kernel_rfl) (by kernel_rfl) (by exact fun _ _ _ _ h => h) ?_
 simp only [Plan.wpSegs, Plan.pickAll, Plan.nth, V.L_eq]
 obtain ⟨w5, hF6e⟩ : ∃ w1, w1 = w.drew := ⟨_, rfl⟩
 rw [← hF6e]
 have hF6 : Fr [] w w5 := by rw [hF6e]; exact Fr.drew _ _
 have hsw5 : w5.heap.size = w.heap.size := by rw [hF6e]; rfl
 clear hF6e
 have hF_7 := hF.new hF6
 have hB_8 := hB.fr0 hF6
 refine V.gm (o1 rfl s0) ?_
 refine V.ge_ [(7, .pointer (some ⟨t, 0, none⟩))] ⟨(sm hz.p1 rfl), trivial⟩ (.pointer (some ⟨t, 0, none⟩)) ?_
 refine V.ge_ [(8, .pointer (some ⟨t, 0, none⟩))] ⟨(sm hz.p2 rfl), trivial⟩ (.pointer (some ⟨t, 0, none⟩)) ?_
 refine V.go (V.ld ⟨t, 0, none⟩ (.int .u64 (seed : Int)) (sm hz.p2.p1 rfl) (by kernel_rfl) (hB_8.at 0 rfl) ?_)
 refine V.gm (o4 rfl (o1 rfl s2)) ?_
 refine V.gm (o4 rfl (o2 rfl s0)) ?_
 refine V.gm (o4 rfl (o2 rfl (o1 rfl s1))) ?_
 refine V.ge_ [(13, .pointer (some ⟨t, 0, none⟩))] ⟨(o1 rfl (sm hz.p4.p2 rfl)), trivial⟩ (.pointer (some ⟨t, 0, none⟩)) ?_
 refine V.ge_ [(15, .pointer (some ⟨t, 0, none⟩))] ⟨(sm hz.p8 rfl), trivial⟩ (.pointer (some ⟨t, 1, none⟩)) ?_
 refine V.ge_ [(16, .pointer (some ⟨t, 1, none⟩)), (14, .int .i64 0)] ⟨(sm hz.p8.p1 rfl), (o2 rfl (sm hz.p4.p2.p1 rfl)), trivial⟩ (.pointer (some ⟨t, 1, none⟩)) ?_
 refine V.go (V.ld ⟨t, 1, none⟩ (.slice (some ⟨gA, 0, none⟩) n0 n0) (sm hz.p8.p2 rfl) (by kernel_rfl) (hB_8.at 1 rfl) ?_)
 refine V.ge_ [(18, .slice (some ⟨gA, 0, none⟩) n0 n0)] ⟨(sm hz.p8.p2.p1 rfl), trivial⟩ (.int .i64 ((n0 : Nat) : Int)) ?_
 refine V.gf_ [(19, .int .i64 ((n0 : Nat) : Int))] ⟨(sm hz.p8.p4 rfl), trivial⟩ (.int .u64 (IntKind.u64.wrap ((n0 : Nat) : Int))) (.int .u64 ((n0 : Nat) : Int)) (V.w_u64 (by omega) (by omega)) ?_
 refine V.nil ?_
 refine ⟨chk [(7, .pointer (some ⟨t, 0, none⟩)), (13, .pointer (some ⟨t, 0, none⟩)), (18, .slice (some ⟨gA, 0, none⟩) n0 n0), (19, .int .i64 ((n0 : Nat) : Int))] ⟨(o8 rfl (o4 rfl (sm hz.p1 rfl))), (o4 rfl (o2 rfl (o1 rfl (sm hz.p4.p2 rfl)))), (o2 rfl (sm hz.p8.p2.p1 rfl)), (o1 rfl (sm hz.p8.p4 rfl)), trivial⟩ (by kernel_rfl), ?_⟩
 refine V.go (V.call 11 #[] #[.int .u64 (seed : Int), .string k] evf (args2 (o8 rfl (o1 rfl (sm hz.p4 rfl))) (o8 rfl (sm hz.p4.p1 rfl))) (Go.Proofs.enters_of Try.func11 (by kernel_rfl) rfl) (hash_any w5 seed k (by omega) (by omega)) ?_)
 rintro _ w10 ⟨rfl, hF9⟩
 refine ⟨_, rfl, ?_⟩
 have hsw10 := hF9.size
 have hF_11 := hF_7.new hF9
 have hB_12 := hB_8.fr0 hF9
 have hhl9 := hashN_lt (seed := seed) (by omega) k
 refine V.nil ?_
 refine ⟨(fun _ => held_blk (n := 1) (hx := (o2 rfl (o1 rfl (sm hz.p8.p2 rfl)))) hB_8 hB_12 (by kernel_rfl) rfl (by simp only [List.length]; omega)), ?_⟩
 refine V.go (V.remN (hashN seed k) n0 (sm hz.p8.p4.p2 rfl) (o1 rfl (sm hz.p8.p4.p1 rfl)) (by omega) ?_)
 refine V.gf_ [(21, .int .u64 ((bkt seed n0 k : Nat) : Int))] ⟨(sm hz.p8.p4.p2.p1 rfl), trivial⟩ (.int .i64 (IntKind.i64.wrap ((bkt seed n0 k : Nat) : Int))) (.int .i64 ((bkt seed n0 k : Nat) : Int)) (V.w_i64 (by omega) (by omega)) ?_
 refine V.ga (sm hz.p16 rfl) ?_
 refine V.nil ?_
 refine ⟨chk [(12, .int .u64 ((hashN seed k : Nat) : Int)), (20, .int .u64 ((n0 : Nat) : Int)), (21, .int .u64 ((bkt seed n0 k : Nat) : Int))] ⟨(o2 rfl (o1 rfl (sm hz.p8.p4.p2 rfl))), (o4 rfl (sm hz.p8.p4.p1 rfl)), (o2 rfl (sm hz.p8.p4.p2.p1 rfl)), trivial⟩ (by kernel_rfl), ?_⟩
 refine V.then_n (hK4 _ _ ?_)
 refine V.flushW hz.p16.p2 (fun a13 hz14 up15 => ?_)
 have s6_16 := up15 6 _ (sm hz.p16.p1 rfl)
 clear up15
 refine V.ret ?_
 refine V.ret1 hz14 rfl (s6_16) ?_
 exact ⟨rfl, hF_11⟩
set_option maxHeartbeats 4000000 in
set_option maxRecDepth 20000 in
theorem bucket_M0 (w : World) (t : Nat) (seed n0 n1 c1 gA gB : Nat) (m1 m2 : Value) (hB : Blk w t [.int .u64 (seed : Int), .slice (some ⟨gA, 0, none⟩) n0 n0, .slice (some ⟨gB, 0, none⟩) n1 n1, m1, m2] 67) (k : ByteArray) (hsd : seed < 18446744073709551616) (hk : k.size ≤ 9223372036854775807) (hn : 0 < n0) (hn2 : n0 ≤ 4398046511104) : Calls Try.prog 66 #[.pointer (some ⟨t, 0, none⟩), .int .i64 0, .string k] w (fun e w' => e = .returned (.int .i64 ((bkt seed n0 k : Nat) : Int)) ∧ Fr [] w w') := by
 have hF := Fr.refl [] w
 have hbk := bkt_lt seed k hn
 refine V.enter 23 Try.func66 rfl rfl ?_
 intro a hz ha
 have s0 : a.eval (.tmp 0) = (.pointer (some ⟨t, 0, none⟩)) := ha 0 _ rfl
 have s1 : a.eval (.tmp 1) = (.int .i64 0) := ha 1 _ rfl
 have s2 : a.eval (.tmp 2) = (.string k) := ha 2 _ rfl
 clear ha
 refine V.seq (fun K1 hK2 => ?_)
 refine V.rg ?_
 refine V.ga evc ?_
 refine V.nil ?_
 refine V.then_n (hK2 _ _ ?_)
 refine V.seq (fun K3 hK4 => ?_)
 refine V.plan [[], [0], [0, 1], [0, 1, 2], [], [0, 1, 2, 3, 4], [], [], [6], [6, 8], [6, 7, 8, 9], [6, 7, 8, 9, 10], [6, 7, 8, 9, 10, 11], [6, 7, 8, 9, 10, 11, 12], [0, 1, 2, 3, 4, 5, 6, 7, 8, 9, 10, 11, 12, 13], [0, 1, 2, 3, 4, 5, 6, 7, 8, 9, 10, 11, 12, 13, 14], [0, 1, 2, 3, 4, 5, 6, 7, 8, 9, 10, 11, 12, 13, 14, 15]] [([0, 1, 2, 3, 4, 6, 7, 8, 9, 10, 11, 12, 13], some (5, [11])), ([14, 15, 16], none)] (by kernel_rfl) (by kernel_rfl) (by exact fun _ _ _ _ h => h) ?_
 simp only [Plan.wpSegs, Plan.pickAll, Plan.nth, V.L_eq]
 obtain ⟨w5, hF6e⟩ : ∃ w1, w1 = w.drew := ⟨_, rfl⟩
 rw [← hF6e]
 have hF6 : Fr [] w w5 := by rw [hF6e]; exact Fr.drew _ _
 have hsw5 : w5.heap.size = w.heap.size := by rw [hF6e]; rfl
 clear hF6e
 have hF_7 := hF.new hF6
 have hB_8 := hB.fr0 hF6
 refine V.gm (o1 rfl s0) ?_
 refine V.ge_ [(7, .pointer (some ⟨t, 0, none⟩))] ⟨(sm hz.p1 rfl), trivial⟩ (.pointer (some ⟨t, 0, none⟩)) ?_
 refine V.ge_ [(8, .pointer (some ⟨t, 0, none⟩))] ⟨(sm hz.p2 rfl), trivial⟩ (.pointer (some ⟨t, 0, none⟩)) ?_
 refine V.go (V.ld ⟨t, 0, none⟩ (.int .u64 (seed : Int)) (sm hz.p2.p1 rfl) (by kernel_rfl) (hB_8.at 0 rfl) ?_)
 refine V.gm (o4 rfl (o1 rfl s2)) ?_
 refine V.gm (o4 rfl (o2 rfl s0)) ?_
 refine V.gm (o4 rfl (o2 rfl (o1 rfl s1))) ?_
 refine V.ge_ [(13, .pointer (some ⟨t, 0, none⟩))] ⟨(o1 rfl (sm hz.p4.p2 rfl)), trivial⟩ (.pointer (some ⟨t, 0, none⟩)) ?_
 refine V.ge_ [(15, .pointer (some ⟨t, 0, none⟩))] ⟨(sm hz.p8 rfl), trivial⟩ (.pointer (some ⟨t, 1, none⟩)) ?_
 refine V.ge_ [(16, .pointer (some ⟨t, 1, none⟩)), (14, .int .i64 0)] ⟨(sm hz.p8.p1 rfl), (o2 rfl (sm hz.p4.p2.p1 rfl)), trivial⟩ (.pointer (some ⟨t, 1, none⟩)) ?_
 refine V.go (V.ld ⟨t, 1, none⟩ (.slice (some ⟨gA, 0, none⟩) n0 n0) (sm hz.p8.p2 rfl) (by kernel_rfl) (hB_8.at 1 rfl) ?_)
 refine V.ge_ [(18, .slice (some ⟨gA, 0, none⟩) n0 n0)] ⟨(sm hz.p8.p2.p1 rfl), trivial⟩ (.int .i64 ((n0 : Nat) : Int)) ?_
 refine V.gf_ [(19, .int .i64 ((n0 : Nat) : Int))] ⟨(sm hz.p8.p4 rfl), trivial⟩ (.int .u64 (IntKind.u64.wrap ((n0 : Nat) : Int))) (.int .u64 ((n0 : Nat) : Int)) (V.w_u64 (by omega) (by omega)) ?_
 refine V.nil ?_
 refine ⟨chk [(7, .pointer (some ⟨t, 0, none⟩)), (13, .pointer (some ⟨t, 0, none⟩)), (18, .slice (some ⟨gA, 0, none⟩) n0 n0), (19, .int .i64 ((n0 : Nat) : Int))] ⟨(o8 rfl (o4 rfl (sm hz.p1 rfl))), (o4 rfl (o2 rfl (o1 rfl (sm hz.p4.p2 rfl)))), (o2 rfl (sm hz.p8.p2.p1 rfl)), (o1 rfl (sm hz.p8.p4 rfl)), trivial⟩ (by kernel_rfl), ?_⟩
 refine V.go (V.call 11 #[] #[.int .u64 (seed : Int), .string k] evf (args2 (o8 rfl (o1 rfl (sm hz.p4 rfl))) (o8 rfl (sm hz.p4.p1 rfl))) (Go.Proofs.enters_of Try.func11 (by kernel_rfl) rfl) (hash_any w5 seed k (by omega) (by omega)) ?_)
 rintro _ w10 ⟨rfl, hF9⟩
 refine ⟨_, rfl, ?_⟩
 have hsw10 := hF9.size
 have hF_11 := hF_7.new hF9
 have hB_12 := hB_8.fr0 hF9
 have hhl9 := hashN_lt (seed := seed) (by omega) k
 refine V.nil ?_
 refine ⟨(fun _ => held_blk (n := 1) (hx := (o2 rfl (o1 rfl (sm hz.p8.p2 rfl)))) hB_8 hB_12 (by kernel_rfl) rfl (by simp only [List.length]; omega)), ?_⟩
 refine V.go (V.remN (hashN seed k) n0 (sm hz.p8.p4.p2 rfl) (o1 rfl (sm hz.p8.p4.p1 rfl)) (by omega) ?_)
 refine V.gf_ [(21, .int .u64 ((bkt seed n0 k : Nat) : Int))] ⟨(sm hz.p8.p4.p2.p1 rfl), trivial⟩ (.int .i64 (IntKind.i64.wrap ((bkt seed n0 k : Nat) : Int))) (.int .i64 ((bkt seed n0 k : Nat) : Int)) (V.w_i64 (by omega) (by omega)) ?_
 refine V.ga (sm hz.p16 rfl) ?_
 refine V.nil ?_
 refine ⟨chk [(12, .int .u64 ((hashN seed k : Nat) : Int)), (20, .int .u64 ((n0 : Nat) : Int)), (21, .int .u64 ((bkt seed n0 k : Nat) : Int))] ⟨(o2 rfl (o1 rfl (sm hz.p8.p4.p2 rfl))), (o4 rfl (sm hz.p8.p4.p1 rfl)), (o2 rfl (sm hz.p8.p4.p2.p1 rfl)), trivial⟩ (by kernel_rfl), ?_⟩
 refine V.then_n (hK4 _ _ ?_)
 refine V.flushW hz.p16.p2 (fun a13 hz14 up15 => ?_)
 have s6_16 := up15 6 _ (sm hz.p16.p1 rfl)
 clear up15
 refine V.ret ?_
 refine V.ret1 hz14 rfl (s6_16) ?_
 exact ⟨rfl, hF_11⟩
set_option maxHeartbeats 4000000 in
set_option maxRecDepth 20000 in
theorem bucket_M1 (w : World) (t : Nat) (seed n0 n1 c1 gA gB : Nat) (m1 m2 : Value) (hB : Blk w t [.int .u64 (seed : Int), .slice (some ⟨gA, 0, none⟩) n0 n0, .slice (some ⟨gB, 0, none⟩) n1 n1, m1, m2] 67) (k : ByteArray) (hsd : seed < 18446744073709551616) (hk : k.size ≤ 9223372036854775807) (hn : 0 < n1) (hn2 : n1 ≤ 4398046511104) : Calls Try.prog 66 #[.pointer (some ⟨t, 0, none⟩), .int .i64 1, .string k] w (fun e w' => e = .returned (.int .i64 ((bkt seed n1 k : Nat) : Int)) ∧ Fr [] w w') := by
 have hF := Fr.refl [] w
 have hbk := bkt_lt seed k hn
 refine V.enter 23 Try.func66 rfl rfl ?_
 intro a hz ha
 have s0 : a.eval (.tmp 0) = (.pointer (some ⟨t, 0, none⟩)) := ha 0 _ rfl
 have s1 : a.eval (.tmp 1) = (.int .i64 1) := ha 1 _ rfl
 have s2 : a.eval (.tmp 2) = (.string k) := ha 2 _ rfl
 clear ha
 refine V.seq (fun K1 hK2 => ?_)
 refine V.rg ?_
 refine V.ga evc ?_
 refine V.nil ?_
 refine V.then_n (hK2 _ _ ?_)
 refine V.seq (fun K3 hK4 => ?_)
 refine V.plan [[], [0], [0, 1], [0, 1, 2], [], [0, 1, 2, 3, 4], [], [], [6], [6, 8], [6, 7, 8, 9], [6, 7, 8, 9, 10], [6, 7, 8, 9, 10, 11], [6, 7, 8, 9, 10, 11, 12], [0, 1, 2, 3, 4, 5, 6, 7, 8, 9, 10, 11, 12, 13], [0, 1, 2, 3, 4, 5, 6, 7, 8, 9, 10, 11, 12, 13, 14], [0, 1, 2, 3, 4, 5, 6, 7, 8, 9, 10, 11, 12, 13, 14, 15]] [([0, 1, 2, 3, 4, 6, 7, 8, 9, 10, 11, 12, 13], some (5, [11])), ([14, 15, 16], none)] (by kernel_rfl) (by kernel_rfl) (by exact fun _ _ _ _ h => h) ?_
 simp only [Plan.wpSegs, Plan.pickAll, Plan.nth, V.L_eq]
 obtain ⟨w5, hF6e⟩ : ∃ w1, w1 = w.drew := ⟨_, rfl⟩
 rw [← hF6e]
 have hF6 : Fr [] w w5 := by rw [hF6e]; exact Fr.drew _ _
 have hsw5 : w5.heap.size = w.heap.size := by rw [hF6e]; rfl
 clear hF6e
 have hF_7 := hF.new hF6
 have hB_8 := hB.fr0 hF6
 refine V.gm (o1 rfl s0) ?_
 refine V.ge_ [(7, .pointer (some ⟨t, 0, none⟩))] ⟨(sm hz.p1 rfl), trivial⟩ (.pointer (some ⟨t, 0, none⟩)) ?_
 refine V.ge_ [(8, .pointer (some ⟨t, 0, none⟩))] ⟨(sm hz.p2 rfl), trivial⟩ (.pointer (some ⟨t, 0, none⟩)) ?_
 refine V.go (V.ld ⟨t, 0, none⟩ (.int .u64 (seed : Int)) (sm hz.p2.p1 rfl) (by kernel_rfl) (hB_8.at 0 rfl) ?_)
 refine V.gm (o4 rfl (o1 rfl s2)) ?_
 refine V.gm (o4 rfl (o2 rfl s0)) ?_
 refine V.gm (o4 rfl (o2 rfl (o1 rfl s1))) ?_
 refine V.ge_ [(13, .pointer (some ⟨t, 0, none⟩))] ⟨(o1 rfl (sm hz.p4.p2 rfl)), trivial⟩ (.pointer (some ⟨t, 0, none⟩)) ?_
 refine V.ge_ [(15, .pointer (some ⟨t, 0, none⟩))] ⟨(sm hz.p8 rfl), trivial⟩ (.pointer (some ⟨t, 1, none⟩)) ?_
 refine V.ge_ [(16, .pointer (some ⟨t, 1, none⟩)), (14, .int .i64 1)] ⟨(sm hz.p8.p1 rfl), (o2 rfl (sm hz.p4.p2.p1 rfl)), trivial⟩ (.pointer (some ⟨t, 2, none⟩)) ?_
 refine V.go (V.ld ⟨t, 2, none⟩ (.slice (some ⟨gB, 0, none⟩) n1 n1) (sm hz.p8.p2 rfl) (by kernel_rfl) (hB_8.at 2 rfl) ?_)
 refine V.ge_ [(18, .slice (some ⟨gB, 0, none⟩) n1 n1)] ⟨(sm hz.p8.p2.p1 rfl), trivial⟩ (.int .i64 ((n1 : Nat) : Int)) ?_
 refine V.gf_ [(19, .int .i64 ((n1 : Nat) : Int))] ⟨(sm hz.p8.p4 rfl), trivial⟩ (.int .u64 (IntKind.u64.wrap ((n1 : Nat) : Int))) (.int .u64 ((n1 : Nat) : Int)) (V.w_u64 (by omega) (by omega)) ?_
 refine V.nil ?_
 refine ⟨chk [(7, .pointer (some ⟨t, 0, none⟩)), (13, .pointer (some ⟨t, 0, none⟩)), (18, .slice (some ⟨gB, 0, none⟩) n1 n1), (19, .int .i64 ((n1 : Nat) : Int))] ⟨(o8 rfl (o4 rfl (sm hz.p1 rfl))), (o4 rfl (o2 rfl (o1 rfl (sm hz.p4.p2 rfl)))), (o2 rfl (sm hz.p8.p2.p1 rfl)), (o1 rfl (sm hz.p8.p4 rfl)), trivial⟩ (by kernel_rfl), ?_⟩
 refine V.go (V.call 11 #[] #[.int .u64 (seed : Int), .string k] evf (args2 (o8 rfl (o1 rfl (sm hz.p4 rfl))) (o8 rfl (sm hz.p4.p1 rfl))) (Go.Proofs.enters_of Try.func11 (by kernel_rfl) rfl) (hash_any w5 seed k (by omega) (by omega)) ?_)
 rintro _ w10 ⟨rfl, hF9⟩
 refine ⟨_, rfl, ?_⟩
 have hsw10 := hF9.size
 have hF_11 := hF_7.new hF9
 have hB_12 := hB_8.fr0 hF9
 have hhl9 := hashN_lt (seed := seed) (by omega) k
 refine V.nil ?_
 refine ⟨(fun _ => held_blk (n := 1) (hx := (o2 rfl (o1 rfl (sm hz.p8.p2 rfl)))) hB_8 hB_12 (by kernel_rfl) rfl (by simp only [List.length]; omega)), ?_⟩
 refine V.go (V.remN (hashN seed k) n1 (sm hz.p8.p4.p2 rfl) (o1 rfl (sm hz.p8.p4.p1 rfl)) (by omega) ?_)
 refine V.gf_ [(21, .int .u64 ((bkt seed n1 k : Nat) : Int))] ⟨(sm hz.p8.p4.p2.p1 rfl), trivial⟩ (.int .i64 (IntKind.i64.wrap ((bkt seed n1 k : Nat) : Int))) (.int .i64 ((bkt seed n1 k : Nat) : Int)) (V.w_i64 (by omega) (by omega)) ?_
 refine V.ga (sm hz.p16 rfl) ?_
 refine V.nil ?_
 refine ⟨chk [(12, .int .u64 ((hashN seed k : Nat) : Int)), (20, .int .u64 ((n1 : Nat) : Int)), (21, .int .u64 ((bkt seed n1 k : Nat) : Int))] ⟨(o2 rfl (o1 rfl (sm hz.p8.p4.p2 rfl))), (o4 rfl (sm hz.p8.p4.p1 rfl)), (o2 rfl (sm hz.p8.p4.p2.p1 rfl)), trivial⟩ (by kernel_rfl), ?_⟩
 refine V.then_n (hK4 _ _ ?_)
 refine V.flushW hz.p16.p2 (fun a13 hz14 up15 => ?_)
 have s6_16 := up15 6 _ (sm hz.p16.p1 rfl)
 clear up15
 refine V.ret ?_
 refine V.ret1 hz14 rfl (s6_16) ?_
 exact ⟨rfl, hF_11⟩
set_option maxHeartbeats 4000000 in
set_option maxRecDepth 20000 in
theorem find1_any (w : World) (kb : Nat) (x : ByteArray) (v : Int) (k : ByteArray) (hB : Blk w kb [.string k] 9) : Calls Try.prog 75 #[.agg #[.string x, .int .i64 v], .pointer (some ⟨kb, 0, none⟩)] w (fun e w' => e = .returned (.bool (decide (x = k))) ∧ Fr [] w w') := by
 have hF := Fr.refl [] w
 refine V.enter 8 Try.func75 rfl rfl ?_
 intro a hz ha
 have s0 : a.eval (.tmp 0) = (.agg #[.string x, .int .i64 v]) := ha 0 _ rfl
 have s1 : a.eval (.tmp 1) = (.pointer (some ⟨kb, 0, none⟩)) := ha 1 _ rfl
 clear ha
 refine V.seq (fun K1 hK2 => ?_)
 refine V.rg ?_
 refine V.go (V.mk [(0, .agg #[.string x, .int .i64 v])] ⟨(s0), trivial⟩ (by kernel_rfl) [.string x, .int .i64 v] 86 (fun b => .pointer (some ⟨b, 0, none⟩)) (by kernel_rfl) ?_)
 intro w4 b3 heb3 hB5 hF6 hsb3
 have hF_7 := hF.new hF6
 have hB_8 := hB.fr0 hF6
 refine V.ga evc ?_
 refine V.nil ?_
 refine V.then_n (hK2 _ _ ?_)
 refine V.seq (fun K9 hK10 => ?_)
 refine V.rg ?_
 refine V.ge_ [(2, .pointer (some ⟨b3, 0, none⟩))] ⟨(o1 rfl (sm hz rfl)), trivial⟩ (.pointer (some ⟨b3, 0, none⟩)) ?_
 refine V.go (V.ld ⟨b3, 0, none⟩ (.string x) (sm hz.p2 rfl) (by kernel_rfl) (hB5.at 0 rfl) ?_)
 refine V.go (V.ld ⟨kb, 0, none⟩ (.string k) (o4 rfl s1) (by kernel_rfl) (hB_8.at 0 rfl) ?_)
 refine V.gf_ [(5, .string x), (6, .string k)] ⟨(o1 rfl (sm hz.p2.p1 rfl)), (sm hz.p4 rfl), trivial⟩ (.bool ((x.toList == k.toList))) (.bool (decide (x = k))) V.t_seql ?_
 refine V.ga (sm hz.p4.p1 rfl) ?_
 refine V.nil ?_
 refine V.then_n (hK10 _ _ ?_)
 refine V.flushW hz.p4.p2.p1 (fun a11 hz12 up13 => ?_)
 have s3_14 := up13 3 _ (sm hz.p4.p2 rfl)
 clear up13
 refine V.ret ?_
 refine V.ret1 hz12 rfl (s3_14) ?_
 exact ⟨congrArg Ending.returned (congrArg Value.bool rfl), hF_7⟩
set_option maxHeartbeats 4000000 in
set_option maxRecDepth 20000 in
theorem ixf_any (w : World) (Z : Nat → Prop) (A0 : Option Addr) (c0 kb : Nat) (l : List (ByteArray × Int)) (k : ByteArray) (hS : SlR itI Z w (.slice A0 l.length c0) l) (hB : Blk w kb [.string k] 9) : Calls Try.prog 74 #[.slice A0 l.length c0, .func (.func 75) #[] #[.pointer (some ⟨kb, 0, none⟩)]] w (fun e w' => e = .returned (.int .i64 (ixI l k)) ∧ Fr [] w w') := by
 have hF := Fr.refl [] w
 have hlen0 := hS.len_le
 refine V.enter 19 Try.func74 rfl rfl ?_
 intro a hz ha
 have s0 : a.eval (.tmp 0) = (.slice A0 l.length c0) := ha 0 _ rfl
 have s1 : a.eval (.tmp 1) = (.func (.func 75) #[] #[.pointer (some ⟨kb, 0, none⟩)]) := ha 1 _ rfl
 clear ha
 refine V.seq (fun K1 hK2 => ?_)
 refine V.rg ?_
 refine V.ga evc ?_
 refine V.nil ?_
 refine V.then_n (hK2 _ _ ?_)
 refine V.seq (fun K3 hK4 => ?_)
 refine V.seq (fun K5 hK6 => ?_)
 refine V.rg ?_
 refine V.gm (o1 rfl s0) ?_
 refine V.ge_ [(6, .slice A0 l.length c0)] ⟨(sm hz.p1 rfl), trivial⟩ (.int .i64 ((l.length : Nat) : Int)) ?_
 refine V.gm evc ?_
 refine V.nil ?_
 refine V.then_n (hK6 _ _ ?_)
 refine V.flushW hz.p4 (fun a7 hz8 up9 => ?_)
 have s0_10 := up9 0 _ (o4 rfl s0)
 have s1_11 := up9 1 _ (o4 rfl s1)
 have s7_12 := up9 7 _ (o1 rfl (sm hz.p2 rfl))
 have s8_13 := up9 8 _ (sm hz.p2.p1 rfl)
 clear up9
 refine V.block ?_
 refine V.loop1 (fun (i : Nat) a_ w_ => Sz 19 a_ ∧ a_.eval (.tmp 0) = (.slice A0 l.length c0) ∧ a_.eval (.tmp 1) = (.func (.func 75) #[] #[.pointer (some ⟨kb, 0, none⟩)]) ∧ a_.eval (.tmp 7) = (.int .i64 ((l.length : Nat) : Int)) ∧ a_.eval (.tmp 8) = (.int .i64 (i : Int)) ∧ Fr [] w w_ ∧ SlR itI Z w_ (.slice A0 l.length c0) l ∧ Blk w_ kb [.string k] 9 ∧ (i ≤ l.length) ∧ (∀ (j : Nat) (x : ByteArray × Int), j < i → l[j]? = some x → x.1 ≠ k)) (fun (i : Nat) => l.length - i) 0 ?_ ?_
 ·
  refine ⟨hz8, ?_, ?_, ?_, ?_, hF, hS, hB, (by omega), (fun j x hj => by omega)⟩
  · exact (s0_10)
  · exact (s1_11)
  · exact Eq.trans (s7_12) (V.int_eq (by omega))
  · exact Eq.trans (s8_13) (V.int_eq (by omega))
 ·
  rintro i a14 w15 ⟨hz16, s0_17, s1_18, s7_19, s8_20, hF_21, hS_22, hB_23, hi, hmiss⟩
  have hfs24 := hF_21.size
  have hlt25 := hB_23.lt
  refine V.seq (fun K26 hK27 => ?_)
  refine V.rg ?_
  refine V.ge_ [(8, .int .i64 (i : Int)), (7, .int .i64 ((l.length : Nat) : Int))] ⟨(s8_20), (s7_19), trivial⟩ (.bool (decide ((i : Int) < ((l.length : Nat) : Int)))) ?_
  refine V.nil ?_
  refine V.then_n (hK27 _ _ ?_)
  refine V.seq (fun K28 hK29 => ?_)
  refine V.condP (p := (i : Int) < ((l.length : Nat) : Int)) (sm hz16 rfl) (fun ht30 => ?_) (fun ht30 => ?_)
  ·
   refine V.skip ?_
   refine V.then_n (hK29 _ _ ?_)
   refine V.seq (fun K31 hK32 => ?_)
   refine V.block ?_
   refine V.seq (fun K33 hK34 => ?_)
   refine V.rg ?_
   refine V.gm (o1 rfl s8_20) ?_
   refine V.ga (sm hz16.p1 rfl) ?_
   refine V.nil ?_
   refine V.then_n (hK34 _ _ ?_)
   refine V.seq (fun K35 hK36 => ?_)
   refine V.rg ?_
   refine V.gm (o2 rfl (o1 rfl s1_18)) ?_
   refine V.gm (o4 rfl s0_17) ?_
   refine V.gm (o2 rfl (sm hz16.p2 rfl)) ?_
   obtain ⟨g37, o38, hA39, hA39l, hA39z⟩ := hS_22.addr (by omega)
   refine V.go (V.ixa g37 o38 l.length c0 .i64 (i : Int) 2 ((o1 rfl (sm hz16.p4 rfl)).trans (by rw [hA39])) (sm hz16.p4.p1 rfl) (by omega) (by omega) (by kernel_rfl) ?_)
   obtain ⟨cs40, hok41, hE42⟩ := hS_22.els hA39 (i : Int) (by omega) (by omega)
   obtain rfl : cs40 = [.string (at_ itI l (i : Int)).1, .int .i64 (at_ itI l (i : Int)).2] := hok41
   refine V.go (V.lds ⟨g37, o38 + (i : Int).toNat * 2, none⟩ [.string ((at_ itI l (i : Int)).1), .int .i64 ((at_ itI l (i : Int)).2)] (sm hz16.p4.p2 rfl) (by kernel_rfl) (hE42.cells 0 _ rfl) ?_)
   refine V.go (V.call 75 #[.pointer (some ⟨kb, 0, none⟩)] #[.agg #[.string ((at_ itI l (i : Int)).1), .int .i64 ((at_ itI l (i : Int)).2)]] (o4 rfl (sm hz16.p2.p1 rfl)) (args1 (sm hz16.p4.p2.p1 rfl)) (Go.Proofs.enters_of Try.func75 (by kernel_rfl) rfl) (find1_any w15 kb ((at_ itI l (i : Int)).1) ((at_ itI l (i : Int)).2) k hB_23) ?_)
   rintro _ w44 ⟨rfl, hF43⟩
   refine ⟨_, rfl, ?_⟩
   have hsw44 := hF43.size
   have hF_45 := hF_21.new hF43
   have hS_46 := hS_22.fr0 hF43
   have hB_47 := hB_23.fr0 hF43
   have hE42_48 := hE42.fr0 hF43
   refine V.nil ?_
   refine V.then_n (hK36 _ _ ?_)
   refine V.flushW hz16.p8.p1 (fun a49 hz50 up51 => ?_)
   have s0_52 := up51 0 _ (o8 rfl (o1 rfl s0_17))
   have s1_53 := up51 1 _ (o8 rfl (o1 rfl s1_18))
   have s5_54 := up51 5 _ (o4 rfl (o2 rfl (sm hz16.p2 rfl)))
   have s7_55 := up51 7 _ (o8 rfl (o1 rfl s7_19))
   have s8_56 := up51 8 _ (o8 rfl (o1 rfl s8_20))
   have s16_57 : a49.eval (.tmp 16) = (.bool (decide (((at_ itI l (i : Int)).1) = k))) := up51 _ _ (sm hz16.p8 rfl)
   clear up51
   refine V.condP (p := ((at_ itI l (i : Int)).1) = k) (s16_57) (fun ht58 => ?_) (fun ht58 => ?_)
   ·
    refine V.seq (fun K59 hK60 => ?_)
    refine V.rg ?_
    refine V.gm (s5_54) ?_
    refine V.ga (sm hz50 rfl) ?_
    refine V.nil ?_
    refine V.then_n (hK60 _ _ ?_)
    refine V.ret ?_
    refine V.blk_r ?_
    refine V.then_r ?_
    refine V.then_r ?_
    refine V.blk_r ?_
    refine V.then_r ?_
    refine V.ret1 hz50.p2 rfl (sm hz50.p1 rfl) ?_
    exact ⟨congrArg Ending.returned (int_eq (hit_end itI hmiss (by omega) ht58).symm), hF_45⟩
   ·
    refine V.skip ?_
    refine V.blk_n ?_
    refine V.then_n (hK32 _ _ ?_)
    refine V.rg ?_
    refine V.gf_ [(8, .int .i64 (i : Int))] ⟨(s8_56), trivial⟩ (.int .i64 (IntKind.i64.wrap ((i : Int) + 1))) (.int .i64 ((i : Int) + 1)) (V.w_i64 (by omega) (by omega)) ?_
    refine V.gm (sm hz50 rfl) ?_
    refine V.nil ?_
    refine V.then_n ?_
    refine ⟨i + 1, by omega, ?_⟩
    refine ⟨hz50.p2, ?_, ?_, ?_, ?_, hF_45, hS_46, hB_47, (by omega), (miss_step itI hmiss (by omega) ht58)⟩
    · exact (o2 rfl s0_52)
    · exact (o2 rfl s1_53)
    · exact Eq.trans (o2 rfl s7_55) (V.int_eq (by omega))
    · exact Eq.trans (sm hz50.p1 rfl) (V.int_eq (by omega))
  ·
   refine V.exit ?_
   refine V.then_e ?_
   refine V.then_e ?_
   refine V.blk_hit ?_
   refine V.then_n (hK4 _ _ ?_)
   refine V.seq (fun K61 hK62 => ?_)
   refine V.rg ?_
   refine V.ga evc ?_
   refine V.nil ?_
   refine V.then_n (hK62 _ _ ?_)
   refine V.ret ?_
   refine V.ret1 hz16.p2 rfl (sm hz16.p1 rfl) ?_
   exact ⟨congrArg Ending.returned (int_eq (miss_end hmiss (by omega)).symm), hF_21⟩
set_option maxHeartbeats 4000000 in
set_option maxRecDepth 20000 in
theorem find_N (w : World) (H : Nat → Prop) (av : List Nat) (t gA : Nat) (vsA : List Value) (T : Tb Int) (hok : T.Ok) (hT : TabN 67 87 86 itI w H av t gA vsA T) (k : ByteArray) (hk : k.size ≤ 9223372036854775807) (hb : T.b.length = 0) : Calls Try.prog 53 #[.pointer (some ⟨t, 0, none⟩), .string k] w (fun e w' => e = .returned (.tuple #[.agg #[.int .i64 (findT T k).1.1, .int .i64 (findT T k).1.2.1, .int .i64 (findT T k).1.2.2], .bool (findT T k).2]) ∧ Fr [] w w') := by
 have hF := Fr.refl [] w
 obtain ⟨hsd, hpa, hla, hlb, hmv, hmz, hnn, hcn, hks⟩ := hok
 obtain ⟨hB, hRA, hlA, hK, hne, hpt, hpg⟩ := hT
 have hltt := hB.lt
 have hltg := hRA.lt
 refine V.enter 42 Try.func53 rfl rfl ?_
 intro a hz ha
 have s0 : a.eval (.tmp 0) = (.pointer (some ⟨t, 0, none⟩)) := ha 0 _ rfl
 have s1 : a.eval (.tmp 1) = (.string k) := ha 1 _ rfl
 clear ha
 refine V.seq (fun K1 hK2 => ?_)
 refine V.rg ?_
 refine V.go (V.mk [(1, .string k)] ⟨(s1), trivial⟩ (by kernel_rfl) [.string k] 9 (fun b => .pointer (some ⟨b, 0, none⟩)) (by kernel_rfl) ?_)
 intro w4 b3 heb3 hB5 hF6 hsb3
 have hF_7 := hF.new hF6
 have hB_8 := hB.fr0 hF6
 have hRA_9 := hRA.fr0 hF6
 have hK_10 := hK.alloc hF6 heb3 (by omega)
 refine V.go (V.mk [] trivial (by kernel_rfl) [.int .i64 0, .int .i64 0, .int .i64 0] 82 (fun b => .pointer (some ⟨b, 0, none⟩)) (by kernel_rfl) ?_)
 intro w12 b11 heb11 hB13 hF14 hsb11
 have hF_15 := hF_7.new hF14
 have hB_16 := hB_8.fr0 hF14
 have hRA_17 := hRA_9.fr0 hF14
 have hK_18 := hK_10.alloc hF14 heb11 (by omega)
 have hB5_19 := hB5.fr0 hF14
 refine V.ga evc ?_
 refine V.nil ?_
 refine V.then_n (hK2 _ _ ?_)
 refine V.seq (fun K20 hK21 => ?_)
 refine V.seq (fun K22 hK23 => ?_)
 refine V.rg ?_
 refine V.gm evc ?_
 refine V.nil ?_
 refine V.then_n (hK23 _ _ ?_)
 refine V.flushW hz.p4 (fun a24 hz25 up26 => ?_)
 have s0_27 := up26 0 _ (o4 rfl s0)
 have s3_28 := up26 3 _ (o2 rfl (o1 rfl (sm hz rfl)))
 have s4_29 := up26 4 _ (o2 rfl (sm hz.p1 rfl))
 have s9_30 := up26 9 _ (sm hz.p2.p1 rfl)
 clear up26
 refine V.block ?_
 refine V.loopR 3 ?_
 refine V.rnd ?_
 refine V.seq (fun K31 hK32 => ?_)
 refine V.rg ?_
 refine V.ge_ [(9, .int .i64 0)] ⟨(s9_30), trivial⟩ (.bool true) ?_
 refine V.nil ?_
 refine V.then_n (hK32 _ _ ?_)
 refine V.seq (fun K33 hK34 => ?_)
 refine V.cond_t (sm hz25 rfl) ?_
 refine V.skip ?_
 refine V.then_n (hK34 _ _ ?_)
 refine V.seq (fun K35 hK36 => ?_)
 refine V.block ?_
 refine V.seq (fun K37 hK38 => ?_)
 refine V.rg ?_
 refine V.gm (o1 rfl s9_30) ?_
 refine V.ga (sm hz25.p1 rfl) ?_
 refine V.nil ?_
 refine V.then_n (hK38 _ _ ?_)
 refine V.seq (fun K39 hK40 => ?_)
 refine V.seq (fun K41 hK42 => ?_)
 refine V.rg ?_
 refine V.gm (o2 rfl (o1 rfl s0_27)) ?_
 refine V.gm (o1 rfl (sm hz25.p2 rfl)) ?_
 refine V.ge_ [(12, .pointer (some ⟨t, 0, none⟩))] ⟨(o1 rfl (sm hz25.p2.p1 rfl)), trivial⟩ (.pointer (some ⟨t, 0, none⟩)) ?_
 refine V.ge_ [(14, .pointer (some ⟨t, 0, none⟩))] ⟨(sm hz25.p4.p1 rfl), trivial⟩ (.pointer (some ⟨t, 1, none⟩)) ?_
 refine V.ge_ [(15, .pointer (some ⟨t, 1, none⟩)), (13, .int .i64 0)] ⟨(sm hz25.p4.p2 rfl), (o2 rfl (sm hz25.p4 rfl)), trivial⟩ (.pointer (some ⟨t, 1, none⟩)) ?_
 refine V.go (V.ld ⟨t, 1, none⟩ (.slice (some ⟨gA, 0, none⟩) T.a.length T.a.length) (sm hz25.p4.p2.p1 rfl) (by kernel_rfl) (hB_16.at 1 rfl) ?_)
 refine V.ge_ [(17, .slice (some ⟨gA, 0, none⟩) T.a.length T.a.length)] ⟨(sm hz25.p8 rfl), trivial⟩ (.bool false) ?_
 refine V.nil ?_
 refine V.then_n (hK42 _ _ ?_)
 refine V.flushW hz25.p8.p2 (fun a43 hz44 up45 => ?_)
 have s0_46 := up45 0 _ (o8 rfl (o2 rfl s0_27))
 have s3_47 := up45 3 _ (o8 rfl (o2 rfl s3_28))
 have s4_48 := up45 4 _ (o8 rfl (o2 rfl s4_29))
 have s6_49 := up45 6 _ (o4 rfl (o2 rfl (o1 rfl (sm hz25.p2 rfl))))
 have s9_50 := up45 9 _ (o8 rfl (o2 rfl s9_30))
 have s18_51 := up45 18 _ (sm hz25.p8.p1 rfl)
 clear up45
 refine V.cond_f (s18_51) ?_
 refine V.skip ?_
 refine V.then_n (hK40 _ _ ?_)
 refine V.seq (fun K52 hK53 => ?_)
 refine V.rg ?_
 refine V.gm (s0_46) ?_
 refine V.gm (o1 rfl s6_49) ?_
 refine V.go (V.ld ⟨b3, 0, none⟩ (.string k) (o2 rfl s3_47) (by kernel_rfl) (hB5_19.at 0 rfl) ?_)
 refine V.go (V.call 66 #[] #[.pointer (some ⟨t, 0, none⟩), .int .i64 0, .string k] evf (args3 (o2 rfl (sm hz44 rfl)) (o1 rfl (sm hz44.p1 rfl)) (sm hz44.p2 rfl)) (Go.Proofs.enters_of Try.func66 (by kernel_rfl) rfl) (bucket_N0 w12 t T.seed T.a.length 0 0 gA 0 (.int .i64 (T.moved : Int)) (.int .i64 (T.n : Int)) hB_16 k (by omega) (by omega) (by omega) (by omega)) ?_)
 rintro _ w55 ⟨rfl, hF54⟩
 refine ⟨_, rfl, ?_⟩
 have hsw55 := hF54.size
 have hF_56 := hF_15.new hF54
 have hB_57 := hB_16.fr0 hF54
 have hRA_58 := hRA_17.fr0 hF54
 have hK_59 := hK_18.fr0 hF54
 have hB5_60 := hB5_19.fr0 hF54
 have hB13_61 := hB13.fr0 hF54
 have hbl54 := bkt_lt T.seed k (n := T.a.length) (by omega)
 refine V.ga (v := (.int .i64 ((bkt T.seed T.a.length k : Nat) : Int))) (sm hz44.p2.p1 rfl) ?_
 refine V.nil ?_
 refine V.then_n (hK53 _ _ ?_)
 refine V.flushW hz44.p4.p1 (fun a62 hz63 up64 => ?_)
 have s0_65 := up64 0 _ (o4 rfl (o1 rfl s0_46))
 have s3_66 := up64 3 _ (o4 rfl (o1 rfl s3_47))
 have s4_67 := up64 4 _ (o4 rfl (o1 rfl s4_48))
 have s6_68 := up64 6 _ (o4 rfl (o1 rfl s6_49))
 have s7_69 : a62.eval (.tmp 7) = (.int .i64 ((bkt T.seed T.a.length k : Nat) : Int)) := up64 _ _ (sm hz44.p4 rfl)
 have s9_70 := up64 9 _ (o4 rfl (o1 rfl s9_50))
 clear up64
 refine V.seq (fun K71 hK72 => ?_)
 refine V.rg ?_
 refine V.gm (s0_65) ?_
 refine V.gm (o1 rfl s6_68) ?_
 refine V.ge_ [(23, .pointer (some ⟨t, 0, none⟩))] ⟨(o1 rfl (sm hz63 rfl)), trivial⟩ (.pointer (some ⟨t, 0, none⟩)) ?_
 refine V.ge_ [(25, .pointer (some ⟨t, 0, none⟩))] ⟨(sm hz63.p2 rfl), trivial⟩ (.pointer (some ⟨t, 1, none⟩)) ?_
 refine V.ge_ [(26, .pointer (some ⟨t, 1, none⟩)), (24, .int .i64 0)] ⟨(sm hz63.p2.p1 rfl), (o2 rfl (sm hz63.p1 rfl)), trivial⟩ (.pointer (some ⟨t, 1, none⟩)) ?_
 refine V.go (V.ld ⟨t, 1, none⟩ (.slice (some ⟨gA, 0, none⟩) T.a.length T.a.length) (sm hz63.p4 rfl) (by kernel_rfl) (hB_57.at 1 rfl) ?_)
 refine V.gm (v := (.int .i64 ((bkt T.seed T.a.length k : Nat) : Int))) (o4 rfl (o2 rfl s7_69)) ?_
 refine V.go (V.ixa gA 0 T.a.length T.a.length .i64 ((bkt T.seed T.a.length k : Nat) : Int) 1 (o1 rfl (sm hz63.p4.p1 rfl)) (sm hz63.p4.p2 rfl) (by omega) (by omega) (by kernel_rfl) ?_)
 obtain ⟨A73, c74, hv75⟩ := hK_59.getA hlA (i := (bkt T.seed T.a.length k)) (by omega) nilS
 refine V.go (V.ld ⟨gA, 0 + ((bkt T.seed T.a.length k : Nat) : Int).toNat * 1, none⟩ (.slice A73 ((T.a.getD (bkt T.seed T.a.length k) []).length) c74) (sm hz63.p4.p2.p1 rfl) (by kernel_rfl) ((hRA_58.at (bkt T.seed T.a.length k) nilS (by omega)).trans (congrArg some hv75)) ?_)
 have hS76 := hK_59.slA hlA (i := (bkt T.seed T.a.length k)) (by omega) hv75
 refine V.ge_ [(3, .pointer (some ⟨b3, 0, none⟩))] ⟨(o8 rfl (o1 rfl s3_66)), trivial⟩ (.func (.func 75) #[] #[.pointer (some ⟨b3, 0, none⟩)]) ?_
 refine V.go (V.call 74 #[] #[.slice A73 ((T.a.getD (bkt T.seed T.a.length k) []).length) c74, .func (.func 75) #[] #[.pointer (some ⟨b3, 0, none⟩)]] evf (args2 (o1 rfl (sm hz63.p8 rfl)) (sm hz63.p8.p1 rfl)) (Go.Proofs.enters_of Try.func74 (by kernel_rfl) rfl) (ixf_any w55 _ A73 c74 b3 (T.a.getD (bkt T.seed T.a.length k) []) k hS76 hB5_60) ?_)
 rintro _ w78 ⟨rfl, hF77⟩
 refine ⟨_, rfl, ?_⟩
 have hsw78 := hF77.size
 have hF_79 := hF_56.new hF77
 have hB_80 := hB_57.fr0 hF77
 have hRA_81 := hRA_58.fr0 hF77
 have hK_82 := hK_59.fr0 hF77
 have hB5_83 := hB5_60.fr0 hF77
 have hB13_84 := hB13_61.fr0 hF77
 have hS76_85 := hS76.fr0 hF77
 have hix77 := ixI_lt (T.a.getD (bkt T.seed T.a.length k) []) k
 refine V.ga (v := (.int .i64 (ixI (T.a.getD (bkt T.seed T.a.length k) []) k))) (sm hz63.p8.p2 rfl) ?_
 refine V.nil ?_
 refine V.then_n (hK72 _ _ ?_)
 refine V.flushW hz63.p8.p4 (fun a86 hz87 up88 => ?_)
 have s0_89 := up88 0 _ (o8 rfl (o4 rfl s0_65))
 have s3_90 := up88 3 _ (o8 rfl (o4 rfl s3_66))
 have s4_91 := up88 4 _ (o8 rfl (o4 rfl s4_67))
 have s6_92 := up88 6 _ (o8 rfl (o4 rfl s6_68))
 have s7_93 : a86.eval (.tmp 7) = (.int .i64 ((bkt T.seed T.a.length k : Nat) : Int)) := up88 _ _ (o8 rfl (o4 rfl s7_69))
 have s8_94 : a86.eval (.tmp 8) = (.int .i64 (ixI (T.a.getD (bkt T.seed T.a.length k) []) k)) := up88 _ _ (sm hz63.p8.p2.p1 rfl)
 have s9_95 := up88 9 _ (o8 rfl (o4 rfl s9_70))
 clear up88
 refine V.seq (fun K96 hK97 => ?_)
 refine V.rg ?_
 refine V.gm (v := (.int .i64 (ixI (T.a.getD (bkt T.seed T.a.length k) []) k))) (s8_94) ?_
 refine V.ge_ [(34, .int .i64 (ixI (T.a.getD (bkt T.seed T.a.length k) []) k))] ⟨(sm hz87 rfl), trivial⟩ (.bool (decide ((ixI (T.a.getD (bkt T.seed T.a.length k) []) k) ≥ 0))) ?_
 refine V.nil ?_
 refine V.then_n (hK97 _ _ ?_)
 refine V.condP (p := (ixI (T.a.getD (bkt T.seed T.a.length k) []) k) ≥ 0) (sm hz87.p1 rfl) (fun ht98 => ?_) (fun ht98 => ?_)
 ·
  refine V.seq (fun K99 hK100 => ?_)
  refine V.rg ?_
  refine V.gm (o2 rfl s6_92) ?_
  refine V.gm (v := (.int .i64 ((bkt T.seed T.a.length k : Nat) : Int))) (o2 rfl (o1 rfl s7_93)) ?_
  refine V.gm (v := (.int .i64 (ixI (T.a.getD (bkt T.seed T.a.length k) []) k))) (o4 rfl s8_94) ?_
  refine V.ge_ [(36, .int .i64 0), (37, .int .i64 ((bkt T.seed T.a.length k : Nat) : Int)), (38, .int .i64 (ixI (T.a.getD (bkt T.seed T.a.length k) []) k))] ⟨(o2 rfl (sm hz87.p2 rfl)), (o1 rfl (sm hz87.p2.p1 rfl)), (sm hz87.p4 rfl), trivial⟩ (.agg #[.int .i64 0, .int .i64 ((bkt T.seed T.a.length k : Nat) : Int), .int .i64 (ixI (T.a.getD (bkt T.seed T.a.length k) []) k)]) ?_
  refine V.go (V.stn b11 0 (.agg #[.int .i64 0, .int .i64 ((bkt T.seed T.a.length k : Nat) : Int), .int .i64 (ixI (T.a.getD (bkt T.seed T.a.length k) []) k)]) [.int .i64 0, .int .i64 ((bkt T.seed T.a.length k : Nat) : Int), .int .i64 (ixI (T.a.getD (bkt T.seed T.a.length k) []) k)] (o4 rfl (o2 rfl s4_91)) (sm hz87.p4.p1 rfl) rfl rfl (by kernel_rfl) hB13_84 (by simp) [.int .i64 0, .int .i64 ((bkt T.seed T.a.length k : Nat) : Int), .int .i64 (ixI (T.a.getD (bkt T.seed T.a.length k) []) k)] rfl ?_)
  intro w101 hB102 hF103 hsw101
  have hF_104 := hF_79.own hF103 (by simp <;> omega)
  have hB_105 := hB_80.fr1 hF103 (by omega)
  have hRA_106 := hRA_81.fr1 hF103 (by omega)
  have hK_107 := hK_82.fr hF103 (by simp)
  have hB5_108 := hB5_83.fr1 hF103 (by omega)
  refine V.ga evc ?_
  refine V.nil ?_
  refine V.then_n (hK100 _ _ ?_)
  refine V.flushW hz87.p4.p2.p1 (fun a109 hz110 up111 => ?_)
  have s0_112 := up111 0 _ (o4 rfl (o2 rfl (o1 rfl s0_89)))
  have s3_113 := up111 3 _ (o4 rfl (o2 rfl (o1 rfl s3_90)))
  have s4_114 := up111 4 _ (o4 rfl (o2 rfl (o1 rfl s4_91)))
  have s5_115 := up111 5 _ (sm hz87.p4.p2 rfl)
  have s9_116 := up111 9 _ (o4 rfl (o2 rfl (o1 rfl s9_95)))
  clear up111
  refine V.ret ?_
  refine V.blk_r ?_
  refine V.then_r ?_
  refine V.then_r ?_
  refine V.blk_r ?_
  refine V.then_r ?_
  refine V.retCT hz110 rfl _ (s4_114) (V.run_loadVar_agg (cs := [.int .i64 0, .int .i64 ((bkt T.seed T.a.length k : Nat) : Int), .int .i64 (ixI (T.a.getD (bkt T.seed T.a.length k) []) k)]) (by kernel_rfl) (blk_cells hB102 0 _ rfl)) (s5_115) ?_
  refine ⟨?_, hF_104⟩
  unfold findT
  rw [if_pos (by omega)]
 ·
  refine V.skip ?_
  refine V.blk_n ?_
  refine V.then_n (hK36 _ _ ?_)
  refine V.rg ?_
  refine V.ge_ [(9, .int .i64 0)] ⟨(o2 rfl s9_95), trivial⟩ (.int .i64 1) ?_
  refine V.gm (sm hz87.p2 rfl) ?_
  refine V.nil ?_
  refine V.then_n ?_
  refine V.rnd ?_
  refine V.seq (fun K117 hK118 => ?_)
  refine V.rg ?_
  refine V.ge_ [(9, .int .i64 1)] ⟨(sm hz87.p2.p1 rfl), trivial⟩ (.bool true) ?_
  refine V.nil ?_
  refine V.then_n (hK118 _ _ ?_)
  refine V.flushW hz87.p4.p1 (fun a119 hz120 up121 => ?_)
  have s0_122 := up121 0 _ (o4 rfl (o1 rfl s0_89))
  have s3_123 := up121 3 _ (o4 rfl (o1 rfl s3_90))
  have s4_124 := up121 4 _ (o4 rfl (o1 rfl s4_91))
  have s9_125 := up121 9 _ (o1 rfl (sm hz87.p2.p1 rfl))
  have s10_126 := up121 10 _ (sm hz87.p4 rfl)
  clear up121
  refine V.seq (fun K127 hK128 => ?_)
  refine V.cond_t (s10_126) ?_
  refine V.skip ?_
  refine V.then_n (hK128 _ _ ?_)
  refine V.seq (fun K129 hK130 => ?_)
  refine V.block ?_
  refine V.seq (fun K131 hK132 => ?_)
  refine V.rg ?_
  refine V.gm (s9_125) ?_
  refine V.ga (sm hz120 rfl) ?_
  refine V.nil ?_
  refine V.then_n (hK132 _ _ ?_)
  refine V.seq (fun K133 hK134 => ?_)
  refine V.seq (fun K135 hK136 => ?_)
  refine V.rg ?_
  refine V.gm (o2 rfl s0_122) ?_
  refine V.gm (o1 rfl (sm hz120.p1 rfl)) ?_
  refine V.ge_ [(12, .pointer (some ⟨t, 0, none⟩))] ⟨(o1 rfl (sm hz120.p2 rfl)), trivial⟩ (.pointer (some ⟨t, 0, none⟩)) ?_
  refine V.ge_ [(14, .pointer (some ⟨t, 0, none⟩))] ⟨(sm hz120.p4 rfl), trivial⟩ (.pointer (some ⟨t, 1, none⟩)) ?_
  refine V.ge_ [(15, .pointer (some ⟨t, 1, none⟩)), (13, .int .i64 1)] ⟨(sm hz120.p4.p1 rfl), (o2 rfl (sm hz120.p2.p1 rfl)), trivial⟩ (.pointer (some ⟨t, 2, none⟩)) ?_
  refine V.go (V.ld ⟨t, 2, none⟩ (.slice none 0 0) (sm hz120.p4.p2 rfl) (by kernel_rfl) (hB_80.at 2 rfl) ?_)
  refine V.ge_ [(17, .slice none 0 0)] ⟨(sm hz120.p4.p2.p1 rfl), trivial⟩ (.bool true) ?_
  refine V.nil ?_
  refine V.then_n (hK136 _ _ ?_)
  refine V.flushW hz120.p8.p1 (fun a137 hz138 up139 => ?_)
  have s0_140 := up139 0 _ (o8 rfl (o1 rfl s0_122))
  have s3_141 := up139 3 _ (o8 rfl (o1 rfl s3_123))
  have s4_142 := up139 4 _ (o8 rfl (o1 rfl s4_124))
  have s6_143 := up139 6 _ (o4 rfl (o2 rfl (o1 rfl (sm hz120.p1 rfl))))
  have s9_144 := up139 9 _ (o8 rfl (o1 rfl s9_125))
  have s18_145 := up139 18 _ (sm hz120.p8 rfl)
  clear up139
  refine V.cond_t (s18_145) ?_
  refine V.exit ?_
  refine V.then_e ?_
  refine V.blk_hit ?_
  refine V.then_n (hK130 _ _ ?_)
  refine V.rg ?_
  refine V.ge_ [(9, .int .i64 1)] ⟨(s9_144), trivial⟩ (.int .i64 2) ?_
  refine V.gm (sm hz138 rfl) ?_
  refine V.nil ?_
  refine V.then_n ?_
  refine V.rnd ?_
  refine V.seq (fun K146 hK147 => ?_)
  refine V.rg ?_
  refine V.ge_ [(9, .int .i64 2)] ⟨(sm hz138.p1 rfl), trivial⟩ (.bool false) ?_
  refine V.nil ?_
  refine V.then_n (hK147 _ _ ?_)
  refine V.seq (fun K148 hK149 => ?_)
  refine V.cond_f (sm hz138.p2 rfl) ?_
  refine V.exit ?_
  refine V.then_e ?_
  refine V.then_e ?_
  refine V.blk_hit ?_
  refine V.then_n (hK21 _ _ ?_)
  refine V.seq (fun K150 hK151 => ?_)
  refine V.rg ?_
  refine V.ge_ [] trivial (.agg #[.int .i64 0, .int .i64 0, .int .i64 0]) ?_
  refine V.go (V.stn b11 0 (.agg #[.int .i64 0, .int .i64 0, .int .i64 0]) [.int .i64 0, .int .i64 0, .int .i64 0] (o4 rfl s4_142) (sm hz138.p2.p1 rfl) rfl rfl (by kernel_rfl) hB13_84 (by simp) [.int .i64 0, .int .i64 0, .int .i64 0] rfl ?_)
  intro w152 hB153 hF154 hsw152
  have hF_155 := hF_79.own hF154 (by simp <;> omega)
  have hB_156 := hB_80.fr1 hF154 (by omega)
  have hRA_157 := hRA_81.fr1 hF154 (by omega)
  have hK_158 := hK_82.fr hF154 (by simp)
  have hB5_159 := hB5_83.fr1 hF154 (by omega)
  refine V.ga evc ?_
  refine V.nil ?_
  refine V.then_n (hK151 _ _ ?_)
  refine V.flushW hz138.p4.p1 (fun a160 hz161 up162 => ?_)
  have s4_163 := up162 4 _ (o4 rfl (o1 rfl s4_142))
  have s5_164 := up162 5 _ (sm hz138.p4 rfl)
  clear up162
  refine V.ret ?_
  refine V.retCT hz161 rfl _ (s4_163) (V.run_loadVar_agg (cs := [.int .i64 0, .int .i64 0, .int .i64 0]) (by kernel_rfl) (blk_cells hB153 0 _ rfl)) (s5_164) ?_
  refine ⟨?_, hF_155⟩
  unfold findT
  rw [if_neg (by omega), if_neg (by omega)]
set_option maxHeartbeats 4000000 in
set_option maxRecDepth 20000 in
theorem find_M (w : World) (H : Nat → Prop) (av : List Nat) (t gA gB : Nat) (vsA vsB : List Value) (T : Tb Int) (hok : T.Ok) (hT : TabM 67 87 86 itI w H av t gA gB vsA vsB T) (k : ByteArray) (hk : k.size ≤ 9223372036854775807) (hb : T.b.length ≠ 0) : Calls Try.prog 53 #[.pointer (some ⟨t, 0, none⟩), .string k] w (fun e w' => e = .returned (.tuple #[.agg #[.int .i64 (findT T k).1.1, .int .i64 (findT T k).1.2.1, .int .i64 (findT T k).1.2.2], .bool (findT T k).2]) ∧ Fr [] w w') := by
 have hF := Fr.refl [] w
 obtain ⟨hsd, hpa, hla, hlb, hmv, hmz, hnn, hcn, hks⟩ := hok
 obtain ⟨hB, hRA, hRB, hlA, hlB, hK, hne, hne2, hne3, hpt, hpg, hph⟩ := hT
 have hltg2 := hRB.lt
 have hltt := hB.lt
 have hltg := hRA.lt
 refine V.enter 42 Try.func53 rfl rfl ?_
 intro a hz ha
 have s0 : a.eval (.tmp 0) = (.pointer (some ⟨t, 0, none⟩)) := ha 0 _ rfl
 have s1 : a.eval (.tmp 1) = (.string k) := ha 1 _ rfl
 clear ha
 refine V.seq (fun K1 hK2 => ?_)
 refine V.rg ?_
 refine V.go (V.mk [(1, .string k)] ⟨(s1), trivial⟩ (by kernel_rfl) [.string k] 9 (fun b => .pointer (some ⟨b, 0, none⟩)) (by kernel_rfl) ?_)
 intro w4 b3 heb3 hB5 hF6 hsb3
 have hF_7 := hF.new hF6
 have hB_8 := hB.fr0 hF6
 have hRA_9 := hRA.fr0 hF6
 have hRB_10 := hRB.fr0 hF6
 have hK_11 := hK.alloc hF6 heb3 (by omega)
 refine V.go (V.mk [] trivial (by kernel_rfl) [.int .i64 0, .int .i64 0, .int .i64 0] 82 (fun b => .pointer (some ⟨b, 0, none⟩)) (by kernel_rfl) ?_)
 intro w13 b12 heb12 hB14 hF15 hsb12
 have hF_16 := hF_7.new hF15
 have hB_17 := hB_8.fr0 hF15
 have hRA_18 := hRA_9.fr0 hF15
 have hRB_19 := hRB_10.fr0 hF15
 have hK_20 := hK_11.alloc hF15 heb12 (by omega)
 have hB5_21 := hB5.fr0 hF15
 refine V.ga evc ?_
 refine V.nil ?_
 refine V.then_n (hK2 _ _ ?_)
 refine V.seq (fun K22 hK23 => ?_)
 refine V.seq (fun K24 hK25 => ?_)
 refine V.rg ?_
 refine V.gm evc ?_
 refine V.nil ?_
 refine V.then_n (hK25 _ _ ?_)
 refine V.flushW hz.p4 (fun a26 hz27 up28 => ?_)
 have s0_29 := up28 0 _ (o4 rfl s0)
 have s3_30 := up28 3 _ (o2 rfl (o1 rfl (sm hz rfl)))
 have s4_31 := up28 4 _ (o2 rfl (sm hz.p1 rfl))
 have s9_32 := up28 9 _ (sm hz.p2.p1 rfl)
 clear up28
 refine V.block ?_
 refine V.loopR 3 ?_
 refine V.rnd ?_
 refine V.seq (fun K33 hK34 => ?_)
 refine V.rg ?_
 refine V.ge_ [(9, .int .i64 0)] ⟨(s9_32), trivial⟩ (.bool true) ?_
 refine V.nil ?_
 refine V.then_n (hK34 _ _ ?_)
 refine V.seq (fun K35 hK36 => ?_)
 refine V.cond_t (sm hz27 rfl) ?_
 refine V.skip ?_
 refine V.then_n (hK36 _ _ ?_)
 refine V.seq (fun K37 hK38 => ?_)
 refine V.block ?_
 refine V.seq (fun K39 hK40 => ?_)
 refine V.rg ?_
 refine V.gm (o1 rfl s9_32) ?_
 refine V.ga (sm hz27.p1 rfl) ?_
 refine V.nil ?_
 refine V.then_n (hK40 _ _ ?_)
 refine V.seq (fun K41 hK42 => ?_)
 refine V.seq (fun K43 hK44 => ?_)
 refine V.rg ?_
 refine V.gm (o2 rfl (o1 rfl s0_29)) ?_
 refine V.gm (o1 rfl (sm hz27.p2 rfl)) ?_
 refine V.ge_ [(12, .pointer (some ⟨t, 0, none⟩))] ⟨(o1 rfl (sm hz27.p2.p1 rfl)), trivial⟩ (.pointer (some ⟨t, 0, none⟩)) ?_
 refine V.ge_ [(14, .pointer (some ⟨t, 0, none⟩))] ⟨(sm hz27.p4.p1 rfl), trivial⟩ (.pointer (some ⟨t, 1, none⟩)) ?_
 refine V.ge_ [(15, .pointer (some ⟨t, 1, none⟩)), (13, .int .i64 0)] ⟨(sm hz27.p4.p2 rfl), (o2 rfl (sm hz27.p4 rfl)), trivial⟩ (.pointer (some ⟨t, 1, none⟩)) ?_
 refine V.go (V.ld ⟨t, 1, none⟩ (.slice (some ⟨gA, 0, none⟩) T.a.length T.a.length) (sm hz27.p4.p2.p1 rfl) (by kernel_rfl) (hB_17.at 1 rfl) ?_)
 refine V.ge_ [(17, .slice (some ⟨gA, 0, none⟩) T.a.length T.a.length)] ⟨(sm hz27.p8 rfl), trivial⟩ (.bool false) ?_
 refine V.nil ?_
 refine V.then_n (hK44 _ _ ?_)
 refine V.flushW hz27.p8.p2 (fun a45 hz46 up47 => ?_)
 have s0_48 := up47 0 _ (o8 rfl (o2 rfl s0_29))
 have s3_49 := up47 3 _ (o8 rfl (o2 rfl s3_30))
 have s4_50 := up47 4 _ (o8 rfl (o2 rfl s4_31))
 have s6_51 := up47 6 _ (o4 rfl (o2 rfl (o1 rfl (sm hz27.p2 rfl))))
 have s9_52 := up47 9 _ (o8 rfl (o2 rfl s9_32))
 have s18_53 := up47 18 _ (sm hz27.p8.p1 rfl)
 clear up47
 refine V.cond_f (s18_53) ?_
 refine V.skip ?_
 refine V.then_n (hK42 _ _ ?_)
 refine V.seq (fun K54 hK55 => ?_)
 refine V.rg ?_
 refine V.gm (s0_48) ?_
 refine V.gm (o1 rfl s6_51) ?_
 refine V.go (V.ld ⟨b3, 0, none⟩ (.string k) (o2 rfl s3_49) (by kernel_rfl) (hB5_21.at 0 rfl) ?_)
 refine V.go (V.call 66 #[] #[.pointer (some ⟨t, 0, none⟩), .int .i64 0, .string k] evf (args3 (o2 rfl (sm hz46 rfl)) (o1 rfl (sm hz46.p1 rfl)) (sm hz46.p2 rfl)) (Go.Proofs.enters_of Try.func66 (by kernel_rfl) rfl) (bucket_M0 w13 t T.seed T.a.length T.b.length 0 gA gB (.int .i64 (T.moved : Int)) (.int .i64 (T.n : Int)) hB_17 k (by omega) (by omega) (by omega) (by omega)) ?_)
 rintro _ w57 ⟨rfl, hF56⟩
 refine ⟨_, rfl, ?_⟩
 have hsw57 := hF56.size
 have hF_58 := hF_16.new hF56
 have hB_59 := hB_17.fr0 hF56
 have hRA_60 := hRA_18.fr0 hF56
 have hRB_61 := hRB_19.fr0 hF56
 have hK_62 := hK_20.fr0 hF56
 have hB5_63 := hB5_21.fr0 hF56
 have hB14_64 := hB14.fr0 hF56
 have hbl56 := bkt_lt T.seed k (n := T.a.length) (by omega)
 refine V.ga (v := (.int .i64 ((bkt T.seed T.a.length k : Nat) : Int))) (sm hz46.p2.p1 rfl) ?_
 refine V.nil ?_
 refine V.then_n (hK55 _ _ ?_)
 refine V.flushW hz46.p4.p1 (fun a65 hz66 up67 => ?_)
 have s0_68 := up67 0 _ (o4 rfl (o1 rfl s0_48))
 have s3_69 := up67 3 _ (o4 rfl (o1 rfl s3_49))
 have s4_70 := up67 4 _ (o4 rfl (o1 rfl s4_50))
 have s6_71 := up67 6 _ (o4 rfl (o1 rfl s6_51))
 have s7_72 : a65.eval (.tmp 7) = (.int .i64 ((bkt T.seed T.a.length k : Nat) : Int)) := up67 _ _ (sm hz46.p4 rfl)
 have s9_73 := up67 9 _ (o4 rfl (o1 rfl s9_52))
 clear up67
 refine V.seq (fun K74 hK75 => ?_)
 refine V.rg ?_
 refine V.gm (s0_68) ?_
 refine V.gm (o1 rfl s6_71) ?_
 refine V.ge_ [(23, .pointer (some ⟨t, 0, none⟩))] ⟨(o1 rfl (sm hz66 rfl)), trivial⟩ (.pointer (some ⟨t, 0, none⟩)) ?_
 refine V.ge_ [(25, .pointer (some ⟨t, 0, none⟩))] ⟨(sm hz66.p2 rfl), trivial⟩ (.pointer (some ⟨t, 1, none⟩)) ?_
 refine V.ge_ [(26, .pointer (some ⟨t, 1, none⟩)), (24, .int .i64 0)] ⟨(sm hz66.p2.p1 rfl), (o2 rfl (sm hz66.p1 rfl)), trivial⟩ (.pointer (some ⟨t, 1, none⟩)) ?_
 refine V.go (V.ld ⟨t, 1, none⟩ (.slice (some ⟨gA, 0, none⟩) T.a.length T.a.length) (sm hz66.p4 rfl) (by kernel_rfl) (hB_59.at 1 rfl) ?_)
 refine V.gm (v := (.int .i64 ((bkt T.seed T.a.length k : Nat) : Int))) (o4 rfl (o2 rfl s7_72)) ?_
 refine V.go (V.ixa gA 0 T.a.length T.a.length .i64 ((bkt T.seed T.a.length k : Nat) : Int) 1 (o1 rfl (sm hz66.p4.p1 rfl)) (sm hz66.p4.p2 rfl) (by omega) (by omega) (by kernel_rfl) ?_)
 obtain ⟨A76, c77, hv78⟩ := hK_62.getA hlA (i := (bkt T.seed T.a.length k)) (by omega) nilS
 refine V.go (V.ld ⟨gA, 0 + ((bkt T.seed T.a.length k : Nat) : Int).toNat * 1, none⟩ (.slice A76 ((T.a.getD (bkt T.seed T.a.length k) []).length) c77) (sm hz66.p4.p2.p1 rfl) (by kernel_rfl) ((hRA_60.at (bkt T.seed T.a.length k) nilS (by omega)).trans (congrArg some hv78)) ?_)
 have hS79 := hK_62.slA hlA (i := (bkt T.seed T.a.length k)) (by omega) hv78
 refine V.ge_ [(3, .pointer (some ⟨b3, 0, none⟩))] ⟨(o8 rfl (o1 rfl s3_69)), trivial⟩ (.func (.func 75) #[] #[.pointer (some ⟨b3, 0, none⟩)]) ?_
 refine V.go (V.call 74 #[] #[.slice A76 ((T.a.getD (bkt T.seed T.a.length k) []).length) c77, .func (.func 75) #[] #[.pointer (some ⟨b3, 0, none⟩)]] evf (args2 (o1 rfl (sm hz66.p8 rfl)) (sm hz66.p8.p1 rfl)) (Go.Proofs.enters_of Try.func74 (by kernel_rfl) rfl) (ixf_any w57 _ A76 c77 b3 (T.a.getD (bkt T.seed T.a.length k) []) k hS79 hB5_63) ?_)
 rintro _ w81 ⟨rfl, hF80⟩
 refine ⟨_, rfl, ?_⟩
 have hsw81 := hF80.size
 have hF_82 := hF_58.new hF80
 have hB_83 := hB_59.fr0 hF80
 have hRA_84 := hRA_60.fr0 hF80
 have hRB_85 := hRB_61.fr0 hF80
 have hK_86 := hK_62.fr0 hF80
 have hB5_87 := hB5_63.fr0 hF80
 have hB14_88 := hB14_64.fr0 hF80
 have hS79_89 := hS79.fr0 hF80
 have hix80 := ixI_lt (T.a.getD (bkt T.seed T.a.length k) []) k
 refine V.ga (v := (.int .i64 (ixI (T.a.getD (bkt T.seed T.a.length k) []) k))) (sm hz66.p8.p2 rfl) ?_
 refine V.nil ?_
 refine V.then_n (hK75 _ _ ?_)
 refine V.flushW hz66.p8.p4 (fun a90 hz91 up92 => ?_)
 have s0_93 := up92 0 _ (o8 rfl (o4 rfl s0_68))
 have s3_94 := up92 3 _ (o8 rfl (o4 rfl s3_69))
 have s4_95 := up92 4 _ (o8 rfl (o4 rfl s4_70))
 have s6_96 := up92 6 _ (o8 rfl (o4 rfl s6_71))
 have s7_97 : a90.eval (.tmp 7) = (.int .i64 ((bkt T.seed T.a.length k : Nat) : Int)) := up92 _ _ (o8 rfl (o4 rfl s7_72))
 have s8_98 : a90.eval (.tmp 8) = (.int .i64 (ixI (T.a.getD (bkt T.seed T.a.length k) []) k)) := up92 _ _ (sm hz66.p8.p2.p1 rfl)
 have s9_99 := up92 9 _ (o8 rfl (o4 rfl s9_73))
 clear up92
 refine V.seq (fun K100 hK101 => ?_)
 refine V.rg ?_
 refine V.gm (v := (.int .i64 (ixI (T.a.getD (bkt T.seed T.a.length k) []) k))) (s8_98) ?_
 refine V.ge_ [(34, .int .i64 (ixI (T.a.getD (bkt T.seed T.a.length k) []) k))] ⟨(sm hz91 rfl), trivial⟩ (.bool (decide ((ixI (T.a.getD (bkt T.seed T.a.length k) []) k) ≥ 0))) ?_
 refine V.nil ?_
 refine V.then_n (hK101 _ _ ?_)
 refine V.condP (p := (ixI (T.a.getD (bkt T.seed T.a.length k) []) k) ≥ 0) (sm hz91.p1 rfl) (fun ht102 => ?_) (fun ht102 => ?_)
 ·
  refine V.seq (fun K103 hK104 => ?_)
  refine V.rg ?_
  refine V.gm (o2 rfl s6_96) ?_
  refine V.gm (v := (.int .i64 ((bkt T.seed T.a.length k : Nat) : Int))) (o2 rfl (o1 rfl s7_97)) ?_
  refine V.gm (v := (.int .i64 (ixI (T.a.getD (bkt T.seed T.a.length k) []) k))) (o4 rfl s8_98) ?_
  refine V.ge_ [(36, .int .i64 0), (37, .int .i64 ((bkt T.seed T.a.length k : Nat) : Int)), (38, .int .i64 (ixI (T.a.getD (bkt T.seed T.a.length k) []) k))] ⟨(o2 rfl (sm hz91.p2 rfl)), (o1 rfl (sm hz91.p2.p1 rfl)), (sm hz91.p4 rfl), trivial⟩ (.agg #[.int .i64 0, .int .i64 ((bkt T.seed T.a.length k : Nat) : Int), .int .i64 (ixI (T.a.getD (bkt T.seed T.a.length k) []) k)]) ?_
  refine V.go (V.stn b12 0 (.agg #[.int .i64 0, .int .i64 ((bkt T.seed T.a.length k : Nat) : Int), .int .i64 (ixI (T.a.getD (bkt T.seed T.a.length k) []) k)]) [.int .i64 0, .int .i64 ((bkt T.seed T.a.length k : Nat) : Int), .int .i64 (ixI (T.a.getD (bkt T.seed T.a.length k) []) k)] (o4 rfl (o2 rfl s4_95)) (sm hz91.p4.p1 rfl) rfl rfl (by kernel_rfl) hB14_88 (by simp) [.int .i64 0, .int .i64 ((bkt T.seed T.a.length k : Nat) : Int), .int .i64 (ixI (T.a.getD (bkt T.seed T.a.length k) []) k)] rfl ?_)
  intro w105 hB106 hF107 hsw105
  have hF_108 := hF_82.own hF107 (by simp <;> omega)
  have hB_109 := hB_83.fr1 hF107 (by omega)
  have hRA_110 := hRA_84.fr1 hF107 (by omega)
  have hRB_111 := hRB_85.fr1 hF107 (by omega)
  have hK_112 := hK_86.fr hF107 (by simp)
  have hB5_113 := hB5_87.fr1 hF107 (by omega)
  refine V.ga evc ?_
  refine V.nil ?_
  refine V.then_n (hK104 _ _ ?_)
  refine V.flushW hz91.p4.p2.p1 (fun a114 hz115 up116 => ?_)
  have s0_117 := up116 0 _ (o4 rfl (o2 rfl (o1 rfl s0_93)))
  have s3_118 := up116 3 _ (o4 rfl (o2 rfl (o1 rfl s3_94)))
  have s4_119 := up116 4 _ (o4 rfl (o2 rfl (o1 rfl s4_95)))
  have s5_120 := up116 5 _ (sm hz91.p4.p2 rfl)
  have s9_121 := up116 9 _ (o4 rfl (o2 rfl (o1 rfl s9_99)))
  clear up116
  refine V.ret ?_
  refine V.blk_r ?_
  refine V.then_r ?_
  refine V.then_r ?_
  refine V.blk_r ?_
  refine V.then_r ?_
  refine V.retCT hz115 rfl _ (s4_119) (V.run_loadVar_agg (cs := [.int .i64 0, .int .i64 ((bkt T.seed T.a.length k : Nat) : Int), .int .i64 (ixI (T.a.getD (bkt T.seed T.a.length k) []) k)]) (by kernel_rfl) (blk_cells hB106 0 _ rfl)) (s5_120) ?_
  refine ⟨?_, hF_108⟩
  unfold findT
  rw [if_pos (by omega)]
 ·
  refine V.skip ?_
  refine V.blk_n ?_
  refine V.then_n (hK38 _ _ ?_)
  refine V.rg ?_
  refine V.ge_ [(9, .int .i64 0)] ⟨(o2 rfl s9_99), trivial⟩ (.int .i64 1) ?_
  refine V.gm (sm hz91.p2 rfl) ?_
  refine V.nil ?_
  refine V.then_n ?_
  refine V.rnd ?_
  refine V.seq (fun K122 hK123 => ?_)
  refine V.rg ?_
  refine V.ge_ [(9, .int .i64 1)] ⟨(sm hz91.p2.p1 rfl), trivial⟩ (.bool true) ?_
  refine V.nil ?_
  refine V.then_n (hK123 _ _ ?_)
  refine V.flushW hz91.p4.p1 (fun a124 hz125 up126 => ?_)
  have s0_127 := up126 0 _ (o4 rfl (o1 rfl s0_93))
  have s3_128 := up126 3 _ (o4 rfl (o1 rfl s3_94))
  have s4_129 := up126 4 _ (o4 rfl (o1 rfl s4_95))
  have s9_130 := up126 9 _ (o1 rfl (sm hz91.p2.p1 rfl))
  have s10_131 := up126 10 _ (sm hz91.p4 rfl)
  clear up126
  refine V.seq (fun K132 hK133 => ?_)
  refine V.cond_t (s10_131) ?_
  refine V.skip ?_
  refine V.then_n (hK133 _ _ ?_)
  refine V.seq (fun K134 hK135 => ?_)
  refine V.block ?_
  refine V.seq (fun K136 hK137 => ?_)
  refine V.rg ?_
  refine V.gm (s9_130) ?_
  refine V.ga (sm hz125 rfl) ?_
  refine V.nil ?_
  refine V.then_n (hK137 _ _ ?_)
  refine V.seq (fun K138 hK139 => ?_)
  refine V.seq (fun K140 hK141 => ?_)
  refine V.rg ?_
  refine V.gm (o2 rfl s0_127) ?_
  refine V.gm (o1 rfl (sm hz125.p1 rfl)) ?_
  refine V.ge_ [(12, .pointer (some ⟨t, 0, none⟩))] ⟨(o1 rfl (sm hz125.p2 rfl)), trivial⟩ (.pointer (some ⟨t, 0, none⟩)) ?_
  refine V.ge_ [(14, .pointer (some ⟨t, 0, none⟩))] ⟨(sm hz125.p4 rfl), trivial⟩ (.pointer (some ⟨t, 1, none⟩)) ?_
  refine V.ge_ [(15, .pointer (some ⟨t, 1, none⟩)), (13, .int .i64 1)] ⟨(sm hz125.p4.p1 rfl), (o2 rfl (sm hz125.p2.p1 rfl)), trivial⟩ (.pointer (some ⟨t, 2, none⟩)) ?_
  refine V.go (V.ld ⟨t, 2, none⟩ (.slice (some ⟨gB, 0, none⟩) T.b.length T.b.length) (sm hz125.p4.p2 rfl) (by kernel_rfl) (hB_83.at 2 rfl) ?_)
  refine V.ge_ [(17, .slice (some ⟨gB, 0, none⟩) T.b.length T.b.length)] ⟨(sm hz125.p4.p2.p1 rfl), trivial⟩ (.bool false) ?_
  refine V.nil ?_
  refine V.then_n (hK141 _ _ ?_)
  refine V.flushW hz125.p8.p1 (fun a142 hz143 up144 => ?_)
  have s0_145 := up144 0 _ (o8 rfl (o1 rfl s0_127))
  have s3_146 := up144 3 _ (o8 rfl (o1 rfl s3_128))
  have s4_147 := up144 4 _ (o8 rfl (o1 rfl s4_129))
  have s6_148 := up144 6 _ (o4 rfl (o2 rfl (o1 rfl (sm hz125.p1 rfl))))
  have s9_149 := up144 9 _ (o8 rfl (o1 rfl s9_130))
  have s18_150 := up144 18 _ (sm hz125.p8 rfl)
  clear up144
  refine V.cond_f (s18_150) ?_
  refine V.skip ?_
  refine V.then_n (hK139 _ _ ?_)
  refine V.seq (fun K151 hK152 => ?_)
  refine V.rg ?_
  refine V.gm (s0_145) ?_
  refine V.gm (o1 rfl s6_148) ?_
  refine V.go (V.ld ⟨b3, 0, none⟩ (.string k) (o2 rfl s3_146) (by kernel_rfl) (hB5_87.at 0 rfl) ?_)
  refine V.go (V.call 66 #[] #[.pointer (some ⟨t, 0, none⟩), .int .i64 1, .string k] evf (args3 (o2 rfl (sm hz143 rfl)) (o1 rfl (sm hz143.p1 rfl)) (sm hz143.p2 rfl)) (Go.Proofs.enters_of Try.func66 (by kernel_rfl) rfl) (bucket_M1 w81 t T.seed T.a.length T.b.length 0 gA gB (.int .i64 (T.moved : Int)) (.int .i64 (T.n : Int)) hB_83 k (by omega) (by omega) (by omega) (by omega)) ?_)
  rintro _ w154 ⟨rfl, hF153⟩
  refine ⟨_, rfl, ?_⟩
  have hsw154 := hF153.size
  have hF_155 := hF_82.new hF153
  have hB_156 := hB_83.fr0 hF153
  have hRA_157 := hRA_84.fr0 hF153
  have hRB_158 := hRB_85.fr0 hF153
  have hK_159 := hK_86.fr0 hF153
  have hB5_160 := hB5_87.fr0 hF153
  have hB14_161 := hB14_88.fr0 hF153
  have hS79_162 := hS79_89.fr0 hF153
  have hbl153 := bkt_lt T.seed k (n := T.b.length) (by omega)
  refine V.ga (v := (.int .i64 ((bkt T.seed T.b.length k : Nat) : Int))) (sm hz143.p2.p1 rfl) ?_
  refine V.nil ?_
  refine V.then_n (hK152 _ _ ?_)
  refine V.flushW hz143.p4.p1 (fun a163 hz164 up165 => ?_)
  have s0_166 := up165 0 _ (o4 rfl (o1 rfl s0_145))
  have s3_167 := up165 3 _ (o4 rfl (o1 rfl s3_146))
  have s4_168 := up165 4 _ (o4 rfl (o1 rfl s4_147))
  have s6_169 := up165 6 _ (o4 rfl (o1 rfl s6_148))
  have s7_170 : a163.eval (.tmp 7) = (.int .i64 ((bkt T.seed T.b.length k : Nat) : Int)) := up165 _ _ (sm hz143.p4 rfl)
  have s9_171 := up165 9 _ (o4 rfl (o1 rfl s9_149))
  clear up165
  refine V.seq (fun K172 hK173 => ?_)
  refine V.rg ?_
  refine V.gm (s0_166) ?_
  refine V.gm (o1 rfl s6_169) ?_
  refine V.ge_ [(23, .pointer (some ⟨t, 0, none⟩))] ⟨(o1 rfl (sm hz164 rfl)), trivial⟩ (.pointer (some ⟨t, 0, none⟩)) ?_
  refine V.ge_ [(25, .pointer (some ⟨t, 0, none⟩))] ⟨(sm hz164.p2 rfl), trivial⟩ (.pointer (some ⟨t, 1, none⟩)) ?_
  refine V.ge_ [(26, .pointer (some ⟨t, 1, none⟩)), (24, .int .i64 1)] ⟨(sm hz164.p2.p1 rfl), (o2 rfl (sm hz164.p1 rfl)), trivial⟩ (.pointer (some ⟨t, 2, none⟩)) ?_
  refine V.go (V.ld ⟨t, 2, none⟩ (.slice (some ⟨gB, 0, none⟩) T.b.length T.b.length) (sm hz164.p4 rfl) (by kernel_rfl) (hB_156.at 2 rfl) ?_)
  refine V.gm (v := (.int .i64 ((bkt T.seed T.b.length k : Nat) : Int))) (o4 rfl (o2 rfl s7_170)) ?_
  refine V.go (V.ixa gB 0 T.b.length T.b.length .i64 ((bkt T.seed T.b.length k : Nat) : Int) 1 (o1 rfl (sm hz164.p4.p1 rfl)) (sm hz164.p4.p2 rfl) (by omega) (by omega) (by kernel_rfl) ?_)
  obtain ⟨A174, c175, hv176⟩ := hK_159.getB hlA (i := (bkt T.seed T.b.length k)) (by omega) nilS
  refine V.go (V.ld ⟨gB, 0 + ((bkt T.seed T.b.length k : Nat) : Int).toNat * 1, none⟩ (.slice A174 ((T.b.getD (bkt T.seed T.b.length k) []).length) c175) (sm hz164.p4.p2.p1 rfl) (by kernel_rfl) ((hRB_158.at (bkt T.seed T.b.length k) nilS (by omega)).trans (congrArg some hv176)) ?_)
  have hS177 := hK_159.slB hlA (i := (bkt T.seed T.b.length k)) (by omega) hv176
  refine V.ge_ [(3, .pointer (some ⟨b3, 0, none⟩))] ⟨(o8 rfl (o1 rfl s3_167)), trivial⟩ (.func (.func 75) #[] #[.pointer (some ⟨b3, 0, none⟩)]) ?_
  refine V.go (V.call 74 #[] #[.slice A174 ((T.b.getD (bkt T.seed T.b.length k) []).length) c175, .func (.func 75) #[] #[.pointer (some ⟨b3, 0, none⟩)]] evf (args2 (o1 rfl (sm hz164.p8 rfl)) (sm hz164.p8.p1 rfl)) (Go.Proofs.enters_of Try.func74 (by kernel_rfl) rfl) (ixf_any w154 _ A174 c175 b3 (T.b.getD (bkt T.seed T.b.length k) []) k hS177 hB5_160) ?_)
  rintro _ w179 ⟨rfl, hF178⟩
  refine ⟨_, rfl, ?_⟩
  have hsw179 := hF178.size
  have hF_180 := hF_155.new hF178
  have hB_181 := hB_156.fr0 hF178
  have hRA_182 := hRA_157.fr0 hF178
  have hRB_183 := hRB_158.fr0 hF178
  have hK_184 := hK_159.fr0 hF178
  have hB5_185 := hB5_160.fr0 hF178
  have hB14_186 := hB14_161.fr0 hF178
  have hS79_187 := hS79_162.fr0 hF178
  have hS177_188 := hS177.fr0 hF178
  have hix178 := ixI_lt (T.b.getD (bkt T.seed T.b.length k) []) k
  refine V.ga (v := (.int .i64 (ixI (T.b.getD (bkt T.seed T.b.length k) []) k))) (sm hz164.p8.p2 rfl) ?_
  refine V.nil ?_
  refine V.then_n (hK173 _ _ ?_)
  refine V.flushW hz164.p8.p4 (fun a189 hz190 up191 => ?_)
  have s0_192 := up191 0 _ (o8 rfl (o4 rfl s0_166))
  have s3_193 := up191 3 _ (o8 rfl (o4 rfl s3_167))
  have s4_194 := up191 4 _ (o8 rfl (o4 rfl s4_168))
  have s6_195 := up191 6 _ (o8 rfl (o4 rfl s6_169))
  have s7_196 : a189.eval (.tmp 7) = (.int .i64 ((bkt T.seed T.b.length k : Nat) : Int)) := up191 _ _ (o8 rfl (o4 rfl s7_170))
  have s8_197 : a189.eval (.tmp 8) = (.int .i64 (ixI (T.b.getD (bkt T.seed T.b.length k) []) k)) := up191 _ _ (sm hz164.p8.p2.p1 rfl)
  have s9_198 := up191 9 _ (o8 rfl (o4 rfl s9_171))
  clear up191
  refine V.seq (fun K199 hK200 => ?_)
  refine V.rg ?_
  refine V.gm (v := (.int .i64 (ixI (T.b.getD (bkt T.seed T.b.length k) []) k))) (s8_197) ?_
  refine V.ge_ [(34, .int .i64 (ixI (T.b.getD (bkt T.seed T.b.length k) []) k))] ⟨(sm hz190 rfl), trivial⟩ (.bool (decide ((ixI (T.b.getD (bkt T.seed T.b.length k) []) k) ≥ 0))) ?_
  refine V.nil ?_
  refine V.then_n (hK200 _ _ ?_)
  refine V.condP (p := (ixI (T.b.getD (bkt T.seed T.b.length k) []) k) ≥ 0) (sm hz190.p1 rfl) (fun ht201 => ?_) (fun ht201 => ?_)
  ·
   refine V.seq (fun K202 hK203 => ?_)
   refine V.rg ?_
   refine V.gm (o2 rfl s6_195) ?_
   refine V.gm (v := (.int .i64 ((bkt T.seed T.b.length k : Nat) : Int))) (o2 rfl (o1 rfl s7_196)) ?_
   refine V.gm (v := (.int .i64 (ixI (T.b.getD (bkt T.seed T.b.length k) []) k))) (o4 rfl s8_197) ?_
   refine V.ge_ [(36, .int .i64 1), (37, .int .i64 ((bkt T.seed T.b.length k : Nat) : Int)), (38, .int .i64 (ixI (T.b.getD (bkt T.seed T.b.length k) []) k))] ⟨(o2 rfl (sm hz190.p2 rfl)), (o1 rfl (sm hz190.p2.p1 rfl)), (sm hz190.p4 rfl), trivial⟩ (.agg #[.int .i64 1, .int .i64 ((bkt T.seed T.b.length k : Nat) : Int), .int .i64 (ixI (T.b.getD (bkt T.seed T.b.length k) []) k)]) ?_
   refine V.go (V.stn b12 0 (.agg #[.int .i64 1, .int .i64 ((bkt T.seed T.b.length k : Nat) : Int), .int .i64 (ixI (T.b.getD (bkt T.seed T.b.length k) []) k)]) [.int .i64 1, .int .i64 ((bkt T.seed T.b.length k : Nat) : Int), .int .i64 (ixI (T.b.getD (bkt T.seed T.b.length k) []) k)] (o4 rfl (o2 rfl s4_194)) (sm hz190.p4.p1 rfl) rfl rfl (by kernel_rfl) hB14_186 (by simp) [.int .i64 1, .int .i64 ((bkt T.seed T.b.length k : Nat) : Int), .int .i64 (ixI (T.b.getD (bkt T.seed T.b.length k) []) k)] rfl ?_)
   intro w204 hB205 hF206 hsw204
   have hF_207 := hF_180.own hF206 (by simp <;> omega)
   have hB_208 := hB_181.fr1 hF206 (by omega)
   have hRA_209 := hRA_182.fr1 hF206 (by omega)
   have hRB_210 := hRB_183.fr1 hF206 (by omega)
   have hK_211 := hK_184.fr hF206 (by simp)
   have hB5_212 := hB5_185.fr1 hF206 (by omega)
   refine V.ga evc ?_
   refine V.nil ?_
   refine V.then_n (hK203 _ _ ?_)
   refine V.flushW hz190.p4.p2.p1 (fun a213 hz214 up215 => ?_)
   have s0_216 := up215 0 _ (o4 rfl (o2 rfl (o1 rfl s0_192)))
   have s3_217 := up215 3 _ (o4 rfl (o2 rfl (o1 rfl s3_193)))
   have s4_218 := up215 4 _ (o4 rfl (o2 rfl (o1 rfl s4_194)))
   have s5_219 := up215 5 _ (sm hz190.p4.p2 rfl)
   have s9_220 := up215 9 _ (o4 rfl (o2 rfl (o1 rfl s9_198)))
   clear up215
   refine V.ret ?_
   refine V.blk_r ?_
   refine V.then_r ?_
   refine V.then_r ?_
   refine V.blk_r ?_
   refine V.then_r ?_
   refine V.retCT hz214 rfl _ (s4_218) (V.run_loadVar_agg (cs := [.int .i64 1, .int .i64 ((bkt T.seed T.b.length k : Nat) : Int), .int .i64 (ixI (T.b.getD (bkt T.seed T.b.length k) []) k)]) (by kernel_rfl) (blk_cells hB205 0 _ rfl)) (s5_219) ?_
   refine ⟨?_, hF_207⟩
   unfold findT
   rw [if_neg (by omega), if_pos ⟨by omega, by omega⟩]
  ·
   refine V.skip ?_
   refine V.blk_n ?_
   refine V.then_n (hK135 _ _ ?_)
   refine V.rg ?_
   refine V.ge_ [(9, .int .i64 1)] ⟨(o2 rfl s9_198), trivial⟩ (.int .i64 2) ?_
   refine V.gm (sm hz190.p2 rfl) ?_
   refine V.nil ?_
   refine V.then_n ?_
   refine V.rnd ?_
   refine V.seq (fun K221 hK222 => ?_)
   refine V.rg ?_
   refine V.ge_ [(9, .int .i64 2)] ⟨(sm hz190.p2.p1 rfl), trivial⟩ (.bool false) ?_
   refine V.nil ?_
   refine V.then_n (hK222 _ _ ?_)
   refine V.flushW hz190.p4.p1 (fun a223 hz224 up225 => ?_)
   have s0_226 := up225 0 _ (o4 rfl (o1 rfl s0_192))
   have s3_227 := up225 3 _ (o4 rfl (o1 rfl s3_193))
   have s4_228 := up225 4 _ (o4 rfl (o1 rfl s4_194))
   have s9_229 := up225 9 _ (o1 rfl (sm hz190.p2.p1 rfl))
   have s10_230 := up225 10 _ (sm hz190.p4 rfl)
   clear up225
   refine V.seq (fun K231 hK232 => ?_)
   refine V.cond_f (s10_230) ?_
   refine V.exit ?_
   refine V.then_e ?_
   refine V.then_e ?_
   refine V.blk_hit ?_
   refine V.then_n (hK23 _ _ ?_)
   refine V.seq (fun K233 hK234 => ?_)
   refine V.rg ?_
   refine V.ge_ [] trivial (.agg #[.int .i64 0, .int .i64 0, .int .i64 0]) ?_
   refine V.go (V.stn b12 0 (.agg #[.int .i64 0, .int .i64 0, .int .i64 0]) [.int .i64 0, .int .i64 0, .int .i64 0] (o1 rfl s4_228) (sm hz224 rfl) rfl rfl (by kernel_rfl) hB14_186 (by simp) [.int .i64 0, .int .i64 0, .int .i64 0] rfl ?_)
   intro w235 hB236 hF237 hsw235
   have hF_238 := hF_180.own hF237 (by simp <;> omega)
   have hB_239 := hB_181.fr1 hF237 (by omega)
   have hRA_240 := hRA_182.fr1 hF237 (by omega)
   have hRB_241 := hRB_183.fr1 hF237 (by omega)
   have hK_242 := hK_184.fr hF237 (by simp)
   have hB5_243 := hB5_185.fr1 hF237 (by omega)
   refine V.ga evc ?_
   refine V.nil ?_
   refine V.then_n (hK234 _ _ ?_)
   refine V.ret ?_
   refine V.retCT hz224.p2 rfl _ (o2 rfl s4_228) (V.run_loadVar_agg (cs := [.int .i64 0, .int .i64 0, .int .i64 0]) (by kernel_rfl) (blk_cells hB236 0 _ rfl)) (sm hz224.p1 rfl) ?_
   refine ⟨?_, hF_238⟩
   unfold findT
   rw [if_neg (by omega), if_neg (by omega)]
end Go.Proofs.Ytalhmegjomfbaaa
