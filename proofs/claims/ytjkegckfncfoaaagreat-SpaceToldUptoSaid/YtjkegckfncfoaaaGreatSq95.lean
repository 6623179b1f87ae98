/- Joined texts: Hb, TabW, TabV, Hc, He, Hf, Hd, Hg, Hh, VX, Hi, Hj, Hk, Shf, So, AppZ, Rng, RngP, Ek, RunM, El, RngQ, Em, Sp, Sq0. -/
import Derived.Test.YtjkegckfncfoaaaGreatProg
import Derived.Shelf.Slices.In.SortNone
import Derived.Shelf.Sort.Plain
import Derived.Ground.Names2Prog
import Derived.Ground.SlsfProg
import Derived.Shelf.SlSortCmp.WholeK
import Derived.Lib.AppendZeros
import Derived.RangeFuncCalls
import Derived.RangeFuncLeaves
import Derived.Test.YtjkegckfncfoaaaGreatSq94
section
namespace Go.Proofs.YtjkegckfncfoaaaGreat
open Go.V Go.Base
open Go.RowKit (Below)
attribute [local irreducible] Act.put Act.eval
set_option linter.unusedVariables false
set_option linter.unusedSimpArgs false
set_option maxHeartbeats 4000000
set_option maxRecDepth 20000
def ovrD (till now : Int) : Prop := ¬ till = -1 ∧ till ≤ now
instance (a b : Int) : Decidable (ovrD a b) := inferInstanceAs (Decidable (_ ∧ _))
def seenD (role now till : Int) : Prop := (¬ role = 1 ∧ ¬ role = 2) ∨ ¬ ovrD till now
instance (a b c : Int) : Decidable (seenD a b c) := inferInstanceAs (Decidable (_ ∨ _))
theorem over_any (w : World) (v : EntV) (now : Int) : Calls Tryz.prog 48 #[.agg #[.int .i64 v.kind, .string v.s, .slice v.l.a v.l.n v.l.c, .slice v.z.a v.z.n v.z.c, .slice v.h.a v.h.n v.h.c, .int .i64 v.till], .int .i64 now] w (fun e w' => e = .returned (.bool (decide (ovrD v.till now))) ∧ Fr [] w w') := by
 have hF := Fr.refl [] w
 refine V.en 14 Tryz.func48 fun a h1 => ?_
 refine V.sg fun K2 k3 => ?_
 refine V.go (V.mk [(0, .agg #[.int .i64 v.kind, .string v.s, .slice v.l.a v.l.n v.l.c, .slice v.z.a v.z.n v.z.c, .slice v.h.a v.h.n v.h.c, .int .i64 v.till])] ⟨h1.e, trivial⟩ (by kernel_rfl) [.int .i64 v.kind, .string v.s, .slice v.l.a v.l.n v.l.c, .slice v.z.a v.z.n v.z.c, .slice v.h.a v.h.n v.h.c, .int .i64 v.till] 79 (fun b => .pointer (some ⟨b, 0, none⟩)) (by kernel_rfl) ?_)
 intro w5 b4 heb4 hB6 hF7 hsb4
 have hF_8 := hF.new hF7
 refine V.pt h1 fun a h9 => ?_
 refine V.re h9 [] 4 4 [] fun a h10 => k3 _ _ ?_
 refine V.sg fun K11 k12 => ?_
 refine V.run h10 [(1, .b hB6 5), (0, .ne v.till (-1))] 4 5 7 [(8, .bool (decide (¬ v.till = (-1))))] fun a h13 => ?_
 by_cases hg14 : ¬ v.till = (-1)
 ·
  have h15 := h13.kt 8 hg14
  refine V.re h15 [(1, .b hB6 5)] 9 13 [(4, .bool (decide (v.till ≤ now)))] fun a h16 => k12 _ _ ?_
  refine V.ret ?_
  refine V.r1 h16 (.bool (decide (v.till ≤ now))) ?_
  exact ⟨congrArg (fun b => Ending.returned (Value.bool b)) (decide_eq_decide.2 (by unfold ovrD; first | omega | (constructor <;> intro h <;> first | exact .inr h | (rcases h with h | h; omega; exact h)))), hF_8⟩
 ·
  have h17 := h13.kf 8 hg14
  refine V.re h17 [] 9 13 [(4, .bool false)] fun a h18 => k12 _ _ ?_
  refine V.ret ?_
  refine V.r1 h18 (.bool false) ?_
  exact ⟨congrArg (fun b => Ending.returned (Value.bool b)) (decide_eq_false (by unfold ovrD; omega)).symm, hF_8⟩
theorem seen_any (w : World) (now dr role : Int) (Aa : Option Addr) (na ca : Nat) (v : EntV) : Calls Tryz.prog 31 #[.agg #[.int .i64 now, .int .u64 dr, .int .i64 role, .slice Aa na ca], .agg #[.int .i64 v.kind, .string v.s, .slice v.l.a v.l.n v.l.c, .slice v.z.a v.z.n v.z.c, .slice v.h.a v.h.n v.h.c, .int .i64 v.till]] w (fun e w' => e = .returned (.bool (decide (seenD role now v.till))) ∧ Fr [] w w') := by
 have hF := Fr.refl [] w
 refine V.en 20 Tryz.func31 fun a h1 => ?_
 refine V.sg fun K2 k3 => ?_
 refine V.go (V.mk [(0, .agg #[.int .i64 now, .int .u64 dr, .int .i64 role, .slice Aa na ca])] ⟨h1.e, trivial⟩ (by kernel_rfl) [.int .i64 now, .int .u64 dr, .int .i64 role, .slice Aa na ca] 27 (fun b => .pointer (some ⟨b, 0, none⟩)) (by kernel_rfl) ?_)
 intro w5 b4 heb4 hB6 hF7 hsb4
 have hF_8 := hF.new hF7
 refine V.pt h1 fun a h9 => ?_
 refine V.go (V.mk [(1, .agg #[.int .i64 v.kind, .string v.s, .slice v.l.a v.l.n v.l.c, .slice v.z.a v.z.n v.z.c, .slice v.h.a v.h.n v.h.c, .int .i64 v.till])] ⟨h9.e, trivial⟩ (by kernel_rfl) [.int .i64 v.kind, .string v.s, .slice v.l.a v.l.n v.l.c, .slice v.z.a v.z.n v.z.c, .slice v.h.a v.h.n v.h.c, .int .i64 v.till] 79 (fun b => .pointer (some ⟨b, 0, none⟩)) (by kernel_rfl) ?_)
 intro w11 b10 heb10 hB12 hF13 hsb10
 have hF_14 := hF_8.new hF13
 have hB6_15 := hB6.fr0 hF13
 refine V.pt h9 fun a h16 => ?_
 refine V.re h16 [] 4 4 [] fun a h17 => k3 _ _ ?_
 refine V.sg fun K18 k19 => ?_
 refine V.run h17 [(1, .b hB6_15 2), (0, .ne role 1)] 4 5 7 [(8, .bool (decide (¬ role = 1)))] fun a h20 => ?_
 by_cases hg21 : ¬ role = 1
 ·
  have h22 := h20.kt 8 hg21
  refine V.run h22 [(1, .b hB6_15 2), (0, .ne role 2)] 5 9 12 [(13, .bool (decide (¬ role = 2)))] fun a h23 => ?_
  by_cases hg24 : ¬ role = 2
  ·
   have h25 := h23.kt 13 hg24
   refine V.re h25 [] 14 19 [(4, .bool true)] fun a h26 => k19 _ _ ?_
   refine V.ret ?_
   refine V.r1 h26 (.bool true) ?_
   exact ⟨congrArg (fun b => Ending.returned (Value.bool b)) (decide_eq_true (by unfold seenD; omega)).symm, hF_14⟩
  ·
   have h27 := h23.kf 13 hg24
   refine V.run h27 [(0, .bs hB12 0 [.int .i64 v.kind, .string v.s, .slice v.l.a v.l.n v.l.c, .slice v.z.a v.z.n v.z.c, .slice v.h.a v.h.n v.h.c, .int .i64 v.till]), (1, .b hB6_15 0)] 3 15 15 [(14, .agg #[.int .i64 v.kind, .string v.s, .slice v.l.a v.l.n v.l.c, .slice v.z.a v.z.n v.z.c, .slice v.h.a v.h.n v.h.c, .int .i64 v.till]), (16, .int .i64 now)] fun a h28 => ?_
   refine V.clg h28 (Go.Proofs.enters_of Tryz.func48 (by kernel_rfl) rfl) (over_any w11 v now) ?_
   rintro _ w30 ⟨rfl, hF29⟩
   refine ⟨_, rfl, fun a h31 => ?_⟩
   have hsw30 := hF29.size
   have hF_32 := hF_14.new hF29
   refine V.re h31 [(0, .q (.bool (decide (¬ (ovrD v.till now)))) V.t_not)] 18 19 [(4, .bool (decide (¬ (ovrD v.till now))))] fun a h35 => k19 _ _ ?_
   refine V.ret ?_
   refine V.r1 h35 (.bool (decide (¬ (ovrD v.till now)))) ?_
   exact ⟨congrArg (fun b => Ending.returned (Value.bool b)) (decide_eq_decide.2 (by unfold seenD; first | omega | (constructor <;> intro h <;> first | exact .inr h | (rcases h with h | h; omega; exact h)))), hF_32⟩
 ·
  have h36 := h20.kf 8 hg21
  refine V.run h36 [(2, .bs hB12 0 [.int .i64 v.kind, .string v.s, .slice v.l.a v.l.n v.l.c, .slice v.z.a v.z.n v.z.c, .slice v.h.a v.h.n v.h.c, .int .i64 v.till]), (1, .b hB6_15 0)] 8 9 15 [(13, .bool false), (14, .agg #[.int .i64 v.kind, .string v.s, .slice v.l.a v.l.n v.l.c, .slice v.z.a v.z.n v.z.c, .slice v.h.a v.h.n v.h.c, .int .i64 v.till]), (16, .int .i64 now)] fun a h37 => ?_
  refine V.clg h37 (Go.Proofs.enters_of Tryz.func48 (by kernel_rfl) rfl) (over_any w11 v now) ?_
  rintro _ w39 ⟨rfl, hF38⟩
  refine ⟨_, rfl, fun a h40 => ?_⟩
  have hsw39 := hF38.size
  have hF_41 := hF_14.new hF38
  refine V.re h40 [(0, .q (.bool (decide (¬ (ovrD v.till now)))) V.t_not)] 18 19 [(4, .bool (decide (¬ (ovrD v.till now))))] fun a h44 => k19 _ _ ?_
  refine V.ret ?_
  refine V.r1 h44 (.bool (decide (¬ (ovrD v.till now)))) ?_
  exact ⟨congrArg (fun b => Ending.returned (Value.bool b)) (decide_eq_decide.2 (by unfold seenD; first | omega | (constructor <;> intro h <;> first | exact .inr h | (rcases h with h | h; omega; exact h)))), hF_41⟩
end Go.Proofs.YtjkegckfncfoaaaGreat
end
section
namespace Go.V
set_option linter.unusedVariables false
set_option linter.unusedSimpArgs false
section
variable {α : Type} {T : Tb α}
def P2 (n : Nat) : Prop := ∃ k, n = 2 ^ (k + 2)
theorem P2.pos {n : Nat} (h : P2 n) : 4 ≤ n := by
  obtain ⟨k, rfl⟩ := h
  have h2 : 2 ^ (k + 2) = 4 * 2 ^ k := by rw [Nat.pow_succ, Nat.pow_succ]; omega
  have := Nat.two_pow_pos k
  omega
/-- The sizes of a table: N bounds how many keys there were. -/
structure Tb.Pw (T : Tb α) (N : Nat) : Prop where
  pa : P2 T.a.length
  pb : T.b.length ≠ 0 → P2 T.b.length ∧ (T.b.length = 2 * T.a.length ∨ T.a.length = 2 * T.b.length)
  ld : T.b.length = 0 → T.n ≤ T.a.length
  ba : T.a.length ≤ 4 + 2 * N
  bb : T.b.length ≤ 4 + 2 * N
theorem Tb.Pw.mono {N M : Nat} (h : T.Pw N) (hm : N ≤ M) : T.Pw M := ⟨h.pa, h.pb, h.ld, by have := h.ba; omega, by have := h.bb; omega⟩
variable {N : Nat}
theorem tbStep_n' (T : Tb α) : (tbStep T).n = T.n := by
  unfold tbStep
  split
  · rfl
  · split
    · rfl
    · split <;> rfl
theorem updT_n (T : Tb α) (k : ByteArray) (v : α) : (updT T k v).n = T.n := by unfold updT; split <;> rfl
theorem insT_n (T : Tb α) (k : ByteArray) (v : α) : (insT T k v).n = T.n + 1 := by
  unfold insT
  split
  · split <;> rfl
  · rfl
end
end Go.V
end
section
namespace Go.V
set_option linter.unusedVariables false
set_option linter.unusedSimpArgs false
section
variable {α : Type} {T : Tb α} {seed : Nat}
/-- The values under a key, in a bucket; in a row; in a table. -/
def vl (k : ByteArray) (l : List (ByteArray × α)) : List α := l.filterMap fun x => if x.1 = k then some x.2 else none
def va (seed : Nat) (a : List (List (ByteArray × α))) (k : ByteArray) : List α := vl k (a.getD (bkt seed a.length k) [])
def vt (T : Tb α) (k : ByteArray) : List α := va T.seed T.a k ++ va T.seed T.b k
theorem bktlt (seed : Nat) {n : Nat} (h : 0 < n) (k : ByteArray) : bkt seed n k < n := Nat.mod_lt _ h
theorem vl_app (k : ByteArray) (l m : List (ByteArray × α)) : vl k (l ++ m) = vl k l ++ vl k m := List.filterMap_append
theorem vl_one (k : ByteArray) (x : ByteArray × α) : vl k [x] = if x.1 = k then [x.2] else [] := by
  unfold vl
  by_cases h : x.1 = k
  · simp [h]
  · simp [h]
theorem vl_cons (k : ByteArray) (x : ByteArray × α) (l : List (ByteArray × α)) : vl k (x :: l) = (if x.1 = k then [x.2] else []) ++ vl k l := by
  rw [← List.singleton_append, vl_app, vl_one]
def placed (seed : Nat) (a : List (List (ByteArray × α))) : Prop := ∀ i, ∀ x ∈ a.getD i [], bkt seed a.length x.1 = i
theorem vl_none {k : ByteArray} {l : List (ByteArray × α)} (h : ∀ x ∈ l, x.1 ≠ k) : vl k l = [] := by
  induction l with
  | nil => rfl
  | cons x l ih => rw [vl_cons, if_neg (h x (List.mem_cons_self ..)), ih fun y hy => h y (List.mem_cons_of_mem _ hy)]; rfl
theorem ix_some {k : ByteArray} {l : List (ByteArray × α)} (h : ixI l k ≥ 0) : ∃ p x q, l = p ++ x :: q ∧ x.1 = k ∧ (ixI l k).toNat = p.length := by
  unfold ixI at h ⊢
  by_cases hlt : l.findIdx (fun x => decide (x.1 = k)) < l.length
  · rw [if_pos hlt]
    refine ⟨l.take (l.findIdx fun x => decide (x.1 = k)), l[l.findIdx fun x => decide (x.1 = k)], l.drop (l.findIdx (fun x => decide (x.1 = k)) + 1), ?_, ?_, ?_⟩
    · rw [List.getElem_cons_drop, List.take_append_drop]
    · have := List.findIdx_getElem (w := hlt); simpa using this
    · rw [List.length_take, Int.toNat_natCast]; omega
  · rw [if_neg hlt] at h; omega
theorem ix_none {k : ByteArray} {l : List (ByteArray × α)} (h : ¬ ixI l k ≥ 0) : vl k l = [] := by
  refine vl_none fun x hx he => h ?_
  unfold ixI
  have : l.findIdx (fun x => decide (x.1 = k)) < l.length := List.findIdx_lt_length_of_exists ⟨x, hx, by simpa using he⟩
  rw [if_pos this]; omega
theorem find_ab (T : Tb α) (k : ByteArray) : (ixI (T.a.getD (bkt T.seed T.a.length k) []) k ≥ 0 ∧ findT T k = ((0, (bkt T.seed T.a.length k : Int), ixI (T.a.getD (bkt T.seed T.a.length k) []) k), true)) ∨
    (¬ ixI (T.a.getD (bkt T.seed T.a.length k) []) k ≥ 0 ∧ ixI (T.b.getD (bkt T.seed T.b.length k) []) k ≥ 0 ∧ findT T k = ((1, (bkt T.seed T.b.length k : Int), ixI (T.b.getD (bkt T.seed T.b.length k) []) k), true)) ∨
    (¬ ixI (T.a.getD (bkt T.seed T.a.length k) []) k ≥ 0 ∧ ¬ ixI (T.b.getD (bkt T.seed T.b.length k) []) k ≥ 0 ∧ findT T k = ((0, 0, 0), false)) := by
  unfold findT
  by_cases h1 : ixI (T.a.getD (bkt T.seed T.a.length k) []) k ≥ 0
  · exact .inl ⟨h1, if_pos h1⟩
  rw [if_neg h1]
  by_cases h2 : ixI (T.b.getD (bkt T.seed T.b.length k) []) k ≥ 0
  · refine .inr (.inl ⟨h1, h2, if_pos ⟨fun hb => ?_, h2⟩⟩)
    rw [List.eq_nil_of_length_eq_zero hb] at h2
    simp [ixI] at h2
  · exact .inr (.inr ⟨h1, h2, if_neg fun h => h2 h.2⟩)
theorem getD_mid {p q : List (ByteArray × α)} {x z : ByteArray × α} {i : Nat} (h : i = p.length) : (p ++ x :: q).getD i z = x := by
  subst h; rw [List.getD_eq_getElem?_getD, List.getElem?_append_right (by omega)]; simp
theorem look_vt (d : α) (T : Tb α) (k : ByteArray) : lookT d T k = match vt T k with
    | [] => (d, false)
    | v :: _ => (v, true) := by
  unfold lookT vt va
  rcases find_ab T k with ⟨h1, hf⟩ | ⟨h1, h2, hf⟩ | ⟨h1, h2, hf⟩
  · obtain ⟨p, x, q, hl, hk, hi⟩ := ix_some h1
    have hp : (bkt T.seed T.a.length k : Int).toNat = bkt T.seed T.a.length k := rfl
    have hv : vl k (T.a.getD (bkt T.seed T.a.length k) []) ≠ [] := by rw [hl, vl_app, vl_cons, if_pos hk]; simp
    have hnone : vl k p = [] := by
      refine vl_none fun y hy he => ?_
      obtain ⟨j, hj, hjy⟩ := List.mem_iff_getElem.1 hy
      have hlt : ixI (T.a.getD (bkt T.seed T.a.length k) []) k = (p.length : Int) := by omega
      unfold ixI at hlt
      split at hlt
      · have := List.not_of_lt_findIdx (p := fun x : ByteArray × α => decide (x.1 = k)) (xs := T.a.getD (bkt T.seed T.a.length k) []) (i := j) (by omega)
        rw [List.getElem_of_eq hl, List.getElem_append_left hj, hjy] at this
        simp [he] at this
      · omega
    rw [hf, if_pos rfl]
    simp only [if_true, hp]
    rw [hl] at hi ⊢
    rw [getD_mid hi, vl_app, vl_cons, if_pos hk, hnone]; rfl
  · obtain ⟨p, x, q, hl, hk, hi⟩ := ix_some h2
    have hp : (bkt T.seed T.b.length k : Int).toNat = bkt T.seed T.b.length k := rfl
    have hnone : vl k p = [] := by
      refine vl_none fun y hy he => ?_
      obtain ⟨j, hj, hjy⟩ := List.mem_iff_getElem.1 hy
      have hlt : ixI (T.b.getD (bkt T.seed T.b.length k) []) k = (p.length : Int) := by omega
      unfold ixI at hlt
      split at hlt
      · have := List.not_of_lt_findIdx (p := fun x : ByteArray × α => decide (x.1 = k)) (xs := T.b.getD (bkt T.seed T.b.length k) []) (i := j) (by omega)
        rw [List.getElem_of_eq hl, List.getElem_append_left hj, hjy] at this
        simp [he] at this
      · omega
    rw [hf, if_pos rfl, ix_none h1]
    simp only [if_neg (show ¬ (1 : Int) = 0 by decide), hp]
    rw [hl] at hi ⊢
    rw [getD_mid hi, vl_app, vl_cons, if_pos hk, hnone]; rfl
  · rw [hf, if_neg (by simp), ix_none h1, ix_none h2]; rfl
/-- Every key stands in its bucket, once. -/
structure Tb.Wf (T : Tb α) : Prop where
  pa : placed T.seed T.a
  pb : placed T.seed T.b
  un : ∀ k, (vt T k).length ≤ 1
theorem placed_nil (n : Nat) : placed seed (List.replicate n ([] : List (ByteArray × α))) := by
  intro i x hx
  have : (List.replicate n ([] : List (ByteArray × α))).getD i [] = [] := by rw [List.getD_eq_getElem?_getD, List.getElem?_replicate]; split <;> rfl
  rw [this] at hx; cases hx
theorem va_nil (n : Nat) (k : ByteArray) : va seed (List.replicate n ([] : List (ByteArray × α))) k = [] := by
  unfold va
  have : (List.replicate n ([] : List (ByteArray × α))).getD (bkt seed (List.replicate n ([] : List (ByteArray × α))).length k) [] = [] := by rw [List.getD_eq_getElem?_getD, List.getElem?_replicate]; split <;> rfl
  rw [this]; rfl
theorem va_nil0 (k : ByteArray) : va seed ([] : List (List (ByteArray × α))) k = [] := va_nil 0 k
theorem newT_wf (s : Nat) : (newT s : Tb α).Wf := ⟨placed_nil 4, placed_nil 0, fun k => by
  have : vt (newT s : Tb α) k = [] := by unfold vt newT; rw [va_nil, va_nil0]; rfl
  rw [this]; exact Nat.zero_le _⟩
theorem putB_placed {b : List (List (ByteArray × α))} (h : placed seed b) (hb : 0 < b.length) (x : ByteArray × α) : placed seed (putB seed b x) := by
  intro i y hy
  rw [putB_length]
  unfold putB at hy
  by_cases hi : bkt seed b.length x.1 = i
  · subst hi
    rw [getD_set_self (bktlt _ hb _)] at hy
    rcases List.mem_append.1 hy with hy | hy
    · exact h _ y hy
    · rw [List.mem_singleton.1 hy]
  · rw [Go.V.getD_set_ne hi] at hy; exact h i y hy
theorem putB_va {b : List (List (ByteArray × α))} (hb : 0 < b.length) (x : ByteArray × α) (k : ByteArray) : va seed (putB seed b x) k = va seed b k ++ vl k [x] := by
  unfold va
  rw [putB_length]
  unfold putB
  by_cases hi : bkt seed b.length x.1 = bkt seed b.length k
  · rw [hi, getD_set_self (bktlt _ hb _), vl_app]
  · rw [Go.V.getD_set_ne hi, vl_one, if_neg (fun h => hi (by rw [h])), List.append_nil]
theorem putBs_va : ∀ (m : List (ByteArray × α)) {b : List (List (ByteArray × α))}, 0 < b.length → ∀ k, va seed (m.foldl (putB seed) b) k = va seed b k ++ vl k m
  | [], b, hb, k => by simp [vl]
  | x :: m, b, hb, k => by rw [List.foldl_cons, putBs_va m (by rw [putB_length]; exact hb), putB_va hb, List.append_assoc, ← vl_app]; rfl
theorem putBs_placed : ∀ (m : List (ByteArray × α)) {b : List (List (ByteArray × α))}, 0 < b.length → placed seed b → placed seed (m.foldl (putB seed) b)
  | [], b, hb, h => h
  | x :: m, b, hb, h => putBs_placed m (by rw [putB_length]; exact hb) (putB_placed h hb x)
theorem placed_set {a : List (List (ByteArray × α))} (h : placed seed a) (i : Nat) {y : List (ByteArray × α)} (hy : ∀ x ∈ y, bkt seed a.length x.1 = i) : placed seed (a.set i y) := by
  intro j x hx
  rw [List.length_set]
  by_cases hj : i = j
  · subst hj
    rcases Nat.lt_or_ge i a.length with hl | hl
    · rw [getD_set_self hl] at hx; exact hy x hx
    · rw [List.set_eq_of_length_le hl] at hx; exact h i x hx
  · rw [Go.V.getD_set_ne hj] at hx; exact h j x hx
theorem va_set {a : List (List (ByteArray × α))} (i : Nat) (y : List (ByteArray × α)) (hi : i < a.length) (k : ByteArray) : va seed (a.set i y) k = if bkt seed a.length k = i then vl k y else va seed a k := by
  unfold va
  rw [List.length_set]
  split
  · rename_i h; rw [h, getD_set_self hi]
  · rename_i h; rw [Go.V.getD_set_ne (fun e => h e.symm)]
theorem comm1 {l m : List α} (h : (l ++ m).length ≤ 1) : m ++ l = l ++ m := by
  cases l with
  | nil => simp
  | cons x l =>
    cases m with
    | nil => simp
    | cons y m => simp at h
theorem movedT_vt (hw : T.Wf) (h : T.Ok) (hb : T.b.length ≠ 0) (k : ByteArray) : vt (movedT T) k = vt T k := by
  have hmv := h.mv hb
  show va T.seed (T.a.set T.moved []) k ++ va T.seed ((T.a.getD T.moved []).foldl (putB T.seed) T.b) k = _
  rw [va_set _ _ hmv, putBs_va _ (by omega)]
  have hun := hw.un k
  by_cases hk : bkt T.seed T.a.length k = T.moved
  · rw [if_pos hk]
    have hva : va T.seed T.a k = vl k (T.a.getD T.moved []) := by unfold va; rw [hk]
    unfold vt at hun ⊢
    rw [hva] at hun ⊢
    show [] ++ _ = _
    rw [List.nil_append, comm1 hun]
  · rw [if_neg hk, vl_none (l := T.a.getD T.moved []) (fun x hx he => hk (by rw [← he]; exact hw.pa _ x hx)), List.append_nil]
    rfl
theorem movedT_placed (hw : T.Wf) (hb : T.b.length ≠ 0) : placed T.seed (movedT T).a ∧ placed T.seed (movedT T).b :=
  ⟨placed_set hw.pa _ (fun x hx => by cases hx), putBs_placed _ (by omega) hw.pb⟩
theorem tbStep_seed (T : Tb α) : (tbStep T).seed = T.seed := by
  unfold tbStep
  split
  · rfl
  · split
    · rfl
    · split <;> rfl
theorem tbStep_vt (hw : T.Wf) (h : T.Ok) (hm : T.Mv) : (tbStep T).Wf ∧ ∀ k, vt (tbStep T) k = vt T k := by
  have key : (∀ k, vt (tbStep T) k = vt T k) ∧ placed T.seed (tbStep T).a ∧ placed T.seed (tbStep T).b := by
    unfold tbStep
    by_cases hb : T.b.length = 0
    · rw [if_pos hb]; exact ⟨fun _ => rfl, hw.pa, hw.pb⟩
    rw [if_neg hb]
    obtain ⟨p1, p2⟩ := movedT_placed hw hb
    have hv := movedT_vt hw h hb
    by_cases hl : T.moved + 1 < T.a.length
    · rw [if_pos hl]; exact ⟨hv, p1, p2⟩
    rw [if_neg hl]
    have hmv := h.mv hb
    have hz : ∀ k, va T.seed (movedT T).a k = [] := fun k => by
      have hlt := Nat.mod_lt (hashN T.seed k) h.pa
      show va T.seed (T.a.set T.moved []) k = []
      rw [va_set _ _ hmv]
      split
      · rfl
      · rename_i hne
        unfold va
        have hlt2 : bkt T.seed T.a.length k < T.a.length := hlt
        rw [hm _ (by omega)]; rfl
    have hs : ∀ k, vt (swapT (movedT T)) k = vt T k := fun k => by
      rw [← hv k]
      unfold vt
      show va T.seed (movedT T).b k ++ va T.seed [] k = va T.seed (movedT T).a k ++ va T.seed (movedT T).b k
      rw [hz, va_nil0]; simp
    split
    · refine ⟨fun k => ?_, p2, placed_nil _⟩
      rw [← hs k]
      show va T.seed (movedT T).b k ++ va T.seed (List.replicate _ []) k = va T.seed (movedT T).b k ++ va T.seed [] k
      rw [va_nil, va_nil0]
    · exact ⟨hs, p2, placed_nil 0⟩
  refine ⟨⟨by rw [tbStep_seed]; exact key.2.1, by rw [tbStep_seed]; exact key.2.2, fun k => by rw [key.1 k]; exact hw.un k⟩, key.1⟩
theorem start_vt (hb : T.b = []) (n : Nat) (k : ByteArray) : vt (startT T n) k = vt T k := by
  unfold vt
  show va T.seed T.a k ++ va T.seed (List.replicate n []) k = va T.seed T.a k ++ va T.seed T.b k
  rw [hb, va_nil, va_nil0]
theorem start_wf (hw : T.Wf) (hb : T.b = []) (n : Nat) : (startT T n).Wf := ⟨hw.pa, placed_nil n, fun k => by rw [start_vt hb]; exact hw.un k⟩
/-- A bucket with one value under k, at p.length. -/
theorem mid_nil {k : ByteArray} {p q : List (ByteArray × α)} {x : ByteArray × α} (hk : x.1 = k) (h : (vl k (p ++ x :: q)).length ≤ 1) : vl k p = [] ∧ vl k q = [] := by
  rw [vl_app, vl_cons, if_pos hk] at h
  simp at h
  exact ⟨List.eq_nil_of_length_eq_zero (by omega), List.eq_nil_of_length_eq_zero (by omega)⟩
theorem vl_mid {k k' : ByteArray} {p q : List (ByteArray × α)} {x : ByteArray × α} (hk : x.1 = k) (hne : k' ≠ k) : vl k' (p ++ x :: q) = vl k' (p ++ q) := by
  rw [vl_app, vl_cons, if_neg (by rw [hk]; exact fun e => hne e.symm), vl_app]; rfl
theorem modify_mid {p q : List (ByteArray × α)} {x : ByteArray × α} {f : ByteArray × α → ByteArray × α} {j : Nat} (h : j = p.length) : (p ++ x :: q).modify j f = p ++ f x :: q := by
  subst h
  apply List.ext_getElem?
  intro i
  rw [List.getElem?_modify]
  rcases Nat.lt_trichotomy i p.length with hi | hi | hi
  · rw [List.getElem?_append_left hi, List.getElem?_append_left hi]
    cases p[i]? <;> simp [show ¬ p.length = i by omega]
  · subst hi; simp
  · rw [List.getElem?_append_right (by omega), List.getElem?_append_right (by omega)]
    obtain ⟨m, hm⟩ : ∃ m, i - p.length = m + 1 := ⟨i - p.length - 1, by omega⟩
    rw [hm, List.getElem?_cons_succ, List.getElem?_cons_succ]
    cases q[m]? <;> simp [show ¬ p.length = i by omega]
theorem erase_mid {p q : List (ByteArray × α)} {x : ByteArray × α} {j : Nat} (h : j = p.length) : (p ++ x :: q).eraseIdx j = p ++ q := by
  subst h
  rw [List.eraseIdx_append_of_length_le (Nat.le_refl _), Nat.sub_self]; rfl
/-- A row whose bucket of k holds it: with another value; without it. -/
theorem row_turn {a : List (List (ByteArray × α))} {k : ByteArray} (hp : placed seed a) (ha : 0 < a.length) (h1 : (va seed a k).length ≤ 1) (hx : ixI (a.getD (bkt seed a.length k) []) k ≥ 0) (v : α) :
    (placed seed (setV a (bkt seed a.length k) (ixI (a.getD (bkt seed a.length k) []) k).toNat v) ∧ ∀ k', va seed (setV a (bkt seed a.length k) (ixI (a.getD (bkt seed a.length k) []) k).toNat v) k' = if k' = k then [v] else va seed a k') ∧
    (placed seed (rmV a (bkt seed a.length k) (ixI (a.getD (bkt seed a.length k) []) k).toNat) ∧ ∀ k', va seed (rmV a (bkt seed a.length k) (ixI (a.getD (bkt seed a.length k) []) k).toNat) k' = if k' = k then [] else va seed a k') := by
  have hlt : bkt seed a.length k < a.length := Nat.mod_lt _ ha
  obtain ⟨p, x, q, hl, hk, hi⟩ := ix_some hx
  have hpl := hp (bkt seed a.length k)
  unfold va at h1
  rw [hl] at h1 hpl
  obtain ⟨z1, z2⟩ := mid_nil hk h1
  unfold setV rmV
  rw [hl] at hi
  rw [hl, modify_mid hi, erase_mid hi]
  refine ⟨⟨placed_set hp _ fun y hy => ?_, fun k' => ?_⟩, ⟨placed_set hp _ fun y hy => ?_, fun k' => ?_⟩⟩
  · rcases List.mem_append.1 hy with hy | hy
    · exact hpl y (List.mem_append_left _ hy)
    · rcases List.mem_cons.1 hy with rfl | hy
      · exact hpl x (List.mem_append_right _ (List.mem_cons_self ..))
      · exact hpl y (List.mem_append_right _ (List.mem_cons_of_mem _ hy))
  · rw [va_set _ _ hlt]
    by_cases he : k' = k
    · subst he
      rw [if_pos rfl, if_pos rfl, vl_app, vl_cons, if_pos hk, z1, z2]; rfl
    · rw [if_neg he]
      split
      · rename_i hbk
        unfold va
        rw [hbk, hl, vl_mid hk he, vl_mid (x := (x.1, v)) hk he]
      · rfl
  · rcases List.mem_append.1 hy with hy | hy
    · exact hpl y (List.mem_append_left _ hy)
    · exact hpl y (List.mem_append_right _ (List.mem_cons_of_mem _ hy))
  · rw [va_set _ _ hlt]
    by_cases he : k' = k
    · subst he
      rw [if_pos rfl, if_pos rfl, vl_app, z1, z2]; rfl
    · rw [if_neg he]
      split
      · rename_i hbk
        unfold va
        rw [hbk, hl, vl_mid hk he]
      · rfl
theorem un_of {T' : Tb α} (pa : placed T'.seed T'.a) (pb : placed T'.seed T'.b) {k : ByteArray} {l : List α} (hl : l.length ≤ 1) (hw : T.Wf) (h : ∀ k', vt T' k' = if k' = k then l else vt T k') : T'.Wf :=
  ⟨pa, pb, fun k' => by rw [h k']; split <;> first | exact hl | exact hw.un k'⟩
theorem len_ab (hw : T.Wf) (k : ByteArray) : (va T.seed T.a k).length ≤ 1 ∧ (va T.seed T.b k).length ≤ 1 ∧ (va T.seed T.a k ≠ [] → va T.seed T.b k = []) := by
  have := hw.un k
  unfold vt at this
  rw [List.length_append] at this
  refine ⟨by omega, by omega, fun h => List.eq_nil_of_length_eq_zero ?_⟩
  have : 0 < (va T.seed T.a k).length := List.length_pos_iff.2 h
  omega
theorem ix_ne {k : ByteArray} {l : List (ByteArray × α)} (h : ixI l k ≥ 0) : vl k l ≠ [] := by
  obtain ⟨p, x, q, hl, hk, _⟩ := ix_some h
  rw [hl, vl_app, vl_cons, if_pos hk]; simp
theorem put_vt (hw : T.Wf) (h : T.Ok) (k : ByteArray) (v : α) : (put1T T k v).Wf ∧ ∀ k', vt (put1T T k v) k' = if k' = k then [v] else vt T k' := by
  obtain ⟨l1, l2, l3⟩ := len_ab hw k
  unfold put1T
  rcases find_ab T k with ⟨h1, hf⟩ | ⟨h1, h2, hf⟩ | ⟨h1, h2, hf⟩
  · rw [hf, if_pos rfl]
    unfold updT
    rw [hf, if_pos rfl]
    obtain ⟨q1, q2⟩ := (row_turn hw.pa h.pa l1 h1 v).1
    have hz := l3 (ix_ne h1)
    have key : ∀ k', vt ({ T with a := setV T.a (bkt T.seed T.a.length k) (ixI (T.a.getD (bkt T.seed T.a.length k) []) k).toNat v } : Tb α) k' = if k' = k then [v] else vt T k' := fun k' => by
      show va T.seed _ k' ++ va T.seed T.b k' = _
      rw [q2 k']
      split
      · rename_i he; rw [he, hz]; rfl
      · rfl
    exact ⟨un_of q1 hw.pb (k := k) (l := [v]) (Nat.le_refl _) hw key, key⟩
  · rw [hf, if_pos rfl]
    unfold updT
    rw [hf, if_neg (show ¬ (1 : Int) = 0 by decide)]
    have hb : 0 < T.b.length := by
      rcases Nat.eq_zero_or_pos T.b.length with h0 | h0
      · rw [List.eq_nil_of_length_eq_zero h0] at h2; simp [ixI] at h2
      · exact h0
    obtain ⟨q1, q2⟩ := (row_turn hw.pb hb l2 h2 v).1
    have key : ∀ k', vt ({ T with b := setV T.b (bkt T.seed T.b.length k) (ixI (T.b.getD (bkt T.seed T.b.length k) []) k).toNat v } : Tb α) k' = if k' = k then [v] else vt T k' := fun k' => by
      show va T.seed T.a k' ++ va T.seed _ k' = _
      rw [q2 k']
      split
      · rename_i he
        have : va T.seed T.a k = [] := ix_none h1
        rw [he, this]; rfl
      · rfl
    exact ⟨un_of hw.pa q1 (k := k) (l := [v]) (Nat.le_refl _) hw key, key⟩
  · rw [hf, if_neg (by simp)]
    have z1 : va T.seed T.a k = [] := ix_none h1
    have z2 : va T.seed T.b k = [] := ix_none h2
    have hone : ∀ k', vl k' [(k, v)] = if k' = k then [v] else [] := fun k' => by
      rw [vl_one]
      by_cases he : k' = k
      · rw [if_pos he, if_pos he.symm]
      · rw [if_neg he, if_neg fun e => he e.symm]
    have keyA : ∀ k', va T.seed (putB T.seed T.a (k, v)) k' ++ va T.seed T.b k' = if k' = k then [v] else vt T k' := fun k' => by
      rw [putB_va h.pa, hone]
      split
      · rename_i he; rw [he, z1, z2]; rfl
      · rw [List.append_nil]; rfl
    unfold insT
    by_cases hb : T.b.length = 0
    · rw [if_pos hb]
      have hb0 := List.eq_nil_of_length_eq_zero hb
      have hwA : ({ T with a := putB T.seed T.a (k, v), n := T.n + 1 } : Tb α).Wf := un_of (putB_placed hw.pa h.pa _) hw.pb (k := k) (l := [v]) (Nat.le_refl _) hw keyA
      split
      · exact ⟨start_wf hwA hb0 _, fun k' => by rw [start_vt (T := { T with a := putB T.seed T.a (k, v), n := T.n + 1 }) hb0]; exact keyA k'⟩
      · exact ⟨hwA, keyA⟩
    · rw [if_neg hb]
      have keyB : ∀ k', va T.seed T.a k' ++ va T.seed (putB T.seed T.b (k, v)) k' = if k' = k then [v] else vt T k' := fun k' => by
        rw [putB_va (by omega), hone]
        split
        · rename_i he; rw [he, z1, z2]; rfl
        · rw [List.append_nil]; rfl
      exact ⟨un_of hw.pa (putB_placed hw.pb (by omega) _) (k := k) (l := [v]) (Nat.le_refl _) hw keyB, keyB⟩
theorem del_vt (hw : T.Wf) (h : T.Ok) (k : ByteArray) : (del1T T k).Wf ∧ ∀ k', vt (del1T T k) k' = if k' = k then [] else vt T k' := by
  obtain ⟨l1, l2, l3⟩ := len_ab hw k
  have shr : ∀ {U : Tb α}, U.Wf → (shrT U).Wf ∧ ∀ k', vt (shrT U) k' = vt U k' := fun {U} hu => by
    unfold shrT
    split
    · rename_i hc
      have hb0 := List.eq_nil_of_length_eq_zero hc.1
      exact ⟨start_wf hu hb0 _, fun k' => start_vt hb0 _ k'⟩
    · exact ⟨hu, fun _ => rfl⟩
  unfold del1T
  rcases find_ab T k with ⟨h1, hf⟩ | ⟨h1, h2, hf⟩ | ⟨h1, h2, hf⟩
  · rw [hf, if_pos rfl]
    unfold rm1T
    rw [hf, if_pos rfl]
    obtain ⟨q1, q2⟩ := (row_turn (v := ((T.a.getD (bkt T.seed T.a.length k) []).getD (ixI (T.a.getD (bkt T.seed T.a.length k) []) k).toNat ((ix_some h1).choose_spec.choose)).2) hw.pa h.pa l1 h1).2
    have hz := l3 (ix_ne h1)
    have key : ∀ k', vt ({ T with a := rmV T.a (bkt T.seed T.a.length k) (ixI (T.a.getD (bkt T.seed T.a.length k) []) k).toNat, n := T.n - 1 } : Tb α) k' = if k' = k then [] else vt T k' := fun k' => by
      show va T.seed _ k' ++ va T.seed T.b k' = _
      rw [q2 k']
      split
      · rename_i he; rw [he, hz]; rfl
      · rfl
    have hu := un_of (T' := { T with a := rmV T.a (bkt T.seed T.a.length k) (ixI (T.a.getD (bkt T.seed T.a.length k) []) k).toNat, n := T.n - 1 }) q1 hw.pb (k := k) (l := []) (Nat.zero_le _) hw key
    exact ⟨(shr hu).1, fun k' => ((shr hu).2 k').trans (key k')⟩
  · rw [hf, if_pos rfl]
    unfold rm1T
    rw [hf, if_neg (show ¬ (1 : Int) = 0 by decide)]
    have hb : 0 < T.b.length := by
      rcases Nat.eq_zero_or_pos T.b.length with h0 | h0
      · rw [List.eq_nil_of_length_eq_zero h0] at h2; simp [ixI] at h2
      · exact h0
    obtain ⟨q1, q2⟩ := (row_turn (v := ((T.b.getD (bkt T.seed T.b.length k) []).getD (ixI (T.b.getD (bkt T.seed T.b.length k) []) k).toNat ((ix_some h2).choose_spec.choose)).2) hw.pb hb l2 h2).2
    have key : ∀ k', vt ({ T with b := rmV T.b (bkt T.seed T.b.length k) (ixI (T.b.getD (bkt T.seed T.b.length k) []) k).toNat, n := T.n - 1 } : Tb α) k' = if k' = k then [] else vt T k' := fun k' => by
      show va T.seed T.a k' ++ va T.seed _ k' = _
      rw [q2 k']
      split
      · rename_i he
        have : va T.seed T.a k = [] := ix_none h1
        rw [he, this]; rfl
      · rfl
    have hu := un_of (T' := { T with b := rmV T.b (bkt T.seed T.b.length k) (ixI (T.b.getD (bkt T.seed T.b.length k) []) k).toNat, n := T.n - 1 }) hw.pa q1 (k := k) (l := []) (Nat.zero_le _) hw key
    exact ⟨(shr hu).1, fun k' => ((shr hu).2 k').trans (key k')⟩
  · rw [hf, if_neg (by simp)]
    have z1 : va T.seed T.a k = [] := ix_none h1
    have z2 : va T.seed T.b k = [] := ix_none h2
    refine ⟨hw, fun k' => ?_⟩
    split
    · rename_i he; rw [he]; unfold vt; rw [z1, z2]; rfl
    · rfl
theorem putT_vt (hw : T.Wf) (h : T.Ok) (hm : T.Mv) (k : ByteArray) (v : α) : (putT T k v).Wf ∧ ∀ k', vt (putT T k v) k' = if k' = k then [v] else vt T k' := by
  obtain ⟨w1, e1⟩ := tbStep_vt hw h hm
  obtain ⟨w2, e2⟩ := put_vt w1 (tbStep_ok h hm).1 k v
  exact ⟨w2, fun k' => by rw [show putT T k v = put1T (tbStep T) k v from rfl, e2 k', e1 k']⟩
theorem delT_vt (hw : T.Wf) (h : T.Ok) (hm : T.Mv) (k : ByteArray) : (delT T k).Wf ∧ ∀ k', vt (delT T k) k' = if k' = k then [] else vt T k' := by
  obtain ⟨w1, e1⟩ := tbStep_vt hw h hm
  obtain ⟨w2, e2⟩ := del_vt w1 (tbStep_ok h hm).1 k
  exact ⟨w2, fun k' => by rw [show delT T k = del1T (tbStep T) k from rfl, e2 k', e1 k']⟩
end
end Go.V
end
section
namespace Go.Proofs.YtjkegckfncfoaaaGreat
open Go.V Go.Base
open Go.RowKit (Below)
attribute [local irreducible] Act.put Act.eval
set_option linter.unusedVariables false
set_option linter.unusedSimpArgs false
set_option maxHeartbeats 4000000
set_option maxRecDepth 20000
/-- What an entry's headers lead to. -/
def EntOk (Vb : Nat → Prop) (w : World) (v : EntV) (l : List ByteArray) (z : List (ByteArray × Int)) (h : List (ByteArray × ByteArray)) : Prop :=
  v.l.n = l.length ∧ v.z.n = z.length ∧ v.h.n = h.length ∧ SlR Rp.str Vb w (.slice v.l.a v.l.n v.l.c) l ∧ SlR scR Vb w (.slice v.z.a v.z.n v.z.c) z ∧ SlR fdR Vb w (.slice v.h.a v.h.n v.h.c) h
theorem EntOk.frP {Vb P : Nat → Prop} {w w1 : World} {v : EntV} {l : List ByteArray} {z : List (ByteArray × Int)} {h : List (ByteArray × ByteArray)} (q : EntOk Vb w v l z h) (f : FrP P w w1) (hp : ∀ k, Vb k → ¬ P k) : EntOk Vb w1 v l z h :=
  ⟨q.1, q.2.1, q.2.2.1, q.2.2.2.1.frP f hp, q.2.2.2.2.1.frP f hp, q.2.2.2.2.2.frP f hp⟩
theorem EntOk.zone {Vb Vb' : Nat → Prop} {w : World} {v : EntV} {l : List ByteArray} {z : List (ByteArray × Int)} {h : List (ByteArray × ByteArray)} (q : EntOk Vb w v l z h) (f : ∀ k, Vb k → Vb' k) : EntOk Vb' w v l z h :=
  ⟨q.1, q.2.1, q.2.2.1, q.2.2.2.1.zone fun b _ hb => f b hb, q.2.2.2.2.1.zone fun b _ hb => f b hb, q.2.2.2.2.2.zone fun b _ hb => f b hb⟩
/-- An entry in memory, and its data. -/
def EntIs (Vb : Nat → Prop) (w : World) (v : EntV) (x : EnD) : Prop := v.kind = x.k ∧ v.s = x.s ∧ v.till = x.till ∧ EntOk Vb w v x.l x.z x.h
theorem EntIs.frP {Vb P : Nat → Prop} {w w1 : World} {v : EntV} {x : EnD} (q : EntIs Vb w v x) (f : FrP P w w1) (hp : ∀ k, Vb k → ¬ P k) : EntIs Vb w1 v x := ⟨q.1, q.2.1, q.2.2.1, q.2.2.2.frP f hp⟩
theorem EntIs.zone {Vb Vb' : Nat → Prop} {w : World} {v : EntV} {x : EnD} (q : EntIs Vb w v x) (f : ∀ k, Vb k → Vb' k) : EntIs Vb' w v x := ⟨q.1, q.2.1, q.2.2.1, q.2.2.2.zone f⟩
/-! ### What keys have -/
def updD (D : ByteArray → Option EnD) (k : ByteArray) (x : Option EnD) : ByteArray → Option EnD := fun k' => if k' = k then x else D k'
theorem updD_same (D : ByteArray → Option EnD) (k : ByteArray) (x : Option EnD) : updD D k x k = x := if_pos rfl
theorem updD_other {D : ByteArray → Option EnD} {k k' : ByteArray} {x : Option EnD} (h : k' ≠ k) : updD D k x k' = D k' := if_neg h
/-- How many keys there are. -/
def CntD (n : Nat) (D : ByteArray → Option EnD) : Prop := ∃ ks : List ByteArray, ks.Nodup ∧ ks.length = n ∧ ∀ k, k ∈ ks ↔ D k ≠ none
theorem CntD.nil : CntD 0 (fun _ => none) := ⟨[], List.nodup_nil, rfl, fun k => by simp⟩
theorem CntD.put {n : Nat} {D : ByteArray → Option EnD} (h : CntD n D) (k : ByteArray) (x : EnD) : CntD (if D k = none then n + 1 else n) (updD D k (some x)) := by
  obtain ⟨ks, h1, h2, h3⟩ := h
  by_cases hk : D k = none
  · rw [if_pos hk]
    refine ⟨k :: ks, List.nodup_cons.2 ⟨fun hm => (h3 k).1 hm hk, h1⟩, by rw [List.length_cons, h2], fun k' => ?_⟩
    rw [List.mem_cons]
    by_cases he : k' = k
    · subst he; rw [updD_same]; simp
    · rw [updD_other he, h3 k']; simp [he]
  · rw [if_neg hk]
    refine ⟨ks, h1, h2, fun k' => ?_⟩
    by_cases he : k' = k
    · subst he; rw [updD_same, h3 k']; simp [hk]
    · rw [updD_other he, h3 k']
theorem CntD.del {n : Nat} {D : ByteArray → Option EnD} (h : CntD n D) (k : ByteArray) : CntD (if D k = none then n else n - 1) (updD D k none) := by
  obtain ⟨ks, h1, h2, h3⟩ := h
  by_cases hk : D k = none
  · rw [if_pos hk]
    refine ⟨ks, h1, h2, fun k' => ?_⟩
    by_cases he : k' = k
    · subst he; rw [updD_same, h3 k', hk]
    · rw [updD_other he, h3 k']
  · rw [if_neg hk]
    obtain ⟨p, q, rfl⟩ := List.append_of_mem ((h3 k).2 hk)
    have hp := (List.perm_middle (a := k) (l₁ := p) (l₂ := q)).nodup_iff.1 h1
    rw [List.nodup_cons] at hp
    refine ⟨p ++ q, hp.2, by simp at h2 ⊢; omega, fun k' => ?_⟩
    by_cases he : k' = k
    · subst he; rw [updD_same]; exact ⟨fun h => absurd h hp.1, fun h => absurd rfl h⟩
    · rw [updD_other he, ← h3 k']; simp [he]
theorem CntD.pos {n : Nat} {D : ByteArray → Option EnD} (h : CntD n D) {k : ByteArray} (hk : D k ≠ none) : 0 < n := by
  obtain ⟨ks, h1, h2, h3⟩ := h
  have := List.length_pos_of_mem ((h3 k).2 hk)
  omega
/-- A space in memory: the table's blocks H, the values' blocks Vb. -/
structure SpX (w : World) (H Vb : Nat → Prop) (sp t : Nat) (T : Tb EntV) (D : ByteArray → Option EnD) : Prop where
  hB : Blk w sp [.pointer (some ⟨t, 0, none⟩)] 63
  hT : TabX 122 118 117 itI w H [] t T
  hm : T.Mv
  hw : T.Wf
  hH : ∀ k, H k → ¬ Vb k ∧ k ≠ sp ∧ k < w.heap.size
  hV : ∀ k, Vb k → k ≠ sp ∧ k < w.heap.size
  hE : ∀ k, (vt T k = [] ∧ D k = none) ∨ ∃ v x, vt T k = [v] ∧ D k = some x ∧ x.key = k ∧ okD x ∧ EntIs Vb w v x
  hN : CntD T.n D
  hM : T.n ≤ 65536
theorem SpX.frl {w w1 : World} {H Vb : Nat → Prop} {sp t : Nat} {T : Tb EntV} {D : ByteArray → Option EnD} {l : List Nat} (q : SpX w H Vb sp t T D) (f : Fr l w w1) (hl : ∀ k ∈ l, ¬ H k ∧ ¬ Vb k ∧ k ≠ sp) : SpX w1 H Vb sp t T D :=
  ⟨q.hB.fr f fun hm => (hl _ hm).2.2 rfl, q.hT.fr f (fun k hk => .inr (hl k hk).1), q.hm, q.hw, fun k hk => ⟨(q.hH k hk).1, (q.hH k hk).2.1, by have := (q.hH k hk).2.2; have := f.size; omega⟩, fun k hk => ⟨(q.hV k hk).1, by have := (q.hV k hk).2; have := f.size; omega⟩, fun k => (q.hE k).imp id fun ⟨v, x, h1, h2, h3, h4, he⟩ =>
    ⟨v, x, h1, h2, h3, h4, he.frP (FrP.of f) fun j hj hm => (hl j hm).2.1 hj⟩, q.hN, q.hM⟩
theorem SpX.fr0 {w w1 : World} {H Vb : Nat → Prop} {sp t : Nat} {T : Tb EntV} {D : ByteArray → Option EnD} (q : SpX w H Vb sp t T D) (f : Fr [] w w1) : SpX w1 H Vb sp t T D := q.frl f fun k hk => absurd hk (by simp)
theorem SpX.look {w : World} {H Vb : Nat → Prop} {sp t : Nat} {T : Tb EntV} {D : ByteArray → Option EnD} (q : SpX w H Vb sp t T D) (key : ByteArray) : ((lookT EntV.nil T key).2 = false ∧ D key = none) ∨ ∃ x, (lookT EntV.nil T key).2 = true ∧ D key = some x ∧ x.key = key ∧ okD x ∧ EntIs Vb w (lookT EntV.nil T key).1 x := by
  rw [look_vt]
  rcases q.hE key with ⟨h1, h2⟩ | ⟨v, x, h1, h2, h3, h4, h5⟩
  · rw [h1]; exact .inl ⟨rfl, h2⟩
  · rw [h1]; exact .inr ⟨x, rfl, h2, h3, h4, h5⟩
/-- A row of one entry. -/
theorem en_one {Z Z' Z'' : Nat → Prop} {w : World} {b : Nat} {x : EnD} {vl vz vh : Value} (hB : Blk w b [.string x.key, .int .i64 x.k, .string x.s, vl, vz, vh, .int .i64 x.till] 39) (h1 : SlR Rp.str Z w vl x.l) (h2 : SlR scR Z' w vz x.z) (h3 : SlR fdR Z'' w vh x.h) :
    SlR enR (fun _ => True) w (.slice (some ⟨b, 0, none⟩) 1 1) [x] := by
  refine ⟨_, 1, rfl, by simp, by simp, fun i u hi => ?_⟩
  match i with
  | 0 =>
    simp at hi
    subst hi
    refine ⟨b, 0, _, rfl, trivial, hB.lt, ⟨vl, vz, vh, rfl, h1.zone fun _ _ _ => trivial, h2.zone fun _ _ _ => trivial, h3.zone fun _ _ _ => trivial⟩, fun j u hj => ?_⟩
    have hj' : j < 7 := by have := (List.getElem?_eq_some_iff.1 hj).1; simpa using this
    rw [Nat.zero_mul, Nat.zero_add]
    exact hB.at j hj
  | i + 1 => simp at hi
/-! ### What an entry that may be is like -/
theorem img_iff {x : EnD} : imgN [x] = 0 ↔ okD x := by
  have hq : AllG (gE [x]) [x].length ↔ okD x := ⟨fun h => (h 0 (by simp)).1, fun h i hi => by
    have h0 : i = 0 := by simp at hi; exact hi
    subst h0
    exact ⟨h, fun hlt => absurd hlt (Nat.lt_irrefl 0)⟩⟩
  rcases Classical.em (okD x) with h1 | h1
  · exact ⟨fun _ => h1, fun _ => imgN_ok (by simp) (hq.2 h1)⟩
  · have := imgN_no (l := [x]) (by simp) fun hg => h1 (hq.1 hg)
    exact ⟨fun h => by omega, fun h => absurd h h1⟩
theorem okD_bnd {x : EnD} (h : okD x) : x.key.size ≤ 65536 ∧ x.l.length ≤ 65536 ∧ x.z.length ≤ 65536 ∧ x.h.length ≤ 65536 ∧ -1 ≤ x.till ∧ x.till ≤ 1099511627776 := by
  obtain ⟨h1, h2, h3⟩ := h
  unfold okV at h3
  split at h3
  · exact ⟨h1, by omega, by omega, by omega, by omega, by omega⟩
  split at h3
  · exact ⟨h1, by omega, by omega, by omega, by omega, by omega⟩
  split at h3
  · exact ⟨h1, by omega, by omega, by omega, by omega, by omega⟩
  split at h3
  · exact ⟨h1, by omega, by omega, by omega, by omega, by omega⟩
  split at h3
  · exact ⟨h1, by omega, by omega, by omega, by omega, by omega⟩
  · exact h3.elim
def nwV (Vb : Nat → Prop) (a b c : Value) : Nat → Prop := fun j => Vb j ∨ a.ownBlock = some j ∨ b.ownBlock = some j ∨ c.ownBlock = some j
theorem own_zone {α : Type} {R : Rp α} {w : World} {base : Nat} {e : TypeId} {v : Value} {xs : List α} (h : OwR R NoZ w base e v xs) (hf : ∀ (Z Z' : Nat → Prop) x cs, R.ok Z w x cs → R.ok Z' w x cs) {Z : Nat → Prop} (hz : ∀ b, v.ownBlock = some b → Z b) : SlR R Z w v xs := by
  obtain ⟨cs, h1, h2, h3⟩ := h
  rcases h1.2 with ⟨rfl, hn⟩ | ⟨g, cap, cur, rfl, hg, hr⟩
  · obtain rfl : xs = [] := List.eq_nil_of_length_eq_zero hn
    exact SlR.nil _ _ _
  · have hq : OwR R NoZ w g e (.slice (some ⟨g, 0, none⟩) xs.length cap) xs := ⟨cs, ⟨h1.1, .inr ⟨g, cap, cur, rfl, Nat.le_refl _, hr⟩⟩, h2, h3⟩
    have hs := hq.read (Z' := fun b => g ≤ b) (fun _ _ h => h.elim) (fun _ h _ => h)
    obtain ⟨A', c', e', l1, l2, l3⟩ := hs
    injection e' with e1 e2 e3
    refine ⟨_, cap, rfl, by rw [e3]; exact l1, l2, fun i x hi => ?_⟩
    obtain ⟨g', o', cs', hA, hZ, hg', hok, hc⟩ := l3 i x hi
    rw [← e1] at hA
    injection hA with hA
    injection hA with hA1 hA2
    refine ⟨g, 0, cs', rfl, hz g rfl, hA1 ▸ hg', hf _ _ _ _ hok, by rw [hA1, hA2]; exact hc⟩
theorem tb_look {T : Tb EntV} {k : ByteArray} : (findT T k).2 = (lookT EntV.nil T k).2 := by
  unfold lookT
  split
  · rename_i h; exact h
  · rename_i h; simpa using h
theorem tb_found {w : World} {H Vb : Nat → Prop} {sp t : Nat} {T : Tb EntV} {D : ByteArray → Option EnD} (q : SpX w H Vb sp t T D) (key : ByteArray) : ((findT (tbStep T) key).2 = false ∧ D key = none) ∨ ((findT (tbStep T) key).2 = true ∧ D key ≠ none) := by
  rw [tb_look, look_vt, (tbStep_vt q.hw q.hT.1 q.hm).2]
  rcases q.hE key with ⟨h1, h2⟩ | ⟨v, x, h1, h2, _⟩
  · rw [h1]; exact .inl ⟨rfl, h2⟩
  · rw [h1]; exact .inr ⟨rfl, by rw [h2]; simp⟩
theorem putT_n' {w : World} {H Vb : Nat → Prop} {sp t : Nat} {T : Tb EntV} {D : ByteArray → Option EnD} (q : SpX w H Vb sp t T D) (key : ByteArray) (v : EntV) : (putT T key v).n = if D key = none then T.n + 1 else T.n := by
  unfold putT put1T
  rcases tb_found q key with ⟨h1, h2⟩ | ⟨h1, h2⟩
  · rw [if_neg (by rw [h1]; simp), if_pos h2, insT_n, tbStep_n']
  · rw [if_pos h1, if_neg h2, updT_n, tbStep_n']
theorem sp_put {w w2 w' : World} {H Vb : Nat → Prop} {sp t : Nat} {T : Tb EntV} {D : ByteArray → Option EnD} {avt : List Nat} {x : EnD} {Al Az Ah : Option Addr} {cl cz ch : Nat} {b1 b2 b3 : Nat}
    (hq : SpX w H Vb sp t T D) (hok : okD x) (hn : D x.key ≠ none ∨ T.n < 65536) (hF : Fr [] w w2) (hP : FrP (gp H avt) w2 w') (hB : Blk w' sp [.pointer (some ⟨t, 0, none⟩)] 63) (hT : TabX 122 118 117 itI w' (gr H w2 w') avt t (putT T x.key ⟨x.k, x.s, ⟨Al, x.l.length, cl⟩, ⟨Az, x.z.length, cz⟩, ⟨Ah, x.h.length, ch⟩, x.till⟩))
    (o1 : OwR Rp.str NoZ w2 b1 9 (.slice Al x.l.length cl) x.l) (o2 : OwR scR NoZ w2 b2 107 (.slice Az x.z.length cz) x.z) (o3 : OwR fdR NoZ w2 b3 110 (.slice Ah x.h.length ch) x.h) (h1 : w.heap.size ≤ b1) (h2 : w.heap.size ≤ b2) (h3 : w.heap.size ≤ b3)
    (p1 : OwR Rp.str NoZ w' b1 9 (.slice Al x.l.length cl) x.l) (p2 : OwR scR NoZ w' b2 107 (.slice Az x.z.length cz) x.z) (p3 : OwR fdR NoZ w' b3 110 (.slice Ah x.h.length ch) x.h) :
    SpX w' (gr H w2 w') (nwV Vb (.slice Al x.l.length cl) (.slice Az x.z.length cz) (.slice Ah x.h.length ch)) sp t (putT T x.key ⟨x.k, x.s, ⟨Al, x.l.length, cl⟩, ⟨Az, x.z.length, cz⟩, ⟨Ah, x.h.length, ch⟩, x.till⟩) (updD D x.key (some x)) := by
  have hs1 := hF.size
  have hs2 := hP.size
  have hspl := hq.hB.lt
  have hM := hq.hM
  have hkz := (okD_bnd hok).1
  have he : EntOk (nwV Vb (.slice Al x.l.length cl) (.slice Az x.z.length cz) (.slice Ah x.h.length ch)) w' ⟨x.k, x.s, ⟨Al, x.l.length, cl⟩, ⟨Az, x.z.length, cz⟩, ⟨Ah, x.h.length, ch⟩, x.till⟩ x.l x.z x.h :=
    ⟨rfl, rfl, rfl, own_zone p1 (fun _ _ _ _ q => q) fun b q => .inr (.inl q), own_zone p2 (fun _ _ _ _ q => q) fun b q => .inr (.inr (.inl q)), own_zone p3 (fun _ _ _ _ q => q) fun b q => .inr (.inr (.inr q))⟩
  have hv := putT_vt hq.hw hq.hT.1 hq.hm x.key ⟨x.k, x.s, ⟨Al, x.l.length, cl⟩, ⟨Az, x.z.length, cz⟩, ⟨Ah, x.h.length, ch⟩, x.till⟩
  have hvb : ∀ j, nwV Vb (.slice Al x.l.length cl) (.slice Az x.z.length cz) (.slice Ah x.h.length ch) j → Vb j ∨ (w.heap.size ≤ j ∧ j < w2.heap.size) := fun j hj => by
    rcases hj with hj | hj | hj | hj
    · exact .inl hj
    · have := o1.lt j hj; exact .inr ⟨by omega, this.2⟩
    · have := o2.lt j hj; exact .inr ⟨by omega, this.2⟩
    · have := o3.lt j hj; exact .inr ⟨by omega, this.2⟩
  refine ⟨hB, hT.sub (by simp) (fun _ _ q => q), ?_, hv.1, fun j hj => ⟨fun q => ?_, ?_, ?_⟩, fun j hj => ?_, fun k' => ?_, ?_, ?_⟩
  · exact (putT_ok hq.hT.1 hq.hm (by omega) x.key (by omega) _).2
  · rcases hj with hj | hj
    · have := hq.hH j hj
      rcases hvb j q with q | q
      · exact this.1 q
      · omega
    · rcases hvb j q with q | q
      · have := hq.hV j q; omega
      · omega
  · rcases hj with hj | hj
    · exact (hq.hH j hj).2.1
    · intro e; omega
  · rcases hj with hj | hj
    · have := (hq.hH j hj).2.2; omega
    · exact hj.2
  · rcases hvb j hj with q | q
    · have := hq.hV j q; exact ⟨this.1, by omega⟩
    · exact ⟨by omega, by omega⟩
  · rw [hv.2 k']
    by_cases hk : k' = x.key
    · subst hk; rw [if_pos rfl, updD_same]; exact .inr ⟨_, x, rfl, rfl, rfl, hok, rfl, rfl, rfl, he⟩
    · rw [if_neg hk, updD_other hk]
      refine (hq.hE k').imp id fun ⟨v, y, e1, e2, e3, e4, e5⟩ => ⟨v, y, e1, e2, e3, e4, ?_⟩
      exact ((e5.frP (FrP.of hF) fun k _ hk => by simp at hk).frP hP fun j hj hp => (hq.hH j hp.1).1 hj).zone fun j hj => .inl hj
  · rw [putT_n' hq]; exact hq.hN.put x.key x
  · rw [putT_n' hq]
    split
    · rename_i e
      rcases hn with h | h
      · exact absurd e h
      · omega
    · exact hM
theorem sp_turn {w w2 w' : World} {H Vb : Nat → Prop} {sp t : Nat} {T T' : Tb EntV} {D D' : ByteArray → Option EnD} {avt : List Nat} (hq : SpX w H Vb sp t T D) (hF : Fr [] w w2) (hP : FrP (gp H avt) w2 w') (hB : Blk w' sp [.pointer (some ⟨t, 0, none⟩)] 63) (hT : TabX 122 118 117 itI w' (gr H w2 w') avt t T')
    (hm : T'.Mv) (hw : T'.Wf) (hD : ∀ k, (vt T' k = [] ∧ D' k = none) ∨ (vt T' k = vt T k ∧ D' k = D k)) (hN : CntD T'.n D') (hM : T'.n ≤ 65536) :
    SpX w' (gr H w2 w') Vb sp t T' D' := by
  have hs1 := hF.size
  have hs2 := hP.size
  have hspl := hq.hB.lt
  refine ⟨hB, hT.sub (by simp) (fun _ _ q => q), hm, hw, fun j hj => ⟨fun q => ?_, ?_, ?_⟩, fun j hj => ?_, fun k' => ?_, hN, hM⟩
  · rcases hj with hj | hj
    · exact (hq.hH j hj).1 q
    · have := hq.hV j q; omega
  · rcases hj with hj | hj
    · exact (hq.hH j hj).2.1
    · intro e; omega
  · rcases hj with hj | hj
    · have := (hq.hH j hj).2.2; omega
    · exact hj.2
  · have := hq.hV j hj; exact ⟨this.1, by omega⟩
  · rcases hD k' with h | ⟨h1, h2⟩
    · exact .inl h
    · rw [h1, h2]
      exact (hq.hE k').imp id fun ⟨v, y, e1, e2, e3, e4, e5⟩ => ⟨v, y, e1, e2, e3, e4, (e5.frP (FrP.of hF) fun k _ hk => by simp at hk).frP hP fun j hj hp => (hq.hH j hp.1).1 hj⟩
theorem sp_step {w w2 w' : World} {H Vb : Nat → Prop} {sp t : Nat} {T : Tb EntV} {D : ByteArray → Option EnD} {avt : List Nat} (hq : SpX w H Vb sp t T D) (hF : Fr [] w w2) (hP : FrP (gp H avt) w2 w') (hB : Blk w' sp [.pointer (some ⟨t, 0, none⟩)] 63) (hT : TabX 122 118 117 itI w' (gr H w2 w') avt t (tbStep T)) :
    SpX w' (gr H w2 w') Vb sp t (tbStep T) D :=
  have hv := tbStep_vt hq.hw hq.hT.1 hq.hm
  sp_turn hq hF hP hB hT (tbStep_ok hq.hT.1 hq.hm).2 hv.1 (fun k => .inr ⟨hv.2 k, rfl⟩) (by rw [tbStep_n']; exact hq.hN) (by rw [tbStep_n']; exact hq.hM)
theorem delT_n' {w : World} {H Vb : Nat → Prop} {sp t : Nat} {T : Tb EntV} {D : ByteArray → Option EnD} (q : SpX w H Vb sp t T D) (key : ByteArray) : (delT T key).n = if D key = none then T.n else T.n - 1 := by
  unfold delT del1T
  rcases tb_found q key with ⟨h1, h2⟩ | ⟨h1, h2⟩
  · rw [if_neg (by rw [h1]; simp), if_pos h2, tbStep_n']
  · rw [if_pos h1, if_neg h2]
    have e1 : (shrT (rm1T (tbStep T) key)).n = (rm1T (tbStep T) key).n := by unfold shrT; split <;> rfl
    have e2 : (rm1T (tbStep T) key).n = (tbStep T).n - 1 := by unfold rm1T; split <;> rfl
    rw [e1, e2, tbStep_n']
theorem sp_del {w w2 w' : World} {H Vb : Nat → Prop} {sp t : Nat} {T : Tb EntV} {D : ByteArray → Option EnD} {avt : List Nat} {key : ByteArray} (hq : SpX w H Vb sp t T D) (hkz : key.size ≤ 9223372036854775807) (hF : Fr [] w w2) (hP : FrP (gp H avt) w2 w') (hB : Blk w' sp [.pointer (some ⟨t, 0, none⟩)] 63) (hT : TabX 122 118 117 itI w' (gr H w2 w') avt t (delT T key)) :
    SpX w' (gr H w2 w') Vb sp t (delT T key) (updD D key none) := by
  have hv := delT_vt hq.hw hq.hT.1 hq.hm key
  refine sp_turn hq hF hP hB hT (delT_ok hq.hT.1 hq.hm key).2 hv.1 (fun k => ?_) (by rw [delT_n' hq]; exact hq.hN.del key) (by have := hq.hM; rw [delT_n' hq]; split <;> omega)
  rw [hv.2 k]
  by_cases hk : k = key
  · subst hk; rw [if_pos rfl, updD_same]; exact .inl ⟨rfl, rfl⟩
  · rw [if_neg hk, updD_other hk]; exact .inr ⟨rfl, rfl⟩
/-- A space in memory: S holds all its blocks; n keys; what each has. -/
def SpY (w : World) (S : Nat → Prop) (sp n : Nat) (D : ByteArray → Option EnD) : Prop :=
  ∃ H Vb t T, SpX w H Vb sp t T D ∧ T.n = n ∧ (∀ k, H k ∨ Vb k ∨ k = sp → S k) ∧ (∀ k, S k → k < w.heap.size)
/-- Blocks that are the space's behind a call: those that were, and new ones. -/
def GrS (S : Nat → Prop) (w : World) (S' : Nat → Prop) : Prop := ∀ k, S' k → S k ∨ w.heap.size ≤ k
theorem SpY.frl {w w1 : World} {S : Nat → Prop} {sp n : Nat} {D : ByteArray → Option EnD} {l : List Nat} (q : SpY w S sp n D) (f : Fr l w w1) (hl : ∀ k ∈ l, ¬ S k) : SpY w1 S sp n D := by
  obtain ⟨H, Vb, t, T, h1, h2, h3, h4⟩ := q
  exact ⟨H, Vb, t, T, h1.frl f fun k hk => ⟨fun q => hl k hk (h3 k (.inl q)), fun q => hl k hk (h3 k (.inr (.inl q))), fun q => hl k hk (h3 k (.inr (.inr q)))⟩, h2, h3, fun k hk => by have := h4 k hk; have := f.size; omega⟩
theorem SpY.fr0 {w w1 : World} {S : Nat → Prop} {sp n : Nat} {D : ByteArray → Option EnD} (q : SpY w S sp n D) (f : Fr [] w w1) : SpY w1 S sp n D := q.frl f fun k hk => absurd hk (by simp)
theorem SpY.frP {w w1 : World} {S P : Nat → Prop} {sp n : Nat} {D : ByteArray → Option EnD} (q : SpY w S sp n D) (f : FrP P w w1) (hl : ∀ k, S k → ¬ P k) : SpY w1 S sp n D := by
  obtain ⟨H, Vb, t, T, h1, h2, h3, h4⟩ := q
  exact ⟨H, Vb, t, T, ⟨h1.hB.frP f (hl _ (h3 _ (.inr (.inr rfl)))), h1.hT.frP f fun k hp => .inr fun hk => hl _ (h3 _ (.inl hk)) hp, h1.hm, h1.hw, fun k hk => ⟨(h1.hH k hk).1, (h1.hH k hk).2.1, by have := (h1.hH k hk).2.2; have := f.size; omega⟩, fun k hk => ⟨(h1.hV k hk).1, by have := (h1.hV k hk).2; have := f.size; omega⟩, fun k => (h1.hE k).imp id fun ⟨v, x, e1, e2, e3, e4, e5⟩ => ⟨v, x, e1, e2, e3, e4, e5.frP f fun j hj => hl _ (h3 _ (.inr (.inl hj)))⟩, h1.hN, h1.hM⟩, h2, h3, fun k hk => by have := h4 k hk; have := f.size; omega⟩
/-- A space that shares no block with the worlds below base, nor with av's blocks, nor with vs' rows. -/
def inN (av : List Nat) (vs : List Value) (k : Nat) : Prop := k ∈ av ∨ ∃ v ∈ vs, v.ownBlock = some k
def outS (base : Nat) (av : List Nat) (vs : List Value) : Nat → Prop := fun k => base ≤ k ∧ ¬ inN av vs k
def SpA (w : World) (base : Nat) (av : List Nat) (vs : List Value) (sp n : Nat) (D : ByteArray → Option EnD) : Prop := ∃ S, SpY w S sp n D ∧ (∀ k, S k → outS base av vs k) ∧ ∀ k, inN av vs k → k < w.heap.size
theorem SpA.frl {w w1 : World} {base : Nat} {av : List Nat} {vs : List Value} {sp n : Nat} {D : ByteArray → Option EnD} {l : List Nat} (q : SpA w base av vs sp n D) (f : Fr l w w1) (hl : ∀ k ∈ l, inN av vs k ∨ k < base) : SpA w1 base av vs sp n D := by
  obtain ⟨S, h1, h2, h3⟩ := q
  exact ⟨S, h1.frl f fun k hk hs => by have := h2 k hs; rcases hl k hk with q | q; exact this.2 q; have := this.1; omega, h2, fun k hk => by have := h3 k hk; have := f.size; omega⟩
theorem SpA.fr0 {w w1 : World} {base : Nat} {av : List Nat} {vs : List Value} {sp n : Nat} {D : ByteArray → Option EnD} (q : SpA w base av vs sp n D) (f : Fr [] w w1) : SpA w1 base av vs sp n D := q.frl f fun k hk => absurd hk (by simp)
theorem SpY.lt {w : World} {S : Nat → Prop} {sp n : Nat} {D : ByteArray → Option EnD} (q : SpY w S sp n D) : S sp ∧ ∀ k, S k → k < w.heap.size := by
  obtain ⟨H, Vb, t, T, h1, h2, h3, h4⟩ := q
  exact ⟨h3 _ (.inr (.inr rfl)), h4⟩
theorem SpA.base {w : World} {base : Nat} {av : List Nat} {vs : List Value} {sp n : Nat} {D : ByteArray → Option EnD} (q : SpA w base av vs sp n D) : base ≤ w.heap.size := by
  obtain ⟨S, h1, h2, h3⟩ := q
  have h4 := h1.lt
  have := h4.2 _ h4.1
  have := (h2 _ h4.1).1
  omega
/-- New blocks are not the space's. -/
theorem SpA.grow {w w1 : World} {base : Nat} {av av' : List Nat} {vs vs' : List Value} {sp n : Nat} {D : ByteArray → Option EnD} (q : SpA w base av vs sp n D) (f : Fr [] w w1) (h : ∀ k, inN av' vs' k → k < w1.heap.size ∧ (inN av vs k ∨ w.heap.size ≤ k)) : SpA w1 base av' vs' sp n D := by
  obtain ⟨S, h1, h2, h3⟩ := q
  exact ⟨S, h1.fr0 f, fun k hk => ⟨(h2 k hk).1, fun hn => by
    rcases (h k hn).2 with q | q
    · exact (h2 k hk).2 q
    · have := h1.lt.2 k hk; omega⟩, fun k hk => (h k hk).1⟩
theorem SpA.alloc {w w1 : World} {base : Nat} {av : List Nat} {vs : List Value} {sp n : Nat} {D : ByteArray → Option EnD} (q : SpA w base av vs sp n D) (f : Fr [] w w1) {b : Nat} (hb : w.heap.size ≤ b ∧ b < w1.heap.size) : SpA w1 base (b :: av) vs sp n D := by
  have h3 := q.choose_spec.2.2
  have hs := f.size
  refine q.grow f fun k hk => ?_
  rcases hk with hk | hk
  · rcases List.mem_cons.1 hk with rfl | hk
    · exact ⟨hb.2, .inr hb.1⟩
    · have := h3 k (.inl hk); exact ⟨by omega, .inl (.inl hk)⟩
  · have := h3 k (.inr hk); exact ⟨by omega, .inl (.inr hk)⟩
/-- What a call made of the space, seen from outside. -/
theorem SpY.out {w w' : World} {S S' : Nat → Prop} {base : Nat} {av : List Nat} {vs : List Value} {sp' n' : Nat} {D' : ByteArray → Option EnD} (h : ∀ k, S k → outS base av vs k) (hb : base ≤ w.heap.size) (ha : ∀ k, inN av vs k → k < w.heap.size) (q : SpY w' S' sp' n' D') (hg : GrS S w S') (hf : FrP S w w') {m : Nat} (hm : ∀ k, S' k → k < m) {us : List Value} (hu : ∀ v ∈ us, ∀ b, v.ownBlock = some b → m ≤ b ∧ b < w'.heap.size) : SpA w' base av (us ++ vs) sp' n' D' ∧ FrP (outS base av vs) w w' := by
  refine ⟨⟨S', q, fun k hk => ?_, fun k hk => ?_⟩, hf.mono h⟩
  · have hx : base ≤ k ∧ ¬ inN av vs k := by
      rcases hg k hk with h1 | h1
      · exact h k h1
      · exact ⟨by omega, fun hn => by have := ha k hn; omega⟩
    refine ⟨hx.1, fun hn => ?_⟩
    rcases hn with hn | ⟨v, hv, he⟩
    · exact hx.2 (.inl hn)
    · rcases List.mem_append.1 hv with hv | hv
      · have := (hu v hv k he).1; have := hm k hk; omega
      · exact hx.2 (.inr ⟨v, hv, he⟩)
  · have hs := hf.size
    rcases hk with hk | ⟨v, hv, he⟩
    · have := ha k (.inl hk); omega
    · rcases List.mem_append.1 hv with hv | hv
      · exact (hu v hv k he).2
      · have := ha k (.inr ⟨v, hv, he⟩); omega
theorem SpY.out0 {w w' : World} {S S' : Nat → Prop} {base : Nat} {av : List Nat} {vs : List Value} {sp' n' : Nat} {D' : ByteArray → Option EnD} (h : ∀ k, S k → outS base av vs k) (hb : base ≤ w.heap.size) (ha : ∀ k, inN av vs k → k < w.heap.size) (q : SpY w' S' sp' n' D') (hg : GrS S w S') (hf : FrP S w w') : SpA w' base av vs sp' n' D' ∧ FrP (outS base av vs) w w' :=
  SpY.out (us := []) h hb ha q hg hf q.lt.2 fun v hv => by simp at hv
/-! ### Put, told by data -/
noncomputable def putE (n : Nat) (D : ByteArray → Option EnD) (x : EnD) : Int := if imgN [x] ≠ 0 then imgN [x] else if D x.key = none ∧ 65536 ≤ n then 3 else 0
noncomputable def putN (n : Nat) (D : ByteArray → Option EnD) (x : EnD) : Nat := if imgN [x] = 0 ∧ (D x.key ≠ none ∨ n < 65536) then (if D x.key = none then n + 1 else n) else n
noncomputable def putD (n : Nat) (D : ByteArray → Option EnD) (x : EnD) : ByteArray → Option EnD := if imgN [x] = 0 ∧ (D x.key ≠ none ∨ n < 65536) then updD D x.key (some x) else D
theorem put_no1 {n : Nat} {D : ByteArray → Option EnD} {x : EnD} (h : imgN [x] ≠ 0) : putE n D x = imgN [x] ∧ putN n D x = n ∧ putD n D x = D :=
  ⟨if_pos h, if_neg fun q => h q.1, if_neg fun q => h q.1⟩
theorem put_no2 {n : Nat} {D : ByteArray → Option EnD} {x : EnD} (h : imgN [x] = 0) (h1 : D x.key = none) (h2 : 65536 ≤ n) : putE n D x = 3 ∧ putN n D x = n ∧ putD n D x = D :=
  ⟨(if_neg fun q => q h).trans (if_pos ⟨h1, h2⟩), if_neg fun q => by rcases q.2 with q | q; exact q h1; omega, if_neg fun q => by rcases q.2 with q | q; exact q h1; omega⟩
theorem put_yes {n : Nat} {D : ByteArray → Option EnD} {x : EnD} (h : imgN [x] = 0) (h1 : D x.key ≠ none ∨ n < 65536) : putE n D x = 0 ∧ putN n D x = (if D x.key = none then n + 1 else n) ∧ putD n D x = updD D x.key (some x) :=
  ⟨(if_neg fun q => q h).trans (if_neg fun q => by rcases h1 with h1 | h1; exact h1 q.1; omega), if_pos ⟨h, h1⟩, if_pos ⟨h, h1⟩⟩
def grS (S : Nat → Prop) (w w' : World) : Nat → Prop := fun k => S k ∨ (w.heap.size ≤ k ∧ k < w'.heap.size)
theorem grS_gr (S : Nat → Prop) (w w' : World) : GrS S w (grS S w w') := fun k hk => hk.imp id And.left
theorem SpX.toY {w w' : World} {S H Vb : Nat → Prop} {sp t : Nat} {T : Tb EntV} {D : ByteArray → Option EnD} (q : SpX w' H Vb sp t T D) (hs : w.heap.size ≤ w'.heap.size) (hS : ∀ k, S k → k < w.heap.size) (h : ∀ k, H k ∨ Vb k ∨ k = sp → S k ∨ w.heap.size ≤ k) {n : Nat} (hn : T.n = n) : SpY w' (grS S w w') sp n D :=
  ⟨H, Vb, t, T, q, hn, fun k hk => (h k hk).imp id fun h1 => ⟨h1, by
    rcases hk with hk | hk | hk
    · exact (q.hH k hk).2.2
    · exact (q.hV k hk).2
    · rw [hk]; exact q.hB.lt⟩, fun k hk => by
    rcases hk with hk | hk
    · have := hS k hk; omega
    · exact hk.2⟩
theorem spput_any (w : World) (S : Nat → Prop) (sp n : Nat) (D : ByteArray → Option EnD) (hY : SpY w S sp n D) (key : ByteArray) (hkz : key.size ≤ 9223372036854775807) (k : Int) (s : ByteArray) (Al : Option Addr) (cl : Nat) (l : List ByteArray) (hSl : SlR Rp.str (fun k => k < w.heap.size) w (.slice Al l.length cl) l) (Az : Option Addr) (cz : Nat) (z : List (ByteArray × Int)) (hSz : SlR scR (fun k => k < w.heap.size) w (.slice Az z.length cz) z) (Ah : Option Addr) (ch : Nat) (h : List (ByteArray × ByteArray)) (hSh : SlR fdR (fun k => k < w.heap.size) w (.slice Ah h.length ch) h) (hll : l.length ≤ 1099511627776) (hlz : z.length ≤ 1099511627776) (hlh : h.length ≤ 1099511627776) (hz : ∀ x ∈ z, x.1.size ≤ maxLen) (at' : Int) : Calls Tryz.prog 20 #[.pointer (some ⟨sp, 0, none⟩), .string key, .agg #[.int .i64 k, .string s, .slice Al l.length cl, .slice Az z.length cz, .slice Ah h.length ch], .int .i64 at'] w (fun e w' => e = .returned (.int .i64 (putE n D ⟨key, k, s, l, z, h, at'⟩)) ∧ ∃ S', SpY w' S' sp (putN n D ⟨key, k, s, l, z, h, at'⟩) (putD n D ⟨key, k, s, l, z, h, at'⟩) ∧ GrS S w S' ∧ FrP S w w') := by
 have hF := Fr.refl [] w
 obtain ⟨H, Vb, t, T, hq, rfl, hS1, hS2⟩ := id hY
 have hB := hq.hB
 have hT := hq.hT
 have hspl := hB.lt
 have hM := hq.hM
 refine V.en 53 Tryz.func20 fun a h1 => ?_
 refine V.sg fun K2 k3 => ?_
 refine V.go (V.mk [(2, .agg #[.int .i64 k, .string s, .slice Al l.length cl, .slice Az z.length cz, .slice Ah h.length ch])] ⟨h1.e, trivial⟩ (by kernel_rfl) [.int .i64 k, .string s, .slice Al l.length cl, .slice Az z.length cz, .slice Ah h.length ch] 37 (fun b => .pointer (some ⟨b, 0, none⟩)) (by kernel_rfl) ?_)
 intro w5 b4 heb4 hB6 hF7 hsb4
 have hF_8 := hF.new hF7
 have hSl_9 := hSl.fr0 hF7
 have hSz_10 := hSz.fr0 hF7
 have hSh_11 := hSh.fr0 hF7
 have hB_12 := hB.fr0 hF7
 have hT_13 := hT.alloc hF7 heb4 (by omega)
 refine V.pt h1 fun a h14 => ?_
 refine V.re h14 [] 8 8 [] fun a h15 => k3 _ _ ?_
 refine V.seq fun K16 k17 => ?_
 refine V.sg fun K18 k19 => ?_
 refine V.run h15 [] 1 1 0 [(12, .pointer (some ⟨sp, 0, none⟩))] fun a h20 => ?_
 refine V.cl h20 (Go.Proofs.enters_of Tryz.func29 (by kernel_rfl) rfl) (isp_any w5 sp t hB_12) ?_
 rintro _ w22 ⟨rfl, hF21⟩
 refine ⟨_, rfl, fun a h23 => ?_⟩
 have hsw22 := hF21.size
 have hF_24 := hF_8.new hF21
 have hSl_25 := hSl_9.fr0 hF21
 have hSz_26 := hSz_10.fr0 hF21
 have hSh_27 := hSh_11.fr0 hF21
 have hB_28 := hB_12.fr0 hF21
 have hT_29 := hT_13.fr0 hF21
 have hB6_30 := hB6.fr0 hF21
 refine V.re h23 [] 1 0 [(14, .bool false)] fun a h31 => k19 _ _ ?_
 refine V.cf h31 ?_
 refine V.skip ?_
 refine V.then_n (k17 _ _ ?_)
 refine V.seq fun K32 k33 => ?_
 refine V.sg fun K34 k35 => ?_
 refine V.run h31 [(1, .bs hB6_30 0 [.int .i64 k, .string s, .slice Al l.length cl, .slice Az z.length cz, .slice Ah h.length ch])] 4 15 17 [(18, .agg #[.string key, .int .i64 k, .string s, .slice Al l.length cl, .slice Az z.length cz, .slice Ah h.length ch, .int .i64 at'])] fun a h36 => ?_
 refine V.go (V.mk [(18, .agg #[.string key, .int .i64 k, .string s, .slice Al l.length cl, .slice Az z.length cz, .slice Ah h.length ch, .int .i64 at'])] ⟨h36.e, trivial⟩ (by kernel_rfl) [.string key, .int .i64 k, .string s, .slice Al l.length cl, .slice Az z.length cz, .slice Ah h.length ch, .int .i64 at'] 39 (fun b => .slice (some ⟨b, 0, none⟩) 1 1) (by kernel_rfl) ?_)
 intro w38 b37 heb37 hB39 hF40 hsb37
 have hF_41 := hF_24.new hF40
 have hSl_42 := hSl_25.fr0 hF40
 have hSz_43 := hSz_26.fr0 hF40
 have hSh_44 := hSh_27.fr0 hF40
 have hB_45 := hB_28.fr0 hF40
 have hT_46 := hT_29.alloc hF40 heb37 (by omega)
 have hB6_47 := hB6_30.fr0 hF40
 refine V.pt h36 fun a h48 => ?_
 refine V.cl h48 (Go.Proofs.enters_of Tryz.func45 (by kernel_rfl) rfl) (check_any w38 _ _ [⟨key, k, s, l, z, h, at'⟩] (en_one (x := ⟨key, k, s, l, z, h, at'⟩) hB39 hSl_42 hSz_43 hSh_44).old (by intro x hx; simp only [List.mem_singleton] at hx; subst hx; exact ⟨Nat.le_trans hll (by decide), Nat.le_trans hlz (by decide), Nat.le_trans hlh (by decide), hz⟩)) ?_
 rintro _ w50 ⟨rfl, hF49⟩
 refine ⟨_, rfl, fun a h51 => ?_⟩
 have hsw50 := hF49.size
 have hF_52 := hF_41.new hF49
 have hSl_53 := hSl_42.fr0 hF49
 have hSz_54 := hSz_43.fr0 hF49
 have hSh_55 := hSh_44.fr0 hF49
 have hB_56 := hB_45.fr0 hF49
 have hT_57 := hT_46.fr0 hF49
 have hB6_58 := hB6_47.fr0 hF49
 refine V.re h51 [] 1 0 [(9, .int .i64 (imgN [⟨key, k, s, l, z, h, at'⟩]))] fun a h60 => k35 _ _ ?_
 refine V.sr h60 [(1, .ne (imgN [⟨key, k, s, l, z, h, at'⟩]) 0)] 21 21 [(22, .bool (decide (¬ (imgN [⟨key, k, s, l, z, h, at'⟩]) = 0)))] fun a h63 => ?_
 refine V.cp h63 (¬ (imgN [⟨key, k, s, l, z, h, at'⟩]) = 0) (fun ht64 => ?_) (fun ht64 => ?_)
 ·
  refine V.sr h63 [] 23 23 [(8, .int .i64 (imgN [⟨key, k, s, l, z, h, at'⟩]))] fun a h67 => ?_
  refine V.ret (V.then_r ?_)
  refine V.r1 h67 (.int .i64 (imgN [⟨key, k, s, l, z, h, at'⟩])) ?_
  obtain ⟨e1, e2, e3⟩ := put_no1 (n := T.n) (D := D) (x := ⟨key, k, s, l, z, h, at'⟩) (by omega)
  rw [e1, e2, e3]
  exact ⟨rfl, S, hY.fr0 hF_52, fun k hk => .inl hk, (FrP.refl _ _).tr0 hF_52⟩
 ·
  refine V.skip ?_
  refine V.then_n (k33 _ _ ?_)
  refine V.seq fun K68 k69 => ?_
  refine V.sg fun K70 k71 => ?_
  refine V.run h63 [(3, .b hB_56 0)] 5 25 27 [(28, .pointer (some ⟨t, 0, none⟩)), (29, .string key)] fun a h72 => ?_
  refine V.cl h72 (Go.Proofs.enters_of Tryz.func37 (by kernel_rfl) rfl) (look_any w50 (H) (b37 :: b4 :: []) t (T) hT_57 key (by omega)) ?_
  rintro _ w74 ⟨rfl, hF73⟩
  refine ⟨_, rfl, fun a h75 => ?_⟩
  have hsw74 := hF73.size
  have hF_76 := hF_52.new hF73
  have hSl_77 := hSl_53.fr0 hF73
  have hSz_78 := hSz_54.fr0 hF73
  have hSh_79 := hSh_55.fr0 hF73
  have hB_80 := hB_56.fr0 hF73
  have hT_81 := hT_57.fr0 hF73
  have hB6_82 := hB6_58.fr0 hF73
  refine V.run h75 [] 3 24 24 [(31, .agg #[.int .i64 (((lookT EntV.nil T key).1).kind), .string (((lookT EntV.nil T key).1).s), .slice (((lookT EntV.nil T key).1).l.a) (((lookT EntV.nil T key).1).l.n) (((lookT EntV.nil T key).1).l.c), .slice (((lookT EntV.nil T key).1).z.a) (((lookT EntV.nil T key).1).z.n) (((lookT EntV.nil T key).1).z.c), .slice (((lookT EntV.nil T key).1).h.a) (((lookT EntV.nil T key).1).h.n) (((lookT EntV.nil T key).1).h.c), .int .i64 (((lookT EntV.nil T key).1).till)]), (32, .bool ((lookT EntV.nil T key).2))] fun a h88 => ?_
  refine V.go (V.mk [] trivial (by kernel_rfl) [.int .i64 0, .string ⟨#[]⟩, .slice none 0 0, .slice none 0 0, .slice none 0 0, .int .i64 0] 79 (fun b => .pointer (some ⟨b, 0, none⟩)) (by kernel_rfl) ?_)
  intro w85 b84 heb84 hB86 hF87 hsb84
  have hF_89 := hF_76.new hF87
  have hSl_90 := hSl_77.fr0 hF87
  have hSz_91 := hSz_78.fr0 hF87
  have hSh_92 := hSh_79.fr0 hF87
  have hB_93 := hB_80.fr0 hF87
  have hT_94 := hT_81.alloc hF87 heb84 (by omega)
  have hB6_95 := hB6_82.fr0 hF87
  refine V.pt h88 fun a h97 => ?_
  refine V.go (V.stn b84 0 (.agg #[.int .i64 (((lookT EntV.nil T key).1).kind), .string (((lookT EntV.nil T key).1).s), .slice (((lookT EntV.nil T key).1).l.a) (((lookT EntV.nil T key).1).l.n) (((lookT EntV.nil T key).1).l.c), .slice (((lookT EntV.nil T key).1).z.a) (((lookT EntV.nil T key).1).z.n) (((lookT EntV.nil T key).1).z.c), .slice (((lookT EntV.nil T key).1).h.a) (((lookT EntV.nil T key).1).h.n) (((lookT EntV.nil T key).1).h.c), .int .i64 (((lookT EntV.nil T key).1).till)]) [.int .i64 (((lookT EntV.nil T key).1).kind), .string (((lookT EntV.nil T key).1).s), .slice (((lookT EntV.nil T key).1).l.a) (((lookT EntV.nil T key).1).l.n) (((lookT EntV.nil T key).1).l.c), .slice (((lookT EntV.nil T key).1).z.a) (((lookT EntV.nil T key).1).z.n) (((lookT EntV.nil T key).1).z.c), .slice (((lookT EntV.nil T key).1).h.a) (((lookT EntV.nil T key).1).h.n) (((lookT EntV.nil T key).1).h.c), .int .i64 (((lookT EntV.nil T key).1).till)] h97.e h97.e rfl rfl (by kernel_rfl) hB86 (by simp) [.int .i64 (((lookT EntV.nil T key).1).kind), .string (((lookT EntV.nil T key).1).s), .slice (((lookT EntV.nil T key).1).l.a) (((lookT EntV.nil T key).1).l.n) (((lookT EntV.nil T key).1).l.c), .slice (((lookT EntV.nil T key).1).z.a) (((lookT EntV.nil T key).1).z.n) (((lookT EntV.nil T key).1).z.c), .slice (((lookT EntV.nil T key).1).h.a) (((lookT EntV.nil T key).1).h.n) (((lookT EntV.nil T key).1).h.c), .int .i64 (((lookT EntV.nil T key).1).till)] rfl ?_)
  intro w98 hB99 hF100 hsw98
  have hF_101 := hF_89.own hF100 (by simp <;> omega)
  have hSl_102 := hSl_90.fr hF100 (by simp <;> omega)
  have hSz_103 := hSz_91.fr hF100 (by simp <;> omega)
  have hSh_104 := hSh_92.fr hF100 (by simp <;> omega)
  have hB_105 := hB_93.fr1 hF100 (by omega)
  have hT_106 := hT_94.fr hF100 (by intro k hk; simp only [List.mem_singleton] at hk; subst hk; exact .inl (by first | simp | (rw [hav]; simp)))
  have hB6_107 := hB6_95.fr1 hF100 (by omega)
  refine V.re h97 [] 1 0 [(11, .bool ((lookT EntV.nil T key).2))] fun a h109 => k71 _ _ ?_
  refine V.sg fun K110 k111 => ?_
  refine V.run h109 [] 3 33 34 [(35, .bool (!((lookT EntV.nil T key).2)))] fun a h112 => ?_
  by_cases hg113 : (!((lookT EntV.nil T key).2)) = true
  ·
   have h114 := h112.kbt 35 hg113
   refine V.run h114 [(3, .b hB_105 0)] 4 36 38 [(39, .pointer (some ⟨t, 0, none⟩))] fun a h115 => ?_
   refine V.clg h115 (Go.Proofs.enters_of Tryz.func53 (by kernel_rfl) rfl) (len_any w98 (H) (b84 :: b37 :: b4 :: []) t (T) hT_106) ?_
   rintro _ w117 ⟨rfl, hF116⟩
   refine ⟨_, rfl, fun a h118 => ?_⟩
   have hsw117 := hF116.size
   have hF_119 := hF_101.new hF116
   have hSl_120 := hSl_102.fr0 hF116
   have hSz_121 := hSz_103.fr0 hF116
   have hSh_122 := hSh_104.fr0 hF116
   have hB_123 := hB_105.fr0 hF116
   have hT_124 := hT_106.fr0 hF116
   have hB6_125 := hB6_107.fr0 hF116
   refine V.re h118 [] 41 41 [(42, .bool (decide (((T).n : Int) ≥ 65536)))] fun a h128 => k111 _ _ ?_
   refine V.cp h128 (((T).n : Int) ≥ 65536) (fun ht129 => ?_) (fun ht129 => ?_)
   ·
    refine V.sr h128 [] 1 0 [(8, .int .i64 3)] fun a h132 => ?_
    refine V.ret (V.then_r ?_)
    refine V.r1 h132 (.int .i64 3) ?_
    rcases hq.look key with ⟨hl1, hl2⟩ | ⟨x0, hl1, hl2, hl3, hl4, hl5⟩
    · obtain ⟨e1, e2, e3⟩ := put_no2 (n := T.n) (D := D) (x := ⟨key, k, s, l, z, h, at'⟩) (by omega) hl2 (by omega)
      rw [e1, e2, e3]
      exact ⟨rfl, S, hY.fr0 hF_119, fun k hk => .inl hk, (FrP.refl _ _).tr0 hF_119⟩
    · exact absurd hl1 (by simpa using hg113)
   ·
    refine V.skip ?_
    refine V.then_n (k69 _ _ ?_)
    refine V.seq fun K133 k134 => ?_
    refine V.pl [([0,1,2,3,4,5,7],some (6,[3])),([8],some (9,[])),([],none)] fun w135 hF136 hsw135 => ?_
    have hF_137 := hF_119.new hF136
    have hSl_138 := hSl_120.fr0 hF136
    have hSz_139 := hSz_121.fr0 hF136
    have hSh_140 := hSh_122.fr0 hF136
    have hB_141 := hB_123.fr0 hF136
    have hT_142 := hT_124.fr0 hF136
    have hB6_143 := hB6_125.fr0 hF136
    refine V.pe h128 [(3, .b hB_141 0), (1, .bs hB6_143 0 [.int .i64 k, .string s, .slice Al l.length cl, .slice Az z.length cz, .slice Ah h.length ch])] 43 44 [(45, .pointer (some ⟨sp, 0, none⟩)), (46, .pointer (some ⟨t, 0, none⟩)), (47, .string key), (48, .agg #[.int .i64 k, .string s, .slice Al l.length cl, .slice Az z.length cz, .slice Ah h.length ch]), (50, .int .i64 at')] fun a h146 => ?_
    refine V.cl h146 (Go.Proofs.enters_of Tryz.func33 (by kernel_rfl) rfl) (copied_any w135 k s Al cl l hSl_138.old Az cz z hSz_139.old Ah ch h hSh_140.old (by omega) (by omega) (by omega)) ?_
    rintro _ w158 ⟨A147, c148, A149, c150, A151, c152, rfl, hO153, hO154, hO155, hd157, hF156⟩
    refine ⟨_, rfl, fun a h159 => ?_⟩
    have hsw158 := hF156.size
    have hF_160 := hF_137.new hF156
    have hB_164 := hB_141.fr0 hF156
    have hT_165 := hT_142.fr0 hF156
    refine V.eh (fun _ => held_blk (n := 1) (hx := (h146.e (v := (.pointer (some ⟨sp, 0, none⟩))))) hB_141 hB_164 (by kernel_rfl) rfl (by simp only [List.length]; omega)) ?_
    refine V.pe h159 [] 1 0 [(51, .agg #[.int .i64 k, .string s, .slice A147 l.length c148, .slice A149 z.length c150, .slice A151 h.length c152, .int .i64 at'])] fun a h169 => ?_
    refine V.cl h169 (Go.Proofs.enters_of Tryz.func46 (by kernel_rfl) rfl) (put_any w158 (H) (b84 :: b37 :: b4 :: []) t (T) hT_165 hq.hm key (by omega) ⟨k, s, ⟨A147, l.length, c148⟩, ⟨A149, z.length, c150⟩, ⟨A151, h.length, c152⟩, at'⟩ (by omega)) ?_
    rintro _ w172 ⟨rfl, hT170, hF171⟩
    refine ⟨_, rfl, fun a h173 => ?_⟩
    have hsw172 := hF171.size
    have hB_174 := hB_164.frP hF171 (by exact fun hp => by have h1 := hq.hH _ hp.1; first | exact h1.2.1 rfl | omega)
    have hO153_178 := hO153.frP hF171 (fun b hb hp => by have h1 := (hO153.lt b hb).1; have h2 := (hq.hH _ hp.1).2.2; omega)
    have hO154_179 := hO154.frP hF171 (fun b hb hp => by have h1 := (hO154.lt b hb).1; have h2 := (hq.hH _ hp.1).2.2; omega)
    have hO155_180 := hO155.frP hF171 (fun b hb hp => by have h1 := (hO155.lt b hb).1; have h2 := (hq.hH _ hp.1).2.2; omega)
    refine V.eh trivial ?_
    refine V.pz h173 [] 1 0 [] fun a h181 => k134 _ _ ?_
    have h182 := h181.only []
    refine V.sr h182 [] 1 0 [(8, .int .i64 0)] fun a h185 => ?_
    refine V.ret ?_
    refine V.r1 h185 (.int .i64 0) ?_
    rcases hq.look key with ⟨hl1, hl2⟩ | ⟨x0, hl1, hl2, hl3, hl4, hl5⟩
    · obtain ⟨e1, e2, e3⟩ := put_yes (n := T.n) (D := D) (x := ⟨key, k, s, l, z, h, at'⟩) (by omega) (.inr (by first | omega | exact absurd hg113 (by rw [hl1]; simp)))
      rw [e1, e2, e3]
      have hfs9 := hF_160.size
      have hfs8 := hF171.size
      have hsp := sp_put (x := ⟨key, k, s, l, z, h, at'⟩) hq (img_iff.1 (by omega)) (.inr (by first | omega | exact absurd hg113 (by rw [hl1]; simp))) hF_160 hF171 hB_174 hT170 hO153 hO154 hO155 (by omega) (by omega) (by omega) hO153_178 hO154_179 hO155_180
      refine ⟨rfl, _, hsp.toY (w := w) (S := S) (by omega) hS2 (fun k hk => ?_) (putT_n' hq key _), grS_gr _ _ _, ((FrP.refl S w).tr0 hF_160).trP hF171 fun k hk => .inl (hS1 k (.inl hk.1))⟩
      rcases hk with hk | hk | hk
      · exact hk.imp (fun q => hS1 k (.inl q)) fun q => by have := q.1; omega
      · rcases hk with q | q | q | q
        · exact .inl (hS1 k (.inr (.inl q)))
        · have := (hO153.lt k q).1; exact .inr (by omega)
        · have := (hO154.lt k q).1; exact .inr (by omega)
        · have := (hO155.lt k q).1; exact .inr (by omega)
      · exact .inl (hS1 k (.inr (.inr hk)))
    · obtain ⟨e1, e2, e3⟩ := put_yes (n := T.n) (D := D) (x := ⟨key, k, s, l, z, h, at'⟩) (by omega) (.inl (by show D key ≠ none; rw [hl2]; simp))
      rw [e1, e2, e3]
      have hfs9 := hF_160.size
      have hfs8 := hF171.size
      have hsp := sp_put (x := ⟨key, k, s, l, z, h, at'⟩) hq (img_iff.1 (by omega)) (.inl (by show D key ≠ none; rw [hl2]; simp)) hF_160 hF171 hB_174 hT170 hO153 hO154 hO155 (by omega) (by omega) (by omega) hO153_178 hO154_179 hO155_180
      refine ⟨rfl, _, hsp.toY (w := w) (S := S) (by omega) hS2 (fun k hk => ?_) (putT_n' hq key _), grS_gr _ _ _, ((FrP.refl S w).tr0 hF_160).trP hF171 fun k hk => .inl (hS1 k (.inl hk.1))⟩
      rcases hk with hk | hk | hk
      · exact hk.imp (fun q => hS1 k (.inl q)) fun q => by have := q.1; omega
      · rcases hk with q | q | q | q
        · exact .inl (hS1 k (.inr (.inl q)))
        · have := (hO153.lt k q).1; exact .inr (by omega)
        · have := (hO154.lt k q).1; exact .inr (by omega)
        · have := (hO155.lt k q).1; exact .inr (by omega)
      · exact .inl (hS1 k (.inr (.inr hk)))
  ·
   have h186 := h112.kbf 35 hg113
   refine V.re h186 [] 36 41 [(42, .bool false)] fun a h187 => k111 _ _ ?_
   refine V.cf h187 ?_
   refine V.skip ?_
   refine V.then_n (k69 _ _ ?_)
   refine V.seq fun K188 k189 => ?_
   refine V.pl [([0,1,2,3,4,5,7],some (6,[3])),([8],some (9,[])),([],none)] fun w190 hF191 hsw190 => ?_
   have hF_192 := hF_101.new hF191
   have hSl_193 := hSl_102.fr0 hF191
   have hSz_194 := hSz_103.fr0 hF191
   have hSh_195 := hSh_104.fr0 hF191
   have hB_196 := hB_105.fr0 hF191
   have hT_197 := hT_106.fr0 hF191
   have hB6_198 := hB6_107.fr0 hF191
   refine V.pe h187 [(3, .b hB_196 0), (1, .bs hB6_198 0 [.int .i64 k, .string s, .slice Al l.length cl, .slice Az z.length cz, .slice Ah h.length ch])] 43 44 [(45, .pointer (some ⟨sp, 0, none⟩)), (46, .pointer (some ⟨t, 0, none⟩)), (47, .string key), (48, .agg #[.int .i64 k, .string s, .slice Al l.length cl, .slice Az z.length cz, .slice Ah h.length ch]), (50, .int .i64 at')] fun a h201 => ?_
   refine V.cl h201 (Go.Proofs.enters_of Tryz.func33 (by kernel_rfl) rfl) (copied_any w190 k s Al cl l hSl_193.old Az cz z hSz_194.old Ah ch h hSh_195.old (by omega) (by omega) (by omega)) ?_
   rintro _ w213 ⟨A202, c203, A204, c205, A206, c207, rfl, hO208, hO209, hO210, hd212, hF211⟩
   refine ⟨_, rfl, fun a h214 => ?_⟩
   have hsw213 := hF211.size
   have hF_215 := hF_192.new hF211
   have hB_219 := hB_196.fr0 hF211
   have hT_220 := hT_197.fr0 hF211
   refine V.eh (fun _ => held_blk (n := 1) (hx := (h201.e (v := (.pointer (some ⟨sp, 0, none⟩))))) hB_196 hB_219 (by kernel_rfl) rfl (by simp only [List.length]; omega)) ?_
   refine V.pe h214 [] 1 0 [(51, .agg #[.int .i64 k, .string s, .slice A202 l.length c203, .slice A204 z.length c205, .slice A206 h.length c207, .int .i64 at'])] fun a h224 => ?_
   refine V.cl h224 (Go.Proofs.enters_of Tryz.func46 (by kernel_rfl) rfl) (put_any w213 (H) (b84 :: b37 :: b4 :: []) t (T) hT_220 hq.hm key (by omega) ⟨k, s, ⟨A202, l.length, c203⟩, ⟨A204, z.length, c205⟩, ⟨A206, h.length, c207⟩, at'⟩ (by omega)) ?_
   rintro _ w227 ⟨rfl, hT225, hF226⟩
   refine ⟨_, rfl, fun a h228 => ?_⟩
   have hsw227 := hF226.size
   have hB_229 := hB_219.frP hF226 (by exact fun hp => by have h1 := hq.hH _ hp.1; first | exact h1.2.1 rfl | omega)
   have hO208_233 := hO208.frP hF226 (fun b hb hp => by have h1 := (hO208.lt b hb).1; have h2 := (hq.hH _ hp.1).2.2; omega)
   have hO209_234 := hO209.frP hF226 (fun b hb hp => by have h1 := (hO209.lt b hb).1; have h2 := (hq.hH _ hp.1).2.2; omega)
   have hO210_235 := hO210.frP hF226 (fun b hb hp => by have h1 := (hO210.lt b hb).1; have h2 := (hq.hH _ hp.1).2.2; omega)
   refine V.eh trivial ?_
   refine V.pz h228 [] 1 0 [] fun a h236 => k189 _ _ ?_
   have h237 := h236.only []
   refine V.sr h237 [] 1 0 [(8, .int .i64 0)] fun a h240 => ?_
   refine V.ret ?_
   refine V.r1 h240 (.int .i64 0) ?_
   rcases hq.look key with ⟨hl1, hl2⟩ | ⟨x0, hl1, hl2, hl3, hl4, hl5⟩
   · obtain ⟨e1, e2, e3⟩ := put_yes (n := T.n) (D := D) (x := ⟨key, k, s, l, z, h, at'⟩) (by omega) (.inr (by first | omega | exact absurd hg113 (by rw [hl1]; simp)))
     rw [e1, e2, e3]
     have hfs9 := hF_215.size
     have hfs8 := hF226.size
     have hsp := sp_put (x := ⟨key, k, s, l, z, h, at'⟩) hq (img_iff.1 (by omega)) (.inr (by first | omega | exact absurd hg113 (by rw [hl1]; simp))) hF_215 hF226 hB_229 hT225 hO208 hO209 hO210 (by omega) (by omega) (by omega) hO208_233 hO209_234 hO210_235
     refine ⟨rfl, _, hsp.toY (w := w) (S := S) (by omega) hS2 (fun k hk => ?_) (putT_n' hq key _), grS_gr _ _ _, ((FrP.refl S w).tr0 hF_215).trP hF226 fun k hk => .inl (hS1 k (.inl hk.1))⟩
     rcases hk with hk | hk | hk
     · exact hk.imp (fun q => hS1 k (.inl q)) fun q => by have := q.1; omega
     · rcases hk with q | q | q | q
       · exact .inl (hS1 k (.inr (.inl q)))
       · have := (hO208.lt k q).1; exact .inr (by omega)
       · have := (hO209.lt k q).1; exact .inr (by omega)
       · have := (hO210.lt k q).1; exact .inr (by omega)
     · exact .inl (hS1 k (.inr (.inr hk)))
   · obtain ⟨e1, e2, e3⟩ := put_yes (n := T.n) (D := D) (x := ⟨key, k, s, l, z, h, at'⟩) (by omega) (.inl (by show D key ≠ none; rw [hl2]; simp))
     rw [e1, e2, e3]
     have hfs9 := hF_215.size
     have hfs8 := hF226.size
     have hsp := sp_put (x := ⟨key, k, s, l, z, h, at'⟩) hq (img_iff.1 (by omega)) (.inl (by show D key ≠ none; rw [hl2]; simp)) hF_215 hF226 hB_229 hT225 hO208 hO209 hO210 (by omega) (by omega) (by omega) hO208_233 hO209_234 hO210_235
     refine ⟨rfl, _, hsp.toY (w := w) (S := S) (by omega) hS2 (fun k hk => ?_) (putT_n' hq key _), grS_gr _ _ _, ((FrP.refl S w).tr0 hF_215).trP hF226 fun k hk => .inl (hS1 k (.inl hk.1))⟩
     rcases hk with hk | hk | hk
     · exact hk.imp (fun q => hS1 k (.inl q)) fun q => by have := q.1; omega
     · rcases hk with q | q | q | q
       · exact .inl (hS1 k (.inr (.inl q)))
       · have := (hO208.lt k q).1; exact .inr (by omega)
       · have := (hO209.lt k q).1; exact .inr (by omega)
       · have := (hO210.lt k q).1; exact .inr (by omega)
     · exact .inl (hS1 k (.inr (.inr hk)))
/-! ### What is told -/
def EnD.nil : EnD := ⟨⟨#[]⟩, 0, ⟨#[]⟩, [], [], [], 0⟩
def FndD (D : ByteArray → Option EnD) (key : ByteArray) (f : Bool) (x : EnD) : Prop := (f = true ∧ D key = some x ∧ okD x ∧ x.key = key) ∨ (f = false ∧ D key = none ∧ x = EnD.nil)
def delN (n : Nat) (D : ByteArray → Option EnD) (key : ByteArray) : Nat := if D key = none then n else n - 1
def delB : ByteArray := ⟨#[68, 69, 76]⟩
def goneT (role : Int) (key : ByteArray) : List (List ByteArray) := if role = 1 then [[delB, key]] else []
def goneD (role : Int) (D : ByteArray → Option EnD) (key : ByteArray) : ByteArray → Option EnD := if role = 1 then updD D key none else D
def goneN (role : Int) (n : Nat) (D : ByteArray → Option EnD) (key : ByteArray) : Nat := if role = 1 then delN n D key else n
def getF (role now : Int) : Option EnD → Bool
  | some x => decide (seenD role now x.till)
  | none => false
def getX (role now : Int) : Option EnD → EnD
  | some x => if seenD role now x.till then x else EnD.nil
  | none => EnD.nil
def getT (role now : Int) (key : ByteArray) : Option EnD → List (List ByteArray)
  | some x => if seenD role now x.till then [] else goneT role key
  | none => []
def getD (role now : Int) (D : ByteArray → Option EnD) (key : ByteArray) : ByteArray → Option EnD := match D key with
  | some x => if seenD role now x.till then D else goneD role D key
  | none => D
def getN (role now : Int) (n : Nat) (D : ByteArray → Option EnD) (key : ByteArray) : Nat := match D key with
  | some x => if seenD role now x.till then n else goneN role n D key
  | none => n
theorem get_none {role now : Int} {n : Nat} {D : ByteArray → Option EnD} {key : ByteArray} (h : D key = none) : getF role now (D key) = false ∧ getX role now (D key) = EnD.nil ∧ getT role now key (D key) = [] ∧ getD role now D key = D ∧ getN role now n D key = n := by
  unfold getD getN; rw [h]; exact ⟨rfl, rfl, rfl, rfl, rfl⟩
theorem get_seen {role now : Int} {n : Nat} {D : ByteArray → Option EnD} {key : ByteArray} {x : EnD} (h : D key = some x) (hs : seenD role now x.till) : getF role now (D key) = true ∧ getX role now (D key) = x ∧ getT role now key (D key) = [] ∧ getD role now D key = D ∧ getN role now n D key = n := by
  unfold getD getN; rw [h]; exact ⟨decide_eq_true hs, if_pos hs, if_pos hs, if_pos hs, if_pos hs⟩
theorem get_over {role now : Int} {n : Nat} {D : ByteArray → Option EnD} {key : ByteArray} {x : EnD} (h : D key = some x) (hs : ¬ seenD role now x.till) : getF role now (D key) = false ∧ getX role now (D key) = EnD.nil ∧ getT role now key (D key) = goneT role key ∧ getD role now D key = goneD role D key ∧ getN role now n D key = goneN role n D key := by
  unfold getD getN; rw [h]; exact ⟨decide_eq_false hs, if_neg hs, if_neg hs, if_neg hs, if_neg hs⟩
theorem told_one {w : World} {b1 b2 m : Nat} {e1 e2 : TypeId} {x y : ByteArray} (hA : Blk w b1 [.string x, .string y] e1) (hB : Blk w b2 [.slice (some ⟨b1, 0, none⟩) 2 2] e2) (h1 : m ≤ b1) (h2 : m ≤ b2) : SlR (Rp.slice Rp.str) (fun k => m ≤ k) w (.slice (some ⟨b2, 0, none⟩) 1 1) [[x, y]] := by
  refine ⟨_, 1, rfl, by simp, by simp, fun i u hi => ?_⟩
  match i with
  | 0 =>
    simp at hi
    subst hi
    refine ⟨b2, 0, [.slice (some ⟨b1, 0, none⟩) 2 2], rfl, h2, hB.lt, ⟨_, rfl, ?_⟩, fun j u hj => ?_⟩
    · refine ⟨_, 2, rfl, by simp, by simp, fun i u hi => ?_⟩
      match i with
      | 0 =>
        simp at hi; subst hi
        refine ⟨b1, 0, [.string x], rfl, h1, hA.lt, rfl, fun j u hj => ?_⟩
        have hj' : j = 0 := by have := (List.getElem?_eq_some_iff.1 hj).1; simpa using this
        subst hj'
        simp at hj; subst hj
        exact hA.at 0 rfl
      | 1 =>
        simp at hi; subst hi
        refine ⟨b1, 0, [.string y], rfl, h1, hA.lt, rfl, fun j u hj => ?_⟩
        have hj' : j = 0 := by have := (List.getElem?_eq_some_iff.1 hj).1; simpa using this
        subst hj'
        simp at hj; subst hj
        exact hA.at 1 rfl
      | i + 2 => simp at hi
    · have hj' : j = 0 := by have := (List.getElem?_eq_some_iff.1 hj).1; simpa using this
      subst hj'
      simp at hj; subst hj
      exact hB.at 0 rfl
  | i + 1 => simp at hi
/-- What is told: nothing, or a command of two words. -/
def ToldB (w : World) (m : Nat) (vt : Value) (told : List (List ByteArray)) : Prop :=
  (told = [] ∧ vt = .slice none 0 0) ∨ ∃ b1 b2 x y, told = [[x, y]] ∧ vt = .slice (some ⟨b2, 0, none⟩) 1 1 ∧ Blk w b1 [.string x, .string y] 9 ∧ Blk w b2 [.slice (some ⟨b1, 0, none⟩) 2 2] 25 ∧ m ≤ b1 ∧ m ≤ b2
theorem ToldB.frl {w w1 : World} {m : Nat} {vt : Value} {told : List (List ByteArray)} {l : List Nat} (h : ToldB w m vt told) (f : Fr l w w1) (hl : ∀ k ∈ l, k < m) : ToldB w1 m vt told :=
  h.imp id fun ⟨b1, b2, x, y, e1, e2, h1, h2, h3, h4⟩ => ⟨b1, b2, x, y, e1, e2, h1.fr f fun hm => by have := hl _ hm; omega, h2.fr f fun hm => by have := hl _ hm; omega, h3, h4⟩
theorem ToldB.fr0 {w w1 : World} {m : Nat} {vt : Value} {told : List (List ByteArray)} (h : ToldB w m vt told) (f : Fr [] w w1) : ToldB w1 m vt told := h.frl f fun k hk => absurd hk (by simp)
theorem ToldB.rows {w : World} {m : Nat} {vt : Value} {told : List (List ByteArray)} (h : ToldB w m vt told) : SlR (Rp.slice Rp.str) (fun k => m ≤ k) w vt told := by
  rcases h with ⟨rfl, rfl⟩ | ⟨b1, b2, x, y, rfl, rfl, h1, h2, h3, h4⟩
  · exact SlR.nil ..
  · exact told_one h1 h2 h3 h4
/-! ### The table's own calls, of a space -/
theorem look_no {T : Tb EntV} {k : ByteArray} (h : (lookT EntV.nil T k).2 = false) : (lookT EntV.nil T k).1 = EntV.nil := by
  unfold lookT at h ⊢
  split
  · rename_i h1; rw [if_pos h1] at h; simp at h
  · rfl
theorem SpX.y0 {w : World} {H Vb : Nat → Prop} {sp t : Nat} {T : Tb EntV} {D : ByteArray → Option EnD} (q : SpX w H Vb sp t T D) : SpY w (fun k => H k ∨ Vb k ∨ k = sp) sp T.n D :=
  ⟨H, Vb, t, T, q, rfl, fun k hk => hk, fun k hk => by
    rcases hk with hk | hk | hk
    · exact (q.hH k hk).2.2
    · exact (q.hV k hk).2
    · rw [hk]; exact q.hB.lt⟩
theorem SpX.lt {w : World} {H Vb : Nat → Prop} {sp t : Nat} {T : Tb EntV} {D : ByteArray → Option EnD} (q : SpX w H Vb sp t T D) : ∀ k, H k ∨ Vb k ∨ k = sp → k < w.heap.size := fun k hk => by
  rcases hk with hk | hk | hk
  · exact (q.hH k hk).2.2
  · exact (q.hV k hk).2
  · rw [hk]; exact q.hB.lt
theorem tget_sp (w : World) {H Vb : Nat → Prop} {sp t : Nat} {T : Tb EntV} {D : ByteArray → Option EnD} (hq : SpX w H Vb sp t T D) (key : ByteArray) (hkz : key.size ≤ 9223372036854775807) :
    Calls Tryz.prog 30 #[.pointer (some ⟨t, 0, none⟩), .string key] w (fun e w' => ∃ f x Al cl Az cz Ah ch, e = .returned (.tuple #[.agg #[.int .i64 x.k, .string x.s, .slice Al x.l.length cl, .slice Az x.z.length cz, .slice Ah x.h.length ch, .int .i64 x.till], .bool f]) ∧ FndD D key f x ∧ SpX w' (gr H w w') Vb sp t (tbStep T) D ∧
      SlR Rp.str Vb w' (.slice Al x.l.length cl) x.l ∧ SlR scR Vb w' (.slice Az x.z.length cz) x.z ∧ SlR fdR Vb w' (.slice Ah x.h.length ch) x.h ∧ FrP (gp H []) w w') :=
  (get_any w H [] t T hq.hT hq.hm key hkz).mono fun e w' ⟨he, hT, hF⟩ => by
    have hs := sp_step hq (Fr.refl [] w) hF (hq.hB.frP hF fun hp => (hq.hH _ hp.1).2.1 rfl) hT
    rcases hs.look key with ⟨h1, h2⟩ | ⟨x, h1, h2, h3, h4, h5, h6, h7, h8, h9, h10, h11, h12, h13⟩
    · rw [h1, look_no h1] at he
      exact ⟨false, EnD.nil, none, 0, none, 0, none, 0, he, .inr ⟨rfl, h2, rfl⟩, hs, SlR.nil .., SlR.nil .., SlR.nil .., hF⟩
    · rw [h8] at h11
      rw [h9] at h12
      rw [h10] at h13
      rw [h1, h5, h6, h7, h8, h9, h10] at he
      exact ⟨true, x, _, _, _, _, _, _, he, .inl ⟨rfl, h2, h4, h3⟩, hs, h11, h12, h13, hF⟩

end Go.Proofs.YtjkegckfncfoaaaGreat
end
section
namespace Go.V
open Go.Base
section
variable {P : Program} {fn : Func} {R : Ending → World → Prop} {a : Act} {w : World} {n : Nat}
theorem retCTT (hz : Sz n a) {s t u u' : Nat} (hf : fn.results = #[.cell s t, .tmp u, .tmp u']) (ad : Addr) (hs : a.eval (.tmp s) = .pointer (some ad)) {v v' v'' : Value} (hl : (loadVar t ad).run P w = .ok v w) (hu : a.eval (.tmp u) = v') (hu' : a.eval (.tmp u') = v'') (hR : R (.returned (.tuple #[v, v', v''])) w) : bodyPost P fn R .ret a w := by
  refine bodyPost_ret (v := .tuple #[v, v', v'']) ?_ hz.defers hR
  have e1 : a.tmps[s]?.getD undef = .pointer (some ad) := by have := hs; simpa [Act.eval] using this
  have e2 : a.tmps[u]?.getD undef = v' := by have := hu; simpa [Act.eval] using this
  have e3 : a.tmps[u']?.getD undef = v'' := by have := hu'; simpa [Act.eval] using this
  simp [results, hf, e1, e2, e3, asAddr, hl]
end
end Go.V
end
section
namespace Go.Proofs.YtjkegckfncfoaaaGreat
open Go.V Go.Base
open Go.RowKit (Below)
attribute [local irreducible] Act.put Act.eval
set_option linter.unusedVariables false
set_option linter.unusedSimpArgs false
set_option maxHeartbeats 4000000
set_option maxRecDepth 20000
theorem gone_any (w : World) (S : Nat → Prop) (sp n : Nat) (D : ByteArray → Option EnD) (hY : SpY w S sp n D) (now dr role : Int) (Aa : Option Addr) (na ca : Nat) (key : ByteArray) (hkz : key.size ≤ 9223372036854775807) : Calls Tryz.prog 32 #[.pointer (some ⟨sp, 0, none⟩), .agg #[.int .i64 now, .int .u64 dr, .int .i64 role, .slice Aa na ca], .string key] w (fun e w' => ∃ vt S' m, e = .returned vt ∧ ToldB w' m vt (goneT role key) ∧ SpY w' S' sp (goneN role n D key) (goneD role D key) ∧ GrS S w S' ∧ FrP S w w' ∧ (∀ k, S' k → k < m) ∧ w.heap.size ≤ m) := by
 obtain ⟨H, Vb, t, T, hq, rfl, hS1, hS2⟩ := id hY
 have hX := hq
 have hB := hq.hB
 have hspl := hB.lt
 have hP := FrP.refl S w
 have hX0 := hq.lt
 refine V.en 19 Tryz.func32 fun a h1 => ?_
 refine V.sg fun K2 k3 => ?_
 refine V.go (V.mk [(1, .agg #[.int .i64 now, .int .u64 dr, .int .i64 role, .slice Aa na ca])] ⟨h1.e, trivial⟩ (by kernel_rfl) [.int .i64 now, .int .u64 dr, .int .i64 role, .slice Aa na ca] 27 (fun b => .pointer (some ⟨b, 0, none⟩)) (by kernel_rfl) ?_)
 intro w5 b4 heb4 hB6 hF7 hsb4
 have hX_8 := hX.fr0 hF7
 have hB_9 := hB.fr0 hF7
 have hP_10 := hP.tr0 hF7
 refine V.pt h1 fun a h11 => ?_
 refine V.re h11 [] 6 6 [] fun a h12 => k3 _ _ ?_
 refine V.seq fun K13 k14 => ?_
 refine V.sr h12 [(1, .b hB6 2), (0, .ne role 1)] 7 8 [(9, .bool (decide (¬ role = 1)))] fun a h17 => ?_
 refine V.cp h17 (¬ role = 1) (fun ht18 => ?_) (fun ht18 => ?_)
 ·
  refine V.sr h17 [] 1 0 [(6, .slice none 0 0)] fun a h21 => ?_
  refine V.ret (V.then_r ?_)
  refine V.r1 h21 (.slice none 0 0) ?_
  unfold goneT goneN goneD
  have hlx := hX_8.lt
  rw [if_neg (by omega), if_neg (by omega), if_neg (by omega)]
  exact ⟨_, _, w5.heap.size, rfl, .inl ⟨rfl, rfl⟩, hX_8.y0, fun k hk => .inl (hS1 k hk), hP_10, hlx, by omega⟩
 ·
  refine V.skip ?_
  refine V.then_n (k14 _ _ ?_)
  refine V.sg fun K22 k23 => ?_
  refine V.run h17 [(3, .b hB_9 0)] 5 10 12 [(13, .pointer (some ⟨t, 0, none⟩)), (14, .string key)] fun a h24 => ?_
  refine V.cl h24 (Go.Proofs.enters_of Tryz.func52 (by kernel_rfl) rfl) (del_any w5 (H) [] t (T) hX_8.hT hX_8.hm key (by omega)) ?_
  rintro _ w28 ⟨rfl, hT25, hF26⟩
  refine ⟨_, rfl, fun a h29 => ?_⟩
  have hsw28 := hF26.size
  have hB_30 := hB_9.frP hF26 (by exact fun hp => (hX_8.hH _ hp.1).2.1 rfl)
  have hP_31 := hP_10.trP hF26 (fun k hk => .inl (hS1 k (.inl hk.1)))
  have hX33 := sp_del hX_8 hkz (Fr.refl [] w5) hF26 hB_30 hT25
  have hsep27 : ∀ k, gr H w5 w28 k ∨ Vb k ∨ k = sp → k < w.heap.size ∨ (w5.heap.size ≤ k ∧ k < w28.heap.size) := fun k hk => by rcases hk with (hk | hk) | hk | hk; exact .inl (hX0 k (.inl hk)); exact .inr hk; exact .inl (hX0 k (.inr (.inl hk))); exact .inl (hX0 k (.inr (.inr hk)))
  refine V.nt (k23 _ _ ?_)
  refine V.sg fun K34 k35 => ?_
  refine V.run h29 [] 1 1 0 [(16, .string key)] fun a h36 => ?_
  refine V.go (V.mk [(16, .string key)] ⟨h36.e, trivial⟩ (by kernel_rfl) [.string ⟨#[68, 69, 76]⟩, .string key] 9 (fun b => .slice (some ⟨b, 0, none⟩) 2 2) (by kernel_rfl) ?_)
  intro w38 b37 heb37 hB39 hF40 hsb37
  have hP_42 := hP_31.tr0 hF40
  have hX33_44 := hX33.fr0 hF40
  refine V.pt h36 fun a h45 => ?_
  refine V.go (V.mk [(17, .slice (some ⟨b37, 0, none⟩) 2 2)] ⟨h45.e, trivial⟩ (by kernel_rfl) [.slice (some ⟨b37, 0, none⟩) 2 2] 25 (fun b => .slice (some ⟨b, 0, none⟩) 1 1) (by kernel_rfl) ?_)
  intro w47 b46 heb46 hB48 hF49 hsb46
  have hP_51 := hP_42.tr0 hF49
  have hX33_53 := hX33_44.fr0 hF49
  have hB39_54 := hB39.fr0 hF49
  refine V.pt h45 fun a h55 => ?_
  refine V.re h55 [] 1 0 [(6, .slice (some ⟨b46, 0, none⟩) 1 1)] fun a h56 => k35 _ _ ?_
  refine V.ret ?_
  refine V.r1 h56 (.slice (some ⟨b46, 0, none⟩) 1 1) ?_
  unfold goneT goneN goneD
  have hlx := hX33_53.lt
  rw [if_pos (by omega), if_pos (by omega), if_pos (by omega)]
  have hdn := delT_n' hq key
  exact ⟨_, _, w28.heap.size, rfl, (.inr ⟨_, _, _, _, rfl, rfl, hB39_54, hB48, by omega, by omega⟩), (by unfold delN; exact hdn ▸ hX33_53.y0), fun k hk => by rcases hk with (hk | hk) | hk | hk; exact .inl (hS1 k (.inl hk)); (have := hk.1; exact .inr (by omega)); exact .inl (hS1 k (.inr (.inl hk))); exact .inl (hS1 k (.inr (.inr hk))), hP_51, fun k hk => by have := hsep27 k hk; omega, by omega⟩
theorem spget_any (w : World) (S : Nat → Prop) (sp n : Nat) (D : ByteArray → Option EnD) (hY : SpY w S sp n D) (now dr role : Int) (Aa : Option Addr) (na ca : Nat) (key : ByteArray) (hkz : key.size ≤ 9223372036854775807) : Calls Tryz.prog 10 #[.pointer (some ⟨sp, 0, none⟩), .agg #[.int .i64 now, .int .u64 dr, .int .i64 role, .slice Aa na ca], .string key] w (fun e w' => ∃ x Al cl Az cz Ah ch vt S' m, e = .returned (.tuple #[.agg #[.int .i64 x.k, .string x.s, .slice Al x.l.length cl, .slice Az x.z.length cz, .slice Ah x.h.length ch], .bool (getF role now (D key)), vt]) ∧ x = getX role now (D key) ∧ SpY w' S' sp (getN role now n D key) (getD role now D key) ∧ GrS S w S' ∧ FrP S w w' ∧ (∀ k, S' k → k < m) ∧ w.heap.size ≤ m ∧ OwR Rp.str NoZ w' m 9 (.slice Al x.l.length cl) x.l ∧ OwR scR NoZ w' m 107 (.slice Az x.z.length cz) x.z ∧ OwR fdR NoZ w' m 110 (.slice Ah x.h.length ch) x.h ∧ Dis3 (.slice Al x.l.length cl) (.slice Az x.z.length cz) (.slice Ah x.h.length ch) ∧ ToldB w' m vt (getT role now key (D key))) := by
 obtain ⟨H, Vb, t, T, hq, rfl, hS1, hS2⟩ := id hY
 have hX := hq
 have hB := hq.hB
 have hspl := hB.lt
 have hP := FrP.refl S w
 have hX0 := hq.lt
 refine V.en 39 Tryz.func10 fun a h1 => ?_
 refine V.sg fun K2 k3 => ?_
 refine V.go (V.mk [(1, .agg #[.int .i64 now, .int .u64 dr, .int .i64 role, .slice Aa na ca])] ⟨h1.e, trivial⟩ (by kernel_rfl) [.int .i64 now, .int .u64 dr, .int .i64 role, .slice Aa na ca] 27 (fun b => .pointer (some ⟨b, 0, none⟩)) (by kernel_rfl) ?_)
 intro w5 b4 heb4 hB6 hF7 hsb4
 have hX_8 := hX.fr0 hF7
 have hB_9 := hB.fr0 hF7
 have hP_10 := hP.tr0 hF7
 refine V.pt h1 fun a h11 => ?_
 refine V.go (V.mk [] trivial (by kernel_rfl) [.int .i64 0, .string ⟨#[]⟩, .slice none 0 0, .slice none 0 0, .slice none 0 0] 37 (fun b => .pointer (some ⟨b, 0, none⟩)) (by kernel_rfl) ?_)
 intro w13 b12 heb12 hB14 hF15 hsb12
 have hX_16 := hX_8.fr0 hF15
 have hB_17 := hB_9.fr0 hF15
 have hP_18 := hP_10.tr0 hF15
 have hB6_19 := hB6.fr0 hF15
 refine V.pt h11 fun a h20 => ?_
 refine V.re h20 [] 7 8 [] fun a h21 => k3 _ _ ?_
 refine V.seq fun K22 k23 => ?_
 refine V.sg fun K24 k25 => ?_
 refine V.run h21 [] 1 1 0 [(11, .pointer (some ⟨sp, 0, none⟩))] fun a h26 => ?_
 refine V.cl h26 (Go.Proofs.enters_of Tryz.func29 (by kernel_rfl) rfl) (isp_any w13 sp t hX_16.hB) ?_
 rintro _ w28 ⟨rfl, hF27⟩
 refine ⟨_, rfl, fun a h29 => ?_⟩
 have hsw28 := hF27.size
 have hX_30 := hX_16.fr0 hF27
 have hB_31 := hB_17.fr0 hF27
 have hP_32 := hP_18.tr0 hF27
 have hB6_33 := hB6_19.fr0 hF27
 have hB14_34 := hB14.fr0 hF27
 refine V.re h29 [] 1 0 [(13, .bool false)] fun a h35 => k25 _ _ ?_
 refine V.cf h35 ?_
 refine V.skip ?_
 refine V.then_n (k23 _ _ ?_)
 refine V.sg fun K36 k37 => ?_
 refine V.run h35 [(3, .b hB_31 0)] 5 16 18 [(19, .pointer (some ⟨t, 0, none⟩)), (20, .string key)] fun a h38 => ?_
 refine V.cl h38 (Go.Proofs.enters_of Tryz.func30 (by kernel_rfl) rfl) (tget_sp w28 hX_30 key (by omega)) ?_
 rintro _ w54 ⟨f39, x40, A48, c49, A50, c51, A52, c53, rfl, hc41, hX42, hS43, hS44, hS45, hF46⟩
 refine ⟨_, rfl, fun a h55 => ?_⟩
 have hsw54 := hF46.size
 have hP_57 := hP_32.trP hF46 (fun k hk => .inl (hS1 k (.inl hk.1)))
 have hB6_58 := hB6_33.frP hF46 (by exact fun hp => by have := hX0 _ (.inl hp.1); omega)
 have hB14_59 := hB14_34.frP hF46 (by exact fun hp => by have := hX0 _ (.inl hp.1); omega)
 have hsep47 : ∀ k, gr H w28 w54 k ∨ Vb k ∨ k = sp → k < w.heap.size ∨ (w28.heap.size ≤ k ∧ k < w54.heap.size) := fun k hk => by rcases hk with (hk | hk) | hk | hk; exact .inl (hX0 k (.inl hk)); exact .inr hk; exact .inl (hX0 k (.inr (.inl hk))); exact .inl (hX0 k (.inr (.inr hk)))
 refine V.run h55 [] 3 15 15 [(22, .agg #[.int .i64 x40.k, .string x40.s, .slice A48 x40.l.length c49, .slice A50 x40.z.length c51, .slice A52 x40.h.length c53, .int .i64 x40.till]), (23, .bool f39)] fun a h64 => ?_
 refine V.go (V.mk [] trivial (by kernel_rfl) [.int .i64 0, .string ⟨#[]⟩, .slice none 0 0, .slice none 0 0, .slice none 0 0, .int .i64 0] 79 (fun b => .pointer (some ⟨b, 0, none⟩)) (by kernel_rfl) ?_)
 intro w61 b60 heb60 hB62 hF63 hsb60
 have hP_66 := hP_57.tr0 hF63
 have hB6_67 := hB6_58.fr0 hF63
 have hB14_68 := hB14_59.fr0 hF63
 have hX42_69 := hX42.fr0 hF63
 have hS43_70 := hS43.fr0 hF63
 have hS44_71 := hS44.fr0 hF63
 have hS45_72 := hS45.fr0 hF63
 refine V.pt h64 fun a h73 => ?_
 refine V.go (V.stn b60 0 (.agg #[.int .i64 x40.k, .string x40.s, .slice A48 x40.l.length c49, .slice A50 x40.z.length c51, .slice A52 x40.h.length c53, .int .i64 x40.till]) [.int .i64 x40.k, .string x40.s, .slice A48 x40.l.length c49, .slice A50 x40.z.length c51, .slice A52 x40.h.length c53, .int .i64 x40.till] h73.e h73.e rfl rfl (by kernel_rfl) hB62 (by simp) [.int .i64 x40.k, .string x40.s, .slice A48 x40.l.length c49, .slice A50 x40.z.length c51, .slice A52 x40.h.length c53, .int .i64 x40.till] rfl ?_)
 intro w74 hB75 hF76 hsw74
 have hP_78 := hP_66.tr1 hF76 (by first | exact .inl (by assumption) | exact .inr (by omega) | exact .inl (.inl rfl))
 have hB6_79 := hB6_67.fr1 hF76 (by omega)
 have hB14_80 := hB14_68.fr1 hF76 (by omega)
 have hX42_81 := hX42_69.frl hF76 (by intro k hk; simp only [List.mem_singleton] at hk; subst hk; exact ⟨fun q => by have := hsep47 _ (.inl q); omega, fun q => by have := hsep47 _ (.inr (.inl q)); omega, fun q => by have := hsep47 _ (.inr (.inr q)); omega⟩)
 have hS43_82 := hS43_70.fr hF76 (by intro x hx hz; simp only [List.mem_singleton] at hx; subst hx; first | (have := (hq.hV _ hz).2; omega) | exact (hq.hV _ hz).1 (by simp))
 have hS44_83 := hS44_71.fr hF76 (by intro x hx hz; simp only [List.mem_singleton] at hx; subst hx; first | (have := (hq.hV _ hz).2; omega) | exact (hq.hV _ hz).1 (by simp))
 have hS45_84 := hS45_72.fr hF76 (by intro x hx hz; simp only [List.mem_singleton] at hx; subst hx; first | (have := (hq.hV _ hz).2; omega) | exact (hq.hV _ hz).1 (by simp))
 refine V.re h73 [] 1 0 [(10, .bool f39)] fun a h85 => k37 _ _ ?_
 refine V.seq fun K86 k87 => ?_
 refine V.sr h85 [] 24 24 [(25, .bool (!f39))] fun a h90 => ?_
 refine V.cb h90 (!f39) (fun ht91 => ?_) (fun ht91 => ?_)
 ·
  refine V.sg fun K92 k93 => ?_
  refine V.run h90 [] 1 1 0 [(26, .agg #[.int .i64 0, .string ⟨#[]⟩, .slice none 0 0, .slice none 0 0, .slice none 0 0])] fun a h97 => ?_
  refine V.go (V.stn b12 0 (.agg #[.int .i64 0, .string ⟨#[]⟩, .slice none 0 0, .slice none 0 0, .slice none 0 0]) [.int .i64 0, .string ⟨#[]⟩, .slice none 0 0, .slice none 0 0, .slice none 0 0] h97.e h97.e rfl rfl (by kernel_rfl) hB14_80 (by simp) [.int .i64 0, .string ⟨#[]⟩, .slice none 0 0, .slice none 0 0, .slice none 0 0] rfl ?_)
  intro w94 hB95 hF96 hsw94
  have hP_99 := hP_78.tr1 hF96 (by first | exact .inl (by assumption) | exact .inr (by omega) | exact .inl (.inl rfl))
  have hX42_101 := hX42_81.frl hF96 (by intro k hk; simp only [List.mem_singleton] at hk; subst hk; exact ⟨fun q => by have := hsep47 _ (.inl q); omega, fun q => by have := hsep47 _ (.inr (.inl q)); omega, fun q => by have := hsep47 _ (.inr (.inr q)); omega⟩)
  refine V.re h97 [] 1 0 [(7, .bool false), (8, .slice none 0 0)] fun a h106 => k93 _ _ ?_
  refine V.ret (V.then_r ?_)
  refine V.retCTT h106.sd rfl _ (h106.e (v := (.pointer (some ⟨b12, 0, none⟩)))) (V.run_loadVar_agg (cs := [.int .i64 0, .string ⟨#[]⟩, .slice none 0 0, .slice none 0 0, .slice none 0 0]) (by kernel_rfl) (blk_cells hB95 0 _ rfl)) (h106.e (v := (.bool false))) (h106.e (v := (.slice none 0 0))) ?_
  have hx0 := tbStep_n' T
  rcases hc41 with ⟨q1, q2, q3, q4⟩ | ⟨q1, q2, q3⟩
  · rw [q1] at ht91; simp at ht91
  · obtain ⟨e1, e2, e3, e4, e5⟩ := get_none (role := role) (now := now) (n := T.n) q2
    rw [e1, e2, e3, e4, e5]
    exact ⟨EnD.nil, none, 0, none, 0, none, 0, _, _, w94.heap.size, rfl, rfl, hx0 ▸ hX42_101.y0, fun k hk => by rcases hk with (hk | hk) | hk | hk; exact .inl (hS1 k (.inl hk)); (have := hk.1; exact .inr (by omega)); exact .inl (hS1 k (.inr (.inl hk))); exact .inl (hS1 k (.inr (.inr hk))), hP_99, hX42_101.lt, by omega, OwR.nil .., OwR.nil .., OwR.nil .., Dis3.nil _, .inl ⟨rfl, rfl⟩⟩
 ·
  refine V.skip ?_
  refine V.then_n (k87 _ _ ?_)
  refine V.seq fun K107 k108 => ?_
  refine V.sg fun K109 k110 => ?_
  refine V.run h90 [(0, .bs hB6_79 0 [.int .i64 now, .int .u64 dr, .int .i64 role, .slice Aa na ca]), (0, .bs hB75 0 [.int .i64 x40.k, .string x40.s, .slice A48 x40.l.length c49, .slice A50 x40.z.length c51, .slice A52 x40.h.length c53, .int .i64 x40.till])] 2 1 0 [(27, .agg #[.int .i64 now, .int .u64 dr, .int .i64 role, .slice Aa na ca]), (28, .agg #[.int .i64 x40.k, .string x40.s, .slice A48 x40.l.length c49, .slice A50 x40.z.length c51, .slice A52 x40.h.length c53, .int .i64 x40.till])] fun a h111 => ?_
  refine V.cl h111 (Go.Proofs.enters_of Tryz.func31 (by kernel_rfl) rfl) (seen_any w74 now dr role Aa na ca ⟨x40.k, x40.s, ⟨A48, x40.l.length, c49⟩, ⟨A50, x40.z.length, c51⟩, ⟨A52, x40.h.length, c53⟩, x40.till⟩) ?_
  rintro _ w113 ⟨rfl, hF112⟩
  refine ⟨_, rfl, fun a h114 => ?_⟩
  have hsw113 := hF112.size
  have hP_116 := hP_78.tr0 hF112
  have hB6_117 := hB6_79.fr0 hF112
  have hB14_118 := hB14_80.fr0 hF112
  have hX42_119 := hX42_81.fr0 hF112
  have hS43_120 := hS43_82.fr0 hF112
  have hS44_121 := hS44_83.fr0 hF112
  have hS45_122 := hS45_84.fr0 hF112
  have hB75_123 := hB75.fr0 hF112
  refine V.re h114 [(0, .q (.bool (decide (¬ (seenD role now x40.till)))) V.t_not)] 1 0 [(30, .bool (decide (¬ (seenD role now x40.till))))] fun a h124 => k110 _ _ ?_
  refine V.cp h124 (¬ (seenD role now x40.till)) (fun ht125 => ?_) (fun ht125 => ?_)
  ·
   refine V.sg fun K126 k127 => ?_
   refine V.run h124 [(2, .bs hB6_117 0 [.int .i64 now, .int .u64 dr, .int .i64 role, .slice Aa na ca])] 4 1 0 [(31, .agg #[.int .i64 0, .string ⟨#[]⟩, .slice none 0 0, .slice none 0 0, .slice none 0 0]), (32, .pointer (some ⟨sp, 0, none⟩)), (33, .agg #[.int .i64 now, .int .u64 dr, .int .i64 role, .slice Aa na ca]), (34, .string key)] fun a h128 => ?_
   refine V.cl h128 (Go.Proofs.enters_of Tryz.func32 (by kernel_rfl) rfl) (gone_any w113 _ sp _ D hX42_119.y0 now dr role Aa na ca key (by omega)) ?_
   rintro _ w138 ⟨vt129, S130, m131, rfl, ht132, hY133, hg134, hF135, hm136, hm136m⟩
   refine ⟨_, rfl, fun a h139 => ?_⟩
   have hsw138 := hF135.size
   have hP_140 := hP_116.trP hF135 (fun k hk => by rcases hk with (hk | hk) | hk | hk; exact .inl (hS1 k (.inl hk)); (have := hk.1; exact .inr (by omega)); exact .inl (hS1 k (.inr (.inl hk))); exact .inl (hS1 k (.inr (.inr hk))))
   have hB14_142 := hB14_118.frP hF135 (by exact fun hp => by have := hsep47 _ hp; omega)
   have hsep137 : ∀ k, S130 k → k < w.heap.size ∨ (w28.heap.size ≤ k ∧ k < w54.heap.size) ∨ w113.heap.size ≤ k := fun k hk => by rcases hg134 k hk with q | q; (rcases hsep47 k q with q | q; exact .inl q; exact .inr (.inl q)); exact .inr (.inr q)
   refine V.go (V.stn b12 0 (.agg #[.int .i64 0, .string ⟨#[]⟩, .slice none 0 0, .slice none 0 0, .slice none 0 0]) [.int .i64 0, .string ⟨#[]⟩, .slice none 0 0, .slice none 0 0, .slice none 0 0] h139.e h139.e rfl rfl (by kernel_rfl) hB14_142 (by simp) [.int .i64 0, .string ⟨#[]⟩, .slice none 0 0, .slice none 0 0, .slice none 0 0] rfl ?_)
   intro w144 hB145 hF146 hsw144
   have hP_147 := hP_140.tr1 hF146 (by first | exact .inl (by assumption) | exact .inr (by omega) | exact .inl (.inl rfl))
   have ht132_150 := ht132.frl hF146 (by intro k hk; simp only [List.mem_singleton] at hk; omega)
   have hY133_151 := hY133.frl hF146 (by intro k hk; simp only [List.mem_singleton] at hk; subst hk; intro hs; have := hsep137 _ hs; omega)
   refine V.re h139 [] 1 0 [(7, .bool false), (8, vt129)] fun a h152 => k127 _ _ ?_
   refine V.ret (V.then_r ?_)
   refine V.retCTT h152.sd rfl _ (h152.e (v := (.pointer (some ⟨b12, 0, none⟩)))) (V.run_loadVar_agg (cs := [.int .i64 0, .string ⟨#[]⟩, .slice none 0 0, .slice none 0 0, .slice none 0 0]) (by kernel_rfl) (blk_cells hB145 0 _ rfl)) (h152.e (v := (.bool false))) (h152.e (v := (vt129))) ?_
   have hx0 := tbStep_n' T
   rcases hc41 with ⟨q1, q2, q3, q4⟩ | ⟨q1, q2, q3⟩
   · obtain ⟨e1, e2, e3, e4, e5⟩ := get_over (role := role) (now := now) (n := T.n) q2 ht125
     rw [e1, e2, e3, e4, e5]
     exact ⟨EnD.nil, none, 0, none, 0, none, 0, _, _, m131, rfl, rfl, hx0 ▸ hY133_151, fun k hk => by rcases hg134 k hk with q | q; (rcases q with (q | q) | q | q; exact .inl (hS1 k (.inl q)); (have := q.1; exact .inr (by omega)); exact .inl (hS1 k (.inr (.inl q))); exact .inl (hS1 k (.inr (.inr q)))); exact .inr (by omega), hP_147, hm136, by omega, OwR.nil .., OwR.nil .., OwR.nil .., Dis3.nil _, ht132_150⟩
   · rw [q1] at ht91; simp at ht91
  ·
   refine V.skip ?_
   refine V.then_n (k108 _ _ ?_)
   refine V.seq fun K153 k154 => ?_
   have hbk : x40.l.length ≤ 65536 ∧ x40.z.length ≤ 65536 ∧ x40.h.length ≤ 65536 := by rcases hc41 with ⟨q1, q2, q3, q4⟩ | ⟨q1, q2, q3⟩; exact ⟨(okD_bnd q3).2.1, (okD_bnd q3).2.2.1, (okD_bnd q3).2.2.2.1⟩; rw [q3]; exact ⟨by decide, by decide, by decide⟩
   refine V.rg ?_
   refine V.run h124 [(1, .bs hB75_123 0 [.int .i64 x40.k, .string x40.s, .slice A48 x40.l.length c49, .slice A50 x40.z.length c51, .slice A52 x40.h.length c53])] 2 36 36 [(37, .agg #[.int .i64 x40.k, .string x40.s, .slice A48 x40.l.length c49, .slice A50 x40.z.length c51, .slice A52 x40.h.length c53])] fun a h155 => ?_
   refine V.cl h155 (Go.Proofs.enters_of Tryz.func33 (by kernel_rfl) rfl) (copied_any w113 x40.k x40.s A48 c49 x40.l hS43_120.old A50 c51 x40.z hS44_121.old A52 c53 x40.h hS45_122.old (by omega) (by omega) (by omega)) ?_
   rintro _ w167 ⟨A156, c157, A158, c159, A160, c161, rfl, hO162, hO163, hO164, hd166, hF165⟩
   refine ⟨_, rfl, fun a h168 => ?_⟩
   have hsw167 := hF165.size
   have hP_170 := hP_116.tr0 hF165
   have hB14_172 := hB14_118.fr0 hF165
   have hX42_173 := hX42_119.fr0 hF165
   refine V.go (V.stn b12 0 (.agg #[.int .i64 x40.k, .string x40.s, .slice A156 x40.l.length c157, .slice A158 x40.z.length c159, .slice A160 x40.h.length c161]) [.int .i64 x40.k, .string x40.s, .slice A156 x40.l.length c157, .slice A158 x40.z.length c159, .slice A160 x40.h.length c161] h168.e h168.e rfl rfl (by kernel_rfl) hB14_172 (by simp) [.int .i64 x40.k, .string x40.s, .slice A156 x40.l.length c157, .slice A158 x40.z.length c159, .slice A160 x40.h.length c161] rfl ?_)
   intro w178 hB179 hF180 hsw178
   have hP_182 := hP_170.tr1 hF180 (by first | exact .inl (by assumption) | exact .inr (by omega) | exact .inl (.inl rfl))
   have hX42_184 := hX42_173.frl hF180 (by intro k hk; simp only [List.mem_singleton] at hk; subst hk; exact ⟨fun q => by have := hsep47 _ (.inl q); omega, fun q => by have := hsep47 _ (.inr (.inl q)); omega, fun q => by have := hsep47 _ (.inr (.inr q)); omega⟩)
   have hO162_189 := hO162.frn hF180 (fun h => h) (by first | exact own_ne hO162 (by omega))
   have hO163_190 := hO163.frn hF180 (fun h => h) (by first | exact own_ne hO163 (by omega))
   have hO164_191 := hO164.frn hF180 (fun h => h) (by first | exact own_ne hO164 (by omega))
   refine V.re h168 [] 1 0 [(7, .bool true), (8, .slice none 0 0)] fun a h192 => k154 _ _ ?_
   refine V.ret ?_
   refine V.retCTT h192.sd rfl _ (h192.e (v := (.pointer (some ⟨b12, 0, none⟩)))) (V.run_loadVar_agg (cs := [.int .i64 x40.k, .string x40.s, .slice A156 x40.l.length c157, .slice A158 x40.z.length c159, .slice A160 x40.h.length c161]) (by kernel_rfl) (blk_cells hB179 0 _ rfl)) (h192.e (v := (.bool true))) (h192.e (v := (.slice none 0 0))) ?_
   have hx0 := tbStep_n' T
   rcases hc41 with ⟨q1, q2, q3, q4⟩ | ⟨q1, q2, q3⟩
   · obtain ⟨e1, e2, e3, e4, e5⟩ := get_seen (role := role) (now := now) (n := T.n) q2 (Decidable.of_not_not ht125)
     rw [e1, e2, e3, e4, e5]
     exact ⟨x40, _, _, _, _, _, _, _, _, w113.heap.size, rfl, rfl, hx0 ▸ hX42_184.y0, fun k hk => by rcases hk with (hk | hk) | hk | hk; exact .inl (hS1 k (.inl hk)); (have := hk.1; exact .inr (by omega)); exact .inl (hS1 k (.inr (.inl hk))); exact .inl (hS1 k (.inr (.inr hk))), hP_182, fun k hk => by have := hsep47 k hk; omega, by omega, hO162_189, hO163_190, hO164_191, hd166, .inl ⟨rfl, rfl⟩⟩
   · rw [q1] at ht91; simp at ht91
theorem spnew_A (w : World) : Calls Tryz.prog 26 #[] w (fun e w' => ∃ sp, e = .returned (.pointer (some ⟨sp, 0, none⟩)) ∧ SpA w' w.heap.size [] [] sp 0 (fun _ => none) ∧ Fr [] w w') :=
  (spnew_any w).mono fun e w' ⟨sp, t, H, he, hB, hT, hH, hs, hF⟩ => by
    have hl := hB.lt
    refine ⟨sp, he, ⟨fun k => H k ∨ False ∨ k = sp, SpX.y0 (T := newT 0) (t := t) (Vb := fun _ => False) ⟨hB, hT, (newT_ok (by omega)).2, newT_wf 0, fun k hk => ⟨fun q => q, (hH k hk).2.2, (hH k hk).2.1⟩, fun k hk => hk.elim, fun k => .inl ⟨?_, rfl⟩, CntD.nil, by show (0 : Nat) ≤ 65536; omega⟩, fun k hk => ⟨?_, ?_⟩, ?_⟩, hF⟩
    · show va 0 (List.replicate 4 []) k ++ va 0 [] k = []
      rw [va_nil, va_nil0]; rfl
    · rcases hk with hk | hk | hk
      · exact (hH k hk).1
      · exact hk.elim
      · omega
    · intro q
      rcases q with q | ⟨v, hv, _⟩
      · simp at q
      · simp at hv
    · intro k q
      rcases q with q | ⟨v, hv, _⟩
      · simp at q
      · simp at hv
section
variable (w : World) {base : Nat} {av : List Nat} {vs : List Value} {sp n : Nat} {D : ByteArray → Option EnD} (hA : SpA w base av vs sp n D)
include hA
theorem splen_A : Calls Tryz.prog 17 #[.pointer (some ⟨sp, 0, none⟩)] w (fun e w' => e = .returned (.int .i64 (n : Int)) ∧ Fr [] w w') := by
  obtain ⟨S, ⟨H, Vb, t, T, hq, rfl, _, _⟩, _, _⟩ := hA
  exact splen_any w H [] sp t T hq.hB hq.hT
theorem spput_A (key : ByteArray) (hkz : key.size ≤ 9223372036854775807) (k : Int) (s : ByteArray) (Al : Option Addr) (cl : Nat) (l : List ByteArray) (hSl : SlR Rp.str (fun k => k < w.heap.size) w (.slice Al l.length cl) l) (Az : Option Addr) (cz : Nat) (z : List (ByteArray × Int)) (hSz : SlR scR (fun k => k < w.heap.size) w (.slice Az z.length cz) z) (Ah : Option Addr) (ch : Nat) (h : List (ByteArray × ByteArray)) (hSh : SlR fdR (fun k => k < w.heap.size) w (.slice Ah h.length ch) h)  (hll : l.length ≤ 1099511627776) (hlz : z.length ≤ 1099511627776) (hlh : h.length ≤ 1099511627776) (hz : ∀ x ∈ z, x.1.size ≤ maxLen) (at' : Int) :
    Calls Tryz.prog 20 #[.pointer (some ⟨sp, 0, none⟩), .string key, .agg #[.int .i64 k, .string s, .slice Al l.length cl, .slice Az z.length cz, .slice Ah h.length ch], .int .i64 at'] w (fun e w' => e = .returned (.int .i64 (putE n D ⟨key, k, s, l, z, h, at'⟩)) ∧ SpA w' base av vs sp (putN n D ⟨key, k, s, l, z, h, at'⟩) (putD n D ⟨key, k, s, l, z, h, at'⟩) ∧ FrP (outS base av vs) w w') := by
  have hb := hA.base
  obtain ⟨S, hY, h1, h2⟩ := hA
  exact (spput_any w S sp n D hY key hkz k s Al cl l hSl Az cz z hSz Ah ch h hSh hll hlz hlh hz at').mono fun e w' ⟨he, S', hY', hg, hf⟩ => ⟨he, SpY.out0 h1 hb h2 hY' hg hf⟩
theorem spput_ok (key : ByteArray) (hkz : key.size ≤ 9223372036854775807) (k : Int) (s : ByteArray) (Al : Option Addr) (cl : Nat) (l : List ByteArray) (hSl : SlR Rp.str (fun k => k < w.heap.size) w (.slice Al l.length cl) l) (Az : Option Addr) (cz : Nat) (z : List (ByteArray × Int)) (hSz : SlR scR (fun k => k < w.heap.size) w (.slice Az z.length cz) z) (Ah : Option Addr) (ch : Nat) (h : List (ByteArray × ByteArray)) (hSh : SlR fdR (fun k => k < w.heap.size) w (.slice Ah h.length ch) h)  (hll : l.length ≤ 1099511627776) (hlz : z.length ≤ 1099511627776) (hlh : h.length ≤ 1099511627776) (hz : ∀ x ∈ z, x.1.size ≤ maxLen) (at' : Int) (hok : okD ⟨key, k, s, l, z, h, at'⟩) (hn : D key ≠ none ∨ n < 65536) {n' : Nat} (hn' : (if D key = none then n + 1 else n) = n') :
    Calls Tryz.prog 20 #[.pointer (some ⟨sp, 0, none⟩), .string key, .agg #[.int .i64 k, .string s, .slice Al l.length cl, .slice Az z.length cz, .slice Ah h.length ch], .int .i64 at'] w (fun e w' => e = .returned (.int .i64 0) ∧ SpA w' base av vs sp n' (updD D key (some ⟨key, k, s, l, z, h, at'⟩)) ∧ FrP (outS base av vs) w w') :=
  (spput_A w hA key hkz k s Al cl l hSl Az cz z hSz Ah ch h hSh hll hlz hlh hz at').mono fun e w' ⟨he, h1, h2⟩ => by
    obtain ⟨e1, e2, e3⟩ := put_yes (n := n) (D := D) (x := ⟨key, k, s, l, z, h, at'⟩) (img_iff.2 hok) hn
    rw [e1] at he
    rw [e2, e3] at h1
    subst hn'
    exact ⟨he, h1, h2⟩
theorem spget_A (now dr role : Int) (Aa : Option Addr) (na ca : Nat) (key : ByteArray) (hkz : key.size ≤ 9223372036854775807) {x : EnD} (hD : D key = some x) (hs : seenD role now x.till) :
    Calls Tryz.prog 10 #[.pointer (some ⟨sp, 0, none⟩), .agg #[.int .i64 now, .int .u64 dr, .int .i64 role, .slice Aa na ca], .string key] w (fun e w' => ∃ Al cl Az cz Ah ch, e = .returned (.tuple #[.agg #[.int .i64 x.k, .string x.s, .slice Al x.l.length cl, .slice Az x.z.length cz, .slice Ah x.h.length ch], .bool true, .slice none 0 0]) ∧ SpA w' base av (.slice Al x.l.length cl :: .slice Az x.z.length cz :: .slice Ah x.h.length ch :: vs) sp n D ∧ FrP (outS base av vs) w w' ∧ OwR Rp.str NoZ w' w.heap.size 9 (.slice Al x.l.length cl) x.l ∧ OwR scR NoZ w' w.heap.size 107 (.slice Az x.z.length cz) x.z ∧ OwR fdR NoZ w' w.heap.size 110 (.slice Ah x.h.length ch) x.h ∧ Dis3 (.slice Al x.l.length cl) (.slice Az x.z.length cz) (.slice Ah x.h.length ch)) := by
  have hb := hA.base
  obtain ⟨S, hY, h1, h2⟩ := hA
  refine (spget_any w S sp n D hY now dr role Aa na ca key hkz).mono fun e w' ⟨y, Al, cl, Az, cz, Ah, ch, vt, S', m, he, hy, hY', hg, hP, hm, hwm, o1, o2, o3, hd, ht⟩ => ?_
  obtain ⟨e1, e2, e3, e4, e5⟩ := get_seen (role := role) (now := now) (n := n) hD hs
  rw [e1] at he
  rw [e2] at hy
  rw [e3] at ht
  rw [e4, e5] at hY'
  subst hy
  rcases ht with ⟨_, rfl⟩ | ⟨_, _, _, _, hc, _⟩
  · have ho := SpY.out (us := [.slice Al y.l.length cl, .slice Az y.z.length cz, .slice Ah y.h.length ch]) h1 hb h2 hY' hg hP hm fun v hv b hb => by
      simp only [List.mem_cons, List.not_mem_nil, or_false] at hv
      rcases hv with rfl | rfl | rfl
      · exact o1.lt b hb
      · exact o2.lt b hb
      · exact o3.lt b hb
    exact ⟨Al, cl, Az, cz, Ah, ch, he, ho.1, ho.2, o1.rebase hwm, o2.rebase hwm, o3.rebase hwm, hd⟩
  · cases hc
theorem spover_A (now dr : Int) (Aa : Option Addr) (na ca : Nat) (key : ByteArray) (hkz : key.size ≤ 9223372036854775807) {x : EnD} (hD : D key = some x) (hs : ¬ seenD 1 now x.till) {n' : Nat} (hn' : n - 1 = n') :
    Calls Tryz.prog 10 #[.pointer (some ⟨sp, 0, none⟩), .agg #[.int .i64 now, .int .u64 dr, .int .i64 1, .slice Aa na ca], .string key] w (fun e w' => ∃ b1 b2 Al cl Az cz Ah ch, e = .returned (.tuple #[.agg #[.int .i64 0, .string ⟨#[]⟩, .slice Al 0 cl, .slice Az 0 cz, .slice Ah 0 ch], .bool false, .slice (some ⟨b2, 0, none⟩) 1 1]) ∧ SpA w' base av vs sp n' (updD D key none) ∧ FrP (outS base av vs) w w' ∧ Blk w' b1 [.string ⟨#[68, 69, 76]⟩, .string key] 9 ∧ Blk w' b2 [.slice (some ⟨b1, 0, none⟩) 2 2] 25) := by
  have hb := hA.base
  obtain ⟨S, hY, h1, h2⟩ := hA
  refine (spget_any w S sp n D hY now dr 1 Aa na ca key hkz).mono fun e w' ⟨y, Al, cl, Az, cz, Ah, ch, vt, S', m, he, hy, hY', hg, hP, hm, hwm, o1, o2, o3, hd, ht⟩ => ?_
  obtain ⟨e1, e2, e3, e4, e5⟩ := get_over (role := 1) (now := now) (n := n) hD hs
  rw [e1] at he
  rw [e2] at hy
  rw [e3] at ht
  rw [e4, e5] at hY'
  subst hy
  have hN : goneN 1 n D key = n' := by unfold goneN delN; rw [if_pos rfl, if_neg (by rw [hD]; simp)]; exact hn'
  have hG : goneD 1 D key = updD D key none := if_pos rfl
  rw [hN, hG] at hY'
  have ho := SpY.out0 h1 hb h2 hY' hg hP
  rcases ht with ⟨hc, _⟩ | ⟨b1, b2, u, v, hc, rfl, hB1, hB2, _, _⟩
  · simp [goneT] at hc
  · obtain ⟨rfl, rfl⟩ : u = delB ∧ v = key := by simp [goneT] at hc; exact ⟨hc.1.symm, hc.2.symm⟩
    exact ⟨b1, b2, Al, cl, Az, cz, Ah, ch, he, ho.1, ho.2, hB1, hB2⟩
end
theorem awake_any (w : World)  : Calls Tryz.prog 7 #[] w (fun e w' => e = .returned (.bool true) ∧ Fr [] w w') := by
 have hP := FrP.refl (fun _ => False) w
 refine V.en 66 Tryz.func7 fun a h1 => ?_
 refine V.sr h1 [] 0 0 [] fun a h4 => ?_
 refine V.sg fun K5 k6 => ?_
 refine V.cl h4 (Go.Proofs.enters_of Tryz.func26 (by kernel_rfl) rfl) (spnew_A w) ?_
 rintro _ w10 ⟨sp7, rfl, hA8, hF9⟩
 refine ⟨_, rfl, fun a h11 => ?_⟩
 have hsw10 := hF9.size
 have hP_12 := hP.tr0 hF9
 refine V.re h11 [] 1 0 [(1, .pointer (some ⟨sp7, 0, none⟩))] fun a h13 => k6 _ _ ?_
 refine V.sg fun K14 k15 => ?_
 refine V.run h13 [] 2 1 0 [(10, .pointer (some ⟨sp7, 0, none⟩)), (11, .agg #[.int .i64 1, .string ⟨#[118]⟩, .slice none 0 0, .slice none 0 0, .slice none 0 0])] fun a h16 => ?_
 refine V.cl h16 (Go.Proofs.enters_of Tryz.func20 (by kernel_rfl) rfl) (spput_ok w10 hA8 ⟨#[107]⟩ (by first | omega | decide) 1 ⟨#[118]⟩ none 0 ([] : List ByteArray) (SlR.nil ..) none 0 ([] : List (ByteArray × Int)) (SlR.nil ..) none 0 ([] : List (ByteArray × ByteArray)) (SlR.nil ..) (by decide) (by decide) (by decide) (by simp) 5 (by refine ⟨by decide, by decide, ?_⟩; show okV 1 _ _ _ _; unfold okV; rw [if_pos rfl]; exact ⟨by decide, rfl, rfl, rfl⟩) (.inr (by decide)) (n' := 1) (rfl)) ?_
 rintro _ w19 ⟨rfl, hA17, hF18⟩
 refine ⟨_, rfl, fun a h20 => ?_⟩
 have hsw19 := hF18.size
 have hP_21 := hP_12.trP hF18 (fun k hk => .inr (by have := hk.1; omega))
 refine V.re h20 [] 1 0 [(2, .int .i64 0)] fun a h22 => k15 _ _ ?_
 refine V.sg fun K23 k24 => ?_
 refine V.run h22 [] 2 1 0 [(14, .pointer (some ⟨sp7, 0, none⟩)), (15, .agg #[.int .i64 4, .int .u64 0, .int .i64 1, .slice none 0 0])] fun a h25 => ?_
 refine V.cl h25 (Go.Proofs.enters_of Tryz.func10 (by kernel_rfl) rfl) (spget_A w19 hA17 4 0 1 none 0 0 ⟨#[107]⟩ (by first | omega | decide) (x := ⟨⟨#[107]⟩, 1, ⟨#[118]⟩, ([] : List ByteArray), ([] : List (ByteArray × Int)), ([] : List (ByteArray × ByteArray)), 5⟩) (updD_same ..) (by decide)) ?_
 rintro _ w38 ⟨A32, c33, A34, c35, A36, c37, rfl, hA26, hF27, hO28, hO29, hO30, hd31⟩
 refine ⟨_, rfl, fun a h39 => ?_⟩
 have hsw38 := hF27.size
 have hP_40 := hP_21.trP hF27 (fun k hk => .inr (by have := hk.1; omega))
 refine V.run h39 [] 4 13 13 [(17, .agg #[.int .i64 1, .string ⟨#[118]⟩, .slice A32 (([] : List ByteArray).length) c33, .slice A34 (([] : List (ByteArray × Int)).length) c35, .slice A36 (([] : List (ByteArray × ByteArray)).length) c37]), (18, .bool true), (19, .slice none 0 0)] fun a h45 => ?_
 refine V.go (V.mk [] trivial (by kernel_rfl) [.int .i64 0, .string ⟨#[]⟩, .slice none 0 0, .slice none 0 0, .slice none 0 0] 37 (fun b => .pointer (some ⟨b, 0, none⟩)) (by kernel_rfl) ?_)
 intro w42 b41 heb41 hB43 hF44 hsb41
 have hP_46 := hP_40.tr0 hF44
 have hA26_47 := hA26.alloc hF44 (b := b41) (by omega)
 refine V.pt h45 fun a h51 => ?_
 refine V.go (V.stn b41 0 (.agg #[.int .i64 1, .string ⟨#[118]⟩, .slice A32 (([] : List ByteArray).length) c33, .slice A34 (([] : List (ByteArray × Int)).length) c35, .slice A36 (([] : List (ByteArray × ByteArray)).length) c37]) [.int .i64 1, .string ⟨#[118]⟩, .slice A32 (([] : List ByteArray).length) c33, .slice A34 (([] : List (ByteArray × Int)).length) c35, .slice A36 (([] : List (ByteArray × ByteArray)).length) c37] h51.e h51.e rfl rfl (by kernel_rfl) hB43 (by simp) [.int .i64 1, .string ⟨#[118]⟩, .slice A32 (([] : List ByteArray).length) c33, .slice A34 (([] : List (ByteArray × Int)).length) c35, .slice A36 (([] : List (ByteArray × ByteArray)).length) c37] rfl ?_)
 intro w52 hB53 hF54 hsw52
 have hP_55 := hP_46.tr1 hF54 (by first | exact .inl (by assumption) | exact .inr (by omega) | exact .inl (.inl rfl))
 have hA26_56 := hA26_47.frl hF54 (by intro k hk; simp only [List.mem_singleton] at hk; subst hk; exact .inl (.inl (by simp)))
 refine V.re h51 [] 5 5 [(4, .bool true)] fun a h60 => k24 _ _ ?_
 refine V.sg fun K61 k62 => ?_
 refine V.run h60 [] 2 1 0 [(21, .pointer (some ⟨sp7, 0, none⟩)), (22, .agg #[.int .i64 5, .int .u64 0, .int .i64 1, .slice none 0 0])] fun a h63 => ?_
 refine V.cl h63 (Go.Proofs.enters_of Tryz.func10 (by kernel_rfl) rfl) (spover_A w52 hA26_56 5 0 none 0 0 ⟨#[107]⟩ (by decide) (x := ⟨⟨#[107]⟩, 1, ⟨#[118]⟩, ([] : List ByteArray), ([] : List (ByteArray × Int)), ([] : List (ByteArray × ByteArray)), 5⟩) (updD_same ..) (by decide) (n' := 0) rfl) ?_
 rintro _ w76 ⟨b68, b69, A70, c71, A72, c73, A74, c75, rfl, hA64, hF65, hB66, hB67⟩
 refine ⟨_, rfl, fun a h77 => ?_⟩
 have hsw76 := hF65.size
 have hP_78 := hP_55.trP hF65 (fun k hk => .inr (by have := hk.1; omega))
 have hB53_79 := hB53.frP hF65 (by exact fun hp => hp.2 (.inl (by simp)))
 have hlhB66 := hB66.lt
 have hlhB67 := hB67.lt
 refine V.run h77 [] 4 20 20 [(24, .agg #[.int .i64 0, .string ⟨#[]⟩, .slice A70 0 c71, .slice A72 0 c73, .slice A74 0 c75]), (25, .bool false), (26, .slice (some ⟨b69, 0, none⟩) 1 1)] fun a h84 => ?_
 refine V.go (V.mk [] trivial (by kernel_rfl) [.int .i64 0, .string ⟨#[]⟩, .slice none 0 0, .slice none 0 0, .slice none 0 0] 37 (fun b => .pointer (some ⟨b, 0, none⟩)) (by kernel_rfl) ?_)
 intro w81 b80 heb80 hB82 hF83 hsb80
 have hP_85 := hP_78.tr0 hF83
 have hB53_86 := hB53_79.fr0 hF83
 have hA64_87 := hA64.alloc hF83 (b := b80) (by omega)
 have hB66_88 := hB66.fr0 hF83
 have hB67_89 := hB67.fr0 hF83
 refine V.pt h84 fun a h90 => ?_
 refine V.go (V.stn b80 0 (.agg #[.int .i64 0, .string ⟨#[]⟩, .slice A70 0 c71, .slice A72 0 c73, .slice A74 0 c75]) [.int .i64 0, .string ⟨#[]⟩, .slice A70 0 c71, .slice A72 0 c73, .slice A74 0 c75] h90.e h90.e rfl rfl (by kernel_rfl) hB82 (by simp) [.int .i64 0, .string ⟨#[]⟩, .slice A70 0 c71, .slice A72 0 c73, .slice A74 0 c75] rfl ?_)
 intro w91 hB92 hF93 hsw91
 have hP_94 := hP_85.tr1 hF93 (by first | exact .inl (by assumption) | exact .inr (by omega) | exact .inl (.inl rfl))
 have hB53_95 := hB53_86.fr1 hF93 (by omega)
 have hA64_96 := hA64_87.frl hF93 (by intro k hk; simp only [List.mem_singleton] at hk; subst hk; exact .inl (.inl (by simp)))
 have hB66_97 := hB66_88.fr1 hF93 (by omega)
 have hB67_98 := hB67_89.fr1 hF93 (by omega)
 refine V.re h90 [] 1 0 [(7, .bool false), (8, .slice (some ⟨b69, 0, none⟩) 1 1)] fun a h99 => k62 _ _ ?_
 refine V.sg fun K100 k101 => ?_
 refine V.run h99 [(1, .q (.bool true) (V.t_same 0)), (5, .b hB53_95 1), (0, .q (.bool true) (V.t_ssame ⟨#[118]⟩)), (8, .q (.bool true) (V.t_same 1)), (3, .ix b69 0 1 1 .i64 0 1 rfl), (0, .b hB67_98 0), (1, .q (.bool true) (V.t_same 2)), (3, .ix b69 0 1 1 .i64 0 1 rfl), (0, .b hB67_98 0), (0, .ix b68 0 2 2 .i64 1 1 rfl), (0, .b hB66_97 1), (0, .q (.bool true) (V.t_ssame ⟨#[107]⟩))] 36 27 60 [(61, .bool true), (62, .pointer (some ⟨sp7, 0, none⟩))] fun a h102 => ?_
 refine V.clg h102 (Go.Proofs.enters_of Tryz.func17 (by kernel_rfl) rfl) (splen_A w91 hA64_96) ?_
 rintro _ w104 ⟨rfl, hF103⟩
 refine ⟨_, rfl, fun a h105 => ?_⟩
 have hsw104 := hF103.size
 have hP_106 := hP_94.tr0 hF103
 refine V.re h105 [(0, .q (.bool true) (V.t_same 0))] 64 65 [(0, .bool true)] fun a h112 => k101 _ _ ?_
 have h113 := h112.only [(0, .bool true)]
 refine V.ret ?_
 refine V.r1 h113 (.bool true) ?_
 exact ⟨rfl, hP_106.fr (fun k hk => hk.elim)⟩
end Go.Proofs.YtjkegckfncfoaaaGreat
end
section
namespace Go.Proofs
open Go.Shelf
def Tryz.lays190_ren : Go.Shelf.Ren := ⟨fun | 190 => 69 | 125 => 75 | 258 => 98 | 128 => 110 | 129 => 111 | 302 => 126 | 303 => 127 | 304 => 128 | 305 => 129 | 306 => 130 | 307 => 131 | 308 => 132 | 309 => 133 | 310 => 134 | 333 => 154 | 329 => 137 | 330 => 138 | 334 => 155 | 335 => 156 | 336 => 76 | 344 => 165 | n => n, fun | 31 => 25 | 9 => 9 | 3 => 3 | 46 => 127 | 0 => 0 | 51 => 154 | 53 => 23 | 4 => 4 | 183 => 147 | 182 => 146 | 131 => 151 | 5 => 5 | 218 => 173 | 222 => 177 | 228 => 188 | 229 => 189 | n => n, fun | n => n⟩
theorem Tryz.lays190 : Go.Proofs.Lays.n190 Tryz.prog Tryz.lays190_ren := {
  mixed := by kernel_rfl
  f125 := Tryz.func75.trans (congrArg some (by kernel_rfl))
  f128 := Tryz.func110.trans (congrArg some (by kernel_rfl))
  f129 := Tryz.func111.trans (congrArg some (by kernel_rfl))
  f190 := Tryz.func69.trans (congrArg some (by kernel_rfl))
  f258 := Tryz.func98.trans (congrArg some (by kernel_rfl))
  f302 := Tryz.func126.trans (congrArg some (by kernel_rfl))
  f303 := Tryz.func127.trans (congrArg some (by kernel_rfl))
  f304 := Tryz.func128.trans (congrArg some (by kernel_rfl))
  f305 := Tryz.func129.trans (congrArg some (by kernel_rfl))
  f306 := Tryz.func130.trans (congrArg some (by kernel_rfl))
  f307 := Tryz.func131.trans (congrArg some (by kernel_rfl))
  f308 := Tryz.func132.trans (congrArg some (by kernel_rfl))
  f309 := Tryz.func133.trans (congrArg some (by kernel_rfl))
  f310 := Tryz.func134.trans (congrArg some (by kernel_rfl))
  f329 := Tryz.func137.trans (congrArg some (by kernel_rfl))
  f330 := Tryz.func138.trans (congrArg some (by kernel_rfl))
  f333 := Tryz.func154.trans (congrArg some (by kernel_rfl))
  f334 := Tryz.func155.trans (congrArg some (by kernel_rfl))
  f335 := Tryz.func156.trans (congrArg some (by kernel_rfl))
  f336 := Tryz.func76.trans (congrArg some (by kernel_rfl))
  f344 := Tryz.func165.trans (congrArg some (by kernel_rfl))
  t0 := Tryz.underlying0
  a0 := Tryz.isAgg0
  z0 := Tryz.sizeOf0
  v0 := Tryz.zeroValue0
  t3 := Tryz.underlying3
  a3 := Tryz.isAgg3
  z3 := Tryz.sizeOf3
  v3 := Tryz.zeroValue3
  t4 := Tryz.underlying4
  a4 := Tryz.isAgg4
  z4 := Tryz.sizeOf4
  v4 := Tryz.zeroValue4
  t5 := Tryz.underlying5
  a5 := Tryz.isAgg5
  z5 := Tryz.sizeOf5
  v5 := Tryz.zeroValue5
  t9 := Tryz.underlying9
  a9 := Tryz.isAgg9
  z9 := Tryz.sizeOf9
  v9 := Tryz.zeroValue9
  t31 := Tryz.underlying25
  a31 := Tryz.isAgg25
  z31 := Tryz.sizeOf25
  v31 := Tryz.zeroValue25
  t46 := Tryz.underlying127
  a46 := Tryz.isAgg127
  z46 := Tryz.sizeOf127
  v46 := Tryz.zeroValue127
  t51 := Tryz.underlying154
  a51 := Tryz.isAgg154
  z51 := Tryz.sizeOf154
  v51 := Tryz.zeroValue154
  t53 := Tryz.underlying23
  a53 := Tryz.isAgg23
  z53 := Tryz.sizeOf23
  v53 := Tryz.zeroValue23
  t131 := Tryz.underlying151
  a131 := Tryz.isAgg151
  z131 := Tryz.sizeOf151
  v131 := Tryz.zeroValue151
  t182 := Tryz.underlying146
  a182 := Tryz.isAgg146
  z182 := Tryz.sizeOf146
  v182 := Tryz.zeroValue146
  t183 := Tryz.underlying147
  a183 := Tryz.isAgg147
  z183 := Tryz.sizeOf147
  v183 := Tryz.zeroValue147
  t218 := Tryz.underlying173
  a218 := Tryz.isAgg173
  z218 := Tryz.sizeOf173
  v218 := Tryz.zeroValue173
  t222 := Tryz.underlying177
  a222 := Tryz.isAgg177
  z222 := Tryz.sizeOf177
  v222 := Tryz.zeroValue177
  t228 := Tryz.underlying188
  a228 := Tryz.isAgg188
  z228 := Tryz.sizeOf188
  v228 := Tryz.zeroValue188
  t229 := Tryz.underlying189
  a229 := Tryz.isAgg189
  z229 := Tryz.sizeOf189
  v229 := Tryz.zeroValue189 }
open Go.Sort Go.RowKit in
theorem Tryz.slices_Sort_string (blk off cap : Nat) (ss : List (List UInt8)) (w : World) (hH : Holds encStr w blk off ss.toArray) (hblk : blk < w.heap.size) (hsz : ss.length < 4611686018427387904) :
    Calls Tryz.prog 69 #[.slice (some ⟨blk, off, none⟩) ss.length cap] w fun e w' =>
      e = .returned (.tuple #[]) ∧ ∃ n os, w' = grow (putRow encStr (Sort.ahead w n) blk off (ss.mergeSort fun x y => decide (x ≤ y)).toArray) os := Any.slices_Sort_string Tryz.lays190 blk off cap ss w hH hblk hsz
theorem Tryz.slices_Sort_string_none (p : Option Addr) (cap : Nat) (w : World) :
    Calls Tryz.prog 69 #[.slice p 0 cap] w fun e w' => e = .returned (.tuple #[]) ∧ w' = w := Any.slices_Sort_string_none Tryz.lays190 p cap w
def Tryz.laysSlF06_f42_ren : Go.Shelf.Ren := ⟨fun | 6 => 42 | 15 => 75 | 14 => 74 | 28 => 110 | 29 => 111 | 20 => 102 | 21 => 103 | 22 => 104 | 23 => 105 | 24 => 106 | 25 => 107 | 26 => 108 | 27 => 109 | 46 => 136 | 47 => 137 | 48 => 138 | 49 => 139 | 50 => 140 | 57 => 157 | n => n, fun | 22 => 22 | 24 => 39 | 25 => 95 | 3 => 3 | 39 => 127 | 0 => 0 | 53 => 154 | 55 => 23 | 4 => 4 | 46 => 147 | 45 => 146 | 50 => 151 | 5 => 5 | 9 => 9 | 66 => 173 | 70 => 177 | 76 => 188 | 77 => 189 | n => n, fun | n => n⟩
theorem Tryz.laysSlF06_f42 : Go.Proofs.SlLaysF0.n6 Tryz.prog Tryz.laysSlF06_f42_ren := {
  mixed := by kernel_rfl
  f6 := ⟨Tryz.f42.name, by decide, Tryz.func42.trans (congrArg some (by kernel_rfl))⟩
  f14 := ⟨Tryz.f74.name, by decide, Tryz.func74.trans (congrArg some (by kernel_rfl))⟩
  f15 := Tryz.func75.trans (congrArg some (by kernel_rfl))
  f20 := ⟨Tryz.f102.name, by decide, Tryz.func102.trans (congrArg some (by kernel_rfl))⟩
  f21 := ⟨Tryz.f103.name, by decide, Tryz.func103.trans (congrArg some (by kernel_rfl))⟩
  f22 := ⟨Tryz.f104.name, by decide, Tryz.func104.trans (congrArg some (by kernel_rfl))⟩
  f23 := ⟨Tryz.f105.name, by decide, Tryz.func105.trans (congrArg some (by kernel_rfl))⟩
  f24 := ⟨Tryz.f106.name, by decide, Tryz.func106.trans (congrArg some (by kernel_rfl))⟩
  f25 := ⟨Tryz.f107.name, by decide, Tryz.func107.trans (congrArg some (by kernel_rfl))⟩
  f26 := ⟨Tryz.f108.name, by decide, Tryz.func108.trans (congrArg some (by kernel_rfl))⟩
  f27 := ⟨Tryz.f109.name, by decide, Tryz.func109.trans (congrArg some (by kernel_rfl))⟩
  f28 := Tryz.func110.trans (congrArg some (by kernel_rfl))
  f29 := Tryz.func111.trans (congrArg some (by kernel_rfl))
  f46 := ⟨Tryz.f136.name, by decide, Tryz.func136.trans (congrArg some (by kernel_rfl))⟩
  f47 := Tryz.func137.trans (congrArg some (by kernel_rfl))
  f48 := Tryz.func138.trans (congrArg some (by kernel_rfl))
  f49 := ⟨Tryz.f139.name, by decide, Tryz.func139.trans (congrArg some (by kernel_rfl))⟩
  f50 := ⟨Tryz.f140.name, by decide, Tryz.func140.trans (congrArg some (by kernel_rfl))⟩
  f57 := ⟨Tryz.f157.name, by decide, Tryz.func157.trans (congrArg some (by kernel_rfl))⟩
  t0 := Tryz.underlying0
  a0 := Tryz.isAgg0
  z0 := Tryz.sizeOf0
  v0 := Tryz.zeroValue0
  t3 := Tryz.underlying3
  a3 := Tryz.isAgg3
  z3 := Tryz.sizeOf3
  v3 := Tryz.zeroValue3
  t4 := Tryz.underlying4
  a4 := Tryz.isAgg4
  z4 := Tryz.sizeOf4
  v4 := Tryz.zeroValue4
  t5 := Tryz.underlying5
  a5 := Tryz.isAgg5
  z5 := Tryz.sizeOf5
  v5 := Tryz.zeroValue5
  t9 := Tryz.underlying9
  a9 := Tryz.isAgg9
  z9 := Tryz.sizeOf9
  v9 := Tryz.zeroValue9
  t22 := Tryz.underlying22
  a22 := Tryz.isAgg22
  z22 := Tryz.sizeOf22
  v22 := Tryz.zeroValue22
  t25 := Tryz.underlying95
  a25 := Tryz.isAgg95
  z25 := Tryz.sizeOf95
  v25 := Tryz.zeroValue95
  t39 := Tryz.underlying127
  a39 := Tryz.isAgg127
  z39 := Tryz.sizeOf127
  v39 := Tryz.zeroValue127
  t45 := Tryz.underlying146
  a45 := Tryz.isAgg146
  z45 := Tryz.sizeOf146
  v45 := Tryz.zeroValue146
  t46 := Tryz.underlying147
  a46 := Tryz.isAgg147
  z46 := Tryz.sizeOf147
  v46 := Tryz.zeroValue147
  t50 := Tryz.underlying151
  a50 := Tryz.isAgg151
  z50 := Tryz.sizeOf151
  v50 := Tryz.zeroValue151
  t53 := Tryz.underlying154
  a53 := Tryz.isAgg154
  z53 := Tryz.sizeOf154
  v53 := Tryz.zeroValue154
  t55 := Tryz.underlying23
  a55 := Tryz.isAgg23
  z55 := Tryz.sizeOf23
  v55 := Tryz.zeroValue23
  t66 := Tryz.underlying173
  a66 := Tryz.isAgg173
  z66 := Tryz.sizeOf173
  v66 := Tryz.zeroValue173
  t70 := Tryz.underlying177
  a70 := Tryz.isAgg177
  z70 := Tryz.sizeOf177
  v70 := Tryz.zeroValue177
  t76 := Tryz.underlying188
  a76 := Tryz.isAgg188
  z76 := Tryz.sizeOf188
  v76 := Tryz.zeroValue188
  t77 := Tryz.underlying189
  a77 := Tryz.isAgg189
  z77 := Tryz.sizeOf189
  v77 := Tryz.zeroValue189 }
end Go.Proofs
end
section
namespace Go.Proofs.YtjkegckfncfoaaaGreat
open Go.V Go.Base
open Go.RowKit (Below)
attribute [local irreducible] Act.put Act.eval
set_option linter.unusedVariables false
set_option linter.unusedSimpArgs false
open Go.RowKit Go.Sort
section
variable {w : World} {base g c : Nat} {l : List ByteArray}
theorem holds_own (h : OwR Rp.str NoZ w base 9 (.slice (some ⟨g, 0, none⟩) l.length c) l) : Holds encStr w g 0 (l.map toL).toArray := by
  obtain ⟨cur, hB, hcl, hn, hnc, hcm, hg, htk⟩ := h.openS
  intro j hj
  have hj' : j < l.length := by simpa using hj
  refine ⟨?_, hB.frozen _⟩
  rw [Nat.zero_add, hB.cell]
  have h1 : (cur.take l.length)[j]? = (l.map Value.string)[j]? := by rw [htk]
  rw [List.getElem?_take_of_lt hj'] at h1
  rw [h1, List.getElem?_map, List.getElem?_eq_getElem hj', getElem!_pos _ j hj]
  simp
theorem put_own (h : OwR Rp.str NoZ w base 9 (.slice (some ⟨g, 0, none⟩) l.length c) l) (n : Nat) (d : List (List UInt8)) (hd : d.length = l.length) (os : Array Obj) (l' : List ByteArray) (m : Nat) (hm : m ≤ d.length) (hl' : l'.map toL = d.take m) :
    OwR Rp.str NoZ (grow (putRow encStr (Sort.ahead w n) g 0 d.toArray) os) base 9 (.slice (some ⟨g, 0, none⟩) l'.length c) l' ∧ Fr [g] w (grow (putRow encStr (Sort.ahead w n) g 0 d.toArray) os) := by
  obtain ⟨cur, hB, hcl, hn, hnc, hcm, hg, htk⟩ := h.openS
  have hlt := hB.lt
  have hlen' : l'.length = m := by
    have := congrArg List.length hl'
    rw [List.length_map, List.length_take] at this
    omega
  have hblk : (grow (putRow encStr (Sort.ahead w n) g 0 d.toArray) os).heap[g]? = some (.cells (putCells encStr 0 d.toArray cur.toArray) 9 (0, 0)) := by
    rw [heap_grow_old _ _ (by simp [putRow, mapBlock]; exact hlt)]
    simp only [putRow, mapBlock, Sort.ahead, Array.getElem?_modify, if_true]
    have : w.heap[g]? = some (.cells cur.toArray 9 (0, 0)) := hB
    rw [this]
    rfl
  refine ⟨OwR.mkS (cur := (putCells encStr 0 d.toArray cur.toArray).toList) (by unfold Blk; rw [hblk]) (by simp [putCells, hcl]) (by omega) hcm hg ?_, ?_⟩
  · apply List.ext_getElem?
    intro j
    rw [List.getElem?_take]
    split
    · rename_i hj
      have hjd : j < d.length := by omega
      have hjc : j < cur.length := by omega
      have hdj : d[j] = toL l'[j] := by
        have h3 : (d.take m)[j]? = (l'.map toL)[j]? := by rw [hl']
        rw [List.getElem?_take_of_lt (by omega), List.getElem?_map, List.getElem?_eq_getElem hjd, List.getElem?_eq_getElem hj] at h3
        injection h3
      have hd0 : d.toArray[j - 0]! = d[j] := by rw [Nat.sub_zero, getElem!_pos _ j (by simpa using hjd)]; simp
      simp only [putCells, Array.getElem?_toList, Array.getElem?_mapIdx, List.getElem?_toArray, List.getElem?_map, List.getElem?_eq_getElem hj, List.getElem?_eq_getElem hjc, Option.map_some]
      rw [if_pos ⟨Nat.zero_le _, by simpa using hjd⟩, hd0, hdj]
    · rename_i hj
      rw [List.getElem?_eq_none (by simp; omega)]
  · refine ⟨rfl, rfl, rfl, ?_, fun k hk hne => ?_⟩
    · simp [putRow, mapBlock, Sort.ahead]
    · rw [heap_grow_old _ _ (by simp [putRow, mapBlock, Sort.ahead]; exact hk)]
      simp only [putRow, mapBlock, Sort.ahead, Array.getElem?_modify]
      rw [if_neg (fun e => hne (by simp [e]))]
theorem sort_any (h : OwR Rp.str NoZ w base 9 (.slice (some ⟨g, 0, none⟩) l.length c) l) (hl : l.length ≤ 1099511627776) :
    Calls Tryz.prog 69 #[.slice (some ⟨g, 0, none⟩) l.length c] w (fun e w' => e = .returned (.tuple #[]) ∧ OwR Rp.str NoZ w' base 9 (.slice (some ⟨g, 0, none⟩) l.length c) ((sortS l).map ofL) ∧ Fr [g] w w') := by
  obtain ⟨cur, hB, _⟩ := h.openS
  have hc := Tryz.slices_Sort_string g 0 c (l.map toL) w (holds_own h) hB.lt (by rw [List.length_map]; omega)
  rw [List.length_map] at hc
  refine hc.mono ?_
  rintro e w' ⟨rfl, n, os, rfl⟩
  have hq := put_own h n (sortS l) (sort_len l) os ((sortS l).map ofL) (sortS l).length (Nat.le_refl _) (by rw [List.map_map, List.take_of_length_le (Nat.le_refl _)]; simp [Function.comp_def])
  rw [List.length_map, sort_len] at hq
  exact ⟨rfl, hq⟩
theorem sort_none (p : Option Addr) (c n : Nat) (hn : n = 0) : Calls Tryz.prog 69 #[.slice p n c] w (fun e w' => e = .returned (.tuple #[]) ∧ Fr [] w w') := by
  subst hn
  refine (Tryz.slices_Sort_string_none p c w).mono ?_
  rintro e w' ⟨rfl, rfl⟩
  exact ⟨rfl, Fr.refl _ _⟩
end
end Go.Proofs.YtjkegckfncfoaaaGreat
end
section
namespace Go.V
open Go.Plan (wpL)
open Go.RowKit Go.Base
set_option linter.unusedVariables false
set_option linter.unusedSimpArgs false
section
variable {P : Program} {ro : Option Nat} {Q : Exit → Act → World → Prop} {a : Act} {w : World} {ops : Array Oper} {rest : List Oper} {d : Option Tmp} {ty : TypeId} {pos : String} {aft : Array Edge} {g : Option (Nat × Bool)}
/-- append(nothing, make(n)...). -/
theorem appZ {α : Type} {R : Rp α} {t tn e : TypeId} {s x : Operand} {z : Value} {bytes n : Nat} {k kn : IntKind} (hs : a.eval s = .slice none 0 0) (hx : a.eval x = .int k (n : Int)) (ht : P.underlying t = some (.slice e)) (htn : P.underlying tn = some (.int kn))
    (hinfo : (P.info? e).map (fun i => (i.zero, i.size, i.bytes)) = some (some z, R.sz, bytes)) (hzs : z.cells.size = R.sz) (hsz : 0 < R.sz) (h0 : 0 < n) (hb0 : 0 < bytes) (hb : n * bytes ≤ 140737488355328)
    (kk : ∀ g' c w1, OwR R NoZ w1 w.heap.size e (.slice (some ⟨g', 0, none⟩) 0 c) [] → Fr [] w w1 → L ro P ops Q rest (a.put d (.slice (some ⟨g', 0, none⟩) n c)) w1) : St ro P ops Q rest ⟨d, .call ⟨.builtin .append, #[s, x], #[t, tn]⟩, ty, pos, aft, g⟩ a w := by
  obtain ⟨i, hi, hzz⟩ := Option.map_eq_some_iff.1 hinfo
  simp only [Prod.mk.injEq] at hzz
  obtain ⟨hz0, hz1, hz2⟩ := hzz
  have hle : n ≤ 140737488355328 := Nat.le_trans (Nat.le_mul_of_pos_right _ hb0) hb
  have hr := Lib.run_append_nil_zeros (P := P) w t tn ty e i z k kn ht htn hi hz0 n h0 (by omega) (by omega) (by rw [hz2]; omega)
  have hcap := grownCap_ge w n 0 e
  have hmax := grownCap_le_maxLen w n 0 e (by unfold maxLen; omega)
  generalize grownCap w n 0 e = c at hr hcap hmax
  generalize hZ : Builtin.zeroCells z.cells n ++ Builtin.zeroCells z.cells (c - n) = Z at hr
  have hZs : Z.size = c * R.sz := by
    rw [← hZ]; simp only [Array.size_append, size_zeroCells, hzs]; rw [← Nat.add_mul]; congr 1; omega
  have hrun : (execOp a.eval ⟨d, .call ⟨.builtin .append, #[s, x], #[t, tn]⟩, ty, pos, aft, g⟩).run P w = .ok (.value (.slice (some ⟨w.heap.size, 0, none⟩) n c)) (w.drew.alloc (.cells Z e)) := by
    simp only [execOp, resolve, invoke, builtin, Sem.run_bind, Sem.run_pure, Result.andThen_ok, List.map_toArray, List.map_cons, List.map_nil, hs, hx, hr]
  have hf : Fr [] w (w.drew.alloc (.cells Z e)) := (Fr.drew [] w).new (Fr.alloc [] _ _)
  refine St.val hrun (kk _ c _ ⟨[], ⟨by simp, .inr ⟨w.heap.size, c, Z, rfl, Nat.le_refl _, ?_, Nat.zero_le _, hmax, hZs, by simp⟩⟩, rfl, fun b hb hz => hz⟩ hf)
  exact World.alloc_heap_new w.drew _
end
end Go.V
end
section
namespace Go.V
open Go.Plan (FW)
open Go.RowKit Go.Base
set_option linter.unusedVariables false
set_option linter.unusedSimpArgs false
/-- One round, by a call of yield. -/
def Yld (P : Program) (l : Nat) (args : Array Value) (W : World) (R : Ending → World → Prop) : Prop := YieldAt (FW none) 0 P l args W R
section
variable {P : Program} {Q : Exit → Act → World → Prop} {a : Act} {w : World} {ops : Array Oper} {rest : List Oper} {d : Option Tmp} {ty : TypeId} {pos : String} {aft : Array Edge} {g : Option (Nat × Bool)}
/-- A call of yield. -/
theorem yield {f : Operand} {args : Array Operand} {ts : Array TypeId} (l : Nat) (av : Array Value) (hf : a.eval f = .func (.yield l) #[] #[]) (ha : args.map a.eval = av) {R : Ending → World → Prop} (hc : Yld P l av w R)
    (k : ∀ e w1, R e w1 → ∃ v, e = .returned v ∧ L none P ops Q rest (a.put d v) w1) : St none P ops Q rest ⟨d, .call ⟨.value f, args, ts⟩, ty, pos, aft, g⟩ a w := by
  obtain ⟨fn, tmps, assign, body, hy, hR⟩ := hc
  unfold St
  have hr : (execOp a.eval ⟨d, .call ⟨.value f, args, ts⟩, ty, pos, aft, g⟩).run P w = .ok (.round l fn tmps assign body) w := by
    simp only [execOp, resolve, hf, ha, Deferred.ofValue, Sem.run_bind, Sem.run_pure, Result.andThen_ok, invoke, Array.empty_append, Array.append_empty, hy]
  rw [hr]
  refine ⟨(fun h => by cases h), hR.mono fun e w1 h => ?_⟩
  obtain ⟨v, rfl, hk⟩ := k e w1 h
  exact hk
end
/-- Blocks that lie as they lay. -/
def Kept (l : List Nat) (w w' : World) : Prop := w.heap.size ≤ w'.heap.size ∧ ∀ k ∈ l, w'.heap[k]? = w.heap[k]?
theorem Kept.fr {l l' : List Nat} {w w1 w2 : World} (h : Kept l w w1) (f : Fr l' w1 w2) (hl : ∀ k ∈ l, k < w1.heap.size ∧ k ∉ l') : Kept l w w2 :=
  ⟨Nat.le_trans h.1 f.size, fun k hk => (f.block k (hl k hk).1 (hl k hk).2).trans (h.2 k hk)⟩
section
variable {P : Program} {Q : Exit → Act → World → Prop} {a : Act} {w : World}
theorem putObj_fr {W : World} {l : Nat} {o o' : Obj} (h : W.heap[l]? = some o) : Fr [l] W (W.putObj l o') :=
  ⟨rfl, rfl, rfl, by simp [World.putObj], fun k hk hn => World.putObj_heap_other (by simpa using hn)⟩
theorem foldl_size {l : Array (Nat × Value)} : ∀ (t : Array Value), True → (l.foldl (fun t (p, v) => t.setIfInBounds p v) t).size = t.size := by
  intro t _
  rw [← Array.foldl_toList]
  generalize l.toList = m
  induction m generalizing t with
  | nil => rfl
  | cons x m ih => rw [List.foldl_cons, ih]; simp
end
/-- What a function that holds such a loop must come to. -/
def mPost (P : Program) (fn : Func) (R : Ending → World → Prop) : Exit → Act → World → Prop
  | .normal, a, w | .ret, a, w => LeavesInM (FW none) 0 P fn a.tmps R a.defers .returning w
  | _, _, _ => False
section
variable {P : Program} {fn : Func} {R : Ending → World → Prop} {a : Act} {w : World} {n : Nat}
theorem enterM {f : FuncId} {c : Code} {args : Array Value} (N : Nat) (hf : P.funcs[f]? = some fn) (hb : fn.body = some c) (hn : args.size + (fn.ntmps - args.size) = N)
    (h : ∀ a, Sz N a → (∀ j v, args[j]? = some v → a.eval (.tmp j) = v) → Wp none P c (mPost P fn R) a w) : Calls P f args w R := by
  refine callsIn_wide.1 (callsIn_of_wp_marks (F := Fence.wide) (n := 0) hf hb trivial ?_)
  have hw := h { tmps := args ++ Array.replicate (fn.ntmps - args.size) undef, defers := [] } ⟨by simp only [Array.size_append, Array.size_replicate]; exact hn, rfl⟩ (by
    intro j v hj
    have hlt : j < args.size := (Array.getElem?_eq_some_iff.1 hj).1
    simp only [Act.eval, Array.getD_eq_getD_getElem?]
    rw [Array.getElem?_append_left hlt, hj]
    rfl)
  unfold Wp at hw
  refine wpIn_mono hw fun e a' w' q => ?_
  cases e <;> first | exact q | exact q.elim
end
/-- The block for the rounds' deferred calls: there are none. -/
def Df (w : World) (D : Nat) : Prop := w.heap[D]? = some (.deferred (some []))
section
variable {w w' : World} {D N : Nat} {a a1 : Act}
theorem Df.fr (h : Df w D) {l : List Nat} (f : Fr l w w') (hl : D ∉ l) : Df w' D := (f.block D (Array.getElem?_eq_some_iff.1 h).1 hl).trans h
theorem Kept.refl (l : List Nat) (w : World) : Kept l w w := ⟨Nat.le_refl _, fun _ _ => rfl⟩
theorem par_tm {t : Nat} {u : Value} (h : a1.tmps = a.tmps) (hu : a.eval (.tmp t) = u) : a1.eval (.tmp t) = u := by rw [← hu]; simp [Act.eval, h]
end
section
variable {P : Program} {fn : Func} {R : Ending → World → Prop} {a : Act} {w : World} {n D : Nat}
theorem retM (hz : Sd n [{ target := .collected D, args := #[] }] a) (hD : Df w D) (h : ∀ w', Fr [D] w w' → ∃ v, (results fn a.tmps).run P w' = .ok v w' ∧ R (.returned v) w') : mPost P fn R .ret a w := by
  show LeavesInM (FW none) 0 P fn a.tmps R a.defers .returning w
  rw [hz.defers]
  obtain ⟨v, h1, h2⟩ := h _ (putObj_fr hD)
  exact ⟨by simp, .inl ⟨_, _, rfl, run_takeDeferred hD, v, h1, h2⟩⟩
theorem res1 {t : Tmp} (hf : fn.results = #[.tmp t]) {v : Value} (hv : a.eval (.tmp t) = v) : (results fn a.tmps).run P w = .ok v w := (results_tmp hf _ _ _).trans (by rw [← hv]; rfl)
end
end Go.V
end
section
namespace Go.V
open Go.Plan (FW)
open Go.RowKit Go.Base
set_option linter.unusedVariables false
set_option linter.unusedSimpArgs false
/-- Blocks that lie as they lay. -/
def KeptP (K : Nat → Prop) (w w' : World) : Prop := w.heap.size ≤ w'.heap.size ∧ ∀ k, k < w.heap.size → K k → w'.heap[k]? = w.heap[k]?
theorem KeptP.refl (K : Nat → Prop) (w : World) : KeptP K w w := ⟨Nat.le_refl _, fun _ _ _ => rfl⟩
theorem KeptP.fr {K : Nat → Prop} {l : List Nat} {w w1 w2 : World} (h : KeptP K w w1) (f : Fr l w1 w2) (hl : ∀ k ∈ l, ¬ K k) : KeptP K w w2 :=
  ⟨Nat.le_trans h.1 f.size, fun k hk hK => (f.block k (Nat.lt_of_lt_of_le hk h.1) fun hm => hl k hm hK).trans (h.2 k hk hK)⟩
theorem KeptP.frP {K P : Nat → Prop} {w w1 w2 : World} (h : KeptP K w w1) (f : FrP P w1 w2) (hl : ∀ k, P k → ¬ K k) : KeptP K w w2 :=
  ⟨Nat.le_trans h.1 f.size, fun k hk hK => (f.block k (Nat.lt_of_lt_of_le hk h.1) fun hm => hl k hm hK).trans (h.2 k hk hK)⟩
theorem SlR.kept {α : Type} {R : Rp α} {Z K : Nat → Prop} {w w' : World} {v : Value} {xs : List α} (h : SlR R Z w v xs) (f : KeptP K w w') (hz : ∀ k, Z k → K k) : SlR R Z w' v xs :=
  h.mono (fun b hb hZ => ⟨hZ, f.2 b hb (hz b hZ)⟩) f.1
/-- A call of a function's value. -/
def CallV (P : Program) (fv : Value) (args : Array Value) (w : World) (R : Ending → World → Prop) : Prop :=
  (∃ l, fv = .func (.yield l) #[] #[] ∧ Yld P l args w R) ∨ (∃ f cap, fv = .func (.func f) #[] cap ∧ (∀ args w, (callFunc f args).run P w = .ok (.enter f args) w) ∧ Calls P f (args ++ cap) w R)
section
variable {P : Program} {Q : Exit → Act → World → Prop} {a : Act} {w : World} {ops : Array Oper} {rest : List Oper} {d : Option Tmp} {ty : TypeId} {pos : String} {aft : Array Edge} {g : Option (Nat × Bool)}
theorem callV {f : Operand} {args : Array Operand} {ts : Array TypeId} (fv : Value) (av : Array Value) (hf : a.eval f = fv) (ha : args.map a.eval = av) {R : Ending → World → Prop} (hc : CallV P fv av w R)
    (k : ∀ e w1, R e w1 → ∃ v, e = .returned v ∧ L none P ops Q rest (a.put d v) w1) : St none P ops Q rest ⟨d, .call ⟨.value f, args, ts⟩, ty, pos, aft, g⟩ a w := by
  rcases hc with ⟨l, rfl, hy⟩ | ⟨fn, cap, rfl, he, hc⟩
  · exact yield l av hf ha hy k
  · exact call fn cap av hf ha he hc k
end
section
variable {P : Program} {Q : Exit → Act → World → Prop} {a : Act} {w : World}
end
section
variable {P : Program} {fn : Func} {R : Ending → World → Prop} {a : Act} {w : World} {n : Nat}
end
theorem Yld.mono {P : Program} {l : Nat} {args : Array Value} {W : World} {R R' : Ending → World → Prop} (h : Yld P l args W R) (hr : ∀ e w, R e w → R' e w) : Yld P l args W R' := by
  obtain ⟨fn, tmps, assign, body, hy, hR⟩ := h
  exact ⟨fn, tmps, assign, body, hy, hR.mono hr⟩
section
variable {a a1 : Act} {N p q t : Nat} {v u x : Value}
theorem par2_snd (hz : Sz N a) (hq : decide (q < N) = true) (h : a1.tmps = (a.tmps.setIfInBounds p v).setIfInBounds q u) : a1.eval (.tmp q) = u := by
  have : q < a.tmps.size := by rw [hz.size]; exact of_decide_eq_true hq
  simp [Act.eval, h, this]
theorem par2_fst (hz : Sz N a) (hp : decide (p < N) = true) (hne : Nat.beq q p = false) (h : a1.tmps = (a.tmps.setIfInBounds p v).setIfInBounds q u) : a1.eval (.tmp p) = v := by
  have : p < a.tmps.size := by rw [hz.size]; exact of_decide_eq_true hp
  have hne' : q ≠ p := Nat.ne_of_beq_eq_false hne
  simp only [Act.eval, Array.getD_eq_getD_getElem?, h]
  rw [Array.getElem?_setIfInBounds_ne hne']
  simp [this]
theorem par2_other (h : a1.tmps = (a.tmps.setIfInBounds p v).setIfInBounds q u) (h1 : Nat.beq p t = false) (h2 : Nat.beq q t = false) (hx : a.eval (.tmp t) = x) : a1.eval (.tmp t) = x := by
  have h1' : p ≠ t := Nat.ne_of_beq_eq_false h1
  have h2' : q ≠ t := Nat.ne_of_beq_eq_false h2
  rw [← hx]
  simp [Act.eval, h, Array.getElem?_setIfInBounds_ne h1', Array.getElem?_setIfInBounds_ne h2']
end
end Go.V
end
section
namespace Go.Proofs.YtjkegckfncfoaaaGreat
open Go.V Go.Base
open Go.RowKit (Below)
attribute [local irreducible] Act.put Act.eval
set_option linter.unusedVariables false
set_option linter.unusedSimpArgs false
set_option maxHeartbeats 4000000
set_option maxRecDepth 20000
theorem flat_take {β : Type} {l : List (List β)} {i : Nat} (h : i < l.length) : (l.take (i + 1)).flatten = (l.take i).flatten ++ l.getD i [] := by
  rw [List.take_add_one, List.getElem?_eq_getElem h, List.flatten_append, List.getD_eq_getElem?_getD, List.getElem?_eq_getElem h]; simp
theorem flat_take_le {β : Type} (l : List (List β)) (i : Nat) : (l.take i).flatten.length ≤ l.flatten.length := by
  have h : (l.take i).flatten.length + (l.drop i).flatten.length = l.flatten.length := by rw [← List.length_append, ← List.flatten_append, List.take_append_drop]
  omega
theorem _root_.Go.V.SlR.cap {α : Type} {R : Rp α} {Z : Nat → Prop} {w : World} {A : Option Addr} {n c : Nat} {xs : List α} (h : SlR R Z w (.slice A n c) xs) : xs.length ≤ c := by
  obtain ⟨A', c', e, h1, _⟩ := h
  injection e with e1 e2 e3
  omega
theorem grow_any (w : World) (n : Nat) (hn : n ≤ 1099511627776) : Calls Tryz.prog 135 #[.slice none 0 0, .int .i64 (n : Int)] w (fun e w' => ∃ A c, e = .returned (.slice A 0 c) ∧ OwR itI NoZ w' w.heap.size 117 (.slice A 0 c) [] ∧ Fr [] w w') := by
 have hF := Fr.refl [] w
 refine V.en 27 Tryz.func135 fun a h1 => ?_
 refine V.sr h1 [] 4 4 [] fun a h4 => ?_
 refine V.seq fun K5 k6 => ?_
 refine V.sr h4 [] 5 5 [(6, .bool (decide ((n : Int) < 0)))] fun a h9 => ?_
 refine V.cp h9 ((n : Int) < 0) (fun ht10 => ?_) (fun ht10 => ?_)
 · exact absurd ht10 (by omega)
 ·
  refine V.skip ?_
  refine V.then_n (k6 _ _ ?_)
  refine V.seq fun K11 k12 => ?_
  refine V.sr h9 [(5, .i (0 - 0)), (0, .i ((n : Int) - (0 - 0)))] 8 14 [(1, .int .i64 ((n : Int) - (0 - 0)))] fun a h15 => ?_
  refine V.sr h15 [] 15 15 [(16, .bool (decide (((n : Int) - (0 - 0)) > 0)))] fun a h18 => ?_
  refine V.cp h18 (((n : Int) - (0 - 0)) > 0) (fun ht19 => ?_) (fun ht19 => ?_)
  ·
   refine V.rg ?_
   refine V.run h18 [] 5 17 19 [(20, .slice none 0 0), (21, .int .i64 ((n : Int) - (0 - 0)))] fun a h25 => ?_
   refine V.go (V.appZ (R := itI) (kn := .i64) (n := n) (h25.e (v := (.slice none 0 0))) ((h25.e (v := (.int .i64 ((n : Int) - (0 - 0))))).trans (V.int_eq (by omega))) (by kernel_rfl) (by kernel_rfl) info117 (by kernel_rfl) (by decide) (by omega) (by decide) (by omega) ?_)
   intro g20 c21 w22 hO23 hF24
   have hsw22 := hF24.size
   have hF_26 := hF.new hF24
   refine V.pt h25 fun a h27 => ?_
   refine V.run h27 [] 2 23 23 [(24, .int .i64 0)] fun a h28 => ?_
   refine V.go (V.slc (e := 117) (sz := 7) g20 0 n c21 0 0 c21 (h28.e (v := (.slice (some ⟨g20, 0, none⟩) n c21))) rfl ⟨_, ((h28.e (v := (.int .i64 0)))).trans (V.int_eq (by omega))⟩ rfl (by omega) (by omega) (by omega) (by kernel_rfl) (by kernel_rfl) ?_)
   intro ad29 had30 hae31
   obtain rfl := hae31 rfl
   refine V.pt h28 fun a h32 => ?_
   refine V.re h32 [] 1 0 [(0, .slice (some ⟨g20, 0, none⟩) (0 - 0) (c21 - 0))] fun a h33 => k12 _ _ ?_
   refine V.sr h33 [] 26 26 [(4, .slice (some ⟨g20, 0, none⟩) (0 - 0) (c21 - 0))] fun a h36 => ?_
   refine V.ret ?_
   refine V.r1 h36 (.slice (some ⟨g20, 0, none⟩) (0 - 0) (c21 - 0)) ?_
   exact ⟨_, _, rfl, hO23, hF_26⟩
  ·
   refine V.skip ?_
   refine V.then_n (k12 _ _ ?_)
   refine V.sr h18 [] 26 26 [(4, .slice none 0 0)] fun a h39 => ?_
   refine V.ret ?_
   refine V.r1 h39 (.slice none 0 0) ?_
   exact ⟨_, _, rfl, OwR.nil itI NoZ _ w.heap.size 117, hF⟩
theorem concat_nil (w : World)  : Calls Tryz.prog 101 #[.slice none 0 0] w (fun e w' => ∃ A c, e = .returned (.slice A 0 c) ∧ OwR itI NoZ w' w.heap.size 117 (.slice A 0 c) [] ∧ Fr [] w w') := by
 have hF := Fr.refl [] w
 refine V.en 36 Tryz.func101 fun a h1 => ?_
 refine V.sr h1 [] 2 2 [] fun a h4 => ?_
 refine V.sr h4 [] 1 0 [(3, .int .i64 0)] fun a h7 => ?_
 refine V.seq fun K8 k9 => ?_
 refine V.sr h7 [] 1 0 [(9, .slice none 0 0), (10, .int .i64 0), (11, .int .i64 0)] fun a h12 => ?_
 refine V.block ?_
 refine V.loopR 2 ?_
 refine V.rnd ?_
 refine V.sr h12 [] 1 0 [(12, .bool false)] fun a h15 => ?_
 refine V.seq fun K16 k17 => ?_
 refine V.cf h15 ?_
 refine V.exit (V.then_e (V.then_e (V.blk_hit ?_)))
 refine V.then_n (k9 _ _ ?_)
 refine V.sg fun K18 k19 => ?_
 refine V.run h15 [] 1 1 0 [(23, .int .i64 0)] fun a h20 => ?_
 refine V.cl h20 (Go.Proofs.enters_of Tryz.func135 (by kernel_rfl) rfl) (grow_any w 0 (by omega)) ?_
 rintro _ w25 ⟨A21, c22, rfl, hO23, hF24⟩
 refine ⟨_, rfl, fun a h26 => ?_⟩
 have hsw25 := hF24.size
 have hF_27 := hF.new hF24
 have hO23q := hO23.rebase (base' := w.heap.size) (by omega)
 refine V.re h26 [] 1 0 [(6, .slice A21 0 c22)] fun a h28 => k19 _ _ ?_
 refine V.seq fun K29 k30 => ?_
 refine V.sr h28 [] 1 0 [(25, .slice none 0 0), (26, .int .i64 0), (27, .int .i64 0)] fun a h33 => ?_
 refine V.block ?_
 refine V.loopR 2 ?_
 refine V.rnd ?_
 refine V.sr h33 [] 1 0 [(28, .bool false)] fun a h36 => ?_
 refine V.seq fun K37 k38 => ?_
 refine V.cf h36 ?_
 refine V.exit (V.then_e (V.then_e (V.blk_hit ?_)))
 refine V.then_n (k30 _ _ ?_)
 refine V.sr h36 [] 35 35 [(2, .slice A21 0 c22)] fun a h41 => ?_
 refine V.ret ?_
 refine V.r1 h41 (.slice A21 0 c22) ?_
 exact ⟨_, _, rfl, hO23q, hF_27⟩
theorem concat_row (w : World) (H : Nat → Prop) (av : List Nat) (g : Nat) (vs vsB : List Value) (xs xsB : List (List (ByteArray × EntV))) (hR : Row idV w g vs 118) (hl : vs.length = xs.length) (hK : Bks itI w 117 H av (vs ++ vsB) (xs ++ xsB)) (hHb : ∀ k, H k → k < w.heap.size) (hx : xs.length ≤ 4398046511104) (hf : xs.flatten.length ≤ 1099511627776) : Calls Tryz.prog 101 #[.slice (some ⟨g, 0, none⟩) xs.length xs.length] w (fun e w' => ∃ A c, e = .returned (.slice A xs.flatten.length c) ∧ OwR itI NoZ w' w.heap.size 117 (.slice A xs.flatten.length c) xs.flatten ∧ Fr [] w w') := by
 have hF := Fr.refl [] w
 have hltr := hR.lt
 refine V.en 36 Tryz.func101 fun a h1 => ?_
 refine V.sr h1 [] 2 2 [] fun a h4 => ?_
 refine V.sr h4 [] 1 0 [(3, .int .i64 0)] fun a h7 => ?_
 refine V.seq fun K8 k9 => ?_
 refine V.sr h7 [] 1 0 [(9, .slice (some ⟨g, 0, none⟩) xs.length xs.length), (10, .int .i64 ((xs.length : Nat) : Int)), (11, .int .i64 0)] fun a h12 => ?_
 refine V.block ?_
 refine V.loop1 (fun (i : Nat) a_ w_ => En 36 [] a_ [(0, .slice (some ⟨g, 0, none⟩) xs.length xs.length), (3, .int .i64 (((xs.take i).flatten.length : Nat) : Int)), (9, .slice (some ⟨g, 0, none⟩) xs.length xs.length), (10, .int .i64 ((xs.length : Nat) : Int)), (11, .int .i64 (i : Int))] ∧ Fr [] w w_ ∧ Row idV w_ g vs 118 ∧ Bks itI w_ 117 H (av) (vs ++ vsB) (xs ++ xsB) ∧ (i ≤ xs.length)) (fun (i : Nat) => xs.length - i) 0 ?_ ?_
 ·
  refine ⟨((h12.eq 3 (v := (.int .i64 0)) (u := (.int .i64 (((xs.take 0).flatten.length : Nat) : Int))) (V.int_eq (by simp))).eq 11 (v := (.int .i64 0)) (u := (.int .i64 (0 : Int))) (V.int_eq (by omega))).only _, hF, hR, hK, (by omega)⟩
 ·
  rintro i a13 w14 ⟨h15, hF_16, hR_17, hK_18, hi⟩
  have hfs19 := hF_16.size
  have hlt20 := hR_17.lt
  have hft := flat_take_le xs (i + 1)
  have hft0 := flat_take_le xs i
  have hbq := flat_getD xs i
  refine V.sr h15 [] 1 0 [(12, .bool (decide ((i : Int) < ((xs.length : Nat) : Int))))] fun a h23 => ?_
  refine V.seq fun K24 k25 => ?_
  refine V.cp h23 ((i : Int) < ((xs.length : Nat) : Int)) (fun ht26 => ?_) (fun ht26 => ?_)
  ·
   refine V.skip ?_
   refine V.then_n (k25 _ _ ?_)
   refine V.seq fun K27 k28 => ?_
   refine V.block ?_
   obtain ⟨A31, c32, hv33⟩ := hK_18.getA hl (i := i) (by omega) nilS
   have hS34 := hK_18.slA hl (i := i) (by omega) hv33
   refine V.sr h23 [(0, .ix g 0 xs.length xs.length .i64 (i : Int) 1 rfl), (0, .l ⟨g, 0 + (i : Int).toNat * 1, none⟩ (.slice A31 ((xs.getD i []).length) c32) ((hR_17.at i nilS (by omega)).trans (congrArg some hv33)))] 13 14 [(5, .slice A31 ((xs.getD i []).length) c32)] fun a h35 => ?_
   refine V.sr h35 [(3, .i ((((xs.take i).flatten.length : Nat) : Int) + (((xs.getD i []).length : Nat) : Int)))] 15 18 [(3, .int .i64 ((((xs.take i).flatten.length : Nat) : Int) + (((xs.getD i []).length : Nat) : Int)))] fun a h38 => ?_
   refine V.seq fun K39 k40 => ?_
   have htk : (xs.take (i + 1)).flatten = (xs.take i).flatten ++ xs.getD i [] := flat_take (by omega)
   have hln : ((xs.take (i + 1)).flatten).length = ((xs.take i).flatten).length + (xs.getD i []).length := by rw [htk, List.length_append]
   refine V.rr h38 [] 19 19 [(20, .bool (decide (((((xs.take i).flatten.length : Nat) : Int) + (((xs.getD i []).length : Nat) : Int)) < 0)))] fun a h41 => ?_
   refine V.then_n (k40 _ _ ?_)
   refine V.cp h41 (((((xs.take i).flatten.length : Nat) : Int) + (((xs.getD i []).length : Nat) : Int)) < 0) (fun ht42 => ?_) (fun ht42 => ?_)
   · exact absurd ht42 (by omega)
   ·
    refine V.skip (V.blk_n ?_)
    refine V.then_n (k28 _ _ ?_)
    refine V.rr h41 [(0, .i ((i : Int) + 1))] 22 22 [(11, .int .i64 ((i : Int) + 1))] fun a h43 => ?_
    refine V.then_n ?_
    refine ⟨i + 1, by omega, ?_⟩
    refine ⟨((h43.eq 3 (v := (.int .i64 ((((xs.take i).flatten.length : Nat) : Int) + (((xs.getD i []).length : Nat) : Int)))) (u := (.int .i64 (((xs.take (i + 1)).flatten.length : Nat) : Int))) (V.int_eq (by omega))).eq 11 (v := (.int .i64 ((i : Int) + 1))) (u := (.int .i64 ((i + 1) : Int))) (V.int_eq (by omega))).only _, hF_16, hR_17, hK_18, (by omega)⟩
  ·
   refine V.exit (V.then_e (V.then_e (V.blk_hit ?_)))
   refine V.then_n (k9 _ _ ?_)
   refine V.seq fun K44 k45 => ?_
   have hft9 := flat_take_le xs i
   refine V.rg ?_
   refine V.run h23 [] 1 1 0 [(23, .int .i64 (((xs.take i).flatten.length : Nat) : Int))] fun a h46 => ?_
   refine V.cl h46 (Go.Proofs.enters_of Tryz.func135 (by kernel_rfl) rfl) (grow_any w14 ((xs.take i).flatten.length) (by omega)) ?_
   rintro _ w51 ⟨A47, c48, rfl, hO49, hF50⟩
   refine ⟨_, rfl, fun a h52 => ?_⟩
   have hsw51 := hF50.size
   have hF_53 := hF_16.new hF50
   have hR_54 := hR_17.fr0 hF50
   have hK_55 := hK_18.fr0 hF50
   have hO49q := hO49.rebase (base' := w.heap.size) (by omega)
   refine V.re h52 [] 1 0 [(6, .slice A47 0 c48)] fun a h56 => k45 _ _ ?_
   refine V.seq fun K57 k58 => ?_
   refine V.sr h56 [] 1 0 [(25, .slice (some ⟨g, 0, none⟩) xs.length xs.length), (26, .int .i64 ((xs.length : Nat) : Int)), (27, .int .i64 0)] fun a h61 => ?_
   refine V.block ?_
   refine V.loop3 (fun (i2 : Nat) (A2 : Option Addr) (c2 : Nat) a_ w_ => En 36 [] a_ [(6, .slice A2 ((xs.take i2).flatten.length) c2), (25, .slice (some ⟨g, 0, none⟩) xs.length xs.length), (26, .int .i64 ((xs.length : Nat) : Int)), (27, .int .i64 (i2 : Int))] ∧ OwR itI NoZ w_ w.heap.size 117 (.slice A2 ((xs.take i2).flatten.length) c2) ((xs.take i2).flatten) ∧ Fr [] w w_ ∧ Row idV w_ g vs 118 ∧ Bks itI w_ 117 H (av) (vs ++ vsB) (xs ++ xsB) ∧ (i2 ≤ xs.length)) (fun (i2 : Nat) (A2 : Option Addr) (c2 : Nat) => xs.length - i2) 0 A47 c48 ?_ ?_
   ·
    refine ⟨((h61.eq 6 (v := (.slice A47 0 c48)) (u := (.slice A47 ((xs.take 0).flatten.length) c48)) (V.sl_eq (by simp))).eq 27 (v := (.int .i64 0)) (u := (.int .i64 (0 : Int))) (V.int_eq (by omega))).only _, (by simpa using hO49q), hF_53, hR_54, hK_55, (by omega)⟩
   ·
    rintro i2 A2 c2 a62 w63 ⟨h64, hO_65, hF_66, hR_67, hK_68, hi2⟩
    have hfs69 := hF_66.size
    have hlt70 := hR_67.lt
    have hft := flat_take_le xs (i2 + 1)
    have hft0 := flat_take_le xs i2
    have hbq := flat_getD xs i2
    refine V.sr h64 [] 1 0 [(28, .bool (decide ((i2 : Int) < ((xs.length : Nat) : Int))))] fun a h73 => ?_
    refine V.seq fun K74 k75 => ?_
    refine V.cp h73 ((i2 : Int) < ((xs.length : Nat) : Int)) (fun ht76 => ?_) (fun ht76 => ?_)
    ·
     refine V.skip ?_
     refine V.then_n (k75 _ _ ?_)
     refine V.seq fun K77 k78 => ?_
     refine V.block ?_
     obtain ⟨A81, c82, hv83⟩ := hK_68.getA hl (i := i2) (by omega) nilS
     have hS84 := hK_68.slA hl (i := i2) (by omega) hv83
     refine V.sr h73 [(0, .ix g 0 xs.length xs.length .i64 (i2 : Int) 1 rfl), (0, .l ⟨g, 0 + (i2 : Int).toNat * 1, none⟩ (.slice A81 ((xs.getD i2 []).length) c82) ((hR_67.at i2 nilS (by omega)).trans (congrArg some hv83)))] 29 30 [(8, .slice A81 ((xs.getD i2 []).length) c82)] fun a h85 => ?_
     have htk : (xs.take (i2 + 1)).flatten = (xs.take i2).flatten ++ xs.getD i2 [] := flat_take (by omega)
     have hln : ((xs.take (i2 + 1)).flatten).length = ((xs.take i2).flatten).length + (xs.getD i2 []).length := by rw [htk, List.length_append]
     refine V.rg ?_
     refine V.run h85 [] 2 1 0 [(31, .slice A2 ((xs.take i2).flatten.length) c2), (32, .slice A81 ((xs.getD i2 []).length) c82)] fun a h91 => ?_
     refine V.go (V.appS (R := itI) (h91.e (v := (.slice A2 ((xs.take i2).flatten.length) c2))) (h91.e (v := (.slice A81 ((xs.getD i2 []).length) c82))) (by kernel_rfl) info117 (by kernel_rfl) (by decide) hO_65 hS84 (fun _ _ h => h) (by (try simp only [List.length_append]); omega) (by decide) (by omega) ?_)
     intro A86 c87 w88 hO89 hF90
     have hsw88 := hF90.size
     have hF_92 := hF_66.own hF90 (own_ge hO_65 (by omega))
     have hR_93 := hR_67.fr hF90 (by first | exact own_notin hO_65 (by omega) | exact own_notin2 hO_65 (by omega))
     have hK_94 := hK_68.frP (FrP.of hF90) (fun k hk => .inr (fun hq => by have h1 := hHb k hq; have h2 := own_ge hO_65 (Nat.le_refl _) k hk; omega))
     refine V.pt h91 fun a h95 => ?_
     refine V.re h95 [] 1 0 [(6, .slice A86 (((xs.take i2).flatten).length + (xs.getD i2 []).length) c87)] fun a h96 => ?_
     refine V.blk_n ?_
     refine V.then_n (k78 _ _ ?_)
     refine V.rr h96 [(0, .i ((i2 : Int) + 1))] 34 34 [(27, .int .i64 ((i2 : Int) + 1))] fun a h97 => ?_
     refine V.then_n ?_
     refine ⟨i2 + 1, A86, c87, by omega, ?_⟩
     refine ⟨((h97.eq 6 (v := (.slice A86 (((xs.take i2).flatten).length + (xs.getD i2 []).length) c87)) (u := (.slice A86 ((xs.take (i2 + 1)).flatten.length) c87)) (V.sl_eq hln.symm)).eq 27 (v := (.int .i64 ((i2 : Int) + 1))) (u := (.int .i64 ((i2 + 1) : Int))) (V.int_eq (by omega))).only _, (by rw [hln, htk]; exact hO89), hF_92, hR_93, hK_94, (by omega)⟩
    ·
     refine V.exit (V.then_e (V.then_e (V.blk_hit ?_)))
     refine V.then_n (k58 _ _ ?_)
     refine V.sr h73 [] 35 35 [(2, .slice A2 ((xs.take i2).flatten.length) c2)] fun a h100 => ?_
     refine V.ret ?_
     refine V.r1 h100 (.slice A2 ((xs.take i2).flatten.length) c2) ?_
     have hq : (xs.take i2).flatten = xs.flatten := by rw [List.take_of_length_le (by omega)]
     rw [hq] at hO_65 ⊢
     exact ⟨_, _, rfl, hO_65, hF_66⟩
end Go.Proofs.YtjkegckfncfoaaaGreat
end
section
namespace Go.V
open Go.Plan (FW wpL)
open Go.RowKit Go.Base
theorem enM {P : Program} {fn : Func} {S : Ending → World → Prop} {w : World} {f : FuncId} {c : Code} {l : List Value} (N : Nat) (hf : P.funcs[f]? = some fn) (h : ∀ a, En N [] a (argE 0 l) → Wp none P c (mPost P fn S) a w) (hb : fn.body = some c := by rfl) (hn : l.length + (fn.ntmps - l.length) = N := by rfl) : Calls P f l.toArray w S :=
  enterM N hf hb hn fun a hz ha => h a ⟨hz, fun t v hv => by
    have := lk_argE l 0 t v hv
    exact ha t v (by simpa using this.2)⟩
end Go.V
end
section
namespace Go.Proofs.YtjkegckfncfoaaaGreat
open Go.V Go.Base
open Go.RowKit (Below)
attribute [local irreducible] Act.put Act.eval
set_option linter.unusedVariables false
set_option linter.unusedSimpArgs false
set_option maxHeartbeats 4000000
set_option maxRecDepth 20000
theorem items_N (w : World) (H : Nat → Prop) (av : List Nat) (t gA : Nat) (vsA : List Value) (T : Tb EntV) (hok : T.Ok) (hT : TabN 122 118 117 itI w H av t gA vsA T) (hHb : ∀ k, H k → k < w.heap.size) (hb : T.b.length = 0) : Calls Tryz.prog 73 #[.pointer (some ⟨t, 0, none⟩)] w (fun e w' => ∃ A c, e = .returned (.slice A T.n c) ∧ OwR itI NoZ w' w.heap.size 117 (.slice A T.n c) (T.a ++ T.b).flatten ∧ Fr [] w w') := by
 have hF := Fr.refl [] w
 have hok0 := hok
 have hsum := hok.sum
 obtain ⟨hsd, hpa, hla, hlb, hmv, hmz, hnn, hcn, hks⟩ := hok
 obtain ⟨hB, hRA, hlA, hK, hne, hpt, hpg⟩ := hT
 have hltt := hB.lt
 have hltg := hRA.lt
 refine V.en 19 Tryz.func73 fun a h1 => ?_
 refine V.sr h1 [] 2 2 [] fun a h4 => ?_
 refine V.seq fun K5 k6 => ?_
 refine V.sg fun K7 k8 => ?_
 refine V.run h4 [] 1 1 0 [(3, .pointer (some ⟨t, 0, none⟩))] fun a h9 => ?_
 refine V.cl h9 (Go.Proofs.enters_of Tryz.func64 (by kernel_rfl) rfl) (made_N w t T.seed T.a.length 0 0 gA 0 (.int .i64 (T.moved : Int)) (.int .i64 (T.n : Int)) hB) ?_
 rintro _ w11 ⟨rfl, hF10⟩
 refine ⟨_, rfl, fun a h12 => ?_⟩
 have hsw11 := hF10.size
 have hF_13 := hF.new hF10
 have hB_14 := hB.fr0 hF10
 have hRA_15 := hRA.fr0 hF10
 have hK_16 := hK.fr0 hF10
 refine V.re h12 [] 1 0 [(5, .bool false)] fun a h17 => k8 _ _ ?_
 refine V.cf h17 ?_
 refine V.skip ?_
 refine V.then_n (k6 _ _ ?_)
 refine V.seq fun K18 k19 => ?_
 refine V.pl [([0,1,2,3,4,6,7,8,9,10],some (5,[10])),([],some (11,[])),([],some (12,[])),([13],none)] fun w20 hF21 hsw20 => ?_
 have hF_22 := hF_13.new hF21
 have hB_23 := hB_14.fr0 hF21
 have hRA_24 := hRA_15.fr0 hF21
 have hK_25 := hK_16.fr0 hF21
 refine V.pe h17 [(4, .b hB_23 1), (4, .b hB_23 2)] 6 14 [(10, .slice (some ⟨gA, 0, none⟩) T.a.length T.a.length), (15, .pointer (some ⟨t, 2, none⟩)), (16, .slice none 0 0)] fun a h26 => ?_
 refine V.cl h26 (Go.Proofs.enters_of Tryz.func101 (by kernel_rfl) rfl) (concat_row w20 _ _ gA vsA ([]) T.a ([]) hRA_24 hlA hK_25 (fun k hk => by have := hHb k hk; omega) (by omega) (by omega)) ?_
 rintro _ w33 ⟨A27, c28, rfl, hO29, hF30⟩
 refine ⟨_, rfl, fun a h34 => ?_⟩
 have hsw33 := hF30.size
 have hF_35 := hF_22.new hF30
 have hB_36 := hB_23.fr0 hF30
 have hO29q := hO29.rebase (base' := w.heap.size) (by omega)
 refine V.eh (fun _ => held_blk (n := 1) (hx := (h26.e (v := (.pointer (some ⟨t, 2, none⟩))))) hB_23 hB_36 (by kernel_rfl) rfl (by simp only [List.length]; omega)) ?_
 refine V.pe h34 [] 1 0 [] fun a h39 => ?_
 refine V.cl h39 (Go.Proofs.enters_of Tryz.func101 (by kernel_rfl) rfl) (concat_nil w33) ?_
 rintro _ w45 ⟨A40, c41, rfl, hO42, hF43⟩
 refine ⟨_, rfl, fun a h46 => ?_⟩
 have hsw45 := hF43.size
 have hF_47 := hF_35.new hF43
 have hO29q_51 := hO29q.fr0 hF43
 have hS44 := hO42.read (Z' := fun _ => True) (fun _ _ _ => trivial) (fun _ _ _ => trivial)
 refine V.eh trivial ?_
 refine V.pe h46 [] 1 0 [] fun a h52 => ?_
 refine V.go (V.appS (R := itI) (h52.e (v := (.slice A27 T.a.flatten.length c28))) (h52.e (v := (.slice A40 0 c41))) (by kernel_rfl) info117 (by kernel_rfl) (by decide) hO29q_51 hS44 (fun _ _ h => h) (by (try simp only [List.length_nil]); omega) (by decide) (by omega) ?_)
 intro A53 c54 w55 hO56 hF57
 have hsw55 := hF57.size
 have hF_58 := hF_47.own hF57 (own_ge hO29q_51 (by omega))
 refine V.pt h52 fun a h62 => ?_
 refine V.eh trivial ?_
 refine V.pz h62 [] 1 0 [(2, .slice A53 ((T.a.flatten).length + (([] : List (ByteArray × EntV))).length) c54)] fun a h63 => k19 _ _ ?_
 refine V.ret ?_
 refine V.r1 h63 (.slice A53 ((T.a.flatten).length + (([] : List (ByteArray × EntV))).length) c54) ?_
 have hq : T.a.flatten ++ ([] : List (ByteArray × EntV)) = (T.a ++ T.b).flatten := by rw [List.flatten_append, List.eq_nil_of_length_eq_zero hb]; simp only [List.flatten_nil]
 have hn : (T.a.flatten).length + (([] : List (ByteArray × EntV))).length = T.n := by rw [← hok0.cn, ← hq]; simp
 rw [hn, hq] at hO56
 rw [hn]
 exact ⟨_, _, rfl, hO56, hF_58⟩
theorem items_M (w : World) (H : Nat → Prop) (av : List Nat) (t gA gB : Nat) (vsA vsB : List Value) (T : Tb EntV) (hok : T.Ok) (hT : TabM 122 118 117 itI w H av t gA gB vsA vsB T) (hHb : ∀ k, H k → k < w.heap.size) (hb : T.b.length ≠ 0) : Calls Tryz.prog 73 #[.pointer (some ⟨t, 0, none⟩)] w (fun e w' => ∃ A c, e = .returned (.slice A T.n c) ∧ OwR itI NoZ w' w.heap.size 117 (.slice A T.n c) (T.a ++ T.b).flatten ∧ Fr [] w w') := by
 have hF := Fr.refl [] w
 have hok0 := hok
 have hsum := hok.sum
 obtain ⟨hsd, hpa, hla, hlb, hmv, hmz, hnn, hcn, hks⟩ := hok
 obtain ⟨hB, hRA, hRB, hlA, hlB, hK, hne, hne2, hne3, hpt, hpg, hph⟩ := hT
 have hltg2 := hRB.lt
 have hltt := hB.lt
 have hltg := hRA.lt
 refine V.en 19 Tryz.func73 fun a h1 => ?_
 refine V.sr h1 [] 2 2 [] fun a h4 => ?_
 refine V.seq fun K5 k6 => ?_
 refine V.sg fun K7 k8 => ?_
 refine V.run h4 [] 1 1 0 [(3, .pointer (some ⟨t, 0, none⟩))] fun a h9 => ?_
 refine V.cl h9 (Go.Proofs.enters_of Tryz.func64 (by kernel_rfl) rfl) (made_M w t T.seed T.a.length T.b.length 0 gA gB (.int .i64 (T.moved : Int)) (.int .i64 (T.n : Int)) hB) ?_
 rintro _ w11 ⟨rfl, hF10⟩
 refine ⟨_, rfl, fun a h12 => ?_⟩
 have hsw11 := hF10.size
 have hF_13 := hF.new hF10
 have hB_14 := hB.fr0 hF10
 have hRA_15 := hRA.fr0 hF10
 have hRB_16 := hRB.fr0 hF10
 have hK_17 := hK.fr0 hF10
 refine V.re h12 [] 1 0 [(5, .bool false)] fun a h18 => k8 _ _ ?_
 refine V.cf h18 ?_
 refine V.skip ?_
 refine V.then_n (k6 _ _ ?_)
 refine V.seq fun K19 k20 => ?_
 refine V.pl [([0,1,2,3,4,6,7,8,9,10],some (5,[10])),([],some (11,[])),([],some (12,[])),([13],none)] fun w21 hF22 hsw21 => ?_
 have hF_23 := hF_13.new hF22
 have hB_24 := hB_14.fr0 hF22
 have hRA_25 := hRA_15.fr0 hF22
 have hRB_26 := hRB_16.fr0 hF22
 have hK_27 := hK_17.fr0 hF22
 refine V.pe h18 [(4, .b hB_24 1), (4, .b hB_24 2)] 6 14 [(10, .slice (some ⟨gA, 0, none⟩) T.a.length T.a.length), (15, .pointer (some ⟨t, 2, none⟩)), (16, .slice (some ⟨gB, 0, none⟩) T.b.length T.b.length)] fun a h28 => ?_
 refine V.cl h28 (Go.Proofs.enters_of Tryz.func101 (by kernel_rfl) rfl) (concat_row w21 _ _ gA vsA vsB T.a T.b hRA_25 hlA hK_27 (fun k hk => by have := hHb k hk; omega) (by omega) (by omega)) ?_
 rintro _ w35 ⟨A29, c30, rfl, hO31, hF32⟩
 refine ⟨_, rfl, fun a h36 => ?_⟩
 have hsw35 := hF32.size
 have hF_37 := hF_23.new hF32
 have hB_38 := hB_24.fr0 hF32
 have hRB_40 := hRB_26.fr0 hF32
 have hK_41 := hK_27.fr0 hF32
 have hO31q := hO31.rebase (base' := w.heap.size) (by omega)
 refine V.eh (fun _ => held_blk (n := 1) (hx := (h28.e (v := (.pointer (some ⟨t, 2, none⟩))))) hB_24 hB_38 (by kernel_rfl) rfl (by simp only [List.length]; omega)) ?_
 refine V.pe h36 [] 1 0 [] fun a h42 => ?_
 refine V.cl h42 (Go.Proofs.enters_of Tryz.func101 (by kernel_rfl) rfl) (concat_row w35 _ _ gB vsB [] T.b [] hRB_40 hlB (by have h := hK_41.dropNil hlA; rw [List.append_nil, List.append_nil]; exact h) (fun k hk => by have := hHb k hk; omega) (by omega) (by omega)) ?_
 rintro _ w49 ⟨A43, c44, rfl, hO45, hF46⟩
 refine ⟨_, rfl, fun a h50 => ?_⟩
 have hsw49 := hF46.size
 have hF_51 := hF_37.new hF46
 have hO31q_56 := hO31q.fr0 hF46
 have hS47 := hO45.read (Z' := fun _ => True) (fun _ _ _ => trivial) (fun _ _ _ => trivial)
 refine V.eh trivial ?_
 refine V.pe h50 [] 1 0 [] fun a h57 => ?_
 refine V.go (V.appS (R := itI) (h57.e (v := (.slice A29 T.a.flatten.length c30))) (h57.e (v := (.slice A43 T.b.flatten.length c44))) (by kernel_rfl) info117 (by kernel_rfl) (by decide) hO31q_56 hS47 (fun _ _ h => h) (by (try simp only [List.length_nil]); omega) (by decide) (by omega) ?_)
 intro A58 c59 w60 hO61 hF62
 have hsw60 := hF62.size
 have hF_63 := hF_51.own hF62 (own_ge hO31q_56 (by omega))
 refine V.pt h57 fun a h68 => ?_
 refine V.eh trivial ?_
 refine V.pz h68 [] 1 0 [(2, .slice A58 ((T.a.flatten).length + (T.b.flatten).length) c59)] fun a h69 => k20 _ _ ?_
 refine V.ret ?_
 refine V.r1 h69 (.slice A58 ((T.a.flatten).length + (T.b.flatten).length) c59) ?_
 have hq : T.a.flatten ++ T.b.flatten = (T.a ++ T.b).flatten := by rw [List.flatten_append]
 have hn : (T.a.flatten).length + (T.b.flatten).length = T.n := by rw [← hok0.cn, ← hq]; simp
 rw [hn, hq] at hO61
 rw [hn]
 exact ⟨_, _, rfl, hO61, hF_63⟩
theorem items_any (w : World) (H : Nat → Prop) (av : List Nat) (t : Nat) (T : Tb EntV) (hT : TabX 122 118 117 itI w H av t T) (hHb : ∀ k, H k → k < w.heap.size) :
    Calls Tryz.prog 73 #[.pointer (some ⟨t, 0, none⟩)] w (fun e w' => ∃ A c, e = .returned (.slice A T.n c) ∧ OwR itI NoZ w' w.heap.size 117 (.slice A T.n c) (T.a ++ T.b).flatten ∧ Fr [] w w') := by
  rcases hT.2 with ⟨hb, gA, vsA, h⟩ | ⟨hb, gA, gB, vsA, vsB, h⟩
  · exact items_N w H av t gA vsA T hT.1 h hHb (by rw [hb]; rfl)
  · exact items_M w H av t gA gB vsA vsB T hT.1 h hHb (fun h => hb (List.eq_nil_of_length_eq_zero h))
theorem all_any (w : World) (q : Option Addr) : Calls Tryz.prog 41 #[.pointer q] w (fun e w' => ∃ b, e = .returned (.func (.func 72) #[] #[.pointer (some ⟨b, 0, none⟩)]) ∧ Blk w' b [.pointer q] 61 ∧ w.heap.size ≤ b ∧ Fr [] w w') := by
 have hF := Fr.refl [] w
 refine V.en 4 Tryz.func41 fun a h1 => ?_
 refine V.sg fun K2 k3 => ?_
 refine V.go (V.mk [(0, .pointer q)] ⟨h1.e, trivial⟩ (by kernel_rfl) [.pointer q] 61 (fun b => .pointer (some ⟨b, 0, none⟩)) (by kernel_rfl) ?_)
 intro w5 b4 heb4 hB6 hF7 hsb4
 have hF_8 := hF.new hF7
 refine V.pt h1 fun a h9 => ?_
 refine V.re h9 [] 2 2 [] fun a h10 => k3 _ _ ?_
 refine V.sr h10 [] 3 3 [(2, .func (.func 72) #[] #[.pointer (some ⟨b4, 0, none⟩)])] fun a h13 => ?_
 refine V.ret ?_
 refine V.r1 h13 (.func (.func 72) #[] #[.pointer (some ⟨b4, 0, none⟩)]) ?_
 exact ⟨b4, rfl, hB6, by omega, hF_8⟩
theorem all1_any (w : World) (H : Nat → Prop) (av : List Nat) (t : Nat) (T : Tb EntV) (hT : TabX 122 118 117 itI w H av t T) (hHb : ∀ k, H k → k < w.heap.size) (b : Nat) (hB : Blk w b [.pointer (some ⟨t, 0, none⟩)] 61) (fv : Value) (I Ix : Nat → List (ByteArray × EntV) → World → Prop) (hI : ∀ n pre W W', I n pre W → Fr [] W W' → I n pre W') (h0 : ∀ W1, Fr [] w W1 → I W1.heap.size [] W1) (hY : ∀ n pre x W, w.heap.size ≤ n → n ≤ W.heap.size → I n pre W → (∃ rest, pre ++ x :: rest = (T.a ++ T.b).flatten) → CallV Tryz.prog fv #[.string x.1, .agg #[.int .i64 x.2.kind, .string x.2.s, .slice x.2.l.a x.2.l.n x.2.l.c, .slice x.2.z.a x.2.z.n x.2.z.c, .slice x.2.h.a x.2.h.n x.2.h.c, .int .i64 x.2.till]] W (fun e W' => (e = .returned (.bool true) ∧ I n (pre ++ [x]) W' ∧ KeptP (fun k => w.heap.size ≤ k ∧ k < n) W W') ∨ (e = .returned (.bool false) ∧ Ix n (pre ++ [x]) W'))) : Calls Tryz.prog 72 #[fv, .pointer (some ⟨b, 0, none⟩)] w (fun e w' => (∃ v, e = .returned v) ∧ ((∃ n, w.heap.size ≤ n ∧ I n (T.a ++ T.b).flatten w') ∨ (∃ n pre, w.heap.size ≤ n ∧ (∃ rest, pre ++ rest = (T.a ++ T.b).flatten) ∧ Ix n pre w'))) := by
 have hF := Fr.refl [] w
 refine V.en 20 Tryz.func72 fun a h1 => ?_
 refine V.sg fun K2 k3 => ?_
 refine V.run h1 [(0, .b hB 0)] 1 1 0 [(5, .pointer (some ⟨t, 0, none⟩))] fun a h4 => ?_
 refine V.cl h4 (Go.Proofs.enters_of Tryz.func73 (by kernel_rfl) rfl) (items_any w (H) (av) t (T) hT (fun k hk => by have := hHb k hk; omega)) ?_
 rintro _ w10 ⟨A5, c6, rfl, hO7, hF8⟩
 refine ⟨_, rfl, fun a h11 => ?_⟩
 have hsw10 := hF8.size
 have hF_12 := hF.new hF8
 obtain ⟨n, hn⟩ : ∃ n, n = w10.heap.size := ⟨_, rfl⟩
 have hS := hO7.read (Z' := fun k => w.heap.size ≤ k ∧ k < n) (fun _ _ h => h.elim) (fun b hb hl => ⟨hb, by omega⟩)
 have hcn := hT.1.cn
 have hnn := hT.1.nn
 refine V.re h11 [] 1 0 [(7, .int .i64 ((T.n : Nat) : Int)), (8, .int .i64 0)] fun a h13 => k3 _ _ ?_
 refine V.block ?_
 refine V.loop2 (fun (i : Nat) (W0 : World) a_ w_ => En 20 [] a_ [(0, fv), (6, .slice A5 T.n c6), (7, .int .i64 ((T.n : Nat) : Int)), (8, .int .i64 (i : Int))] ∧ Fr [] W0 w_ ∧ SlR itI (fun k => w.heap.size ≤ k ∧ k < n) w_ (.slice A5 T.n c6) ((T.a ++ T.b).flatten) ∧ (i ≤ (T.a ++ T.b).flatten.length) ∧ (w.heap.size ≤ n) ∧ (n ≤ W0.heap.size) ∧ (I n ((T.a ++ T.b).flatten.take i) W0)) (fun (i : Nat) (W0 : World) => (T.a ++ T.b).flatten.length - i) 0 w10 ?_ ?_
 ·
  refine ⟨(h13.eq 8 (v := (.int .i64 0)) (u := (.int .i64 (0 : Int))) (V.int_eq (by omega))).only _, (Fr.refl [] _), hS, (by omega), (by omega), (by omega), (by rw [hn]; exact h0 _ hF_12)⟩
 ·
  rintro i W0 a14 w15 ⟨h16, hFr_17, hS_18, hi, hn0, hnl, hJ⟩
  have hfs19 := hFr_17.size
  refine V.sr h16 [] 1 0 [(9, .bool (decide ((i : Int) < ((T.n : Nat) : Int))))] fun a h22 => ?_
  refine V.seq fun K23 k24 => ?_
  refine V.cp h22 ((i : Int) < ((T.n : Nat) : Int)) (fun ht25 => ?_) (fun ht25 => ?_)
  ·
   refine V.skip ?_
   refine V.then_n (k24 _ _ ?_)
   refine V.seq fun K26 k27 => ?_
   refine V.block ?_
   obtain ⟨g30, o31, hA32, hA32l, hA32z⟩ := hS_18.addr (by omega)
   try dsimp only at hA32z
   obtain ⟨cs33, hok34, hE35⟩ := hS_18.els hA32 (i : Int) (by omega) (by omega)
   refine V.sg fun K28 k29 => ?_
   refine V.run h22 [(0, .ix g30 o31 T.n c6 .i64 (i : Int) 7 hA32)] 1 1 0 [(10, .pointer (some ⟨g30, o31 + (i : Int).toNat * 7, none⟩))] fun a h36 => ?_
   obtain rfl : cs33 = [.string (at_ itI ((T.a ++ T.b).flatten) (i : Int)).1, .int .i64 (at_ itI ((T.a ++ T.b).flatten) (i : Int)).2.kind, .string (at_ itI ((T.a ++ T.b).flatten) (i : Int)).2.s, .slice (at_ itI ((T.a ++ T.b).flatten) (i : Int)).2.l.a (at_ itI ((T.a ++ T.b).flatten) (i : Int)).2.l.n (at_ itI ((T.a ++ T.b).flatten) (i : Int)).2.l.c, .slice (at_ itI ((T.a ++ T.b).flatten) (i : Int)).2.z.a (at_ itI ((T.a ++ T.b).flatten) (i : Int)).2.z.n (at_ itI ((T.a ++ T.b).flatten) (i : Int)).2.z.c, .slice (at_ itI ((T.a ++ T.b).flatten) (i : Int)).2.h.a (at_ itI ((T.a ++ T.b).flatten) (i : Int)).2.h.n (at_ itI ((T.a ++ T.b).flatten) (i : Int)).2.h.c, .int .i64 (at_ itI ((T.a ++ T.b).flatten) (i : Int)).2.till] := hok34
   refine V.run h36 [(0, .ls ⟨g30, o31 + (i : Int).toNat * 7, none⟩ [.string ((at_ itI ((T.a ++ T.b).flatten) (i : Int)).1), .int .i64 (((at_ itI ((T.a ++ T.b).flatten) (i : Int)).2).kind), .string (((at_ itI ((T.a ++ T.b).flatten) (i : Int)).2).s), .slice (((at_ itI ((T.a ++ T.b).flatten) (i : Int)).2).l.a) (((at_ itI ((T.a ++ T.b).flatten) (i : Int)).2).l.n) (((at_ itI ((T.a ++ T.b).flatten) (i : Int)).2).l.c), .slice (((at_ itI ((T.a ++ T.b).flatten) (i : Int)).2).z.a) (((at_ itI ((T.a ++ T.b).flatten) (i : Int)).2).z.n) (((at_ itI ((T.a ++ T.b).flatten) (i : Int)).2).z.c), .slice (((at_ itI ((T.a ++ T.b).flatten) (i : Int)).2).h.a) (((at_ itI ((T.a ++ T.b).flatten) (i : Int)).2).h.n) (((at_ itI ((T.a ++ T.b).flatten) (i : Int)).2).h.c), .int .i64 (((at_ itI ((T.a ++ T.b).flatten) (i : Int)).2).till)] (hE35.cells 0 _ rfl))] 1 1 0 [(11, .agg #[.string ((at_ itI ((T.a ++ T.b).flatten) (i : Int)).1), .int .i64 (((at_ itI ((T.a ++ T.b).flatten) (i : Int)).2).kind), .string (((at_ itI ((T.a ++ T.b).flatten) (i : Int)).2).s), .slice (((at_ itI ((T.a ++ T.b).flatten) (i : Int)).2).l.a) (((at_ itI ((T.a ++ T.b).flatten) (i : Int)).2).l.n) (((at_ itI ((T.a ++ T.b).flatten) (i : Int)).2).l.c), .slice (((at_ itI ((T.a ++ T.b).flatten) (i : Int)).2).z.a) (((at_ itI ((T.a ++ T.b).flatten) (i : Int)).2).z.n) (((at_ itI ((T.a ++ T.b).flatten) (i : Int)).2).z.c), .slice (((at_ itI ((T.a ++ T.b).flatten) (i : Int)).2).h.a) (((at_ itI ((T.a ++ T.b).flatten) (i : Int)).2).h.n) (((at_ itI ((T.a ++ T.b).flatten) (i : Int)).2).h.c), .int .i64 (((at_ itI ((T.a ++ T.b).flatten) (i : Int)).2).till)])] fun a h41 => ?_
   refine V.go (V.mk [] trivial (by kernel_rfl) [.string ⟨#[]⟩, .int .i64 0, .string ⟨#[]⟩, .slice none 0 0, .slice none 0 0, .slice none 0 0, .int .i64 0] 117 (fun b => .pointer (some ⟨b, 0, none⟩)) (by kernel_rfl) ?_)
   intro w38 b37 heb37 hB39 hF40 hsb37
   have hFr_42 := hFr_17.new hF40
   have hS_43 := hS_18.fr0 hF40
   refine V.pt h41 fun a h45 => ?_
   refine V.go (V.stn b37 0 (.agg #[.string ((at_ itI ((T.a ++ T.b).flatten) (i : Int)).1), .int .i64 (((at_ itI ((T.a ++ T.b).flatten) (i : Int)).2).kind), .string (((at_ itI ((T.a ++ T.b).flatten) (i : Int)).2).s), .slice (((at_ itI ((T.a ++ T.b).flatten) (i : Int)).2).l.a) (((at_ itI ((T.a ++ T.b).flatten) (i : Int)).2).l.n) (((at_ itI ((T.a ++ T.b).flatten) (i : Int)).2).l.c), .slice (((at_ itI ((T.a ++ T.b).flatten) (i : Int)).2).z.a) (((at_ itI ((T.a ++ T.b).flatten) (i : Int)).2).z.n) (((at_ itI ((T.a ++ T.b).flatten) (i : Int)).2).z.c), .slice (((at_ itI ((T.a ++ T.b).flatten) (i : Int)).2).h.a) (((at_ itI ((T.a ++ T.b).flatten) (i : Int)).2).h.n) (((at_ itI ((T.a ++ T.b).flatten) (i : Int)).2).h.c), .int .i64 (((at_ itI ((T.a ++ T.b).flatten) (i : Int)).2).till)]) [.string ((at_ itI ((T.a ++ T.b).flatten) (i : Int)).1), .int .i64 (((at_ itI ((T.a ++ T.b).flatten) (i : Int)).2).kind), .string (((at_ itI ((T.a ++ T.b).flatten) (i : Int)).2).s), .slice (((at_ itI ((T.a ++ T.b).flatten) (i : Int)).2).l.a) (((at_ itI ((T.a ++ T.b).flatten) (i : Int)).2).l.n) (((at_ itI ((T.a ++ T.b).flatten) (i : Int)).2).l.c), .slice (((at_ itI ((T.a ++ T.b).flatten) (i : Int)).2).z.a) (((at_ itI ((T.a ++ T.b).flatten) (i : Int)).2).z.n) (((at_ itI ((T.a ++ T.b).flatten) (i : Int)).2).z.c), .slice (((at_ itI ((T.a ++ T.b).flatten) (i : Int)).2).h.a) (((at_ itI ((T.a ++ T.b).flatten) (i : Int)).2).h.n) (((at_ itI ((T.a ++ T.b).flatten) (i : Int)).2).h.c), .int .i64 (((at_ itI ((T.a ++ T.b).flatten) (i : Int)).2).till)] h45.e h45.e rfl rfl (by kernel_rfl) hB39 (by simp) [.string ((at_ itI ((T.a ++ T.b).flatten) (i : Int)).1), .int .i64 (((at_ itI ((T.a ++ T.b).flatten) (i : Int)).2).kind), .string (((at_ itI ((T.a ++ T.b).flatten) (i : Int)).2).s), .slice (((at_ itI ((T.a ++ T.b).flatten) (i : Int)).2).l.a) (((at_ itI ((T.a ++ T.b).flatten) (i : Int)).2).l.n) (((at_ itI ((T.a ++ T.b).flatten) (i : Int)).2).l.c), .slice (((at_ itI ((T.a ++ T.b).flatten) (i : Int)).2).z.a) (((at_ itI ((T.a ++ T.b).flatten) (i : Int)).2).z.n) (((at_ itI ((T.a ++ T.b).flatten) (i : Int)).2).z.c), .slice (((at_ itI ((T.a ++ T.b).flatten) (i : Int)).2).h.a) (((at_ itI ((T.a ++ T.b).flatten) (i : Int)).2).h.n) (((at_ itI ((T.a ++ T.b).flatten) (i : Int)).2).h.c), .int .i64 (((at_ itI ((T.a ++ T.b).flatten) (i : Int)).2).till)] rfl ?_)
   intro w46 hB47 hF48 hsw46
   have hFr_49 := hFr_42.own hF48 (by simp <;> omega)
   have hS_50 := hS_43.fr hF48 (by simp <;> omega)
   refine V.nt (k29 _ _ ?_)
   refine V.sg fun K52 k53 => ?_
   refine V.run h45 [(2, .b hB47 0), (1, .bs hB47 1 [.int .i64 (((at_ itI ((T.a ++ T.b).flatten) (i : Int)).2).kind), .string (((at_ itI ((T.a ++ T.b).flatten) (i : Int)).2).s), .slice (((at_ itI ((T.a ++ T.b).flatten) (i : Int)).2).l.a) (((at_ itI ((T.a ++ T.b).flatten) (i : Int)).2).l.n) (((at_ itI ((T.a ++ T.b).flatten) (i : Int)).2).l.c), .slice (((at_ itI ((T.a ++ T.b).flatten) (i : Int)).2).z.a) (((at_ itI ((T.a ++ T.b).flatten) (i : Int)).2).z.n) (((at_ itI ((T.a ++ T.b).flatten) (i : Int)).2).z.c), .slice (((at_ itI ((T.a ++ T.b).flatten) (i : Int)).2).h.a) (((at_ itI ((T.a ++ T.b).flatten) (i : Int)).2).h.n) (((at_ itI ((T.a ++ T.b).flatten) (i : Int)).2).h.c), .int .i64 (((at_ itI ((T.a ++ T.b).flatten) (i : Int)).2).till)])] 5 13 15 [(12, fv), (14, .string ((at_ itI ((T.a ++ T.b).flatten) (i : Int)).1)), (16, .agg #[.int .i64 (((at_ itI ((T.a ++ T.b).flatten) (i : Int)).2).kind), .string (((at_ itI ((T.a ++ T.b).flatten) (i : Int)).2).s), .slice (((at_ itI ((T.a ++ T.b).flatten) (i : Int)).2).l.a) (((at_ itI ((T.a ++ T.b).flatten) (i : Int)).2).l.n) (((at_ itI ((T.a ++ T.b).flatten) (i : Int)).2).l.c), .slice (((at_ itI ((T.a ++ T.b).flatten) (i : Int)).2).z.a) (((at_ itI ((T.a ++ T.b).flatten) (i : Int)).2).z.n) (((at_ itI ((T.a ++ T.b).flatten) (i : Int)).2).z.c), .slice (((at_ itI ((T.a ++ T.b).flatten) (i : Int)).2).h.a) (((at_ itI ((T.a ++ T.b).flatten) (i : Int)).2).h.n) (((at_ itI ((T.a ++ T.b).flatten) (i : Int)).2).h.c), .int .i64 (((at_ itI ((T.a ++ T.b).flatten) (i : Int)).2).till)])] fun a h55 => ?_
   have htk := take_at itI (l := (T.a ++ T.b).flatten) (k := i) (by omega)
   have hcall := hY n ((T.a ++ T.b).flatten.take i) (at_ itI (T.a ++ T.b).flatten (i : Int)) w46 hn0 (by omega) (hI _ _ _ _ hJ hFr_49) ⟨_, by rw [List.append_cons, ← htk]; exact List.take_append_drop (i + 1) _⟩
   refine V.go (V.callV fv #[.string ((at_ itI ((T.a ++ T.b).flatten) (i : Int)).1), .agg #[.int .i64 (((at_ itI ((T.a ++ T.b).flatten) (i : Int)).2).kind), .string (((at_ itI ((T.a ++ T.b).flatten) (i : Int)).2).s), .slice (((at_ itI ((T.a ++ T.b).flatten) (i : Int)).2).l.a) (((at_ itI ((T.a ++ T.b).flatten) (i : Int)).2).l.n) (((at_ itI ((T.a ++ T.b).flatten) (i : Int)).2).l.c), .slice (((at_ itI ((T.a ++ T.b).flatten) (i : Int)).2).z.a) (((at_ itI ((T.a ++ T.b).flatten) (i : Int)).2).z.n) (((at_ itI ((T.a ++ T.b).flatten) (i : Int)).2).z.c), .slice (((at_ itI ((T.a ++ T.b).flatten) (i : Int)).2).h.a) (((at_ itI ((T.a ++ T.b).flatten) (i : Int)).2).h.n) (((at_ itI ((T.a ++ T.b).flatten) (i : Int)).2).h.c), .int .i64 (((at_ itI ((T.a ++ T.b).flatten) (i : Int)).2).till)]] (h55.e (v := (fv))) (args2 (h55.e (v := (.string ((at_ itI ((T.a ++ T.b).flatten) (i : Int)).1)))) (h55.e (v := (.agg #[.int .i64 (((at_ itI ((T.a ++ T.b).flatten) (i : Int)).2).kind), .string (((at_ itI ((T.a ++ T.b).flatten) (i : Int)).2).s), .slice (((at_ itI ((T.a ++ T.b).flatten) (i : Int)).2).l.a) (((at_ itI ((T.a ++ T.b).flatten) (i : Int)).2).l.n) (((at_ itI ((T.a ++ T.b).flatten) (i : Int)).2).l.c), .slice (((at_ itI ((T.a ++ T.b).flatten) (i : Int)).2).z.a) (((at_ itI ((T.a ++ T.b).flatten) (i : Int)).2).z.n) (((at_ itI ((T.a ++ T.b).flatten) (i : Int)).2).z.c), .slice (((at_ itI ((T.a ++ T.b).flatten) (i : Int)).2).h.a) (((at_ itI ((T.a ++ T.b).flatten) (i : Int)).2).h.n) (((at_ itI ((T.a ++ T.b).flatten) (i : Int)).2).h.c), .int .i64 (((at_ itI ((T.a ++ T.b).flatten) (i : Int)).2).till)])))) hcall ?_)
   rintro e w54 (⟨rfl, hJ1, hkp⟩ | ⟨rfl, hJx⟩)
   ·
    refine ⟨_, rfl, ?_⟩
    rw [← htk] at hJ1
    have hS56 := hS_50.kept hkp (fun k hk => hk)
    refine V.pt h55 fun a h57 => ?_
    refine V.re h57 [] 1 0 [(18, .bool false)] fun a h58 => k53 _ _ ?_
    refine V.cf h58 ?_
    refine V.skip (V.blk_n ?_)
    refine V.then_n (k27 _ _ ?_)
    refine V.rr h58 [(0, .i ((i : Int) + 1))] 19 19 [(8, .int .i64 ((i : Int) + 1))] fun a h59 => ?_
    refine V.then_n ?_
    refine ⟨i + 1, w54, by omega, ?_⟩
    refine ⟨(h59.eq 8 (v := (.int .i64 ((i : Int) + 1))) (u := (.int .i64 ((i + 1) : Int))) (V.int_eq (by omega))).only _, (Fr.refl [] _), hS56, (by omega), (by omega), (by have := hkp.1; omega), hJ1⟩
   ·
    refine ⟨_, rfl, ?_⟩
    rw [← htk] at hJx
    refine V.pt h55 fun a h60 => ?_
    refine V.re h60 [] 1 0 [(18, .bool true)] fun a h61 => k53 _ _ ?_
    refine V.ct h61 ?_
    refine V.ret (V.blk_r (V.then_r (V.then_r (V.blk_r ?_))))
    refine V.r0 h61 ?_
    exact ⟨⟨_, rfl⟩, .inr ⟨n, _, hn0, ⟨_, List.take_append_drop (i + 1) _⟩, hJx⟩⟩
  ·
   refine V.exit (V.then_e (V.then_e (V.blk_hit ?_)))
   refine V.e0 h22 ?_
   exact ⟨⟨_, rfl⟩, .inl ⟨n, hn0, by have h := hI _ _ _ _ hJ hFr_17; rwa [List.take_of_length_le (by omega)] at h⟩⟩
def encP (x : ByteArray × EntV) : Array Value := #[.string x.1, .agg #[.int .i64 x.2.kind, .string x.2.s, .slice x.2.l.a x.2.l.n x.2.l.c, .slice x.2.z.a x.2.z.n x.2.z.c, .slice x.2.h.a x.2.h.n x.2.h.c, .int .i64 x.2.till]]
end Go.Proofs.YtjkegckfncfoaaaGreat
end
section
namespace Go.V
open Go.Plan (FW)
open Go.RowKit Go.Base
set_option linter.unusedVariables false
set_option linter.unusedSimpArgs false
def rPostQ {α : Type} (KB : Nat → Prop) (I : List α → World → Prop) (Ix : Code → List α → World → Prop) (s : List α) (W : World) : Exit → Act → World → Prop
  | .normal, _, W' => KeptP KB W W' ∧ I s W'
  | .ret, _, W' => KeptP KB W W' ∧ Ix .ret s W'
  | .exit i, _, W' => KeptP KB W W' ∧ Ix (.exit i) s W'
  | .goto t, _, W' => KeptP KB W W' ∧ Ix (.goto t) s W'
  | _, _, _ => False
/-- What an iterator promises of the world w: whoever is told of the data one by one, and keeps the blocks of KB n; n: where the iterator's own blocks end. -/
def IterQ {α : Type} (P : Program) (gf : Nat) (lb : Array Value) (encs : α → Array Value) (S Sp : List α → Prop) (KB : Nat → Nat → Prop) (w : World) : Prop :=
  ∀ (W1 : World), Fr [] w W1 → w.heap.size + 2 ≤ W1.heap.size → ∀ (l : Nat) (J Jx : Nat → List α → World → Prop),
    (∀ n pre x W0 W, W1.heap.size ≤ n → n ≤ W.heap.size → J n pre W0 → Fr [] W0 W → Sp (pre ++ [x]) → Yld P l (encs x) W (fun e W' => (e = .returned (.bool true) ∧ J n (pre ++ [x]) W' ∧ KeptP (KB n) W W') ∨ (e = .returned (.bool false) ∧ Jx n (pre ++ [x]) W'))) →
    (∀ W2, Fr [] W1 W2 → J W2.heap.size [] W2) → Calls P gf (#[.func (.yield l) #[] #[]] ++ lb) W1 (fun e W' => (∃ v, e = .returned v) ∧ ((∃ n xs W2, W1.heap.size ≤ n ∧ S xs ∧ J n xs W2 ∧ Fr [] W2 W') ∨ (∃ n pre W2, W1.heap.size ≤ n ∧ Sp pre ∧ Jx n pre W2 ∧ Fr [] W2 W')))
section
variable {P : Program} {Q : Exit → Act → World → Prop} {a : Act} {w : World}
theorem rngQ {α : Type} {g : Operand} {ps : Array Tmp} {assign body : Code} {N : Nat} (hz : Sz N a) {gf : Nat} {lb : Array Value} (hg : a.eval g = .func (.func gf) #[] lb) (eg : ∀ args w, (callFunc gf args).run P w = .ok (.enter gf args) w)
    {encs : α → Array Value} {S Sp : List α → Prop} {KB : Nat → Nat → Prop} (hKB : ∀ n k, w.heap.size + 2 ≤ n → KB n k → k ≠ w.heap.size ∧ k ≠ w.heap.size + 1) (hit : IterQ P gf lb encs S Sp KB w) (hps : ∀ x, (encs x).size = ps.size)
    (I : Nat → List α → World → Prop) (Ix : Code → Nat → List α → World → Prop) (hI : ∀ n pre W W', I n pre W → Fr [w.heap.size + 1] W W' → I n pre W') (hIx : ∀ c n pre W W', Ix c n pre W → Fr [w.heap.size + 1] W W' → Ix c n pre W')
    (h0 : ∀ W, Fr [] w W → w.heap.size + 2 ≤ W.heap.size → I W.heap.size [] W)
    (hbody : ∀ (l n : Nat) (pre : List α) (x : α) (W0 W : World), l = w.heap.size + 1 → w.heap.size + 2 ≤ n → n ≤ W.heap.size → I n pre W0 → Fr [] W0 W → Sp (pre ++ [x]) → w.heap.size + 2 ≤ W0.heap.size →
      ∀ a1, Sz N a1 → a1.tmps = (ps.zip (encs x)).foldl (fun t (p, v) => t.setIfInBounds p v) a.tmps →
        Wp (some l) P assign (Exit.then (fun a2 W1 => KeptP (fun k => k = w.heap.size ∨ k = l ∨ KB n k) W W1 ∧ ∀ W2, Fr [l] W1 W2 → Wp (some l) P body (rPostQ (fun k => k = w.heap.size ∨ k = l ∨ KB n k) (I n) (fun c => Ix c n) (pre ++ [x]) W2) a2 W2) (fun _ _ _ => False)) a1 W)
    (hdone : ∀ (n : Nat) (xs : List α) (W : World), w.heap.size + 2 ≤ n → S xs → I n xs W → W.heap[w.heap.size]? = some (.deferred (some [])) → ∀ a1, Sd N [{ target := .collected w.heap.size, args := #[] }] a1 → a1.tmps = a.tmps → Q .normal a1 W)
    (hstop : ∀ (c : Code) (n : Nat) (pre : List α) (W : World), w.heap.size + 2 ≤ n → Sp pre → Ix c n pre W → W.heap[w.heap.size]? = some (.deferred (some [])) → ∀ a1, Sd N [{ target := .collected w.heap.size, args := #[] }] a1 → a1.tmps = a.tmps → Wp none P c Q a1 W) :
    Wp none P (.rangeFunc g ps assign body) Q a w := by
  unfold Wp
  refine wpIn_rangeFunc ?_
  intro fn hfn
  obtain ⟨rec, hrec⟩ : ∃ rec : LoopState → Option Code → Loop, rec = fun st pe => { state := st, pending := pe, fn, tmps := a.tmps, params := ps, assign, body, defers := w.heap.size } := ⟨_, rfl⟩
  obtain ⟨W1, hW1⟩ : ∃ W1, (w.alloc (.deferred (some []))).alloc (.loop (rec .ready none)) = W1 := ⟨_, rfl⟩
  have hs1 : W1.heap.size = w.heap.size + 2 := by rw [← hW1]; simp
  have hL1 : W1.heap[w.heap.size + 1]? = some (.loop (rec .ready none)) := by
    rw [← hW1]; have := World.alloc_heap_new (w.alloc (.deferred (some []))) (.loop (rec .ready none)); rwa [World.size_alloc] at this
  have hK1 : W1.heap[w.heap.size]? = some (.deferred (some [])) := by
    rw [← hW1]; exact (Below.heap_alloc _ _ _ (by simp)).trans (World.alloc_heap_new w _)
  have hF1 : Fr [] w W1 := by rw [← hW1]; exact (Fr.alloc [] w _).new (Fr.alloc [] _ _)
  refine ⟨w.heap.size + 1, [{ target := .collected w.heap.size, args := #[] }], W1, { target := .fn (.func gf) lb, args := #[.func (.yield (w.heap.size + 1)) #[] #[]] }, W1, gf,
    #[.func (.yield (w.heap.size + 1)) #[] #[]] ++ lb, W1, ?_, ?_, (fun _ _ => trivial), ?_, (fun h => by cases h), ?_⟩
  · rw [← hW1, hrec]; exact run_enterLoop_outer _ _ _ _ _
  · simp only [resolve, hg]
    simp [go_sem]
  · simp [invoke, go_sem, eg]
  · refine (callsFW (ro := none) (hit W1 hF1 (by omega) (w.heap.size + 1)
      (fun n pre W => I n pre W ∧ w.heap.size + 2 ≤ W.heap.size ∧ W.heap[w.heap.size + 1]? = some (.loop (rec .ready none)) ∧ W.heap[w.heap.size]? = some (.deferred (some [])))
      (fun n pre W => ∃ c, Ix c n pre W ∧ w.heap.size + 2 ≤ W.heap.size ∧ W.heap[w.heap.size + 1]? = some (.loop (rec .done (some c))) ∧ W.heap[w.heap.size]? = some (.deferred (some []))) ?_ ?_)).mono ?_
    · rintro n pre x W0 W hn1 hn2 ⟨hi, hsz, hl0, hk0⟩ hfr hsp
      have hl := (hfr.block (w.heap.size + 1) (by omega) (by simp)).trans hl0
      have hk := (hfr.block w.heap.size (by omega) (by simp)).trans hk0
      have hszW := hfr.size
      have hy := run_yield (P := P) (args := encs x) hl (by rw [hrec]; exact hps x)
      rw [hrec] at hy
      refine ⟨fn, _, assign, body, hy, roundIn_of_wpIn trivial ?_⟩
      have hbd := hbody (w.heap.size + 1) n pre x W0 W rfl (by omega) hn2 hi hfr hsp hsz { tmps := (ps.zip (encs x)).foldl (fun t (p, v) => t.setIfInBounds p v) a.tmps, defers := [] } ⟨by
        show ((ps.zip (encs x)).foldl (fun t (p, v) => t.setIfInBounds p v) a.tmps).size = N
        rw [← hz.size]
        exact foldl_size _ trivial, rfl⟩ rfl
      unfold Wp at hbd
      refine wpIn_mono hbd ?_
      intro e a2 W1' q
      cases e with
      | normal =>
        obtain ⟨hkept, hbdy⟩ := q
        have hkz := hkept.1
        have hkl := (hkept.2 (w.heap.size + 1) (by omega) (.inr (.inl rfl))).trans hl
        have hkD := (hkept.2 w.heap.size (by omega) (.inl rfl)).trans hk
        refine ⟨_, run_beginRound hkl (by rw [hrec]), ?_⟩
        have hfp := putObj_fr (o' := .loop { rec .ready none with state := .busy }) hkl
        have hb2 := hbdy _ hfp
        unfold Wp at hb2
        have hl2 : (W1'.putObj (w.heap.size + 1) (.loop { rec .ready none with state := .busy })).heap[w.heap.size + 1]? = some (.loop { rec .ready none with state := .busy }) := World.putObj_heap_same (Array.getElem?_eq_some_iff.1 hkl).1
        have hD2 := (hfp.block w.heap.size (by omega) (by simp)).trans hkD
        have hz2 := hfp.size
        refine wpIn_mono hb2 ?_
        have fin : ∀ (jump : Option Code) (W3 : World), KeptP (fun k => k = w.heap.size ∨ k = w.heap.size + 1 ∨ KB n k) (W1'.putObj (w.heap.size + 1) (.loop { rec .ready none with state := .busy })) W3 →
            ∃ W4, (Instr.endRound (w.heap.size + 1) jump).run P W3 = .ok (.bool jump.isNone) W4 ∧ Fr [w.heap.size + 1] W3 W4 ∧ w.heap.size + 2 ≤ W4.heap.size ∧
              W4.heap[w.heap.size + 1]? = some (.loop (rec (if jump.isNone then .ready else .done) jump)) ∧ W4.heap[w.heap.size]? = some (.deferred (some [])) ∧ KeptP (KB n) W W4 := fun jump W3 hk3 => by
          have hz3 := hk3.1
          have hl3 := (hk3.2 (w.heap.size + 1) (by omega) (.inr (.inl rfl))).trans hl2
          have hD3 := (hk3.2 w.heap.size (by omega) (.inl rfl)).trans hD2
          have hfp3 := putObj_fr (o' := .loop (rec (if jump.isNone then .ready else .done) jump)) hl3
          have hz4 := hfp3.size
          refine ⟨_, ?_, hfp3, by omega, World.putObj_heap_same (Array.getElem?_eq_some_iff.1 hl3).1, (hfp3.block w.heap.size (by omega) (by simp)).trans hD3, by omega, ?_⟩
          · have := run_endRound (P := P) jump hl3
            rw [hrec] at this ⊢
            exact this
          · intro k hkl' hKk
            have hne := hKB n k (by omega) hKk
            exact (hfp3.block k (by omega) (by simp; omega)).trans ((hk3.2 k (by omega) (.inr (.inr hKk))).trans ((hfp.block k (by omega) (by simp; omega)).trans (hkept.2 k hkl' (.inr (.inr hKk)))))
        intro e a3 W3 hp
        cases e with
        | normal =>
          obtain ⟨hk3, hi3⟩ := hp
          obtain ⟨W4, hr, hf4, hz4, hl4, hD4, hb4⟩ := fin none W3 hk3
          exact ⟨_, W4, hr, .inl ⟨rfl, ⟨hI _ _ _ _ hi3 hf4, hz4, hl4, hD4⟩, hb4⟩⟩
        | ret =>
          obtain ⟨hk3, hi3⟩ := hp
          obtain ⟨W4, hr, hf4, hz4, hl4, hD4, hb4⟩ := fin (some .ret) W3 hk3
          exact ⟨_, W4, hr, .inr ⟨rfl, .ret, hIx _ _ _ _ _ hi3 hf4, hz4, hl4, hD4⟩⟩
        | exit i =>
          obtain ⟨hk3, hi3⟩ := hp
          obtain ⟨W4, hr, hf4, hz4, hl4, hD4, hb4⟩ := fin (some (.exit i)) W3 hk3
          exact ⟨_, W4, hr, .inr ⟨rfl, .exit i, hIx _ _ _ _ _ hi3 hf4, hz4, hl4, hD4⟩⟩
        | goto t =>
          obtain ⟨hk3, hi3⟩ := hp
          obtain ⟨W4, hr, hf4, hz4, hl4, hD4, hb4⟩ := fin (some (.goto t)) W3 hk3
          exact ⟨_, W4, hr, .inr ⟨rfl, .goto t, hIx _ _ _ _ _ hi3 hf4, hz4, hl4, hD4⟩⟩
        | panic ch => exact hp.elim
        | outgrown => exact hp.elim
      | _ => exact q.elim
    · intro W2 hf2
      have hs2 := hf2.size
      exact ⟨h0 W2 (hF1.new hf2) (by omega), by omega, (hf2.block _ (by omega) (by simp)).trans hL1, (hf2.block _ (by omega) (by simp)).trans hK1⟩
    · rintro e W2 ⟨⟨v, rfl⟩, (⟨n, xs, W3, hn, hS, ⟨hi, hz3, hl, hk⟩, hf⟩ | ⟨n, pre, W3, hn, hSp, ⟨c, hi, hz3, hl, hk⟩, hf⟩)⟩
      · have hl' := (hf.block (w.heap.size + 1) (by omega) (by simp)).trans hl
        have hk' := (hf.block w.heap.size (by omega) (by simp)).trans hk
        have hs' := hf.size
        have hfp := putObj_fr (o' := .loop { rec .ready none with state := .exhausted }) hl'
        refine ⟨none, _, by have := run_endLoop (P := P) hl' (by rw [hrec]; simp); rw [hrec] at this; exact this, ?_⟩
        refine hdone n xs _ (by omega) hS (hI _ _ _ _ (hI _ _ _ _ hi (hf.mono fun i hi => by cases hi)) (by rw [hrec] at hfp; exact hfp)) ?_ _ ⟨hz.size, by show [_] ++ a.defers = _; rw [hz.defers]; rfl⟩ rfl
        rw [hrec] at hfp
        exact (hfp.block w.heap.size (by omega) (by simp)).trans hk'
      · have hl' := (hf.block (w.heap.size + 1) (by omega) (by simp)).trans hl
        have hk' := (hf.block w.heap.size (by omega) (by simp)).trans hk
        have hs' := hf.size
        have hfp := putObj_fr (o' := .loop { rec .done (some c) with state := .exhausted }) hl'
        refine ⟨some c, _, by have := run_endLoop (P := P) hl' (by rw [hrec]; simp); rw [hrec] at this; exact this, ?_⟩
        have hst := hstop c n pre (W2.putObj (w.heap.size + 1) (.loop { rec .done (some c) with state := .exhausted })) (by omega) hSp (hIx _ _ _ _ _ (hIx _ _ _ _ _ hi (hf.mono fun i hi => by cases hi)) hfp) ((hfp.block w.heap.size (by omega) (by simp)).trans hk') { a with defers := { target := .collected w.heap.size, args := #[] } :: a.defers } ⟨hz.size, by show _ :: a.defers = _; rw [hz.defers]⟩ rfl
        unfold Wp at hst
        rw [hrec] at hst
        exact hst
end
end Go.V
end
section
namespace Go.Proofs.YtjkegckfncfoaaaGreat
open Go.V Go.Base
open Go.RowKit (Below)
attribute [local irreducible] Act.put Act.eval
set_option linter.unusedVariables false
set_option linter.unusedSimpArgs false
set_option maxHeartbeats 4000000
set_option maxRecDepth 20000
theorem all1_iterQ (w : World) (H : Nat → Prop) (av : List Nat) (t : Nat) (T : Tb EntV) (hT : TabX 122 118 117 itI w H av t T) (hHb : ∀ k, H k → k < w.heap.size) (b : Nat) (hB : Blk w b [.pointer (some ⟨t, 0, none⟩)] 61) :
    IterQ Tryz.prog 72 #[.pointer (some ⟨b, 0, none⟩)] encP (fun xs => xs = (T.a ++ T.b).flatten) (fun pre => ∃ rest, pre ++ rest = (T.a ++ T.b).flatten) (fun n k => w.heap.size + 2 ≤ k ∧ k < n) w := by
  intro W1 f hsz l J Jx hY h0
  refine (all1_any W1 H av t T (hT.fr0 f) (fun k hk => by have := hHb k hk; omega) b (hB.fr0 f) (.func (.yield l) #[] #[]) (fun n pre W => ∃ W0, J n pre W0 ∧ Fr [] W0 W) (fun n pre W => Jx n pre W) ?_ ?_ ?_).mono ?_
  · rintro n pre W W' ⟨W0, hj, hf⟩ f'
    exact ⟨W0, hj, hf.trans f' (by simp)⟩
  · intro W2 f'
    exact ⟨W2, h0 W2 f', Fr.refl _ _⟩
  · rintro n pre x W hn hnl ⟨W0, hj, hf⟩ ⟨rest, hr⟩
    refine .inl ⟨l, rfl, (hY n pre x W0 W hn hnl hj hf ⟨rest, by simpa using hr⟩).mono ?_⟩
    rintro e W' (⟨he, hj', hk⟩ | ⟨he, hj'⟩)
    · exact .inl ⟨he, ⟨W', hj', Fr.refl _ _⟩, hk.1, fun k hlt hK => hk.2 k hlt ⟨by omega, hK.2⟩⟩
    · exact .inr ⟨he, hj'⟩
  · rintro e W' ⟨he, ⟨n, hn, W0, hj, hf⟩ | ⟨n, pre, hn, hp, hj⟩⟩
    · exact ⟨he, .inl ⟨n, _, W0, hn, rfl, hj, hf⟩⟩
    · exact ⟨he, .inr ⟨n, pre, W', hn, hp, hj, Fr.refl _ _⟩⟩
/-! ### Keys of which it is so -/
def keysP (p : Int → Bool) (l : List (ByteArray × EntV)) : List ByteArray := (l.filter fun x => p x.2.till).map (·.1)
theorem keysP_t {p : Int → Bool} {l : List (ByteArray × EntV)} {x : ByteArray × EntV} (h : p x.2.till = true) : keysP p (l ++ [x]) = keysP p l ++ [x.1] := by unfold keysP; rw [List.filter_append, List.map_append]; simp [h]
theorem keysP_f {p : Int → Bool} {l : List (ByteArray × EntV)} {x : ByteArray × EntV} (h : p x.2.till = false) : keysP p (l ++ [x]) = keysP p l := by unfold keysP; rw [List.filter_append]; simp [h]
theorem keysP_le (p : Int → Bool) (l : List (ByteArray × EntV)) : (keysP p l).length ≤ l.length := by unfold keysP; rw [List.length_map]; exact List.length_filter_le _ _
def srtK (l : List ByteArray) : List ByteArray := (sortS l).map ofL
theorem srtK_len (l : List ByteArray) : (srtK l).length = l.length := by unfold srtK; rw [List.length_map, sort_len]
theorem sort_own {w : World} {base : Nat} {A : Option Addr} {c : Nat} {l : List ByteArray} (h : OwR Rp.str NoZ w base 9 (.slice A l.length c) l) (hl : l.length ≤ 1099511627776) :
    Calls Tryz.prog 69 #[.slice A l.length c] w (fun e w' => e = .returned (.tuple #[]) ∧ OwR Rp.str NoZ w' base 9 (.slice A (srtK l).length c) (srtK l) ∧ Fr ((Value.slice A l.length c).ownBlock.toList) w w') := by
  rcases h.caseS with ⟨he, rfl⟩ | ⟨g, c', he⟩
  · injection he with e1 e2 e3
    subst e1; subst e3
    refine (sort_none none 0 0 rfl).mono fun e w' ⟨h1, h2⟩ => ⟨h1, ?_, h2.mono (by simp)⟩
    rw [show srtK [] = [] by simp [srtK, sortS]]
    exact OwR.nil ..
  · injection he with e1 e2 e3
    subst e1; subst e3
    refine (sort_any h hl).mono fun e w' ⟨h1, h2, h3⟩ => ⟨h1, ?_, h3.mono (by simp [Value.ownBlock])⟩
    rw [srtK_len]; exact h2
theorem sorted0_any (w : World) (H Vb : Nat → Prop) (sp t : Nat) (T : Tb EntV) (D : ByteArray → Option EnD) (hq : SpX w H Vb sp t T D) (pf : Nat) (he : ∀ args w, (callFunc pf args).run Tryz.prog w = .ok (.enter pf args) w) (p : Int → Bool) (hpf : ∀ W (v : EntV), Fr [] w W → Calls Tryz.prog pf #[.agg #[.int .i64 v.kind, .string v.s, .slice v.l.a v.l.n v.l.c, .slice v.z.a v.z.n v.z.c, .slice v.h.a v.h.n v.h.c, .int .i64 v.till]] W (fun e W' => e = .returned (.bool (p v.till)) ∧ Fr [] W W')) : Calls Tryz.prog 34 #[.pointer (some ⟨sp, 0, none⟩), .func (.func pf) #[] #[]] w (fun e w' => ∃ A c, e = .returned (.slice A (srtK (keysP p (T.a ++ T.b).flatten)).length c) ∧ OwR Rp.str NoZ w' w.heap.size 9 (.slice A (srtK (keysP p (T.a ++ T.b).flatten)).length c) (srtK (keysP p (T.a ++ T.b).flatten)) ∧ Fr [] w w') := by
 have hF := Fr.refl [] w
 have hX := hq
 have hB := hq.hB
 have hspl := hB.lt
 have hX0 := hq.lt
 have hcn := hq.hT.1.cn
 have hM := hq.hM
 refine V.enM 28 Tryz.func34 fun a h1 => ?_
 refine V.sg fun K2 k3 => ?_
 refine V.go (V.mk [(1, .func (.func pf) #[] #[])] ⟨h1.e, trivial⟩ (by kernel_rfl) [.func (.func pf) #[] #[]] 86 (fun b => .pointer (some ⟨b, 0, none⟩)) (by kernel_rfl) ?_)
 intro w5 b4 heb4 hB6 hF7 hsb4
 have hX_8 := hX.fr0 hF7
 have hB_9 := hB.fr0 hF7
 have hF_10 := hF.new hF7
 refine V.pt h1 fun a h11 => ?_
 refine V.re h11 [] 4 4 [] fun a h12 => k3 _ _ ?_
 refine V.sg fun K13 k14 => ?_
 refine V.go (V.mk [] trivial (by kernel_rfl) [.slice none 0 0] 25 (fun b => .pointer (some ⟨b, 0, none⟩)) (by kernel_rfl) ?_)
 intro w16 b15 heb15 hB17 hF18 hsb15
 have hX_19 := hX_8.fr0 hF18
 have hB_20 := hB_9.fr0 hF18
 have hF_21 := hF_10.new hF18
 have hB6_22 := hB6.fr0 hF18
 refine V.pt h12 fun a h23 => ?_
 refine V.nt (k14 _ _ ?_)
 refine V.seq fun K24 k25 => ?_
 refine V.sg fun K26 k27 => ?_
 refine V.run h23 [] 1 1 0 [(8, .pointer (some ⟨sp, 0, none⟩))] fun a h28 => ?_
 refine V.cl h28 (Go.Proofs.enters_of Tryz.func29 (by kernel_rfl) rfl) (isp_any w16 sp t hX_19.hB) ?_
 rintro _ w30 ⟨rfl, hF29⟩
 refine ⟨_, rfl, fun a h31 => ?_⟩
 have hsw30 := hF29.size
 have hX_32 := hX_19.fr0 hF29
 have hB_33 := hB_20.fr0 hF29
 have hF_34 := hF_21.new hF29
 have hB6_35 := hB6_22.fr0 hF29
 have hB17_36 := hB17.fr0 hF29
 refine V.re h31 [] 1 0 [(10, .bool false)] fun a h37 => k27 _ _ ?_
 refine V.cf h37 ?_
 refine V.skip ?_
 refine V.then_n (k25 _ _ ?_)
 refine V.seq fun K38 k39 => ?_
 refine V.sg fun K40 k41 => ?_
 refine V.run h37 [(3, .b hB_33 0)] 4 11 13 [(14, .pointer (some ⟨t, 0, none⟩))] fun a h42 => ?_
 refine V.cl h42 (Go.Proofs.enters_of Tryz.func41 (by kernel_rfl) rfl) (all_any w30 (some ⟨t, 0, none⟩)) ?_
 rintro _ w46 ⟨b43, rfl, hB44, hleb43, hF45⟩
 refine ⟨_, rfl, fun a h47 => ?_⟩
 have hsw46 := hF45.size
 have hX_48 := hX_32.fr0 hF45
 have hF_50 := hF_34.new hF45
 have hB6_51 := hB6_35.fr0 hF45
 have hB17_52 := hB17_36.fr0 hF45
 have hlthB44 := hB44.lt
 refine V.nt (k41 _ _ ?_)
 refine V.block ?_
 refine V.rngQ h47.sd h47.e (Go.Proofs.enters_of Tryz.func72 (by kernel_rfl) rfl) (KB := fun nq k => w46.heap.size + 2 ≤ k ∧ k < nq) (fun nq k hnq hk => by (try dsimp only at hk); omega) (all1_iterQ w46 (H) [] t (T) hX_48.hT (fun k hk => (hX_48.hH k hk).2.2) b43 hB44) (fun _ => rfl) (fun (nq : Nat) (pre : List (ByteArray × EntV)) W_ => ∃ (A : Option Addr), ∃ (c : Nat), Blk W_ b4 [.func (.func pf) #[] #[]] 86 ∧ Blk W_ b15 [.slice A ((keysP p pre).length) c] 25 ∧ OwR Rp.str NoZ W_ nq 9 (.slice A (keysP p pre).length c) (keysP p pre) ∧ Fr [] w W_ ∧ (w46.heap.size + 2 ≤ nq)) (fun _ _ _ _ => False) ?_ ?_ ?_ ?_ ?_ ?_
 ·
  rintro nq pre W W1 ⟨A, c, hB3, hB5, hO, hFr, hnq0⟩ hf
  have := hB3.lt
  have := hB5.lt
  have := hFr.size
  exact ⟨A, c, (by exact hB3.fr1 hf (by omega)), (by exact hB5.fr1 hf (by omega)), (by exact hO.frn hf (fun h => h) (by first | exact own_ne hO (by omega))), (by exact hFr.own hf (by simp <;> omega)), hnq0⟩
 · rintro _ _ _ _ _ h _
   exact h.elim
 ·
  rintro W hf hszW
  have hF_55 := hF_50.new hf
  have hB6_56 := hB6_51.fr0 hf
  have hB17_57 := hB17_52.fr0 hf
  exact ⟨none, 0, hB6_56, hB17_57, (OwR.nil ..), hF_55, hszW⟩
 ·
  rintro l nq pre x W0 W hl hnq hnqW ⟨A, c, hB3, hB5, hO, hFr, hnq0⟩ hfr hsp hsz a1 hz1 htm
  subst hl
  obtain ⟨rest, hrest⟩ := id hsp
  have hrl := congrArg List.length hrest
  rw [hcn] at hrl
  simp only [List.length_append, List.length_singleton] at hrl
  have hkl := keysP_le p pre
  have hszfr := hfr.size
  have hlt59 := hB3.lt
  have hlt60 := hB5.lt
  have hfs61 := hFr.size
  have hB3_62 := hB3.fr0 hfr
  have hB5_63 := hB5.fr0 hfr
  have hO_64 := hO.fr0 hfr
  have hFr_65 := hFr.new hfr
  have hK := KeptP.refl (fun k => k = w46.heap.size ∨ k = w46.heap.size + 1 ∨ (w46.heap.size + 2 ≤ k ∧ k < nq)) W
  have htm1 : a1.tmps = (a.tmps.setIfInBounds 16 (.string x.1)).setIfInBounds 17 (.agg #[.int .i64 x.2.kind, .string x.2.s, .slice x.2.l.a x.2.l.n x.2.l.c, .slice x.2.z.a x.2.z.n x.2.z.c, .slice x.2.h.a x.2.h.n x.2.h.c, .int .i64 x.2.till]) := by simpa [encP] using htm
  have s16 : a1.eval (.tmp 16) = (.string x.1) := par2_fst h47.sd rfl rfl htm1
  have hE := (En.nil hz1).add s16
  have s17 : a1.eval (.tmp 17) = (.agg #[.int .i64 x.2.kind, .string x.2.s, .slice x.2.l.a x.2.l.n x.2.l.c, .slice x.2.z.a x.2.z.n x.2.z.c, .slice x.2.h.a x.2.h.n x.2.h.c, .int .i64 x.2.till]) := par2_snd h47.sd rfl htm1
  replace hE := hE.add s17
  have s3_66 : a1.eval (.tmp 3) = (.pointer (some ⟨b4, 0, none⟩)) := par2_other htm1 rfl rfl h47.e
  replace hE := hE.add s3_66
  have s5_67 : a1.eval (.tmp 5) = (.pointer (some ⟨b15, 0, none⟩)) := par2_other htm1 rfl rfl h47.e
  replace hE := hE.add s5_67
  refine V.sr hE [] 1 0 [(6, .string x.1)] fun a h70 => ?_
  refine V.rg ?_
  refine V.go (V.mk [] trivial (by kernel_rfl) [.int .i64 0, .string ⟨#[]⟩, .slice none 0 0, .slice none 0 0, .slice none 0 0, .int .i64 0] 79 (fun b => .pointer (some ⟨b, 0, none⟩)) (by kernel_rfl) ?_)
  intro w72 b71 heb71 hB73 hF74 hsb71
  have hB3_75 := hB3_62.fr0 hF74
  have hB5_76 := hB5_63.fr0 hF74
  have hO_77 := hO_64.fr0 hF74
  have hFr_78 := hFr_65.new hF74
  have hK_79 := hK.fr hF74 (by simp)
  refine V.pt h70 fun a h80 => ?_
  refine V.go (V.stn b71 0 (.agg #[.int .i64 x.2.kind, .string x.2.s, .slice x.2.l.a x.2.l.n x.2.l.c, .slice x.2.z.a x.2.z.n x.2.z.c, .slice x.2.h.a x.2.h.n x.2.h.c, .int .i64 x.2.till]) [.int .i64 x.2.kind, .string x.2.s, .slice x.2.l.a x.2.l.n x.2.l.c, .slice x.2.z.a x.2.z.n x.2.z.c, .slice x.2.h.a x.2.h.n x.2.h.c, .int .i64 x.2.till] h80.e h80.e rfl rfl (by kernel_rfl) hB73 (by simp) [.int .i64 x.2.kind, .string x.2.s, .slice x.2.l.a x.2.l.n x.2.l.c, .slice x.2.z.a x.2.z.n x.2.z.c, .slice x.2.h.a x.2.h.n x.2.h.c, .int .i64 x.2.till] rfl ?_)
  intro w81 hB82 hF83 hsw81
  have hB3_84 := hB3_75.fr1 hF83 (by omega)
  have hB5_85 := hB5_76.fr1 hF83 (by omega)
  have hO_86 := hO_77.frn hF83 (fun h => h) (by first | exact own_ne hO_77 (by omega) | exact own_ne2 hO (by omega))
  have hFr_87 := hFr_78.own hF83 (by simp <;> omega)
  have hK_88 := hK_79.fr hF83 (by intro k hk; simp only [List.mem_singleton] at hk; subst hk; intro h; (try dsimp only at h); omega)
  refine V.nil ?_
  refine ⟨hK_88, fun W2 hf2 => ?_⟩
  have hszf2 := hf2.size
  have hB3_89 := hB3_84.fr1 hf2 (by omega)
  have hB5_90 := hB5_85.fr1 hf2 (by omega)
  have hO_91 := hO_86.frn hf2 (fun h => h) (by first | exact own_ne hO_86 (by omega) | exact own_ne2 hO (by omega))
  have hFr_92 := hFr_87.own hf2 (by simp <;> omega)
  have hB82_93 := hB82.fr1 hf2 (by omega)
  have hK2 := KeptP.refl (fun k => k = w46.heap.size ∨ k = w46.heap.size + 1 ∨ (w46.heap.size + 2 ≤ k ∧ k < nq)) W2
  refine V.block ?_
  refine V.sg fun K94 k95 => ?_
  refine V.run h80 [(0, .b hB3_89 0), (0, .bs hB82_93 0 [.int .i64 x.2.kind, .string x.2.s, .slice x.2.l.a x.2.l.n x.2.l.c, .slice x.2.z.a x.2.z.n x.2.z.c, .slice x.2.h.a x.2.h.n x.2.h.c, .int .i64 x.2.till])] 2 1 0 [(18, .func (.func pf) #[] #[]), (19, .agg #[.int .i64 x.2.kind, .string x.2.s, .slice x.2.l.a x.2.l.n x.2.l.c, .slice x.2.z.a x.2.z.n x.2.z.c, .slice x.2.h.a x.2.h.n x.2.h.c, .int .i64 x.2.till])] fun a h96 => ?_
  refine V.cl h96 he (hpf W2 x.2 hFr_92) ?_
  rintro _ w98 ⟨rfl, hF97⟩
  refine ⟨_, rfl, fun a h99 => ?_⟩
  have hsw98 := hF97.size
  have hB3_100 := hB3_89.fr0 hF97
  have hB5_101 := hB5_90.fr0 hF97
  have hO_102 := hO_91.fr0 hF97
  have hFr_103 := hFr_92.new hF97
  have hK2_105 := hK2.fr hF97 (by simp)
  refine V.nt (k95 _ _ ?_)
  refine V.cb h99 (p x.2.till) (fun ht106 => ?_) (fun ht106 => ?_)
  ·
   refine V.rg ?_
   refine V.run h99 [(0, .b hB5_101 0)] 2 1 0 [(21, .slice A ((keysP p pre).length) c), (22, .string x.1)] fun a h107 => ?_
   refine V.go (V.mk [(22, .string x.1)] ⟨h107.e, trivial⟩ (by kernel_rfl) [.string x.1] 9 (fun b => .slice (some ⟨b, 0, none⟩) 1 1) (by kernel_rfl) ?_)
   intro w109 b108 heb108 hB110 hF111 hsb108
   have hB3_112 := hB3_100.fr0 hF111
   have hB5_113 := hB5_101.fr0 hF111
   have hO_114 := hO_102.fr0 hF111
   have hFr_115 := hFr_103.new hF111
   have hK2_117 := hK2_105.fr hF111 (by simp)
   refine V.pt h107 fun a h118 => ?_
   refine V.go (V.app (R := Rp.str) (ys := ([x.1])) (news := [.string x.1]) (h118.e (v := (.slice A ((keysP p pre).length) c))) ⟨b108, 0, none⟩ 1 1 (h118.e (v := (.slice (some ⟨b108, 0, none⟩) 1 1))) (by kernel_rfl) (info9) (by kernel_rfl) (by decide) hO_114 rfl ⟨_, [], rfl, rfl, rfl⟩ (blk_cells hB110 0 _ rfl) (by first | omega | (simp; omega)) (by decide) (by omega) ?_)
   intro A119 c120 w121 hO122z hF123 hatw121
   have hsw121 := hF123.size
   have hB3_124 := hB3_112.fr hF123 (by first | exact own_notin hO_114 (by omega) | exact own_notin2 hO (by omega))
   have hB5_125 := hB5_113.fr hF123 (by first | exact own_notin hO_114 (by omega) | exact own_notin2 hO (by omega))
   have hFr_126 := hFr_115.own hF123 (own_ge hO_114 (by omega))
   have hK2_128 := hK2_117.fr hF123 (by intro k hk; have hog := own_ge hO_114 (Nat.le_refl _) k hk; intro h; (try dsimp only at h); omega)
   have hO122 := hO122z.zone (Z' := NoZ) (fun _ _ q => q.1) (fun _ _ q => q)
   refine V.pt h118 fun a h129 => ?_
   refine V.go (V.stn b15 0 (.slice A119 (((keysP p pre).length) + 1) c120) [.slice A119 (((keysP p pre).length) + 1) c120] h129.e h129.e rfl rfl (by kernel_rfl) hB5_125 (by simp) [.slice A119 (((keysP p pre).length) + 1) c120] rfl ?_)
   intro w130 hB131 hF132 hsw130
   have hB3_133 := hB3_124.fr1 hF132 (by omega)
   have hFr_134 := hFr_126.own hF132 (by simp <;> omega)
   have hK2_136 := hK2_128.fr hF132 (by intro k hk; simp only [List.mem_singleton] at hk; subst hk; intro h; (try dsimp only at h); omega)
   have hO122_137 := hO122.frn hF132 (fun h => h) (by first | exact own_ne hO122 (by omega) | exact own_ne2 hO122 (by omega))
   refine V.nil ?_
   refine V.blk_n ?_
   have hkp := keysP_t (p := p) (l := pre) (x := x) ht106
   exact ⟨hK2_136, A119, c120, hB3_133, (by rw [hkp, List.length_append]; exact hB131), (by rw [hkp, List.length_append]; exact hO122_137), hFr_134, hnq0⟩
  ·
   refine V.skip (V.blk_n ?_)
   have hkp := keysP_f (p := p) (l := pre) (x := x) (by have := ht106; simpa using this)
   exact ⟨hK2_105, A, c, hB3_100, (by rw [hkp]; exact hB5_101), (by rw [hkp]; exact hO_102), hFr_103, hnq0⟩
 ·
  rintro nq xs W hnq hS ⟨A, c, hB3, hB5, hO, hFr, hnq0⟩ hD a2 hz2 htm2
  obtain ⟨pre, hprexs⟩ : ∃ pre, pre = xs := ⟨_, rfl⟩; subst hprexs
  have hE := En.nil hz2
  have hlt138 := hB3.lt
  have hlt139 := hB5.lt
  have hfs140 := hFr.size
  have hDf : Df W (w46.heap.size) := hD
  have hDlt := (Array.getElem?_eq_some_iff.1 hD).1
  have s5_141 : a2.eval (.tmp 5) = (.pointer (some ⟨b15, 0, none⟩)) := par_tm htm2 h47.e
  replace hE := hE.add s5_141
  refine V.blk_n ?_
  refine V.then_n (k39 _ _ ?_)
  refine V.seq fun K142 k143 => ?_
  have hkl9 := keysP_le p pre
  have hpl9 : pre.length = T.n := by rw [hS]; exact hcn
  refine V.rg ?_
  refine V.run hE [(0, .b hB5 0)] 1 1 0 [(25, .slice A ((keysP p pre).length) c)] fun a h144 => ?_
  refine V.cl h144 (Go.Proofs.enters_of Tryz.func69 (by kernel_rfl) rfl) (sort_own (c := c) (l := (keysP p pre)) hO (by omega)) ?_
  rintro _ w147 ⟨rfl, hO145, hF146⟩
  refine ⟨_, rfl, fun a h148 => ?_⟩
  have hsw147 := hF146.size
  have hB5_150 := hB5.fr hF146 (by first | exact own_notin hO (by omega))
  have hFr_151 := hFr.own hF146 (own_ge hO (by omega))
  have hDf_152 := hDf.fr hF146 (own_notin hO (by omega))
  refine V.nt (k143 _ _ ?_)
  refine V.sr h148 [(0, .b hB5_150 0)] 27 27 [(4, .slice A ((keysP p pre).length) c)] fun a h155 => ?_
  refine V.ret ?_
  refine V.retM h155.sd hDf_152 (fun w156 hF157 => ?_)
  have hsw156 := hF157.size
  have hFr_160 := hFr_151.own hF157 (by simp <;> omega)
  have hO145_161 := hO145.frn hF157 (fun h => h) (by first | exact own_ne hO145 (by omega))
  refine ⟨_, V.res1 rfl (h155.e (v := (.slice A ((keysP p pre).length) c))), ?_⟩
  have hsl := srtK_len (keysP p (T.a ++ T.b).flatten)
  subst hS
  exact ⟨A, c, by rw [hsl], hO145_161.rebase (by omega), hFr_160⟩
 · rintro _ _ _ _ _ _ h
   exact h.elim
theorem sorted1_any (w : World) (H Vb : Nat → Prop) (sp t : Nat) (T : Tb EntV) (D : ByteArray → Option EnD) (hq : SpX w H Vb sp t T D) (pf : Nat) (u : Addr) (he : ∀ args w, (callFunc pf args).run Tryz.prog w = .ok (.enter pf args) w) (p : Int → Bool) (hpf : ∀ W (v : EntV), Fr [] w W → Calls Tryz.prog pf #[.agg #[.int .i64 v.kind, .string v.s, .slice v.l.a v.l.n v.l.c, .slice v.z.a v.z.n v.z.c, .slice v.h.a v.h.n v.h.c, .int .i64 v.till], .pointer (some u)] W (fun e W' => e = .returned (.bool (p v.till)) ∧ Fr [] W W')) : Calls Tryz.prog 34 #[.pointer (some ⟨sp, 0, none⟩), .func (.func pf) #[] #[.pointer (some u)]] w (fun e w' => ∃ A c, e = .returned (.slice A (srtK (keysP p (T.a ++ T.b).flatten)).length c) ∧ OwR Rp.str NoZ w' w.heap.size 9 (.slice A (srtK (keysP p (T.a ++ T.b).flatten)).length c) (srtK (keysP p (T.a ++ T.b).flatten)) ∧ Fr [] w w') := by
 have hF := Fr.refl [] w
 have hX := hq
 have hB := hq.hB
 have hspl := hB.lt
 have hX0 := hq.lt
 have hcn := hq.hT.1.cn
 have hM := hq.hM
 refine V.enM 28 Tryz.func34 fun a h1 => ?_
 refine V.sg fun K2 k3 => ?_
 refine V.go (V.mk [(1, .func (.func pf) #[] #[.pointer (some u)])] ⟨h1.e, trivial⟩ (by kernel_rfl) [.func (.func pf) #[] #[.pointer (some u)]] 86 (fun b => .pointer (some ⟨b, 0, none⟩)) (by kernel_rfl) ?_)
 intro w5 b4 heb4 hB6 hF7 hsb4
 have hX_8 := hX.fr0 hF7
 have hB_9 := hB.fr0 hF7
 have hF_10 := hF.new hF7
 refine V.pt h1 fun a h11 => ?_
 refine V.re h11 [] 4 4 [] fun a h12 => k3 _ _ ?_
 refine V.sg fun K13 k14 => ?_
 refine V.go (V.mk [] trivial (by kernel_rfl) [.slice none 0 0] 25 (fun b => .pointer (some ⟨b, 0, none⟩)) (by kernel_rfl) ?_)
 intro w16 b15 heb15 hB17 hF18 hsb15
 have hX_19 := hX_8.fr0 hF18
 have hB_20 := hB_9.fr0 hF18
 have hF_21 := hF_10.new hF18
 have hB6_22 := hB6.fr0 hF18
 refine V.pt h12 fun a h23 => ?_
 refine V.nt (k14 _ _ ?_)
 refine V.seq fun K24 k25 => ?_
 refine V.sg fun K26 k27 => ?_
 refine V.run h23 [] 1 1 0 [(8, .pointer (some ⟨sp, 0, none⟩))] fun a h28 => ?_
 refine V.cl h28 (Go.Proofs.enters_of Tryz.func29 (by kernel_rfl) rfl) (isp_any w16 sp t hX_19.hB) ?_
 rintro _ w30 ⟨rfl, hF29⟩
 refine ⟨_, rfl, fun a h31 => ?_⟩
 have hsw30 := hF29.size
 have hX_32 := hX_19.fr0 hF29
 have hB_33 := hB_20.fr0 hF29
 have hF_34 := hF_21.new hF29
 have hB6_35 := hB6_22.fr0 hF29
 have hB17_36 := hB17.fr0 hF29
 refine V.re h31 [] 1 0 [(10, .bool false)] fun a h37 => k27 _ _ ?_
 refine V.cf h37 ?_
 refine V.skip ?_
 refine V.then_n (k25 _ _ ?_)
 refine V.seq fun K38 k39 => ?_
 refine V.sg fun K40 k41 => ?_
 refine V.run h37 [(3, .b hB_33 0)] 4 11 13 [(14, .pointer (some ⟨t, 0, none⟩))] fun a h42 => ?_
 refine V.cl h42 (Go.Proofs.enters_of Tryz.func41 (by kernel_rfl) rfl) (all_any w30 (some ⟨t, 0, none⟩)) ?_
 rintro _ w46 ⟨b43, rfl, hB44, hleb43, hF45⟩
 refine ⟨_, rfl, fun a h47 => ?_⟩
 have hsw46 := hF45.size
 have hX_48 := hX_32.fr0 hF45
 have hF_50 := hF_34.new hF45
 have hB6_51 := hB6_35.fr0 hF45
 have hB17_52 := hB17_36.fr0 hF45
 have hlthB44 := hB44.lt
 refine V.nt (k41 _ _ ?_)
 refine V.block ?_
 refine V.rngQ h47.sd h47.e (Go.Proofs.enters_of Tryz.func72 (by kernel_rfl) rfl) (KB := fun nq k => w46.heap.size + 2 ≤ k ∧ k < nq) (fun nq k hnq hk => by (try dsimp only at hk); omega) (all1_iterQ w46 (H) [] t (T) hX_48.hT (fun k hk => (hX_48.hH k hk).2.2) b43 hB44) (fun _ => rfl) (fun (nq : Nat) (pre : List (ByteArray × EntV)) W_ => ∃ (A : Option Addr), ∃ (c : Nat), Blk W_ b4 [.func (.func pf) #[] #[.pointer (some u)]] 86 ∧ Blk W_ b15 [.slice A ((keysP p pre).length) c] 25 ∧ OwR Rp.str NoZ W_ nq 9 (.slice A (keysP p pre).length c) (keysP p pre) ∧ Fr [] w W_ ∧ (w46.heap.size + 2 ≤ nq)) (fun _ _ _ _ => False) ?_ ?_ ?_ ?_ ?_ ?_
 ·
  rintro nq pre W W1 ⟨A, c, hB3, hB5, hO, hFr, hnq0⟩ hf
  have := hB3.lt
  have := hB5.lt
  have := hFr.size
  exact ⟨A, c, (by exact hB3.fr1 hf (by omega)), (by exact hB5.fr1 hf (by omega)), (by exact hO.frn hf (fun h => h) (by first | exact own_ne hO (by omega))), (by exact hFr.own hf (by simp <;> omega)), hnq0⟩
 · rintro _ _ _ _ _ h _
   exact h.elim
 ·
  rintro W hf hszW
  have hF_55 := hF_50.new hf
  have hB6_56 := hB6_51.fr0 hf
  have hB17_57 := hB17_52.fr0 hf
  exact ⟨none, 0, hB6_56, hB17_57, (OwR.nil ..), hF_55, hszW⟩
 ·
  rintro l nq pre x W0 W hl hnq hnqW ⟨A, c, hB3, hB5, hO, hFr, hnq0⟩ hfr hsp hsz a1 hz1 htm
  subst hl
  obtain ⟨rest, hrest⟩ := id hsp
  have hrl := congrArg List.length hrest
  rw [hcn] at hrl
  simp only [List.length_append, List.length_singleton] at hrl
  have hkl := keysP_le p pre
  have hszfr := hfr.size
  have hlt59 := hB3.lt
  have hlt60 := hB5.lt
  have hfs61 := hFr.size
  have hB3_62 := hB3.fr0 hfr
  have hB5_63 := hB5.fr0 hfr
  have hO_64 := hO.fr0 hfr
  have hFr_65 := hFr.new hfr
  have hK := KeptP.refl (fun k => k = w46.heap.size ∨ k = w46.heap.size + 1 ∨ (w46.heap.size + 2 ≤ k ∧ k < nq)) W
  have htm1 : a1.tmps = (a.tmps.setIfInBounds 16 (.string x.1)).setIfInBounds 17 (.agg #[.int .i64 x.2.kind, .string x.2.s, .slice x.2.l.a x.2.l.n x.2.l.c, .slice x.2.z.a x.2.z.n x.2.z.c, .slice x.2.h.a x.2.h.n x.2.h.c, .int .i64 x.2.till]) := by simpa [encP] using htm
  have s16 : a1.eval (.tmp 16) = (.string x.1) := par2_fst h47.sd rfl rfl htm1
  have hE := (En.nil hz1).add s16
  have s17 : a1.eval (.tmp 17) = (.agg #[.int .i64 x.2.kind, .string x.2.s, .slice x.2.l.a x.2.l.n x.2.l.c, .slice x.2.z.a x.2.z.n x.2.z.c, .slice x.2.h.a x.2.h.n x.2.h.c, .int .i64 x.2.till]) := par2_snd h47.sd rfl htm1
  replace hE := hE.add s17
  have s3_66 : a1.eval (.tmp 3) = (.pointer (some ⟨b4, 0, none⟩)) := par2_other htm1 rfl rfl h47.e
  replace hE := hE.add s3_66
  have s5_67 : a1.eval (.tmp 5) = (.pointer (some ⟨b15, 0, none⟩)) := par2_other htm1 rfl rfl h47.e
  replace hE := hE.add s5_67
  refine V.sr hE [] 1 0 [(6, .string x.1)] fun a h70 => ?_
  refine V.rg ?_
  refine V.go (V.mk [] trivial (by kernel_rfl) [.int .i64 0, .string ⟨#[]⟩, .slice none 0 0, .slice none 0 0, .slice none 0 0, .int .i64 0] 79 (fun b => .pointer (some ⟨b, 0, none⟩)) (by kernel_rfl) ?_)
  intro w72 b71 heb71 hB73 hF74 hsb71
  have hB3_75 := hB3_62.fr0 hF74
  have hB5_76 := hB5_63.fr0 hF74
  have hO_77 := hO_64.fr0 hF74
  have hFr_78 := hFr_65.new hF74
  have hK_79 := hK.fr hF74 (by simp)
  refine V.pt h70 fun a h80 => ?_
  refine V.go (V.stn b71 0 (.agg #[.int .i64 x.2.kind, .string x.2.s, .slice x.2.l.a x.2.l.n x.2.l.c, .slice x.2.z.a x.2.z.n x.2.z.c, .slice x.2.h.a x.2.h.n x.2.h.c, .int .i64 x.2.till]) [.int .i64 x.2.kind, .string x.2.s, .slice x.2.l.a x.2.l.n x.2.l.c, .slice x.2.z.a x.2.z.n x.2.z.c, .slice x.2.h.a x.2.h.n x.2.h.c, .int .i64 x.2.till] h80.e h80.e rfl rfl (by kernel_rfl) hB73 (by simp) [.int .i64 x.2.kind, .string x.2.s, .slice x.2.l.a x.2.l.n x.2.l.c, .slice x.2.z.a x.2.z.n x.2.z.c, .slice x.2.h.a x.2.h.n x.2.h.c, .int .i64 x.2.till] rfl ?_)
  intro w81 hB82 hF83 hsw81
  have hB3_84 := hB3_75.fr1 hF83 (by omega)
  have hB5_85 := hB5_76.fr1 hF83 (by omega)
  have hO_86 := hO_77.frn hF83 (fun h => h) (by first | exact own_ne hO_77 (by omega) | exact own_ne2 hO (by omega))
  have hFr_87 := hFr_78.own hF83 (by simp <;> omega)
  have hK_88 := hK_79.fr hF83 (by intro k hk; simp only [List.mem_singleton] at hk; subst hk; intro h; (try dsimp only at h); omega)
  refine V.nil ?_
  refine ⟨hK_88, fun W2 hf2 => ?_⟩
  have hszf2 := hf2.size
  have hB3_89 := hB3_84.fr1 hf2 (by omega)
  have hB5_90 := hB5_85.fr1 hf2 (by omega)
  have hO_91 := hO_86.frn hf2 (fun h => h) (by first | exact own_ne hO_86 (by omega) | exact own_ne2 hO (by omega))
  have hFr_92 := hFr_87.own hf2 (by simp <;> omega)
  have hB82_93 := hB82.fr1 hf2 (by omega)
  have hK2 := KeptP.refl (fun k => k = w46.heap.size ∨ k = w46.heap.size + 1 ∨ (w46.heap.size + 2 ≤ k ∧ k < nq)) W2
  refine V.block ?_
  refine V.sg fun K94 k95 => ?_
  refine V.run h80 [(0, .b hB3_89 0), (0, .bs hB82_93 0 [.int .i64 x.2.kind, .string x.2.s, .slice x.2.l.a x.2.l.n x.2.l.c, .slice x.2.z.a x.2.z.n x.2.z.c, .slice x.2.h.a x.2.h.n x.2.h.c, .int .i64 x.2.till])] 2 1 0 [(18, .func (.func pf) #[] #[.pointer (some u)]), (19, .agg #[.int .i64 x.2.kind, .string x.2.s, .slice x.2.l.a x.2.l.n x.2.l.c, .slice x.2.z.a x.2.z.n x.2.z.c, .slice x.2.h.a x.2.h.n x.2.h.c, .int .i64 x.2.till])] fun a h96 => ?_
  refine V.cl h96 he (hpf W2 x.2 hFr_92) ?_
  rintro _ w98 ⟨rfl, hF97⟩
  refine ⟨_, rfl, fun a h99 => ?_⟩
  have hsw98 := hF97.size
  have hB3_100 := hB3_89.fr0 hF97
  have hB5_101 := hB5_90.fr0 hF97
  have hO_102 := hO_91.fr0 hF97
  have hFr_103 := hFr_92.new hF97
  have hK2_105 := hK2.fr hF97 (by simp)
  refine V.nt (k95 _ _ ?_)
  refine V.cb h99 (p x.2.till) (fun ht106 => ?_) (fun ht106 => ?_)
  ·
   refine V.rg ?_
   refine V.run h99 [(0, .b hB5_101 0)] 2 1 0 [(21, .slice A ((keysP p pre).length) c), (22, .string x.1)] fun a h107 => ?_
   refine V.go (V.mk [(22, .string x.1)] ⟨h107.e, trivial⟩ (by kernel_rfl) [.string x.1] 9 (fun b => .slice (some ⟨b, 0, none⟩) 1 1) (by kernel_rfl) ?_)
   intro w109 b108 heb108 hB110 hF111 hsb108
   have hB3_112 := hB3_100.fr0 hF111
   have hB5_113 := hB5_101.fr0 hF111
   have hO_114 := hO_102.fr0 hF111
   have hFr_115 := hFr_103.new hF111
   have hK2_117 := hK2_105.fr hF111 (by simp)
   refine V.pt h107 fun a h118 => ?_
   refine V.go (V.app (R := Rp.str) (ys := ([x.1])) (news := [.string x.1]) (h118.e (v := (.slice A ((keysP p pre).length) c))) ⟨b108, 0, none⟩ 1 1 (h118.e (v := (.slice (some ⟨b108, 0, none⟩) 1 1))) (by kernel_rfl) (info9) (by kernel_rfl) (by decide) hO_114 rfl ⟨_, [], rfl, rfl, rfl⟩ (blk_cells hB110 0 _ rfl) (by first | omega | (simp; omega)) (by decide) (by omega) ?_)
   intro A119 c120 w121 hO122z hF123 hatw121
   have hsw121 := hF123.size
   have hB3_124 := hB3_112.fr hF123 (by first | exact own_notin hO_114 (by omega) | exact own_notin2 hO (by omega))
   have hB5_125 := hB5_113.fr hF123 (by first | exact own_notin hO_114 (by omega) | exact own_notin2 hO (by omega))
   have hFr_126 := hFr_115.own hF123 (own_ge hO_114 (by omega))
   have hK2_128 := hK2_117.fr hF123 (by intro k hk; have hog := own_ge hO_114 (Nat.le_refl _) k hk; intro h; (try dsimp only at h); omega)
   have hO122 := hO122z.zone (Z' := NoZ) (fun _ _ q => q.1) (fun _ _ q => q)
   refine V.pt h118 fun a h129 => ?_
   refine V.go (V.stn b15 0 (.slice A119 (((keysP p pre).length) + 1) c120) [.slice A119 (((keysP p pre).length) + 1) c120] h129.e h129.e rfl rfl (by kernel_rfl) hB5_125 (by simp) [.slice A119 (((keysP p pre).length) + 1) c120] rfl ?_)
   intro w130 hB131 hF132 hsw130
   have hB3_133 := hB3_124.fr1 hF132 (by omega)
   have hFr_134 := hFr_126.own hF132 (by simp <;> omega)
   have hK2_136 := hK2_128.fr hF132 (by intro k hk; simp only [List.mem_singleton] at hk; subst hk; intro h; (try dsimp only at h); omega)
   have hO122_137 := hO122.frn hF132 (fun h => h) (by first | exact own_ne hO122 (by omega) | exact own_ne2 hO122 (by omega))
   refine V.nil ?_
   refine V.blk_n ?_
   have hkp := keysP_t (p := p) (l := pre) (x := x) ht106
   exact ⟨hK2_136, A119, c120, hB3_133, (by rw [hkp, List.length_append]; exact hB131), (by rw [hkp, List.length_append]; exact hO122_137), hFr_134, hnq0⟩
  ·
   refine V.skip (V.blk_n ?_)
   have hkp := keysP_f (p := p) (l := pre) (x := x) (by have := ht106; simpa using this)
   exact ⟨hK2_105, A, c, hB3_100, (by rw [hkp]; exact hB5_101), (by rw [hkp]; exact hO_102), hFr_103, hnq0⟩
 ·
  rintro nq xs W hnq hS ⟨A, c, hB3, hB5, hO, hFr, hnq0⟩ hD a2 hz2 htm2
  obtain ⟨pre, hprexs⟩ : ∃ pre, pre = xs := ⟨_, rfl⟩; subst hprexs
  have hE := En.nil hz2
  have hlt138 := hB3.lt
  have hlt139 := hB5.lt
  have hfs140 := hFr.size
  have hDf : Df W (w46.heap.size) := hD
  have hDlt := (Array.getElem?_eq_some_iff.1 hD).1
  have s5_141 : a2.eval (.tmp 5) = (.pointer (some ⟨b15, 0, none⟩)) := par_tm htm2 h47.e
  replace hE := hE.add s5_141
  refine V.blk_n ?_
  refine V.then_n (k39 _ _ ?_)
  refine V.seq fun K142 k143 => ?_
  have hkl9 := keysP_le p pre
  have hpl9 : pre.length = T.n := by rw [hS]; exact hcn
  refine V.rg ?_
  refine V.run hE [(0, .b hB5 0)] 1 1 0 [(25, .slice A ((keysP p pre).length) c)] fun a h144 => ?_
  refine V.cl h144 (Go.Proofs.enters_of Tryz.func69 (by kernel_rfl) rfl) (sort_own (c := c) (l := (keysP p pre)) hO (by omega)) ?_
  rintro _ w147 ⟨rfl, hO145, hF146⟩
  refine ⟨_, rfl, fun a h148 => ?_⟩
  have hsw147 := hF146.size
  have hB5_150 := hB5.fr hF146 (by first | exact own_notin hO (by omega))
  have hFr_151 := hFr.own hF146 (own_ge hO (by omega))
  have hDf_152 := hDf.fr hF146 (own_notin hO (by omega))
  refine V.nt (k143 _ _ ?_)
  refine V.sr h148 [(0, .b hB5_150 0)] 27 27 [(4, .slice A ((keysP p pre).length) c)] fun a h155 => ?_
  refine V.ret ?_
  refine V.retM h155.sd hDf_152 (fun w156 hF157 => ?_)
  have hsw156 := hF157.size
  have hFr_160 := hFr_151.own hF157 (by simp <;> omega)
  have hO145_161 := hO145.frn hF157 (fun h => h) (by first | exact own_ne hO145 (by omega))
  refine ⟨_, V.res1 rfl (h155.e (v := (.slice A ((keysP p pre).length) c))), ?_⟩
  have hsl := srtK_len (keysP p (T.a ++ T.b).flatten)
  subst hS
  exact ⟨A, c, by rw [hsl], hO145_161.rebase (by omega), hFr_160⟩
 · rintro _ _ _ _ _ _ h
   exact h.elim
theorem nanS_eq (w : World) (x : ByteArray) : Calls Tryz.prog 76 #[.string x] w (fun e w' => e = .returned (.bool false) ∧ w = w') := by
 refine V.en 6 Tryz.func76 fun a h1 => ?_
 refine V.sr h1 [] 2 2 [] fun a h4 => ?_
 refine V.sr h4 [(2, .q (.bool false) (V.t_snsame x))] 3 5 [(2, .bool false)] fun a h7 => ?_
 refine V.ret ?_
 refine V.r1 h7 (.bool false) ?_
 exact ⟨rfl, rfl⟩
theorem cmpS_eq (w : World) (x y : ByteArray) : Calls Tryz.prog 44 #[.string x, .string y] w (fun e w' => e = .returned (.int .i64 (cmpS x y)) ∧ w = w') := by
 refine V.en 20 Tryz.func44 fun a h1 => ?_
 refine V.sr h1 [] 4 4 [] fun a h4 => ?_
 refine V.sg fun K5 k6 => ?_
 refine V.run h4 [] 1 1 0 [(7, .string x)] fun a h7 => ?_
 refine V.cl h7 (Go.Proofs.enters_of Tryz.func76 (by kernel_rfl) rfl) (nanS_eq w x) ?_
 rintro _ _ ⟨rfl, rfl⟩
 refine ⟨_, rfl, fun a h8 => ?_⟩
 refine V.re h8 [] 1 0 [(5, .bool false)] fun a h9 => k6 _ _ ?_
 refine V.sg fun K10 k11 => ?_
 refine V.run h9 [] 1 1 0 [(9, .string y)] fun a h12 => ?_
 refine V.cl h12 (Go.Proofs.enters_of Tryz.func76 (by kernel_rfl) rfl) (nanS_eq w y) ?_
 rintro _ _ ⟨rfl, rfl⟩
 refine ⟨_, rfl, fun a h13 => ?_⟩
 refine V.re h13 [] 1 0 [(6, .bool false)] fun a h14 => k11 _ _ ?_
 refine V.seq fun K15 k16 => ?_
 refine V.sr h14 [] 1 0 [(11, .bool false)] fun a h19 => ?_
 refine V.cf h19 ?_
 refine V.skip ?_
 refine V.then_n (k16 _ _ ?_)
 refine V.seq fun K20 k21 => ?_
 refine V.sr h19 [] 1 0 [(13, .bool false)] fun a h24 => ?_
 refine V.cf h24 ?_
 refine V.skip ?_
 refine V.then_n (k21 _ _ ?_)
 refine V.seq fun K25 k26 => ?_
 refine V.sr h24 [(2, .q (.bool (decide (slt x y))) V.t_slss)] 14 15 [(16, .bool (decide (slt x y)))] fun a h29 => ?_
 refine V.cp h29 (slt x y) (fun ht30 => ?_) (fun ht30 => ?_)
 ·
  refine V.sr h29 [] 1 0 [(4, .int .i64 (-1))] fun a h33 => ?_
  refine V.ret (V.then_r ?_)
  refine V.r1 h33 (.int .i64 (-1)) ?_
  exact ⟨congrArg (fun b => Ending.returned (Value.int .i64 b)) (by unfold cmpS; first | (rw [if_pos (by assumption)]; done) | (rw [if_neg (by assumption), if_pos (by assumption)]; done) | (rw [if_neg (by assumption), if_neg (by assumption)])), rfl⟩
 ·
  refine V.skip ?_
  refine V.then_n (k26 _ _ ?_)
  refine V.seq fun K34 k35 => ?_
  refine V.sr h29 [(2, .q (.bool (decide (slt y x))) V.t_sgtr)] 17 18 [(19, .bool (decide (slt y x)))] fun a h38 => ?_
  refine V.cp h38 (slt y x) (fun ht39 => ?_) (fun ht39 => ?_)
  ·
   refine V.sr h38 [] 1 0 [(4, .int .i64 1)] fun a h42 => ?_
   refine V.ret (V.then_r ?_)
   refine V.r1 h42 (.int .i64 1) ?_
   exact ⟨congrArg (fun b => Ending.returned (Value.int .i64 b)) (by unfold cmpS; first | (rw [if_pos (by assumption)]; done) | (rw [if_neg (by assumption), if_pos (by assumption)]; done) | (rw [if_neg (by assumption), if_neg (by assumption)])), rfl⟩
  ·
   refine V.skip ?_
   refine V.then_n (k35 _ _ ?_)
   refine V.sr h38 [] 1 0 [(4, .int .i64 0)] fun a h45 => ?_
   refine V.ret ?_
   refine V.r1 h45 (.int .i64 0) ?_
   exact ⟨congrArg (fun b => Ending.returned (Value.int .i64 b)) (by unfold cmpS; first | (rw [if_pos (by assumption)]; done) | (rw [if_neg (by assumption), if_pos (by assumption)]; done) | (rw [if_neg (by assumption), if_neg (by assumption)])), rfl⟩
end Go.Proofs.YtjkegckfncfoaaaGreat
end
