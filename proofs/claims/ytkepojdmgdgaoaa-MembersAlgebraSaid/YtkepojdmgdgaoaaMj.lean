/- Walks: a search by halves, Has; the reference: put, Has. -/
import Derived.Test.YtkepojdmgdgaoaaProg
import Derived.Test.YtkepojdmgdgaoaaMf
namespace Go.Proofs.Ytkepojdmgdgaoaa
open Go.V Go.Base
open Go.RowKit (Below)
attribute [local irreducible] Act.put Act.eval
set_option linter.unusedVariables false
set_option linter.unusedSimpArgs false
/-! ### A search by halves; a text put into its place -/
theorem w_toU {a b : Nat} (h : a + b ≤ 9223372036854775807) : Value.int .u64 (IntKind.u64.wrap ((a : Int) + (b : Int))) = .int .u64 ((a + b : Nat) : Int) := by
  rw [Int.natCast_add]; exact w_u64 (by omega) (by omega)
theorem w_shr1 (a : Nat) : Value.int .u64 (Int.fdiv (a : Int) 2) = .int .u64 ((a / 2 : Nat) : Int) := by
  rw [Int.fdiv_eq_ediv_of_nonneg _ (by omega)]; rfl
theorem w_toI {a : Nat} (h : a ≤ 9223372036854775807) : Value.int .i64 (IntKind.i64.wrap ((a : Nat) : Int)) = .int .i64 ((a : Nat) : Int) := w_i64 (by omega) (by omega)
def LoS (l : List ByteArray) (x : ByteArray) (k : Nat) : Prop := ∀ j : Nat, j < k → j < l.length → slt (at_ Rp.str l (j : Int)) x
def HiS (l : List ByteArray) (x : ByteArray) (k : Nat) : Prop := ∀ j : Nat, k ≤ j → j < l.length → ¬ slt (at_ Rp.str l (j : Int)) x
theorem at_get {l : List ByteArray} {j : Nat} (h : j < l.length) : at_ Rp.str l (j : Int) = l[j] := by
  have e := at_some Rp.str (xs := l) (i := (j : Int)) (by omega) (by omega)
  rw [Int.toNat_natCast, List.getElem?_eq_getElem h] at e
  injection e with e
  exact e.symm
theorem inc_lt {l : List ByteArray} (h : Inc l) {i j : Nat} (hij : i < j) (hj : j < l.length) : slt (at_ Rp.str l (i : Int)) (at_ Rp.str l (j : Int)) := by
  rw [at_get hj, at_get (show i < l.length by omega)]
  exact List.pairwise_iff_getElem.1 h i j (by omega) hj hij
theorem bs_lo {l : List ByteArray} {x : ByteArray} {m : Nat} (hI : Inc l) (hm : m < l.length) (hs : slt (at_ Rp.str l (m : Int)) x) : LoS l x (m + 1) := fun j hj hl => by
  rcases Nat.lt_or_ge j m with h | h
  · exact slt_trans (inc_lt hI h hm) hs
  · obtain rfl : j = m := by omega
    exact hs
theorem bs_hi {l : List ByteArray} {x : ByteArray} {m : Nat} (hI : Inc l) (hm : m < l.length) (hs : ¬ slt (at_ Rp.str l (m : Int)) x) : HiS l x m := fun j hj hl => by
  rcases Nat.lt_or_ge m j with h | h
  · exact fun q => hs (slt_trans (inc_lt hI h hl) q)
  · obtain rfl : j = m := by omega
    exact hs
theorem bs_no {l : List ByteArray} {x : ByteArray} {k : Nat} (hI : Inc l) (hL : LoS l x k) (hH : HiS l x k) (h : k < l.length → ¬ at_ Rp.str l (k : Int) = x) : x ∉ l := fun hx => by
  obtain ⟨j, hj, e⟩ := List.getElem_of_mem hx
  rw [← at_get hj] at e
  rcases Nat.lt_trichotomy j k with h1 | h1 | h1
  · have := hL j h1 hj
    rw [e] at this
    exact slt_irr _ this
  · subst h1; exact h hj e
  · have := inc_lt hI h1 hj
    rw [e] at this
    exact hH k (Nat.le_refl _) (by omega) this
theorem lo_step {l : List ByteArray} {x : ByteArray} {k : Nat} (h : LoS l x k) (hs : slt (at_ Rp.str l (k : Int)) x) : LoS l x (k + 1) := fun j hj hl => by
  rcases Nat.lt_or_ge j k with h1 | h1
  · exact h j h1 hl
  · obtain rfl : j = k := by omega
    exact hs
/-- .. and one more. -/
def insS (S : List ByteArray) (x : ByteArray) : List ByteArray := setOf (S ++ [x])
theorem ins_len (S : List ByteArray) (x : ByteArray) : (insS S x).length ≤ S.length + 1 := by
  have := setOf_len (S ++ [x])
  rw [List.length_append] at this
  exact this
theorem ins_inc (S : List ByteArray) (x : ByteArray) : Inc (insS S x) := setOf_inc _
theorem ins_mem {S : List ByteArray} {x : ByteArray} (hI : Inc S) (h : x ∈ S) : insS S x = S :=
  inc_eq (setOf_inc _) hI fun y => by unfold insS; rw [setOf_mem, List.mem_append, List.mem_singleton]; exact ⟨fun q => q.elim id fun e => e ▸ h, .inl⟩
theorem ins_new {S : List ByteArray} {x : ByteArray} {i : Nat} (hI : Inc S) (hi : i ≤ S.length) (hL : LoS S x i) (hR : i < S.length → ¬ slt (at_ Rp.str S (i : Int)) x ∧ ¬ at_ Rp.str S (i : Int) = x) : insS S x = S.take i ++ [x] ++ S.drop i := by
  have hlo : ∀ y ∈ S.take i, slt y x := fun y hy => by
    obtain ⟨j, hj, e⟩ := List.getElem_of_mem hy
    rw [List.length_take] at hj
    rw [List.getElem_take, ← at_get (by omega)] at e
    rw [← e]; exact hL j (by omega) (by omega)
  have hhi : ∀ y ∈ S.drop i, slt x y := fun y hy => by
    obtain ⟨j, hj, e⟩ := List.getElem_of_mem hy
    rw [List.length_drop] at hj
    rw [List.getElem_drop, ← at_get (by omega)] at e
    have hx : slt x (at_ Rp.str S (i : Int)) := by
      rcases slt_tri (at_ Rp.str S (i : Int)) x with h | h | h
      · exact absurd h (hR (by omega)).1
      · exact absurd h (hR (by omega)).2
      · exact h
    rw [← e]
    rcases Nat.eq_zero_or_pos j with h | h
    · subst h; exact hx
    · exact slt_trans hx (inc_lt hI (by omega) (by omega))
  refine inc_eq (setOf_inc _) ?_ fun y => ?_
  · refine List.pairwise_append.2 ⟨List.pairwise_append.2 ⟨hI.sub (List.take_sublist i S), List.pairwise_singleton _ _, fun a ha b hb => ?_⟩, hI.sub (List.drop_sublist i S), fun a ha b hb => ?_⟩
    · rw [List.mem_singleton] at hb; rw [hb]; exact hlo a ha
    · rcases List.mem_append.1 ha with h | h
      · exact slt_trans (hlo a h) (hhi b hb)
      · rw [List.mem_singleton] at h; rw [h]; exact hhi b hb
  · unfold insS
    rw [setOf_mem, List.mem_append, List.mem_append, List.mem_append, List.mem_singleton]
    have : y ∈ S ↔ y ∈ S.take i ∨ y ∈ S.drop i := by rw [← List.mem_append, List.take_append_drop]
    rw [this]
    exact ⟨fun h => h.elim (fun h => h.elim (fun h => .inl (.inl h)) .inr) fun h => .inl (.inr h), fun h => h.elim (fun h => h.elim (fun h => .inl (.inl h)) .inr) fun h => .inl (.inr h)⟩
theorem ins_set (q : List ByteArray) (x : ByteArray) : insS (setOf q) x = setOf (q ++ [x]) :=
  inc_eq (setOf_inc _) (setOf_inc _) fun y => by unfold insS; rw [setOf_mem, setOf_mem, List.mem_append, List.mem_append, setOf_mem]
theorem take_one {l : List ByteArray} {i : Nat} (h : i < l.length) : l.take (i + 1) = l.take i ++ [at_ Rp.str l (i : Int)] := by
  rw [List.take_add_one, List.getElem?_eq_getElem h, at_get h]; rfl
def hasB (l : List ByteArray) (x : ByteArray) : Bool := decide (Inc l ∧ x ∈ l)
theorem has_no {l : List ByteArray} (h : ¬ Inc l) (x : ByteArray) : hasB l x = false := decide_eq_false fun q => h q.1
theorem has_in {l : List ByteArray} (h : Inc l) (x : ByteArray) : hasB l x = decide (x ∈ l) := by
  unfold hasB; congr 1; exact propext ⟨fun q => q.2, fun q => ⟨h, q⟩⟩
set_option maxHeartbeats 4000000 in
set_option maxRecDepth 20000 in
theorem nan_any (w : World) (x : ByteArray) : Calls Try.prog 68 #[.string x] w (fun e w' => e = .returned (.bool false) ∧ Fr [] w w') := by
 have hF := Fr.refl [] w
 refine V.en 6 Try.func68 fun a h1 => ?_
 refine V.sr h1 [] 2 2 [] fun a h4 => ?_
 refine V.sr h4 [(2, .q (.bool false) (V.t_snsame x))] 3 5 [(2, .bool false)] fun a h7 => ?_
 refine V.ret ?_
 refine V.r1 h7 (.bool false) ?_
 exact ⟨rfl, hF⟩
set_option maxHeartbeats 4000000 in
set_option maxRecDepth 20000 in
theorem nan2_any (w : World) (x : ByteArray) : Calls Try.prog 54 #[.string x] w (fun e w' => e = .returned (.bool false) ∧ Fr [] w w') := by
 have hF := Fr.refl [] w
 refine V.en 6 Try.func54 fun a h1 => ?_
 refine V.sr h1 [] 2 2 [] fun a h4 => ?_
 refine V.sr h4 [(2, .q (.bool false) (V.t_snsame x))] 3 5 [(2, .bool false)] fun a h7 => ?_
 refine V.ret ?_
 refine V.r1 h7 (.bool false) ?_
 exact ⟨rfl, hF⟩
set_option maxHeartbeats 4000000 in
set_option maxRecDepth 20000 in
theorem less_any (w : World) (x y : ByteArray) : Calls Try.prog 53 #[.string x, .string y] w (fun e w' => e = .returned (.bool (decide (slt x y))) ∧ Fr [] w w') := by
 have hF := Fr.refl [] w
 refine V.en 17 Try.func53 fun a h1 => ?_
 refine V.sr h1 [] 4 4 [] fun a h4 => ?_
 refine V.sg fun K5 k6 => ?_
 refine V.run h4 [] 1 1 0 [(5, .string x)] fun a h7 => ?_
 refine V.cl h7 (Go.Proofs.enters_of Try.func68 (by kernel_rfl) rfl) (nan_any w x) ?_
 rintro _ w9 ⟨rfl, hF8⟩
 refine ⟨_, rfl, fun a h10 => ?_⟩
 have hsw9 := hF8.size
 have hF_11 := hF.new hF8
 refine V.re h10 [(5, .q (.bool (decide (slt x y))) V.t_slss)] 7 16 [(4, .bool (decide (slt x y)))] fun a h12 => k6 _ _ ?_
 refine V.ret ?_
 refine V.r1 h12 (.bool (decide (slt x y))) ?_
 exact ⟨rfl, hF_11⟩
set_option maxHeartbeats 4000000 in
set_option maxRecDepth 20000 in
theorem bs_any (w : World) (Al : Option Addr) (cl : Nat) (l : List ByteArray) (hSl : SlR Rp.str (fun k => k < w.heap.size) w (.slice Al l.length cl) l) (hI : Inc l) (hl : l.length ≤ 1099511627776) (x : ByteArray) : Calls Try.prog 41 #[.slice Al l.length cl, .string x] w (fun e w' => ∃ i : Int, e = .returned (.tuple #[.int .i64 i, .bool (decide (x ∈ l))]) ∧ Fr [] w w') := by
 have hF := Fr.refl [] w
 have hlen0 := hSl.len_le
 refine V.en 54 Try.func41 fun a h1 => ?_
 refine V.sr h1 [] 4 5 [] fun a h4 => ?_
 refine V.sr h4 [] 10 11 [(6, .int .i64 ((l.length : Nat) : Int))] fun a h7 => ?_
 refine V.sr h7 [] 12 12 [(7, .int .i64 0), (8, .int .i64 ((l.length : Nat) : Int))] fun a h10 => ?_
 refine V.seq fun K11 k12 => ?_
 refine V.block ?_
 refine V.loop2 (fun (lo : Nat) (hi : Nat) a_ w_ => En 54 [] a_ [(0, .slice Al l.length cl), (1, .string x), (6, .int .i64 ((l.length : Nat) : Int)), (7, .int .i64 ((lo : Nat) : Int)), (8, .int .i64 ((hi : Nat) : Int))] ∧ Fr [] w w_ ∧ SlR Rp.str (fun k => k < w.heap.size) w_ (.slice Al l.length cl) l ∧ (lo ≤ hi ∧ hi ≤ l.length) ∧ (LoS l x lo) ∧ (HiS l x hi)) (fun (lo : Nat) (hi : Nat) => hi - lo) 0 l.length ?_ ?_
 ·
  refine ⟨((h10.eq 7 (v := (.int .i64 0)) (u := (.int .i64 ((0 : Nat) : Int))) (rfl)).eq 8 (v := (.int .i64 ((l.length : Nat) : Int))) (u := (.int .i64 ((l.length : Nat) : Int))) (rfl)).only _, hF, hSl, (by omega), (fun j h => absurd h (by omega)), (fun j h k => absurd h (by omega))⟩
 ·
  rintro lo hi a13 w14 ⟨h15, hF_16, hSl_17, hb, hL, hH⟩
  have hfs18 := hF_16.size
  refine V.seq fun K19 k20 => ?_
  refine V.sr h15 [] 13 14 [(15, .bool (decide (((lo : Nat) : Int) < ((hi : Nat) : Int))))] fun a h23 => ?_
  refine V.cp h23 (((lo : Nat) : Int) < ((hi : Nat) : Int)) (fun ht24 => ?_) (fun ht24 => ?_)
  ·
   refine V.skip ?_
   refine V.then_n (k20 _ _ ?_)
   refine V.block ?_
   refine V.sr h23 [(2, .i (((lo : Nat) : Int) + ((hi : Nat) : Int))), (0, .q (.int .u64 ((lo + hi : Nat) : Int)) (w_toU (by omega))), (0, .q (.int .u64 (((lo + hi) / 2 : Nat) : Int)) (w_shr1 (lo + hi))), (0, .q (.int .i64 (((lo + hi) / 2 : Nat) : Int)) (w_toI (by omega)))] 16 21 [(9, .int .i64 (((lo + hi) / 2 : Nat) : Int))] fun a h27 => ?_
   obtain ⟨g30, o31, hA32, hA32l, hA32z⟩ := hSl_17.addr (by omega)
   obtain ⟨cs33, hok34, hE35⟩ := hSl_17.els hA32 (((lo + hi) / 2 : Nat) : Int) (by omega) (by omega)
   obtain rfl : cs33 = [.string (at_ Rp.str l (((lo + hi) / 2 : Nat) : Int))] := hok34
   refine V.sg fun K28 k29 => ?_
   refine V.run h27 [(2, .ix g30 o31 l.length cl .i64 (((lo + hi) / 2 : Nat) : Int) 1 hA32), (0, .l ⟨g30, o31 + (((lo + hi) / 2 : Nat) : Int).toNat * 1, none⟩ (.string (at_ Rp.str l (((lo + hi) / 2 : Nat) : Int))) (hE35.at 0 rfl))] 5 22 24 [(25, .string (at_ Rp.str l (((lo + hi) / 2 : Nat) : Int))), (26, .string x)] fun a h36 => ?_
   refine V.cl h36 (Go.Proofs.enters_of Try.func53 (by kernel_rfl) rfl) (less_any w14 (at_ Rp.str l (((lo + hi) / 2 : Nat) : Int)) x) ?_
   rintro _ w38 ⟨rfl, hF37⟩
   refine ⟨_, rfl, fun a h39 => ?_⟩
   have hsw38 := hF37.size
   have hF_40 := hF_16.new hF37
   have hSl_41 := hSl_17.fr0 hF37
   have hE35_42 := hE35.fr0 hF37
   refine V.nt (k29 _ _ ?_)
   refine V.cp h39 (slt (at_ Rp.str l (((lo + hi) / 2 : Nat) : Int)) x) (fun ht43 => ?_) (fun ht43 => ?_)
   ·
    refine V.rr h39 [(1, .i ((((lo + hi) / 2 : Nat) : Int) + 1))] 28 29 [(7, .int .i64 ((((lo + hi) / 2 : Nat) : Int) + 1))] fun a h44 => ?_
    refine V.blk_n ?_
    refine V.then_n ?_
    refine ⟨((lo + hi) / 2) + 1, hi, by omega, ?_⟩
    refine ⟨(h44.eq 7 (v := (.int .i64 ((((lo + hi) / 2 : Nat) : Int) + 1))) (u := (.int .i64 (((((lo + hi) / 2) + 1) : Nat) : Int))) (V.int_eq (by omega))).only _, hF_40, hSl_41, (by omega), (bs_lo hI (by omega) ht43), hH⟩
   ·
    refine V.rr h39 [] 30 30 [(8, .int .i64 (((lo + hi) / 2 : Nat) : Int))] fun a h45 => ?_
    refine V.blk_n ?_
    refine V.then_n ?_
    refine ⟨lo, ((lo + hi) / 2), by omega, ?_⟩
    refine ⟨(h45.eq 8 (v := (.int .i64 (((lo + hi) / 2 : Nat) : Int))) (u := (.int .i64 ((((lo + hi) / 2) : Nat) : Int))) (rfl)).only _, hF_40, hSl_41, (by omega), hL, (bs_hi hI (by omega) ht43)⟩
  ·
   refine V.exit ?_
   refine V.then_e ?_
   refine V.then_e ?_
   refine V.blk_hit ?_
   refine V.then_n (k12 _ _ ?_)
   refine V.sg fun K46 k47 => ?_
   refine V.run h23 [] 5 32 34 [(31, .int .i64 ((lo : Nat) : Int)), (35, .bool (decide (((lo : Nat) : Int) < ((l.length : Nat) : Int))))] fun a h48 => ?_
   by_cases hg49 : ((lo : Nat) : Int) < ((l.length : Nat) : Int)
   ·
    have h50 := h48.kt 35 hg49
    obtain ⟨g51, o52, hA53, hA53l, hA53z⟩ := hSl_17.addr (by omega)
    obtain ⟨cs54, hok55, hE56⟩ := hSl_17.els hA53 ((lo : Nat) : Int) (by omega) (by omega)
    obtain rfl : cs54 = [.string (at_ Rp.str l ((lo : Nat) : Int))] := hok55
    refine V.run h50 [(2, .ix g51 o52 l.length cl .i64 ((lo : Nat) : Int) 1 hA53), (0, .l ⟨g51, o52 + ((lo : Nat) : Int).toNat * 1, none⟩ (.string (at_ Rp.str l ((lo : Nat) : Int))) (hE56.at 0 rfl)), (1, .seq (at_ Rp.str l ((lo : Nat) : Int)) x)] 7 36 41 [(42, .bool (decide ((at_ Rp.str l ((lo : Nat) : Int)) = x)))] fun a h57 => ?_
    by_cases hg58 : (at_ Rp.str l ((lo : Nat) : Int)) = x
    ·
     have h59 := h57.kt 42 hg58
     refine V.re h59 [] 43 53 [(4, .int .i64 ((lo : Nat) : Int)), (5, .bool true)] fun a h60 => k47 _ _ ?_
     refine V.ret ?_
     refine V.r2 h60 (.int .i64 ((lo : Nat) : Int)) (.bool true) ?_
     obtain rfl : lo = hi := by omega
     exact ⟨_, congrArg (fun b => Ending.returned (.tuple #[.int .i64 _, .bool b])) (decide_eq_true (in_at (by omega) hg58)).symm, hF_16⟩
    ·
     have h61 := h57.kf 42 hg58
     refine V.run h61 [(2, .ix g51 o52 l.length cl .i64 ((lo : Nat) : Int) 1 hA53), (0, .l ⟨g51, o52 + ((lo : Nat) : Int).toNat * 1, none⟩ (.string (at_ Rp.str l ((lo : Nat) : Int))) (hE56.at 0 rfl))] 4 43 45 [(46, .string (at_ Rp.str l ((lo : Nat) : Int)))] fun a h62 => ?_
     refine V.clg h62 (Go.Proofs.enters_of Try.func54 (by kernel_rfl) rfl) (nan2_any w14 (at_ Rp.str l ((lo : Nat) : Int))) ?_
     rintro _ w64 ⟨rfl, hF63⟩
     refine ⟨_, rfl, fun a h65 => ?_⟩
     have hsw64 := hF63.size
     have hF_66 := hF_16.new hF63
     have hSl_67 := hSl_17.fr0 hF63
     have hE56_68 := hE56.fr0 hF63
     refine V.re h65 [] 48 53 [(4, .int .i64 ((lo : Nat) : Int)), (5, .bool false)] fun a h69 => k47 _ _ ?_
     refine V.ret ?_
     refine V.r2 h69 (.int .i64 ((lo : Nat) : Int)) (.bool false) ?_
     obtain rfl : lo = hi := by omega
     exact ⟨_, congrArg (fun b => Ending.returned (.tuple #[.int .i64 _, .bool b])) (decide_eq_false (bs_no hI hL hH fun hlt => by first | omega | exact hg58)).symm, hF_66⟩
   ·
    have h70 := h48.kf 35 hg49
    refine V.re h70 [] 36 53 [(4, .int .i64 ((lo : Nat) : Int)), (5, .bool false)] fun a h71 => k47 _ _ ?_
    refine V.ret ?_
    refine V.r2 h71 (.int .i64 ((lo : Nat) : Int)) (.bool false) ?_
    obtain rfl : lo = hi := by omega
    exact ⟨_, congrArg (fun b => Ending.returned (.tuple #[.int .i64 _, .bool b])) (decide_eq_false (bs_no hI hL hH fun hlt => by first | omega | exact absurd hlt (by omega))).symm, hF_16⟩
set_option maxHeartbeats 4000000 in
set_option maxRecDepth 20000 in
theorem has_any (w : World) (Al : Option Addr) (cl : Nat) (l : List ByteArray) (hSl : SlR Rp.str (fun k => k < w.heap.size) w (.slice Al l.length cl) l) (hl : l.length ≤ 1099511627776) (x : ByteArray) : Calls Try.prog 19 #[.slice Al l.length cl, .string x] w (fun e w' => e = .returned (.tuple #[.bool (hasB l x), .int .i64 (chkN l)]) ∧ Fr [] w w') := by
 have hF := Fr.refl [] w
 refine V.en 22 Try.func19 fun a h1 => ?_
 refine V.sr h1 [] 4 5 [] fun a h4 => ?_
 refine V.seq fun K5 k6 => ?_
 refine V.sg fun K7 k8 => ?_
 refine V.run h4 [] 1 1 0 [(9, .slice Al l.length cl)] fun a h9 => ?_
 refine V.go (V.mk [(9, .slice Al l.length cl)] ⟨h9.e, trivial⟩ (by kernel_rfl) [.slice Al l.length cl] 22 (fun b => .slice (some ⟨b, 0, none⟩) 1 1) (by kernel_rfl) ?_)
 intro w11 b10 heb10 hB12 hF13 hsb10
 have hF_14 := hF.new hF13
 have hSl_15 := hSl.fr0 hF13
 refine V.pt h9 fun a h16 => ?_
 refine V.cl h16 (Go.Proofs.enters_of Try.func38 (by kernel_rfl) rfl) (checks_any w11 _ _ [l] (sl_one hB12 hSl_15).old) ?_
 rintro _ w19 ⟨rfl, hF17⟩
 refine ⟨_, rfl, fun a h20 => ?_⟩
 have hsw19 := hF17.size
 have hF_21 := hF_14.new hF17
 have hSl_22 := hSl_15.fr0 hF17
 have hB12_23 := hB12.fr0 hF17
 have hq18 := chkL_one l
 refine V.re h20 [] 1 0 [(6, .int .i64 (chkL [l]))] fun a h24 => k8 _ _ ?_
 refine V.sr h24 [(1, .ne (chkL [l]) 0)] 12 12 [(13, .bool (decide (¬ (chkL [l]) = 0)))] fun a h27 => ?_
 refine V.cp h27 (¬ (chkL [l]) = 0) (fun ht28 => ?_) (fun ht28 => ?_)
 ·
  refine V.sr h27 [] 14 14 [(4, .bool false), (5, .int .i64 (chkL [l]))] fun a h31 => ?_
  refine V.ret ?_
  refine V.then_r ?_
  refine V.r2 h31 (.bool false) (.int .i64 (chkL [l])) ?_
  rcases chkN_cases l with ⟨hz0, hzi⟩ | ⟨hz0, hzi⟩
  · exfalso; omega
  · rw [has_no hzi, hz0]; exact ⟨congrArg (fun e => Ending.returned (.tuple #[.bool false, .int .i64 e])) (by omega), hF_21⟩
 ·
  refine V.skip ?_
  refine V.then_n (k6 _ _ ?_)
  refine V.sg fun K32 k33 => ?_
  refine V.run h27 [] 2 1 0 [(16, .slice Al l.length cl), (17, .string x)] fun a h34 => ?_
  refine V.cl h34 (Go.Proofs.enters_of Try.func41 (by kernel_rfl) rfl) (bs_any w19 Al cl l hSl_22.old (by (rcases chkN_cases l with h | h; exact h.2; omega)) (by omega) x) ?_
  rintro _ w37 ⟨i35, rfl, hF36⟩
  refine ⟨_, rfl, fun a h38 => ?_⟩
  have hsw37 := hF36.size
  have hF_39 := hF_21.new hF36
  have hSl_40 := hSl_22.fr0 hF36
  have hB12_41 := hB12_23.fr0 hF36
  refine V.re h38 [] 7 20 [(8, .bool (decide (x ∈ l)))] fun a h42 => k33 _ _ ?_
  refine V.sr h42 [] 21 21 [(4, .bool (decide (x ∈ l))), (5, .int .i64 0)] fun a h45 => ?_
  refine V.ret ?_
  refine V.r2 h45 (.bool (decide (x ∈ l))) (.int .i64 0) ?_
  rcases chkN_cases l with ⟨hz0, hzi⟩ | ⟨hz0, hzi⟩
  · rw [has_in hzi, hz0]; exact ⟨rfl, hF_39⟩
  · exfalso; omega
set_option maxHeartbeats 4000000 in
set_option maxRecDepth 20000 in
theorem rhas_any (w : World) (Al : Option Addr) (cl : Nat) (l : List ByteArray) (hSl : SlR Rp.str (fun k => k < w.heap.size) w (.slice Al l.length cl) l) (hl : l.length ≤ 1099511627776) (x : ByteArray) : Calls Try.prog 20 #[.slice Al l.length cl, .string x] w (fun e w' => e = .returned (.tuple #[.bool (hasB l x), .int .i64 (chkN l)]) ∧ Fr [] w w') := by
 have hF := Fr.refl [] w
 refine V.en 12 Try.func20 fun a h1 => ?_
 refine V.sr h1 [] 4 5 [] fun a h4 => ?_
 refine V.seq fun K5 k6 => ?_
 refine V.sg fun K7 k8 => ?_
 refine V.run h4 [] 1 1 0 [(6, .slice Al l.length cl)] fun a h9 => ?_
 refine V.cl h9 (Go.Proofs.enters_of Try.func23 (by kernel_rfl) rfl) (rcheck_any w Al cl l hSl.old ) ?_
 rintro _ w11 ⟨rfl, hF10⟩
 refine ⟨_, rfl, fun a h12 => ?_⟩
 have hsw11 := hF10.size
 have hF_13 := hF.new hF10
 have hSl_14 := hSl.fr0 hF10
 have hq10 := chkN_cases l
 refine V.re h12 [(0, .ne (chkN l) 0)] 1 0 [(8, .bool (decide (¬ (chkN l) = 0)))] fun a h15 => k8 _ _ ?_
 refine V.cp h15 (¬ (chkN l) = 0) (fun ht16 => ?_) (fun ht16 => ?_)
 ·
  refine V.sr h15 [] 1 0 [(4, .bool false), (5, .int .i64 80)] fun a h19 => ?_
  refine V.ret ?_
  refine V.then_r ?_
  refine V.r2 h19 (.bool false) (.int .i64 80) ?_
  rcases chkN_cases l with ⟨hz0, hzi⟩ | ⟨hz0, hzi⟩
  · exfalso; omega
  · rw [has_no hzi, hz0]; exact ⟨congrArg (fun e => Ending.returned (.tuple #[.bool false, .int .i64 e])) (by omega), hF_13⟩
 ·
  refine V.skip ?_
  refine V.then_n (k6 _ _ ?_)
  refine V.sg fun K20 k21 => ?_
  refine V.run h15 [] 2 1 0 [(9, .slice Al l.length cl), (10, .string x)] fun a h22 => ?_
  refine V.cl h22 (Go.Proofs.enters_of Try.func14 (by kernel_rfl) rfl) (in_any w11 Al cl l hSl_14.old x) ?_
  rintro _ w24 ⟨rfl, hF23⟩
  refine ⟨_, rfl, fun a h25 => ?_⟩
  have hsw24 := hF23.size
  have hF_26 := hF_13.new hF23
  have hSl_27 := hSl_14.fr0 hF23
  refine V.re h25 [] 1 0 [(4, .bool (decide (x ∈ l))), (5, .int .i64 0)] fun a h28 => k21 _ _ ?_
  refine V.ret ?_
  refine V.r2 h28 (.bool (decide (x ∈ l))) (.int .i64 0) ?_
  rcases chkN_cases l with ⟨hz0, hzi⟩ | ⟨hz0, hzi⟩
  · rw [has_in hzi, hz0]; exact ⟨rfl, hF_26⟩
  · exfalso; omega
set_option maxHeartbeats 4000000 in
set_option maxRecDepth 20000 in
theorem put_any (w : World) (base : Nat) (A : Option Addr) (c : Nat) (S : List ByteArray) (hO : OwR Rp.str NoZ w base 9 (.slice A S.length c) S) (hb : base ≤ w.heap.size) (hI : Inc S) (hl : S.length ≤ 1099511627776) (x : ByteArray) : Calls Try.prog 42 #[.slice A S.length c, .string x] w (fun e w' => ∃ A' c', e = .returned (.slice A' (insS S x).length c') ∧ OwR Rp.str NoZ w' base 9 (.slice A' (insS S x).length c') (insS S x) ∧ Fr [] w w') := by
 have hF := Fr.refl [] w
 have hcp := hO.cap
 have hS := hO.is
 refine V.en 48 Try.func42 fun a h1 => ?_
 refine V.sr h1 [] 4 4 [] fun a h4 => ?_
 refine V.sr h4 [] 1 0 [(5, .int .i64 0)] fun a h7 => ?_
 refine V.seq fun K8 k9 => ?_
 refine V.block ?_
 refine V.loop1 (fun (i : Nat) a_ w_ => En 48 [] a_ [(0, .slice A S.length c), (1, .string x), (5, .int .i64 (i : Int))] ∧ Fr [] w w_ ∧ OwR Rp.str NoZ w_ base 9 (.slice A S.length c) S ∧ (i ≤ S.length) ∧ (LoS S x i)) (fun (i : Nat) => S.length - i) 0 ?_ ?_
 ·
  refine ⟨(h7.eq 5 (v := (.int .i64 0)) (u := (.int .i64 (0 : Int))) (V.int_eq (by omega))).only _, hF, hO, (by omega), (fun j h => absurd h (by omega))⟩
 ·
  rintro i a10 w11 ⟨h12, hF_13, hO_14, hi, hL⟩
  have hfs15 := hF_13.size
  refine V.seq fun K16 k17 => ?_
  refine V.sg fun K18 k19 => ?_
  refine V.run h12 [] 5 7 10 [(11, .bool (decide ((i : Int) < ((S.length : Nat) : Int))))] fun a h20 => ?_
  by_cases hg21 : (i : Int) < ((S.length : Nat) : Int)
  ·
   have h22 := h20.kt 11 hg21
   have hS23 := hO_14.is
   obtain ⟨g24, o25, hA26, hA26l, hA26z⟩ := hS23.addr (by omega)
   obtain ⟨cs27, hok28, hE29⟩ := hS23.els hA26 (i : Int) (by omega) (by omega)
   obtain rfl : cs27 = [.string (at_ Rp.str S (i : Int))] := hok28
   refine V.re h22 [(2, .ix g24 o25 S.length c .i64 (i : Int) 1 hA26), (0, .l ⟨g24, o25 + (i : Int).toNat * 1, none⟩ (.string (at_ Rp.str S (i : Int))) (hE29.at 0 rfl)), (1, .q (.bool (decide (slt (at_ Rp.str S (i : Int)) x))) V.t_slss)] 12 17 [(18, .bool (decide (slt (at_ Rp.str S (i : Int)) x)))] fun a h30 => k19 _ _ ?_
   refine V.cp h30 (slt (at_ Rp.str S (i : Int)) x) (fun ht31 => ?_) (fun ht31 => ?_)
   ·
    refine V.skip ?_
    refine V.then_n (k17 _ _ ?_)
    refine V.block ?_
    refine V.rr h30 [(1, .i ((i : Int) + 1))] 19 20 [(5, .int .i64 ((i : Int) + 1))] fun a h32 => ?_
    refine V.blk_n ?_
    refine V.then_n ?_
    refine ⟨i + 1, by omega, ?_⟩
    refine ⟨(h32.eq 5 (v := (.int .i64 ((i : Int) + 1))) (u := (.int .i64 ((i + 1) : Int))) (V.int_eq (by omega))).only _, hF_13, hO_14, (by omega), (lo_step hL ht31)⟩
   ·
    refine V.exit ?_
    refine V.then_e ?_
    refine V.then_e ?_
    refine V.blk_hit ?_
    refine V.then_n (k9 _ _ ?_)
    refine V.seq fun K33 k34 => ?_
    refine V.sg fun K35 k36 => ?_
    refine V.run h30 [] 4 21 23 [(24, .bool (decide ((i : Int) < ((S.length : Nat) : Int))))] fun a h37 => ?_
    have h38 := h37.kt 24 hg21
    refine V.re h38 [(3, .ix g24 o25 S.length c .i64 (i : Int) 1 hA26), (0, .l ⟨g24, o25 + (i : Int).toNat * 1, none⟩ (.string (at_ Rp.str S (i : Int))) (hE29.at 0 rfl)), (1, .seq (at_ Rp.str S (i : Int)) x)] 25 31 [(32, .bool (decide ((at_ Rp.str S (i : Int)) = x)))] fun a h39 => k36 _ _ ?_
    refine V.cp h39 ((at_ Rp.str S (i : Int)) = x) (fun ht40 => ?_) (fun ht40 => ?_)
    ·
     refine V.sr h39 [] 33 33 [(4, .slice A S.length c)] fun a h43 => ?_
     refine V.ret ?_
     refine V.then_r ?_
     refine V.r1 h43 (.slice A S.length c) ?_
     rw [ins_mem hI (in_at (by omega) ht40)]
     exact ⟨_, _, rfl, hO_14, hF_13⟩
    ·
     refine V.skip ?_
     refine V.then_n (k34 _ _ ?_)
     refine V.seq fun K44 k45 => ?_
     have hfz := hF_13.size
     refine V.rg ?_
     refine V.go (V.mk [] trivial (by kernel_rfl) [] 9 (fun b => .slice (some ⟨b, 0, none⟩) 0 0) (by kernel_rfl) ?_)
     intro w47 b46 heb46 hB48 hF49 hsb46
     have hF_50 := hF_13.new hF49
     have hO_51 := hO_14.fr0 hF49
     have hS23_52 := hS23.fr0 hF49
     have hE29_53 := hE29.fr0 hF49
     refine V.pt h39 fun a h54 => ?_
     have hO55 := OwR.empty (R := Rp.str) (base := b46) hB48 (Nat.le_refl _)
     have hS56 := hS23_52.tk (i := i) (by omega)
     refine V.run h54 [(2, .cut0 A S.length c (i : Int) i 1)] 3 35 36 [(37, .slice A i c)] fun a h62 => ?_
     refine V.go (V.appS (R := Rp.str) (h62.e (v := (.slice (some ⟨b46, 0, none⟩) 0 0))) (h62.e (v := (.slice A i c))) (by kernel_rfl) info9 (by kernel_rfl) (by decide) hO55 hS56 (fun _ _ h => h) (by (try simp only [List.length_append, List.length_take, List.length_drop, List.length_singleton, List.length_nil]); omega) (by decide) (by omega) ?_)
     intro A57 c58 w59 hO60 hF61
     have hsw59 := hF61.size
     have hF_63 := hF_50.own hF61 (own_ge hO55 (by omega))
     have hO_64 := hO_51.fr hF61 (fun _ _ h => h) (fun b hb hm => by have hb1 := (hO_14.lt b hb).2; have hb2 := own_ge hO55 (Nat.le_refl _) b hm; omega)
     have hE29_65 := hE29_53.fr hF61 (by first | exact own_notin hO55 (by omega))
     refine V.pt h62 fun a h66 => ?_
     refine V.re h66 [] 1 0 [(6, .slice A57 ((([] : List ByteArray)).length + (S.take i).length) c58)] fun a h67 => k45 _ _ ?_
     refine V.sg fun K68 k69 => ?_
     refine V.run h67 [] 2 1 0 [(39, .slice A57 ((([] : List ByteArray)).length + (S.take i).length) c58), (40, .string x)] fun a h70 => ?_
     refine V.go (V.mk [(40, .string x)] ⟨h70.e, trivial⟩ (by kernel_rfl) [.string x] 9 (fun b => .slice (some ⟨b, 0, none⟩) 1 1) (by kernel_rfl) ?_)
     intro w72 b71 heb71 hB73 hF74 hsb71
     have hF_75 := hF_63.new hF74
     have hO_76 := hO_64.fr0 hF74
     have hE29_77 := hE29_65.fr0 hF74
     have hO60_78 := hO60.fr0 hF74
     refine V.pt h70 fun a h79 => ?_
     refine V.go (V.app (R := Rp.str) (ys := ([x])) (news := [.string x]) (h79.e (v := (.slice A57 ((([] : List ByteArray)).length + (S.take i).length) c58))) ⟨b71, 0, none⟩ 1 1 (h79.e (v := (.slice (some ⟨b71, 0, none⟩) 1 1))) (by kernel_rfl) (info9) (by kernel_rfl) (by decide) hO60_78 rfl ⟨_, [], rfl, rfl, rfl⟩ (blk_cells hB73 0 _ rfl) (by first | omega | (simp; omega)) (by decide) (by omega) ?_)
     intro A80 c81 w82 hO83z hF84 hatw82
     have hsw82 := hF84.size
     have hF_85 := hF_75.own hF84 (own_ge hO60_78 (by omega))
     have hO_86 := hO_76.fr hF84 (fun _ _ h => h) (fun b hb hm => by have hb1 := (hO_14.lt b hb).2; have hb2 := own_ge hO60_78 (Nat.le_refl _) b hm; omega)
     have hE29_87 := hE29_77.fr hF84 (by first | exact own_notin hO60_78 (by omega) | exact own_notin2 hO60 (by omega))
     have hO83 := hO83z.zone (Z' := NoZ) (fun _ _ q => q.1) (fun _ _ q => q)
     refine V.pt h79 fun a h88 => ?_
     refine V.re h88 [] 1 0 [(6, .slice A80 (((([] : List ByteArray) ++ (S.take i)).length) + 1) c81)] fun a h89 => k69 _ _ ?_
     have hS92 := hO_86.is
     have hS93 := hS92.dr (i := i) (by omega)
     refine V.sg fun K90 k91 => ?_
     refine V.run h89 [(3, .cutE A S.length c (i : Int) i 1)] 4 44 45 [(43, .slice A80 (((([] : List ByteArray) ++ (S.take i)).length) + 1) c81), (46, .slice (cutA A i c 1) (S.length - i) (c - i))] fun a h99 => ?_
     refine V.go (V.appS (R := Rp.str) (h99.e (v := (.slice A80 (((([] : List ByteArray) ++ (S.take i)).length) + 1) c81))) (h99.e (v := (.slice (cutA A i c 1) (S.length - i) (c - i)))) (by kernel_rfl) info9 (by kernel_rfl) (by decide) hO83 hS93 (fun _ _ h => h) (by (try simp only [List.length_append, List.length_take, List.length_drop, List.length_singleton, List.length_nil]); omega) (by decide) (by omega) ?_)
     intro A94 c95 w96 hO97 hF98
     have hsw96 := hF98.size
     have hF_100 := hF_85.own hF98 (own_ge hO83 (by omega))
     have hO_101 := hO_86.fr hF98 (fun _ _ h => h) (fun b hb hm => by have hb1 := (hO_14.lt b hb).2; have hb2 := own_ge hO83 (Nat.le_refl _) b hm; omega)
     have hE29_102 := hE29_87.fr hF98 (by first | exact own_notin hO83 (by omega) | exact own_notin2 hO83 (by omega))
     refine V.pt h99 fun a h103 => ?_
     refine V.re h103 [] 1 0 [(4, .slice A94 (((([] : List ByteArray) ++ (S.take i)) ++ [x]).length + (S.drop i).length) c95)] fun a h104 => k91 _ _ ?_
     have h105 := h104.only [(4, .slice A94 (((([] : List ByteArray) ++ (S.take i)) ++ [x]).length + (S.drop i).length) c95)]
     refine V.ret ?_
     refine V.r1 h105 (.slice A94 (((([] : List ByteArray) ++ (S.take i)) ++ [x]).length + (S.drop i).length) c95) ?_
     have hq : insS S x = ((([] : List ByteArray) ++ (S.take i)) ++ [x]) ++ (S.drop i) := ins_new hI hi hL (fun hlt => by first | omega | exact ⟨ht31, ht40⟩)
     have hql : (insS S x).length = ((([] : List ByteArray) ++ (S.take i)) ++ [x]).length + (S.drop i).length := by rw [hq]; exact List.length_append
     rw [hql, hq]
     exact ⟨_, _, rfl, hO97.rebase (base' := base) (by omega), hF_100⟩
  ·
   have h106 := h20.kf 11 hg21
   refine V.re h106 [] 12 17 [(18, .bool false)] fun a h107 => k19 _ _ ?_
   refine V.cf h107 ?_
   refine V.exit ?_
   refine V.then_e ?_
   refine V.then_e ?_
   refine V.blk_hit ?_
   refine V.then_n (k9 _ _ ?_)
   refine V.seq fun K108 k109 => ?_
   refine V.sg fun K110 k111 => ?_
   refine V.run h107 [] 4 21 23 [(24, .bool (decide ((i : Int) < ((S.length : Nat) : Int))))] fun a h112 => ?_
   have h113 := h112.kf 24 hg21
   refine V.re h113 [] 25 31 [(32, .bool false)] fun a h114 => k111 _ _ ?_
   refine V.cf h114 ?_
   refine V.skip ?_
   refine V.then_n (k109 _ _ ?_)
   refine V.seq fun K115 k116 => ?_
   have hfz := hF_13.size
   refine V.rg ?_
   refine V.go (V.mk [] trivial (by kernel_rfl) [] 9 (fun b => .slice (some ⟨b, 0, none⟩) 0 0) (by kernel_rfl) ?_)
   intro w118 b117 heb117 hB119 hF120 hsb117
   have hF_121 := hF_13.new hF120
   have hO_122 := hO_14.fr0 hF120
   refine V.pt h114 fun a h123 => ?_
   have hO124 := OwR.empty (R := Rp.str) (base := b117) hB119 (Nat.le_refl _)
   have hS125 := hO_122.is
   have hS126 := hS125.tk (i := i) (by omega)
   refine V.run h123 [(2, .cut0 A S.length c (i : Int) i 1)] 3 35 36 [(37, .slice A i c)] fun a h132 => ?_
   refine V.go (V.appS (R := Rp.str) (h132.e (v := (.slice (some ⟨b117, 0, none⟩) 0 0))) (h132.e (v := (.slice A i c))) (by kernel_rfl) info9 (by kernel_rfl) (by decide) hO124 hS126 (fun _ _ h => h) (by (try simp only [List.length_append, List.length_take, List.length_drop, List.length_singleton, List.length_nil]); omega) (by decide) (by omega) ?_)
   intro A127 c128 w129 hO130 hF131
   have hsw129 := hF131.size
   have hF_133 := hF_121.own hF131 (own_ge hO124 (by omega))
   have hO_134 := hO_122.fr hF131 (fun _ _ h => h) (fun b hb hm => by have hb1 := (hO_14.lt b hb).2; have hb2 := own_ge hO124 (Nat.le_refl _) b hm; omega)
   refine V.pt h132 fun a h135 => ?_
   refine V.re h135 [] 1 0 [(6, .slice A127 ((([] : List ByteArray)).length + (S.take i).length) c128)] fun a h136 => k116 _ _ ?_
   refine V.sg fun K137 k138 => ?_
   refine V.run h136 [] 2 1 0 [(39, .slice A127 ((([] : List ByteArray)).length + (S.take i).length) c128), (40, .string x)] fun a h139 => ?_
   refine V.go (V.mk [(40, .string x)] ⟨h139.e, trivial⟩ (by kernel_rfl) [.string x] 9 (fun b => .slice (some ⟨b, 0, none⟩) 1 1) (by kernel_rfl) ?_)
   intro w141 b140 heb140 hB142 hF143 hsb140
   have hF_144 := hF_133.new hF143
   have hO_145 := hO_134.fr0 hF143
   have hO130_146 := hO130.fr0 hF143
   refine V.pt h139 fun a h147 => ?_
   refine V.go (V.app (R := Rp.str) (ys := ([x])) (news := [.string x]) (h147.e (v := (.slice A127 ((([] : List ByteArray)).length + (S.take i).length) c128))) ⟨b140, 0, none⟩ 1 1 (h147.e (v := (.slice (some ⟨b140, 0, none⟩) 1 1))) (by kernel_rfl) (info9) (by kernel_rfl) (by decide) hO130_146 rfl ⟨_, [], rfl, rfl, rfl⟩ (blk_cells hB142 0 _ rfl) (by first | omega | (simp; omega)) (by decide) (by omega) ?_)
   intro A148 c149 w150 hO151z hF152 hatw150
   have hsw150 := hF152.size
   have hF_153 := hF_144.own hF152 (own_ge hO130_146 (by omega))
   have hO_154 := hO_145.fr hF152 (fun _ _ h => h) (fun b hb hm => by have hb1 := (hO_14.lt b hb).2; have hb2 := own_ge hO130_146 (Nat.le_refl _) b hm; omega)
   have hO151 := hO151z.zone (Z' := NoZ) (fun _ _ q => q.1) (fun _ _ q => q)
   refine V.pt h147 fun a h155 => ?_
   refine V.re h155 [] 1 0 [(6, .slice A148 (((([] : List ByteArray) ++ (S.take i)).length) + 1) c149)] fun a h156 => k138 _ _ ?_
   have hS159 := hO_154.is
   have hS160 := hS159.dr (i := i) (by omega)
   refine V.sg fun K157 k158 => ?_
   refine V.run h156 [(3, .cutE A S.length c (i : Int) i 1)] 4 44 45 [(43, .slice A148 (((([] : List ByteArray) ++ (S.take i)).length) + 1) c149), (46, .slice (cutA A i c 1) (S.length - i) (c - i))] fun a h166 => ?_
   refine V.go (V.appS (R := Rp.str) (h166.e (v := (.slice A148 (((([] : List ByteArray) ++ (S.take i)).length) + 1) c149))) (h166.e (v := (.slice (cutA A i c 1) (S.length - i) (c - i)))) (by kernel_rfl) info9 (by kernel_rfl) (by decide) hO151 hS160 (fun _ _ h => h) (by (try simp only [List.length_append, List.length_take, List.length_drop, List.length_singleton, List.length_nil]); omega) (by decide) (by omega) ?_)
   intro A161 c162 w163 hO164 hF165
   have hsw163 := hF165.size
   have hF_167 := hF_153.own hF165 (own_ge hO151 (by omega))
   have hO_168 := hO_154.fr hF165 (fun _ _ h => h) (fun b hb hm => by have hb1 := (hO_14.lt b hb).2; have hb2 := own_ge hO151 (Nat.le_refl _) b hm; omega)
   refine V.pt h166 fun a h169 => ?_
   refine V.re h169 [] 1 0 [(4, .slice A161 (((([] : List ByteArray) ++ (S.take i)) ++ [x]).length + (S.drop i).length) c162)] fun a h170 => k158 _ _ ?_
   have h171 := h170.only [(4, .slice A161 (((([] : List ByteArray) ++ (S.take i)) ++ [x]).length + (S.drop i).length) c162)]
   refine V.ret ?_
   refine V.r1 h171 (.slice A161 (((([] : List ByteArray) ++ (S.take i)) ++ [x]).length + (S.drop i).length) c162) ?_
   have hq : insS S x = ((([] : List ByteArray) ++ (S.take i)) ++ [x]) ++ (S.drop i) := ins_new hI hi hL (fun hlt => by first | omega | exact absurd hlt (by omega))
   have hql : (insS S x).length = ((([] : List ByteArray) ++ (S.take i)) ++ [x]).length + (S.drop i).length := by rw [hq]; exact List.length_append
   rw [hql, hq]
   exact ⟨_, _, rfl, hO164.rebase (base' := base) (by omega), hF_167⟩
end Go.Proofs.Ytkepojdmgdgaoaa
