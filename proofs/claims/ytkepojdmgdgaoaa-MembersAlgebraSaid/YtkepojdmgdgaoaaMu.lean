/- Walks: Meet, Less. -/
import Derived.Test.YtkepojdmgdgaoaaProg
import Derived.Test.YtkepojdmgdgaoaaMt
namespace Go.Proofs.Ytkepojdmgdgaoaa
open Go.V Go.Base
open Go.RowKit (Below)
attribute [local irreducible] Act.put Act.eval
set_option linter.unusedVariables false
set_option linter.unusedSimpArgs false
abbrev hdR (ls : List (List ByteArray)) : List ByteArray := at_ (Rp.slice Rp.str) ls 0
def allB (ls : List (List ByteArray)) (x : ByteArray) (j : Nat) : Bool := decide (∀ l ∈ (ls.take j).drop 1, x ∈ l)
def anyB (ls : List (List ByteArray)) (x : ByteArray) (j : Nat) : Bool := decide (∃ l ∈ (ls.take j).drop 1, x ∈ l)
theorem rows_next {ls : List (List ByteArray)} {j : Nat} (h1 : 1 ≤ j) (h : j < ls.length) : (ls.take (j + 1)).drop 1 = (ls.take j).drop 1 ++ [at_ (Rp.slice Rp.str) ls (j : Int)] := by
  have e := at_some (Rp.slice Rp.str) (xs := ls) (i := (j : Int)) (by omega) (by omega)
  rw [Int.toNat_natCast] at e
  rw [List.take_add_one, e, List.drop_append_of_le_length (by rw [List.length_take]; omega)]; rfl
theorem allB_1 (ls : List (List ByteArray)) (x : ByteArray) : true = allB ls x 1 := by
  unfold allB
  have : (ls.take 1).drop 1 = [] := List.eq_nil_of_length_eq_zero (by rw [List.length_drop, List.length_take]; omega)
  rw [this]; simp
theorem anyB_1 (ls : List (List ByteArray)) (x : ByteArray) : false = anyB ls x 1 := by
  unfold anyB
  have : (ls.take 1).drop 1 = [] := List.eq_nil_of_length_eq_zero (by rw [List.length_drop, List.length_take]; omega)
  rw [this]; simp
theorem allB_yes {ls : List (List ByteArray)} {x : ByteArray} {j : Nat} (h1 : 1 ≤ j) (h : j < ls.length) (hb : allB ls x j = true) : decide (x ∈ at_ (Rp.slice Rp.str) ls (j : Int)) = allB ls x (j + 1) := by
  unfold allB at *
  have hb := of_decide_eq_true hb
  rw [rows_next h1 h]
  congr 1
  refine propext ⟨fun q l hl => ?_, fun q => q _ (by simp)⟩
  rcases List.mem_append.1 hl with k | k
  · exact hb l k
  · rw [List.mem_singleton] at k; rw [k]; exact q
theorem allB_no {ls : List (List ByteArray)} {x : ByteArray} {j : Nat} (h1 : 1 ≤ j) (h : j < ls.length) (hb : ¬ allB ls x j = true) : false = allB ls x (j + 1) := by
  unfold allB at *
  rw [rows_next h1 h]
  refine (decide_eq_false fun q => hb (decide_eq_true fun l hl => q l (List.mem_append_left _ hl))).symm
theorem anyB_yes {ls : List (List ByteArray)} {x : ByteArray} {j : Nat} (h1 : 1 ≤ j) (h : j < ls.length) (hb : anyB ls x j = true) : true = anyB ls x (j + 1) := by
  unfold anyB at *
  rw [rows_next h1 h]
  obtain ⟨l, hl, hx⟩ := of_decide_eq_true hb
  exact (decide_eq_true ⟨l, List.mem_append_left _ hl, hx⟩).symm
theorem anyB_no {ls : List (List ByteArray)} {x : ByteArray} {j : Nat} (h1 : 1 ≤ j) (h : j < ls.length) (hb : ¬ anyB ls x j = true) : decide (x ∈ at_ (Rp.slice Rp.str) ls (j : Int)) = anyB ls x (j + 1) := by
  unfold anyB at *
  rw [rows_next h1 h]
  congr 1
  refine propext ⟨fun q => ⟨_, List.mem_append_right _ (List.mem_singleton.2 rfl), q⟩, fun ⟨l, hl, q⟩ => ?_⟩
  rcases List.mem_append.1 hl with k | k
  · exact absurd (decide_eq_true ⟨l, k, q⟩) hb
  · rw [List.mem_singleton] at k; rw [← k]; exact q
theorem B_len {ls : List (List ByteArray)} {x : ByteArray} {j : Nat} (h : ls.length ≤ j) : allB ls x j = allB ls x ls.length ∧ anyB ls x j = anyB ls x ls.length := by
  unfold allB anyB; rw [List.take_of_length_le h, List.take_length]; exact ⟨rfl, rfl⟩
def meS (ls : List (List ByteArray)) : List ByteArray := if ∀ l ∈ ls, Inc l then (hdR ls).filter fun x => allB ls x ls.length else []
def leS (ls : List (List ByteArray)) : List ByteArray := if ∀ l ∈ ls, Inc l then (hdR ls).filter fun x => !anyB ls x ls.length else []
theorem hdR_nil {ls : List (List ByteArray)} (h : ls.length = 0) : hdR ls = [] := by
  obtain rfl := List.eq_nil_of_length_eq_zero h; rfl
theorem meS_no {ls : List (List ByteArray)} (h : chkL ls ≠ 0 ∨ ls.length = 0) : meS ls = [] := by
  unfold meS
  rcases h with h | h
  · rw [if_neg fun q => h (if_pos q)]
  · rw [hdR_nil h]; simp
theorem leS_no {ls : List (List ByteArray)} (h : chkL ls ≠ 0 ∨ ls.length = 0) : leS ls = [] := by
  unfold leS
  rcases h with h | h
  · rw [if_neg fun q => h (if_pos q)]
  · rw [hdR_nil h]; simp
theorem cnt_one : ∀ {l : List ByteArray}, l.Nodup → ∀ x, cntN l x = if x ∈ l then 1 else 0
  | [], _, x => rfl
  | y :: l, h, x => by
    obtain ⟨h1, h2⟩ := List.nodup_cons.1 h
    have ih := cnt_one h2 x
    unfold cntN at *
    rw [List.countP_cons, ih]
    by_cases e : y = x
    · subst e; rw [if_neg h1]; simp
    · have : x ≠ y := fun q => e q.symm
      simp [e, this]
theorem cnt_flat : ∀ {ls : List (List ByteArray)}, (∀ l ∈ ls, Inc l) → ∀ x, cntN ls.flatten x ≤ ls.length ∧ (cntN ls.flatten x = ls.length ↔ ∀ l ∈ ls, x ∈ l)
  | [], _, x => ⟨Nat.le_refl _, by simp [cntN]⟩
  | l :: ls, h, x => by
    obtain ⟨h1, h2⟩ := cnt_flat (ls := ls) (fun q hq => h q (List.mem_cons_of_mem _ hq)) x
    have h3 := cnt_one (h l (List.mem_cons_self ..)).nodup x
    have h4 : cntN (l :: ls).flatten x = cntN l x + cntN ls.flatten x := by unfold cntN; rw [List.flatten_cons, List.countP_append]
    rw [h4, h3, List.length_cons]
    by_cases e : x ∈ l
    · rw [if_pos e]
      refine ⟨by omega, ⟨fun q => ?_, fun q => ?_⟩⟩
      · intro m hm
        rcases List.mem_cons.1 hm with k | k
        · rw [k]; exact e
        · exact h2.1 (by omega) m k
      · have := h2.2 fun m hm => q m (List.mem_cons_of_mem _ hm)
        omega
    · rw [if_neg e]
      refine ⟨by omega, ⟨fun q => ?_, fun q => absurd (q l (List.mem_cons_self ..)) e⟩⟩
      omega
theorem hd_in {ls : List (List ByteArray)} (h : 0 < ls.length) : ls = hdR ls :: ls.drop 1 := by
  cases ls with
  | nil => simp at h
  | cons a t => rfl
theorem meS_cnt {ls : List (List ByteArray)} (hI : ∀ l ∈ ls, Inc l) (h0 : 0 < ls.length) : meS ls = (hdR ls).filter fun x => decide (cntF ls.flatten x = (ls.length : Int)) := by
  unfold meS
  rw [if_pos hI]
  refine List.filter_congr fun x hx => ?_
  unfold allB cntF
  rw [List.take_length]
  congr 1
  refine propext ⟨fun q => ?_, fun q l hl => ?_⟩
  · rw [(cnt_flat hI x).2.2 fun l hl => ?_]
    rw [hd_in h0] at hl
    rcases List.mem_cons.1 hl with k | k
    · rw [k]; exact hx
    · exact q l k
  · exact (cnt_flat hI x).2.1 (by omega) l (List.mem_of_mem_drop hl)
theorem leS_cnt {ls : List (List ByteArray)} (hI : ∀ l ∈ ls, Inc l) : leS ls = (hdR ls).filter fun x => decide (cntF (ls.drop 1).flatten x = 0) := by
  unfold leS
  rw [if_pos hI]
  refine List.filter_congr fun x hx => ?_
  unfold anyB cntF cntN
  rw [List.take_length, Bool.eq_iff_iff]
  simp only [Bool.not_eq_true', decide_eq_false_iff_not, decide_eq_true_eq]
  have : ((List.countP (fun y => decide (y = x)) (ls.drop 1).flatten : Nat) : Int) = 0 ↔ List.countP (fun y => decide (y = x)) (ls.drop 1).flatten = 0 := by omega
  rw [this, List.countP_eq_zero]
  constructor
  · rintro q y hy
    obtain ⟨l, hl, hyl⟩ := List.mem_flatten.1 hy
    simp only [decide_eq_true_eq]
    rintro rfl
    exact q ⟨l, hl, hyl⟩
  · rintro q ⟨l, hl, hxl⟩
    exact q x (List.mem_flatten.2 ⟨l, hl, hxl⟩) (by simp)
theorem counted' (w : World) (A : Option Addr) (c n : Nat) (ls : List (List ByteArray)) (hn : ls.length = n) (hL : SlR (Rp.slice Rp.str) (fun k => k < w.heap.size) w (.slice A n c) ls) (hf : ls.flatten.length ≤ 1048576) (hz : ∀ l ∈ ls, ∀ s ∈ l, s.size ≤ maxLen) :
    Calls Try.prog 47 #[.slice A n c] w (fun e w' => ∃ b n, e = .returned (.map (some b)) ∧ Mp mI w' b n (cntF ls.flatten) ∧ w.heap.size ≤ b ∧ b < w'.heap.size ∧ Fr [] w w') := by subst hn; exact counted_any w A c ls hL hf hz
theorem flat_drop_le {α : Type} (xs : List (List α)) (i : Nat) : (xs.drop i).flatten.length ≤ xs.flatten.length := by
  conv => rhs; rw [← List.take_append_drop i xs]
  rw [List.flatten_append, List.length_append]; omega
theorem hd_le (ls : List (List ByteArray)) : (hdR ls).length ≤ ls.flatten.length := by
  cases ls with
  | nil => simp [hdR, at_]; rfl
  | cons a t => rw [List.flatten_cons, List.length_append]; show a.length ≤ _; omega
set_option maxHeartbeats 4000000 in
set_option maxRecDepth 20000 in
theorem meet_any (w : World) (A : Option Addr) (c : Nat) (ls : List (List ByteArray)) (hL : SlR (Rp.slice Rp.str) (fun k => k < w.heap.size) w (.slice A ls.length c) ls) (hf : ls.flatten.length ≤ 1048576) (hz : ∀ l ∈ ls, ∀ s ∈ l, s.size ≤ maxLen) : Calls Try.prog 31 #[.slice A ls.length c] w (fun e w' => ∃ A' c', e = .returned (.tuple #[.slice A' (meS ls).length c', .int .i64 (chkL ls)]) ∧ OwR Rp.str NoZ w' w.heap.size 9 (.slice A' (meS ls).length c') (meS ls) ∧ Fr [] w w') := by
 have hF := Fr.refl [] w
 have hlen0 := hL.len_le
 refine V.en 23 Try.func31 fun a h1 => ?_
 refine V.sg fun K2 k3 => ?_
 refine V.go (V.mk [(0, .slice A ls.length c)] ⟨h1.e, trivial⟩ (by kernel_rfl) [.slice A ls.length c] 44 (fun b => .pointer (some ⟨b, 0, none⟩)) (by kernel_rfl) ?_)
 intro w5 b4 heb4 hB6 hF7 hsb4
 have hF_8 := hF.new hF7
 have hL_9 := hL.fr0 hF7
 refine V.pt h1 fun a h10 => ?_
 refine V.re h10 [] 2 3 [] fun a h11 => k3 _ _ ?_
 refine V.seq fun K12 k13 => ?_
 refine V.sg fun K14 k15 => ?_
 refine V.run h11 [(0, .b hB6 0)] 1 1 0 [(6, .slice A ls.length c)] fun a h16 => ?_
 refine V.cl h16 (Go.Proofs.enters_of Try.func38 (by kernel_rfl) rfl) (checks_any w5 _ _ ls hL_9.old) ?_
 rintro _ w19 ⟨rfl, hF17⟩
 refine ⟨_, rfl, fun a h20 => ?_⟩
 have hsw19 := hF17.size
 have hF_21 := hF_8.new hF17
 have hL_22 := hL_9.fr0 hF17
 have hB6_23 := hB6.fr0 hF17
 have hq18 := chkL_cases ls
 refine V.re h20 [] 1 0 [(4, .int .i64 (chkL ls))] fun a h24 => k15 _ _ ?_
 refine V.sg fun K25 k26 => ?_
 refine V.run h24 [(1, .ne (chkL ls) 0)] 3 8 9 [(10, .bool (decide (¬ (chkL ls) = 0)))] fun a h27 => ?_
 by_cases hg28 : ¬ (chkL ls) = 0
 ·
  have h29 := h27.kt 10 hg28
  refine V.re h29 [] 11 13 [(14, .bool true)] fun a h30 => k26 _ _ ?_
  refine V.ct h30 ?_
  refine V.sr h30 [] 15 15 [(2, .slice none 0 0), (3, .int .i64 (chkL ls))] fun a h33 => ?_
  refine V.ret ?_
  refine V.then_r ?_
  refine V.r2 h33 (.slice none 0 0) (.int .i64 (chkL ls)) ?_
  rw [meS_no (by omega)]
  exact ⟨none, 0, rfl, OwR.nil .., hF_21⟩
 ·
  have h34 := h27.kf 10 hg28
  refine V.re h34 [(0, .b hB6_23 0), (1, .eq ((ls.length : Nat) : Int) 0)] 11 13 [(14, .bool (decide (((ls.length : Nat) : Int) = 0)))] fun a h35 => k26 _ _ ?_
  refine V.cp h35 (((ls.length : Nat) : Int) = 0) (fun ht36 => ?_) (fun ht36 => ?_)
  ·
   refine V.sr h35 [] 15 15 [(2, .slice none 0 0), (3, .int .i64 (chkL ls))] fun a h39 => ?_
   refine V.ret ?_
   refine V.then_r ?_
   refine V.r2 h39 (.slice none 0 0) (.int .i64 (chkL ls)) ?_
   rw [meS_no (by omega)]
   exact ⟨none, 0, rfl, OwR.nil .., hF_21⟩
  ·
   refine V.skip ?_
   refine V.then_n (k13 _ _ ?_)
   refine V.sg fun K40 k41 => ?_
   refine V.run h35 [(0, .b hB6_23 0)] 1 1 0 [(16, .slice A ls.length c)] fun a h42 => ?_
   refine V.cl h42 (Go.Proofs.enters_of Try.func47 (by kernel_rfl) rfl) (counted' w19 A c ls.length ls rfl hL_22.old (by omega) hz) ?_
   rintro _ w49 ⟨b43, n44, rfl, hM45, hb47, hb48, hF46⟩
   refine ⟨_, rfl, fun a h50 => ?_⟩
   have hsw49 := hF46.size
   have hF_51 := hF_21.new hF46
   have hL_52 := hL_22.fr0 hF46
   have hB6_53 := hB6_23.fr0 hF46
   refine V.go (V.mk [] trivial (by kernel_rfl) [.map none] 58 (fun b => .pointer (some ⟨b, 0, none⟩)) (by kernel_rfl) ?_)
   intro w55 b54 heb54 hB56 hF57 hsb54
   have hF_58 := hF_51.new hF57
   have hL_59 := hL_52.fr0 hF57
   have hB6_60 := hB6_53.fr0 hF57
   have hM45_61 := hM45.fr0 hF57
   refine V.pt h50 fun a h62 => ?_
   refine V.go (V.stn b54 0 (.map (some b43)) [.map (some b43)] h62.e h62.e rfl rfl (by kernel_rfl) hB56 (by simp) [.map (some b43)] rfl ?_)
   intro w63 hB64 hF65 hsw63
   have hF_66 := hF_58.own hF65 (by simp <;> omega)
   have hL_67 := hL_59.fr hF65 (by simp <;> omega)
   have hB6_68 := hB6_60.fr1 hF65 (by omega)
   have hM45_69 := hM45_61.fr1 hF65 (by omega)
   refine V.nt (k41 _ _ ?_)
   refine V.seq fun K70 k71 => ?_
   have hhl := hd_le ls
   have hhl : (at_ (Rp.slice Rp.str) ls 0).length ≤ _ := hhl
   obtain ⟨g72, o73, hA74, hA74l, hA74z⟩ := hL_67.addr (by omega)
   obtain ⟨cs75, hok76, hE77⟩ := hL_67.els hA74 (0 : Int) (by omega) (by omega)
   obtain ⟨A78, c79, rfl, hS80⟩ := slice_open hok76
   refine V.rg ?_
   refine V.run h62 [(0, .b hB6_68 0), (0, .ix g72 o73 ls.length c .i64 0 1 hA74), (0, .l ⟨g72, o73 + (0 : Int).toNat * 1, none⟩ (.slice A78 ((at_ (Rp.slice Rp.str) ls (0 : Int)).length) c79) (hE77.at 0 rfl))] 4 18 19 [(20, .slice A78 ((at_ (Rp.slice Rp.str) ls (0 : Int)).length) c79), (21, .func (.func 49) #[] #[.pointer (some ⟨b54, 0, none⟩), .pointer (some ⟨b4, 0, none⟩)])] fun a h81 => ?_
   refine V.cl h81 (Go.Proofs.enters_of Try.func48 (by kernel_rfl) rfl) (kept_2 w63 A78 c79 (at_ (Rp.slice Rp.str) ls (0 : Int)) hS80.old (by omega) 49 (.pointer (some ⟨b54, 0, none⟩)) (.pointer (some ⟨b4, 0, none⟩)) (Go.Proofs.enters_of Try.func49 (by kernel_rfl) rfl) (fun x => decide (cntF ls.flatten x = (ls.length : Int))) (fun w1 F x hx => meet1_any w1 b54 b43 n44 (cntF ls.flatten) (hB64.fr0 F) (hM45_69.fr0 F) b4 A ls.length c (hB6_68.fr0 F) x (hz _ (at_row_mem (i := 0) (by omega)) x hx))) ?_
   rintro _ w86 ⟨A82, c83, rfl, hO84, hF85⟩
   refine ⟨_, rfl, fun a h87 => ?_⟩
   have hsw86 := hF85.size
   have hF_88 := hF_66.new hF85
   have hL_89 := hL_67.fr0 hF85
   have hB6_90 := hB6_68.fr0 hF85
   have hM45_91 := hM45_69.fr0 hF85
   have hB64_92 := hB64.fr0 hF85
   have hS80_93 := hS80.fr0 hF85
   have hE77_94 := hE77.fr0 hF85
   have hO84q := hO84.rebase (base' := w.heap.size) (by omega)
   refine V.re h87 [] 1 0 [(2, .slice A82 (((at_ (Rp.slice Rp.str) ls (0 : Int)).filter (fun x => decide (cntF ls.flatten x = (ls.length : Int)))).length) c83), (3, .int .i64 0)] fun a h95 => k71 _ _ ?_
   refine V.ret ?_
   refine V.r2 h95 (.slice A82 (((at_ (Rp.slice Rp.str) ls (0 : Int)).filter (fun x => decide (cntF ls.flatten x = (ls.length : Int)))).length) c83) (.int .i64 0) ?_
   rcases chkL_cases ls with ⟨hz0, hzi⟩ | ⟨hz0, hzi⟩
   · rw [meS_cnt hzi (by omega), hz0]; exact ⟨_, _, rfl, hO84q, hF_88⟩
   · exfalso; omega
set_option maxHeartbeats 4000000 in
set_option maxRecDepth 20000 in
theorem less_sets_any (w : World) (A : Option Addr) (c : Nat) (ls : List (List ByteArray)) (hL : SlR (Rp.slice Rp.str) (fun k => k < w.heap.size) w (.slice A ls.length c) ls) (hf : ls.flatten.length ≤ 1048576) (hz : ∀ l ∈ ls, ∀ s ∈ l, s.size ≤ maxLen) : Calls Try.prog 33 #[.slice A ls.length c] w (fun e w' => ∃ A' c', e = .returned (.tuple #[.slice A' (leS ls).length c', .int .i64 (chkL ls)]) ∧ OwR Rp.str NoZ w' w.heap.size 9 (.slice A' (leS ls).length c') (leS ls) ∧ Fr [] w w') := by
 have hF := Fr.refl [] w
 have hlen0 := hL.len_le
 have hcp := hL.cp
 refine V.en 24 Try.func33 fun a h1 => ?_
 refine V.sr h1 [] 2 3 [] fun a h4 => ?_
 refine V.seq fun K5 k6 => ?_
 refine V.sg fun K7 k8 => ?_
 refine V.run h4 [] 1 1 0 [(6, .slice A ls.length c)] fun a h9 => ?_
 refine V.cl h9 (Go.Proofs.enters_of Try.func38 (by kernel_rfl) rfl) (checks_any w _ _ ls hL.old) ?_
 rintro _ w12 ⟨rfl, hF10⟩
 refine ⟨_, rfl, fun a h13 => ?_⟩
 have hsw12 := hF10.size
 have hF_14 := hF.new hF10
 have hL_15 := hL.fr0 hF10
 have hq11 := chkL_cases ls
 refine V.re h13 [] 1 0 [(4, .int .i64 (chkL ls))] fun a h16 => k8 _ _ ?_
 refine V.sg fun K17 k18 => ?_
 refine V.run h16 [(1, .ne (chkL ls) 0)] 3 8 9 [(10, .bool (decide (¬ (chkL ls) = 0)))] fun a h19 => ?_
 by_cases hg20 : ¬ (chkL ls) = 0
 ·
  have h21 := h19.kt 10 hg20
  refine V.re h21 [] 11 13 [(14, .bool true)] fun a h22 => k18 _ _ ?_
  refine V.ct h22 ?_
  refine V.sr h22 [] 15 15 [(2, .slice none 0 0), (3, .int .i64 (chkL ls))] fun a h25 => ?_
  refine V.ret ?_
  refine V.then_r ?_
  refine V.r2 h25 (.slice none 0 0) (.int .i64 (chkL ls)) ?_
  rw [leS_no (by omega)]
  exact ⟨none, 0, rfl, OwR.nil .., hF_14⟩
 ·
  have h26 := h19.kf 10 hg20
  refine V.re h26 [(2, .eq ((ls.length : Nat) : Int) 0)] 11 13 [(14, .bool (decide (((ls.length : Nat) : Int) = 0)))] fun a h27 => k18 _ _ ?_
  refine V.cp h27 (((ls.length : Nat) : Int) = 0) (fun ht28 => ?_) (fun ht28 => ?_)
  ·
   refine V.sr h27 [] 15 15 [(2, .slice none 0 0), (3, .int .i64 (chkL ls))] fun a h31 => ?_
   refine V.ret ?_
   refine V.then_r ?_
   refine V.r2 h31 (.slice none 0 0) (.int .i64 (chkL ls)) ?_
   rw [leS_no (by omega)]
   exact ⟨none, 0, rfl, OwR.nil .., hF_14⟩
  ·
   refine V.skip ?_
   refine V.then_n (k6 _ _ ?_)
   have hS34 := hL_15.dr (i := 1) (by omega)
   refine V.sg fun K32 k33 => ?_
   refine V.run h27 [(1, .cutE A ls.length c 1 1 1)] 2 16 16 [(17, .slice (cutA A 1 c 1) (ls.length - 1) (c - 1))] fun a h35 => ?_
   refine V.cl h35 (Go.Proofs.enters_of Try.func47 (by kernel_rfl) rfl) (counted' w12 (cutA A 1 c 1) (c - 1) (ls.length - 1) (ls.drop 1) (by rw [List.length_drop]) hS34.old (by have := flat_drop_le ls 1; omega) (fun l hl => hz l (List.mem_of_mem_drop hl))) ?_
   rintro _ w42 ⟨b36, n37, rfl, hM38, hb40, hb41, hF39⟩
   refine ⟨_, rfl, fun a h43 => ?_⟩
   have hsw42 := hF39.size
   have hF_44 := hF_14.new hF39
   have hL_45 := hL_15.fr0 hF39
   have hS34_46 := hS34.fr0 hF39
   refine V.go (V.mk [] trivial (by kernel_rfl) [.map none] 58 (fun b => .pointer (some ⟨b, 0, none⟩)) (by kernel_rfl) ?_)
   intro w48 b47 heb47 hB49 hF50 hsb47
   have hF_51 := hF_44.new hF50
   have hL_52 := hL_45.fr0 hF50
   have hS34_53 := hS34_46.fr0 hF50
   have hM38_54 := hM38.fr0 hF50
   refine V.pt h43 fun a h55 => ?_
   refine V.go (V.stn b47 0 (.map (some b36)) [.map (some b36)] h55.e h55.e rfl rfl (by kernel_rfl) hB49 (by simp) [.map (some b36)] rfl ?_)
   intro w56 hB57 hF58 hsw56
   have hF_59 := hF_51.own hF58 (by simp <;> omega)
   have hL_60 := hL_52.fr hF58 (by simp <;> omega)
   have hS34_61 := hS34_53.fr hF58 (by simp <;> omega)
   have hM38_62 := hM38_54.fr1 hF58 (by omega)
   refine V.nt (k33 _ _ ?_)
   refine V.seq fun K63 k64 => ?_
   have hhl := hd_le ls
   have hhl : (at_ (Rp.slice Rp.str) ls 0).length ≤ _ := hhl
   obtain ⟨g65, o66, hA67, hA67l, hA67z⟩ := hL_60.addr (by omega)
   obtain ⟨cs68, hok69, hE70⟩ := hL_60.els hA67 (0 : Int) (by omega) (by omega)
   obtain ⟨A71, c72, rfl, hS73⟩ := slice_open hok69
   refine V.rg ?_
   refine V.run h55 [(1, .ix g65 o66 ls.length c .i64 0 1 hA67), (0, .l ⟨g65, o66 + (0 : Int).toNat * 1, none⟩ (.slice A71 ((at_ (Rp.slice Rp.str) ls (0 : Int)).length) c72) (hE70.at 0 rfl))] 4 19 20 [(21, .slice A71 ((at_ (Rp.slice Rp.str) ls (0 : Int)).length) c72), (22, .func (.func 50) #[] #[.pointer (some ⟨b47, 0, none⟩)])] fun a h74 => ?_
   refine V.cl h74 (Go.Proofs.enters_of Try.func48 (by kernel_rfl) rfl) (kept_1 w56 A71 c72 (at_ (Rp.slice Rp.str) ls (0 : Int)) hS73.old (by omega) 50 (.pointer (some ⟨b47, 0, none⟩)) (Go.Proofs.enters_of Try.func50 (by kernel_rfl) rfl) (fun x => decide (cntF (ls.drop 1).flatten x = 0)) (fun w1 F x hx => less1_any w1 b47 b36 n37 (cntF (ls.drop 1).flatten) (hB57.fr0 F) (hM38_62.fr0 F) x (hz _ (at_row_mem (i := 0) (by omega)) x hx))) ?_
   rintro _ w79 ⟨A75, c76, rfl, hO77, hF78⟩
   refine ⟨_, rfl, fun a h80 => ?_⟩
   have hsw79 := hF78.size
   have hF_81 := hF_59.new hF78
   have hL_82 := hL_60.fr0 hF78
   have hS34_83 := hS34_61.fr0 hF78
   have hM38_84 := hM38_62.fr0 hF78
   have hB57_85 := hB57.fr0 hF78
   have hS73_86 := hS73.fr0 hF78
   have hE70_87 := hE70.fr0 hF78
   have hO77q := hO77.rebase (base' := w.heap.size) (by omega)
   refine V.re h80 [] 1 0 [(2, .slice A75 (((at_ (Rp.slice Rp.str) ls (0 : Int)).filter (fun x => decide (cntF (ls.drop 1).flatten x = 0))).length) c76), (3, .int .i64 0)] fun a h88 => k64 _ _ ?_
   refine V.ret ?_
   refine V.r2 h88 (.slice A75 (((at_ (Rp.slice Rp.str) ls (0 : Int)).filter (fun x => decide (cntF (ls.drop 1).flatten x = 0))).length) c76) (.int .i64 0) ?_
   rcases chkL_cases ls with ⟨hz0, hzi⟩ | ⟨hz0, hzi⟩
   · rw [leS_cnt hzi, hz0]; exact ⟨_, _, rfl, hO77q, hF_81⟩
   · exfalso; omega
end Go.Proofs.Ytkepojdmgdgaoaa
