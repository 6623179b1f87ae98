/- Walks: MembersMany. -/
import Derived.Test.YtkepojdmgdgaoaaProg
import Derived.Test.YtkepojdmgdgaoaaMv
import Derived.Test.YtkepojdmgdgaoaaMg
namespace Go.Proofs.Ytkepojdmgdgaoaa
open Go.V Go.Base
open Go.RowKit (Below)
attribute [local irreducible] Act.put Act.eval
set_option linter.unusedVariables false
set_option linter.unusedSimpArgs false
def fwR (ls : List (List ByteArray)) (i : Nat) : List (List ByteArray) := (ls.take i).map fun l => l.take 200
theorem fwR_next {ls : List (List ByteArray)} {i : Nat} (h : i < ls.length) : fwR ls (i + 1) = fwR ls i ++ [(at_ (Rp.slice Rp.str) ls (i : Int)).take 200] := by
  have e := at_some (Rp.slice Rp.str) (xs := ls) (i := (i : Int)) (by omega) (by omega)
  rw [Int.toNat_natCast] at e
  unfold fwR
  rw [List.take_add_one, e, List.map_append]; rfl
theorem fwR_len (ls : List (List ByteArray)) (i : Nat) : (fwR ls i).length ≤ i := by unfold fwR; rw [List.length_map, List.length_take]; omega
theorem flat_200 : ∀ {ls : List (List ByteArray)}, (ls.map fun l => l.take 200).flatten.length ≤ 200 * ls.length
  | [] => by simp
  | l :: ls => by
    rw [List.map_cons, List.flatten_cons, List.length_append, List.length_cons]
    have := flat_200 (ls := ls)
    have := List.length_take_le 200 l
    omega
theorem fwR_flat {ls : List (List ByteArray)} {i : Nat} (hi : i ≤ 8) : (fwR ls i).flatten.length ≤ 1048576 := by
  have h1 := flat_200 (ls := ls.take i)
  have h2 := List.length_take_le i ls
  show ((ls.take i).map fun l => l.take 200).flatten.length ≤ _
  omega
theorem fwR_sz {ls : List (List ByteArray)} {i : Nat} (hz : ∀ l ∈ ls, ∀ s ∈ l, s.size ≤ maxLen) : ∀ l ∈ fwR ls i, ∀ s ∈ l, s.size ≤ maxLen := by
  intro l hl s hs
  obtain ⟨q, hq, rfl⟩ := List.mem_map.1 hl
  exact hz q (List.mem_of_mem_take hq) s (List.mem_of_mem_take hs)
set_option maxHeartbeats 4000000 in
set_option maxRecDepth 20000 in
theorem sets_any (w : World) (A : Option Addr) (c : Nat) (ls : List (List ByteArray)) (hL : SlR (Rp.slice Rp.str) (fun k => k < w.heap.size) w (.slice A ls.length c) ls) : Calls Try.prog 30 #[.slice A ls.length c] w (fun e w' => ∃ i A' c', i ≤ 8 ∧ e = .returned (.slice A' (fwR ls i).length c') ∧ OwR (Rp.slice Rp.str) (fun k => k < w.heap.size) w' w.heap.size 22 (.slice A' (fwR ls i).length c') (fwR ls i) ∧ Fr [] w w') := by
 have hF := Fr.refl [] w
 have hlen0 := hL.len_le
 refine V.en 24 Try.func30 fun a h1 => ?_
 refine V.sr h1 [] 2 2 [] fun a h4 => ?_
 refine V.sr h4 [] 1 0 [(3, .slice none 0 0)] fun a h7 => ?_
 refine V.seq fun K8 k9 => ?_
 refine V.sr h7 [] 1 0 [(4, .int .i64 0)] fun a h12 => ?_
 refine V.block ?_
 refine V.loop3 (fun (i : Nat) (A2 : Option Addr) (c2 : Nat) a_ w_ => En 24 [] a_ [(0, .slice A ls.length c), (3, .slice A2 ((fwR ls i).length) c2), (4, .int .i64 (i : Int))] ∧ OwR (Rp.slice Rp.str) (fun k => k < w.heap.size) w_ w.heap.size 22 (.slice A2 ((fwR ls i).length) c2) (fwR ls i) ∧ Fr [] w w_ ∧ SlR (Rp.slice Rp.str) (fun k => k < w.heap.size) w_ (.slice A ls.length c) ls ∧ (i ≤ ls.length ∧ i ≤ 8)) (fun (i : Nat) (A2 : Option Addr) (c2 : Nat) => ls.length - i) 0 none 0 ?_ ?_
 ·
  refine ⟨((h12.eq 3 (v := (.slice none 0 0)) (u := (.slice none ((fwR ls 0).length) 0)) (rfl)).eq 4 (v := (.int .i64 0)) (u := (.int .i64 (0 : Int))) (V.int_eq (by omega))).only _, (OwR.nil ..), hF, hL, (by omega)⟩
 ·
  rintro i A2 c2 a13 w14 ⟨h15, hO_16, hF_17, hL_18, hi⟩
  have hfs19 := hF_17.size
  have hfl := fwR_len ls i
  refine V.seq fun K20 k21 => ?_
  refine V.sg fun K22 k23 => ?_
  refine V.run h15 [] 5 5 8 [(9, .bool (decide ((i : Int) < ((ls.length : Nat) : Int))))] fun a h24 => ?_
  by_cases hg25 : (i : Int) < ((ls.length : Nat) : Int)
  ·
   have h26 := h24.kt 9 hg25
   refine V.re h26 [] 10 11 [(12, .bool (decide ((i : Int) < 8)))] fun a h27 => k23 _ _ ?_
   refine V.cp h27 ((i : Int) < 8) (fun ht28 => ?_) (fun ht28 => ?_)
   ·
    refine V.skip ?_
    refine V.then_n (k21 _ _ ?_)
    refine V.seq fun K29 k30 => ?_
    refine V.block ?_
    obtain ⟨g31, o32, hA33, hA33l, hA33z⟩ := hL_18.addr (by omega)
    obtain ⟨cs34, hok35, hE36⟩ := hL_18.els hA33 (i : Int) (by omega) (by omega)
    obtain ⟨A37, c38, rfl, hS39⟩ := slice_open hok35
    refine V.rg ?_
    refine V.run h27 [(3, .ix g31 o32 ls.length c .i64 (i : Int) 1 hA33), (0, .l ⟨g31, o32 + (i : Int).toNat * 1, none⟩ (.slice A37 ((at_ (Rp.slice Rp.str) ls (i : Int)).length) c38) (hE36.at 0 rfl))] 5 16 18 [(15, .slice A2 ((fwR ls i).length) c2), (19, .slice A37 ((at_ (Rp.slice Rp.str) ls (i : Int)).length) c38)] fun a h40 => ?_
    refine V.cl h40 (Go.Proofs.enters_of Try.func12 (by kernel_rfl) rfl) (few_any w14 A37 c38 (at_ (Rp.slice Rp.str) ls (i : Int)) hS39.old) ?_
    rintro _ w44 ⟨rfl, hF41⟩
    refine ⟨_, rfl, fun a h45 => ?_⟩
    have hsw44 := hF41.size
    have hO_46 := hO_16.fr0 hF41
    have hF_47 := hF_17.new hF41
    have hL_48 := hL_18.fr0 hF41
    have hS39_49 := hS39.fr0 hF41
    have hE36_50 := hE36.fr0 hF41
    have hS42 := (hS39.fr0 hF41).tke 200
    have hfw43 : ((at_ (Rp.slice Rp.str) ls (i : Int)).take 200).length ≤ 200 := by rw [List.length_take]; omega
    refine V.go (V.mk [(20, .slice A37 (((at_ (Rp.slice Rp.str) ls (i : Int)).take 200).length) c38)] ⟨h45.e, trivial⟩ (by kernel_rfl) [.slice A37 (((at_ (Rp.slice Rp.str) ls (i : Int)).take 200).length) c38] 22 (fun b => .slice (some ⟨b, 0, none⟩) 1 1) (by kernel_rfl) ?_)
    intro w52 b51 heb51 hB53 hF54 hsb51
    have hO_55 := hO_46.fr0 hF54
    have hF_56 := hF_47.new hF54
    have hL_57 := hL_48.fr0 hF54
    have hS39_58 := hS39_49.fr0 hF54
    have hE36_59 := hE36_50.fr0 hF54
    have hS42_60 := hS42.fr0 hF54
    refine V.pt h45 fun a h61 => ?_
    refine V.go (V.app (R := (Rp.slice Rp.str)) (ys := ([(at_ (Rp.slice Rp.str) ls (i : Int)).take 200])) (news := [.slice A37 (((at_ (Rp.slice Rp.str) ls (i : Int)).take 200).length) c38]) (h61.e (v := (.slice A2 ((fwR ls i).length) c2))) ⟨b51, 0, none⟩ 1 1 (h61.e (v := (.slice (some ⟨b51, 0, none⟩) 1 1))) (by kernel_rfl) (info22) (by kernel_rfl) (by decide) hO_55 rfl ⟨_, [], rfl, ⟨_, rfl, hS42_60⟩, rfl⟩ (blk_cells hB53 0 _ rfl) (by first | omega | (simp; omega)) (by decide) (by omega) ?_)
    intro A62 c63 w64 hO65z hF66 hatw64
    have hsw64 := hF66.size
    have hF_67 := hF_56.own hF66 (own_ge hO_55 (by omega))
    have hL_68 := hL_57.fr hF66 (by intro b hb hz; have := own_ge hO_55 (Nat.le_refl _) b hb; (try dsimp only at hz); omega)
    have hS39_69 := hS39_58.fr hF66 (by intro b hb hz; have := own_ge hO_55 (Nat.le_refl _) b hb; (try dsimp only at hz); omega)
    have hE36_70 := hE36_59.fr hF66 (by first | exact own_notin hO_55 (by omega) | exact own_notin2 hO_16 (by omega))
    have hS42_71 := hS42_60.fr hF66 (by intro b hb hz; have := own_ge hO_55 (Nat.le_refl _) b hb; (try dsimp only at hz); omega)
    have hO65 := hO65z.zone (Z' := (fun k => k < w.heap.size)) (fun _ _ q => q.1) (fun b hb hz => by have := (hO65z.lt b hb).1; (try dsimp only at hz); omega)
    refine V.pt h61 fun a h72 => ?_
    refine V.re h72 [] 1 0 [(3, .slice A62 (((fwR ls i).length) + 1) c63)] fun a h73 => ?_
    refine V.blk_n ?_
    refine V.then_n (k30 _ _ ?_)
    refine V.rr h73 [(1, .i ((i : Int) + 1))] 13 14 [(4, .int .i64 ((i : Int) + 1))] fun a h74 => ?_
    refine V.then_n ?_
    have hqs := fwR_next (show i < ls.length by omega)
    refine ⟨i + 1, A62, c63, by omega, ?_⟩
    refine ⟨((h74.eq 3 (v := (.slice A62 (((fwR ls i).length) + 1) c63)) (u := (.slice A62 ((fwR ls (i + 1)).length) c63)) (V.sl_eq (by rw [hqs]; simp))).eq 4 (v := (.int .i64 ((i : Int) + 1))) (u := (.int .i64 ((i + 1) : Int))) (V.int_eq (by omega))).only _, (by rw [hqs]; simpa using hO65), hF_67, hL_68, (by omega)⟩
   ·
    refine V.exit ?_
    refine V.then_e ?_
    refine V.then_e ?_
    refine V.blk_hit ?_
    refine V.then_n (k9 _ _ ?_)
    refine V.sr h27 [] 23 23 [(2, .slice A2 ((fwR ls i).length) c2)] fun a h77 => ?_
    refine V.ret ?_
    refine V.r1 h77 (.slice A2 ((fwR ls i).length) c2) ?_
    exact ⟨i, _, _, by omega, rfl, hO_16, hF_17⟩
  ·
   have h78 := h24.kf 9 hg25
   refine V.re h78 [] 10 11 [(12, .bool false)] fun a h79 => k23 _ _ ?_
   refine V.cf h79 ?_
   refine V.exit ?_
   refine V.then_e ?_
   refine V.then_e ?_
   refine V.blk_hit ?_
   refine V.then_n (k9 _ _ ?_)
   refine V.sr h79 [] 23 23 [(2, .slice A2 ((fwR ls i).length) c2)] fun a h82 => ?_
   refine V.ret ?_
   refine V.r1 h82 (.slice A2 ((fwR ls i).length) c2) ?_
   exact ⟨i, _, _, by omega, rfl, hO_16, hF_17⟩
set_option maxHeartbeats 4000000 in
set_option maxRecDepth 20000 in
theorem membersMany_any (w : World) (A : Option Addr) (c : Nat) (ls : List (List ByteArray)) (hL : SlR (Rp.slice Rp.str) (fun k => k < w.heap.size) w (.slice A ls.length c) ls) (hz : ∀ l ∈ ls, ∀ s ∈ l, s.size ≤ maxLen) : Calls Try.prog 8 #[.slice A ls.length c] w (fun e w' => e = .returned (.bool true) ∧ Fr [] w w') := by
 have hF := Fr.refl [] w
 have hlen0 := hL.len_le
 refine V.en 78 Try.func8 fun a h1 => ?_
 refine V.sr h1 [] 2 2 [] fun a h4 => ?_
 refine V.sg fun K5 k6 => ?_
 refine V.run h4 [] 1 1 0 [(15, .slice A ls.length c)] fun a h7 => ?_
 refine V.cl h7 (Go.Proofs.enters_of Try.func30 (by kernel_rfl) rfl) (sets_any w _ _ ls hL.old) ?_
 rintro _ w15 ⟨i8, A9, c10, hi11, rfl, hO12, hF13⟩
 refine ⟨_, rfl, fun a h16 => ?_⟩
 have hsw15 := hF13.size
 have hF_17 := hF.new hF13
 have hL_18 := hL.fr0 hF13
 have hS14 := hO12.read (Z' := fun _ => True) (fun _ _ _ => trivial) (fun _ _ _ => trivial)
 have hfw := fwR_flat (ls := ls) hi11
 have hz := fwR_sz (i := i8) hz
 refine V.re h16 [] 1 0 [(0, .slice A9 ((fwR ls i8).length) c10)] fun a h19 => k6 _ _ ?_
 refine V.sg fun K20 k21 => ?_
 refine V.run h19 [] 1 1 0 [(18, .slice A9 ((fwR ls i8).length) c10)] fun a h22 => ?_
 refine V.cl h22 (Go.Proofs.enters_of Try.func28 (by kernel_rfl) rfl) (union_any w15 _ _ (fwR ls i8) hS14.old (by first | exact hfw | (simp <;> omega))) ?_
 rintro _ w27 ⟨A23, c24, rfl, hO25, hF26⟩
 refine ⟨_, rfl, fun a h28 => ?_⟩
 have hsw27 := hF26.size
 have hF_29 := hF_17.new hF26
 have hL_30 := hL_18.fr0 hF26
 have hS14_31 := hS14.fr0 hF26
 have hO25q := hO25.rebase (base' := w.heap.size) (by omega)
 refine V.re h28 [] 17 21 [(3, .slice A23 ((unS (fwR ls i8)).length) c24), (4, .int .i64 (chkL (fwR ls i8)))] fun a h32 => k21 _ _ ?_
 refine V.sg fun K33 k34 => ?_
 refine V.run h32 [] 1 1 0 [(23, .slice A9 ((fwR ls i8).length) c10)] fun a h35 => ?_
 refine V.cl h35 (Go.Proofs.enters_of Try.func29 (by kernel_rfl) rfl) (runion_any w27 _ _ (fwR ls i8) hS14_31.old (by first | exact hfw | (simp <;> omega))) ?_
 rintro _ w40 ⟨A36, c37, rfl, hO38, hF39⟩
 refine ⟨_, rfl, fun a h41 => ?_⟩
 have hsw40 := hF39.size
 have hF_42 := hF_29.new hF39
 have hL_43 := hL_30.fr0 hF39
 have hS14_44 := hS14_31.fr0 hF39
 have hO25q_45 := hO25q.fr0 hF39
 have hO38q := hO38.rebase (base' := w.heap.size) (by omega)
 refine V.re h41 [] 22 26 [(5, .slice A36 ((unS (fwR ls i8)).length) c37), (6, .int .i64 (chkL (fwR ls i8)))] fun a h46 => k34 _ _ ?_
 refine V.sg fun K47 k48 => ?_
 refine V.run h46 [] 1 1 0 [(28, .slice A9 ((fwR ls i8).length) c10)] fun a h49 => ?_
 refine V.cl h49 (Go.Proofs.enters_of Try.func31 (by kernel_rfl) rfl) (meet_any w40 _ _ (fwR ls i8) hS14_44.old (by first | exact hfw | (simp <;> omega)) hz) ?_
 rintro _ w54 ⟨A50, c51, rfl, hO52, hF53⟩
 refine ⟨_, rfl, fun a h55 => ?_⟩
 have hsw54 := hF53.size
 have hF_56 := hF_42.new hF53
 have hL_57 := hL_43.fr0 hF53
 have hS14_58 := hS14_44.fr0 hF53
 have hO25q_59 := hO25q_45.fr0 hF53
 have hO38q_60 := hO38q.fr0 hF53
 have hO52q := hO52.rebase (base' := w.heap.size) (by omega)
 refine V.re h55 [] 27 31 [(7, .slice A50 ((meS (fwR ls i8)).length) c51), (8, .int .i64 (chkL (fwR ls i8)))] fun a h61 => k48 _ _ ?_
 refine V.sg fun K62 k63 => ?_
 refine V.run h61 [] 1 1 0 [(33, .slice A9 ((fwR ls i8).length) c10)] fun a h64 => ?_
 refine V.cl h64 (Go.Proofs.enters_of Try.func32 (by kernel_rfl) rfl) (rmeet_any w54 _ _ (fwR ls i8) hS14_58.old (by first | exact hfw | (simp <;> omega))) ?_
 rintro _ w69 ⟨A65, c66, rfl, hO67, hF68⟩
 refine ⟨_, rfl, fun a h70 => ?_⟩
 have hsw69 := hF68.size
 have hF_71 := hF_56.new hF68
 have hL_72 := hL_57.fr0 hF68
 have hS14_73 := hS14_58.fr0 hF68
 have hO25q_74 := hO25q_59.fr0 hF68
 have hO38q_75 := hO38q_60.fr0 hF68
 have hO52q_76 := hO52q.fr0 hF68
 have hO67q := hO67.rebase (base' := w.heap.size) (by omega)
 refine V.re h70 [] 32 36 [(9, .slice A65 ((meS (fwR ls i8)).length) c66), (10, .int .i64 (chkL (fwR ls i8)))] fun a h77 => k63 _ _ ?_
 refine V.sg fun K78 k79 => ?_
 refine V.run h77 [] 1 1 0 [(38, .slice A9 ((fwR ls i8).length) c10)] fun a h80 => ?_
 refine V.cl h80 (Go.Proofs.enters_of Try.func33 (by kernel_rfl) rfl) (less_sets_any w69 _ _ (fwR ls i8) hS14_73.old (by first | exact hfw | (simp <;> omega)) hz) ?_
 rintro _ w85 ⟨A81, c82, rfl, hO83, hF84⟩
 refine ⟨_, rfl, fun a h86 => ?_⟩
 have hsw85 := hF84.size
 have hF_87 := hF_71.new hF84
 have hL_88 := hL_72.fr0 hF84
 have hS14_89 := hS14_73.fr0 hF84
 have hO25q_90 := hO25q_74.fr0 hF84
 have hO38q_91 := hO38q_75.fr0 hF84
 have hO52q_92 := hO52q_76.fr0 hF84
 have hO67q_93 := hO67q.fr0 hF84
 have hO83q := hO83.rebase (base' := w.heap.size) (by omega)
 refine V.re h86 [] 37 41 [(11, .slice A81 ((leS (fwR ls i8)).length) c82), (12, .int .i64 (chkL (fwR ls i8)))] fun a h94 => k79 _ _ ?_
 refine V.sg fun K95 k96 => ?_
 refine V.run h94 [] 1 1 0 [(43, .slice A9 ((fwR ls i8).length) c10)] fun a h97 => ?_
 refine V.cl h97 (Go.Proofs.enters_of Try.func34 (by kernel_rfl) rfl) (rless_any w85 _ _ (fwR ls i8) hS14_89.old (by first | exact hfw | (simp <;> omega))) ?_
 rintro _ w102 ⟨A98, c99, rfl, hO100, hF101⟩
 refine ⟨_, rfl, fun a h103 => ?_⟩
 have hsw102 := hF101.size
 have hF_104 := hF_87.new hF101
 have hL_105 := hL_88.fr0 hF101
 have hS14_106 := hS14_89.fr0 hF101
 have hO25q_107 := hO25q_90.fr0 hF101
 have hO38q_108 := hO38q_91.fr0 hF101
 have hO52q_109 := hO52q_92.fr0 hF101
 have hO67q_110 := hO67q_93.fr0 hF101
 have hO83q_111 := hO83q.fr0 hF101
 have hO100q := hO100.rebase (base' := w.heap.size) (by omega)
 refine V.re h103 [] 42 46 [(13, .slice A98 ((leS (fwR ls i8)).length) c99), (14, .int .i64 (chkL (fwR ls i8)))] fun a h112 => k96 _ _ ?_
 have h113 := h112.only [(3, .slice A23 ((unS (fwR ls i8)).length) c24), (4, .int .i64 (chkL (fwR ls i8))), (5, .slice A36 ((unS (fwR ls i8)).length) c37), (6, .int .i64 (chkL (fwR ls i8))), (7, .slice A50 ((meS (fwR ls i8)).length) c51), (8, .int .i64 (chkL (fwR ls i8))), (9, .slice A65 ((meS (fwR ls i8)).length) c66), (10, .int .i64 (chkL (fwR ls i8))), (11, .slice A81 ((leS (fwR ls i8)).length) c82), (12, .int .i64 (chkL (fwR ls i8))), (13, .slice A98 ((leS (fwR ls i8)).length) c99), (14, .int .i64 (chkL (fwR ls i8)))]
 refine V.sg fun K114 k115 => ?_
 refine V.run h113 [] 2 1 0 [(47, .slice A23 ((unS (fwR ls i8)).length) c24), (48, .slice A36 ((unS (fwR ls i8)).length) c37)] fun a h116 => ?_
 have hS117 := hO25q_107.is
 have hS118 := hO38q_108.is
 refine V.cl h116 (Go.Proofs.enters_of Try.func18 (by kernel_rfl) rfl) (same_any w102 A23 c24 (unS (fwR ls i8)) hS117.old A36 c37 hS118.old) ?_
 rintro _ w120 ⟨rfl, hF119⟩
 refine ⟨_, rfl, fun a h121 => ?_⟩
 have hsw120 := hF119.size
 have hF_122 := hF_104.new hF119
 have hL_123 := hL_105.fr0 hF119
 have hS14_124 := hS14_106.fr0 hF119
 have hO25q_125 := hO25q_107.fr0 hF119
 have hO38q_126 := hO38q_108.fr0 hF119
 have hO52q_127 := hO52q_109.fr0 hF119
 have hO67q_128 := hO67q_110.fr0 hF119
 have hO83q_129 := hO83q_111.fr0 hF119
 have hO100q_130 := hO100q.fr0 hF119
 have hS117_131 := hS117.fr0 hF119
 have hS118_132 := hS118.fr0 hF119
 refine V.run h121 [(3, .q (.bool true) (V.t_same (chkL (fwR ls i8))))] 8 50 54 [(55, .bool true), (56, .slice A50 ((meS (fwR ls i8)).length) c51), (57, .slice A65 ((meS (fwR ls i8)).length) c66)] fun a h133 => ?_
 have hS134 := hO52q_127.is
 have hS135 := hO67q_128.is
 refine V.clg h133 (Go.Proofs.enters_of Try.func18 (by kernel_rfl) rfl) (same_any w120 A50 c51 (meS (fwR ls i8)) hS134.old A65 c66 hS135.old) ?_
 rintro _ w137 ⟨rfl, hF136⟩
 refine ⟨_, rfl, fun a h138 => ?_⟩
 have hsw137 := hF136.size
 have hF_139 := hF_122.new hF136
 have hL_140 := hL_123.fr0 hF136
 have hS14_141 := hS14_124.fr0 hF136
 have hO25q_142 := hO25q_125.fr0 hF136
 have hO38q_143 := hO38q_126.fr0 hF136
 have hO52q_144 := hO52q_127.fr0 hF136
 have hO67q_145 := hO67q_128.fr0 hF136
 have hO83q_146 := hO83q_129.fr0 hF136
 have hO100q_147 := hO100q_130.fr0 hF136
 have hS117_148 := hS117_131.fr0 hF136
 have hS118_149 := hS118_132.fr0 hF136
 have hS134_150 := hS134.fr0 hF136
 have hS135_151 := hS135.fr0 hF136
 refine V.run h138 [(4, .q (.bool true) (V.t_same (chkL (fwR ls i8))))] 9 59 64 [(65, .bool true), (66, .slice A81 ((leS (fwR ls i8)).length) c82), (67, .slice A98 ((leS (fwR ls i8)).length) c99)] fun a h152 => ?_
 have hS153 := hO83q_146.is
 have hS154 := hO100q_147.is
 refine V.clg h152 (Go.Proofs.enters_of Try.func18 (by kernel_rfl) rfl) (same_any w137 A81 c82 (leS (fwR ls i8)) hS153.old A98 c99 hS154.old) ?_
 rintro _ w156 ⟨rfl, hF155⟩
 refine ⟨_, rfl, fun a h157 => ?_⟩
 have hsw156 := hF155.size
 have hF_158 := hF_139.new hF155
 have hL_159 := hL_140.fr0 hF155
 have hS14_160 := hS14_141.fr0 hF155
 have hO25q_161 := hO25q_142.fr0 hF155
 have hO38q_162 := hO38q_143.fr0 hF155
 have hO52q_163 := hO52q_144.fr0 hF155
 have hO67q_164 := hO67q_145.fr0 hF155
 have hO83q_165 := hO83q_146.fr0 hF155
 have hO100q_166 := hO100q_147.fr0 hF155
 have hS117_167 := hS117_148.fr0 hF155
 have hS118_168 := hS118_149.fr0 hF155
 have hS134_169 := hS134_150.fr0 hF155
 have hS135_170 := hS135_151.fr0 hF155
 have hS153_171 := hS153.fr0 hF155
 have hS154_172 := hS154.fr0 hF155
 refine V.run h157 [(4, .q (.bool true) (V.t_same (chkL (fwR ls i8))))] 7 69 74 [(75, .bool true)] fun a h173 => ?_
 refine V.clg h173 (Go.Proofs.enters_of Try.func10 (by kernel_rfl) rfl) (awake_any w156) ?_
 rintro _ w175 ⟨rfl, hF174⟩
 refine ⟨_, rfl, fun a h176 => ?_⟩
 have hsw175 := hF174.size
 have hF_177 := hF_158.new hF174
 have hL_178 := hL_159.fr0 hF174
 have hS14_179 := hS14_160.fr0 hF174
 have hO25q_180 := hO25q_161.fr0 hF174
 have hO38q_181 := hO38q_162.fr0 hF174
 have hO52q_182 := hO52q_163.fr0 hF174
 have hO67q_183 := hO67q_164.fr0 hF174
 have hO83q_184 := hO83q_165.fr0 hF174
 have hO100q_185 := hO100q_166.fr0 hF174
 have hS117_186 := hS117_167.fr0 hF174
 have hS118_187 := hS118_168.fr0 hF174
 have hS134_188 := hS134_169.fr0 hF174
 have hS135_189 := hS135_170.fr0 hF174
 have hS153_190 := hS153_171.fr0 hF174
 have hS154_191 := hS154_172.fr0 hF174
 refine V.re h176 [] 77 77 [(2, .bool true)] fun a h192 => k115 _ _ ?_
 refine V.ret ?_
 refine V.r1 h192 (.bool true) ?_
 exact ⟨rfl, hF_177⟩
end Go.Proofs.Ytkepojdmgdgaoaa
