/- Walks: a table told one by one. -/
import Derived.Test.YtalhmegjomfbaaaProg
import Derived.Test.YtalhmegjomfbaaaTi
namespace Go.Proofs.Ytalhmegjomfbaaa
open Go.V Go.Base
open Go.RowKit (Below)
attribute [local irreducible] Act.put Act.eval
set_option linter.unusedVariables false
set_option linter.unusedSimpArgs false
set_option maxHeartbeats 4000000 in
set_option maxRecDepth 20000 in
theorem items_N (w : World) (H : Nat → Prop) (av : List Nat) (t gA : Nat) (vsA : List Value) (T : Tb Int) (hok : T.Ok) (hT : TabN 67 87 86 itI w H av t gA vsA T) (hHb : ∀ k, H k → k < w.heap.size) (hb : T.b.length = 0) : Calls Try.prog 70 #[.pointer (some ⟨t, 0, none⟩)] w (fun e w' => ∃ A c, e = .returned (.slice A T.n c) ∧ OwR itI NoZ w' w.heap.size 86 (.slice A T.n c) (T.a ++ T.b).flatten ∧ Fr [] w w') := by
 have hF := Fr.refl [] w
 have hok0 := hok
 have hsum := hok.sum
 obtain ⟨hsd, hpa, hla, hlb, hmv, hmz, hnn, hcn, hks⟩ := hok
 obtain ⟨hB, hRA, hlA, hK, hne, hpt, hpg⟩ := hT
 have hltt := hB.lt
 have hltg := hRA.lt
 refine V.enter 19 Try.func70 rfl rfl ?_
 intro a hz ha
 have s0 : a.eval (.tmp 0) = (.pointer (some ⟨t, 0, none⟩)) := ha 0 _ rfl
 clear ha
 refine V.seq (fun K1 hK2 => ?_)
 refine V.rg ?_
 refine V.ga evc ?_
 refine V.nil ?_
 refine V.then_n (hK2 _ _ ?_)
 refine V.seq (fun K3 hK4 => ?_)
 refine V.seq (fun K5 hK6 => ?_)
 refine V.rg ?_
 refine V.gm (o1 rfl s0) ?_
 refine V.go (V.call 51 #[] #[.pointer (some ⟨t, 0, none⟩)] evf (args1 (sm hz.p1 rfl)) (Go.Proofs.enters_of Try.func51 (by kernel_rfl) rfl) (made_N w t T.seed T.a.length 0 0 gA 0 (.int .i64 (T.moved : Int)) (.int .i64 (T.n : Int)) hB) ?_)
 rintro _ w8 ⟨rfl, hF7⟩
 refine ⟨_, rfl, ?_⟩
 have hsw8 := hF7.size
 have hF_9 := hF.new hF7
 have hB_10 := hB.fr0 hF7
 have hRA_11 := hRA.fr0 hF7
 have hK_12 := hK.fr0 hF7
 refine V.ge_ [(4, .bool true)] ⟨(sm hz.p2 rfl), trivial⟩ (.bool false) ?_
 refine V.nil ?_
 refine V.then_n (hK6 _ _ ?_)
 refine V.flushW hz.p4 (fun a13 hz14 up15 => ?_)
 have s0_16 := up15 0 _ (o4 rfl s0)
 have s5_17 := up15 5 _ (sm hz.p2.p1 rfl)
 clear up15
 refine V.cond_f (s5_17) ?_
 refine V.skip ?_
 refine V.then_n (hK4 _ _ ?_)
 refine V.seq (fun K18 hK19 => ?_)
 refine V.plan [[], [0], [0, 1], [0, 1, 2], [0, 1, 2, 3], [0, 1, 2, 3, 4], [], [6], [6, 7], [6, 7, 8], [6, 7, 8, 9], [0, 1, 2, 3, 4, 5, 6, 7, 8, 9, 10], [0, 1, 2, 3, 4, 5, 6, 7, 8, 9, 10, 11], [0, 1, 2, 3, 4, 5, 6, 7, 8, 9, 10, 11, 12]] [([0, 1, 2, 3, 4, 6, 7, 8, 9, 10], some (5, [10])), ([], some (11, [])), ([], some (12, [])), ([13], none)] (by kernel_rfl) (by kernel_rfl) (by exact fun _ _ _ _ h => h) ?_
 simp only [Plan.wpSegs, Plan.pickAll, Plan.nth, V.L_eq]
 obtain ⟨w20, hF21e⟩ : ∃ w1, w1 = w8.drew := ⟨_, rfl⟩
 rw [← hF21e]
 have hF21 : Fr [] w8 w20 := by rw [hF21e]; exact Fr.drew _ _
 have hsw20 : w20.heap.size = w8.heap.size := by rw [hF21e]; rfl
 clear hF21e
 have hF_22 := hF_9.new hF21
 have hB_23 := hB_10.fr0 hF21
 have hRA_24 := hRA_11.fr0 hF21
 have hK_25 := hK_12.fr0 hF21
 refine V.gm (s0_16) ?_
 refine V.ge_ [(6, .pointer (some ⟨t, 0, none⟩))] ⟨(sm hz14 rfl), trivial⟩ (.pointer (some ⟨t, 0, none⟩)) ?_
 refine V.ge_ [(7, .pointer (some ⟨t, 0, none⟩))] ⟨(sm hz14.p1 rfl), trivial⟩ (.pointer (some ⟨t, 1, none⟩)) ?_
 refine V.ge_ [(8, .pointer (some ⟨t, 1, none⟩))] ⟨(sm hz14.p2 rfl), trivial⟩ (.pointer (some ⟨t, 1, none⟩)) ?_
 refine V.go (V.ld ⟨t, 1, none⟩ (.slice (some ⟨gA, 0, none⟩) T.a.length T.a.length) (sm hz14.p2.p1 rfl) (by kernel_rfl) (hB_23.at 1 rfl) ?_)
 refine V.gm (o4 rfl (o1 rfl s0_16)) ?_
 refine V.ge_ [(12, .pointer (some ⟨t, 0, none⟩))] ⟨(sm hz14.p4.p1 rfl), trivial⟩ (.pointer (some ⟨t, 0, none⟩)) ?_
 refine V.ge_ [(13, .pointer (some ⟨t, 0, none⟩))] ⟨(sm hz14.p4.p2 rfl), trivial⟩ (.pointer (some ⟨t, 1, none⟩)) ?_
 refine V.ge_ [(14, .pointer (some ⟨t, 1, none⟩))] ⟨(sm hz14.p4.p2.p1 rfl), trivial⟩ (.pointer (some ⟨t, 2, none⟩)) ?_
 refine V.go (V.ld ⟨t, 2, none⟩ (.slice none 0 0) (sm hz14.p8 rfl) (by kernel_rfl) (hB_23.at 2 rfl) ?_)
 refine V.nil ?_
 refine ⟨chk [(6, .pointer (some ⟨t, 0, none⟩)), (12, .pointer (some ⟨t, 0, none⟩))] ⟨(o8 rfl (o1 rfl (sm hz14 rfl))), (o4 rfl (sm hz14.p4.p1 rfl)), trivial⟩ (by kernel_rfl), ?_⟩
 refine V.go (V.call 79 #[] #[.slice (some ⟨gA, 0, none⟩) T.a.length T.a.length] evf (args1 (o4 rfl (o1 rfl (sm hz14.p4 rfl)))) (Go.Proofs.enters_of Try.func79 (by kernel_rfl) rfl) (concat_row w20 _ _ gA vsA ([]) T.a ([]) hRA_24 hlA hK_25 (fun k hk => by have := hHb k hk; omega) (by omega) (by omega)) ?_)
 rintro _ w32 ⟨A26, c27, rfl, hO28, hF29⟩
 refine ⟨_, rfl, ?_⟩
 have hsw32 := hF29.size
 have hF_33 := hF_22.new hF29
 have hB_34 := hB_23.fr0 hF29
 have hRA_35 := hRA_24.fr0 hF29
 have hK_36 := hK_25.fr0 hF29
 have hO28q := hO28.rebase (base' := w.heap.size) (by omega)
 refine V.nil ?_
 refine ⟨(fun _ => held_blk (n := 1) (hx := (o1 rfl (sm hz14.p8 rfl))) hB_23 hB_34 (by kernel_rfl) rfl (by simp only [List.length]; omega)), ?_⟩
 refine V.nil ?_
 refine ⟨chk [] trivial (by kernel_rfl), ?_⟩
 refine V.go (V.call 79 #[] #[.slice none 0 0] evf (args1 (o1 rfl (sm hz14.p8.p1 rfl))) (Go.Proofs.enters_of Try.func79 (by kernel_rfl) rfl) (concat_nil w32) ?_)
 rintro _ w42 ⟨A37, c38, rfl, hO39, hF40⟩
 refine ⟨_, rfl, ?_⟩
 have hsw42 := hF40.size
 have hF_43 := hF_33.new hF40
 have hB_44 := hB_34.fr0 hF40
 have hRA_45 := hRA_35.fr0 hF40
 have hK_46 := hK_36.fr0 hF40
 have hO28q_47 := hO28q.fr0 hF40
 have hS41 := hO39.read (Z' := fun _ => True) (fun _ _ _ => trivial) (fun _ _ _ => trivial)
 refine V.nil ?_
 refine ⟨trivial, ?_⟩
 refine V.nil ?_
 refine ⟨chk [] trivial (by kernel_rfl), ?_⟩
 refine V.go (V.appS (R := itI) (o1 rfl (sm hz14.p8.p2 rfl)) (sm hz14.p8.p2.p1 rfl) (by kernel_rfl) info86 (by kernel_rfl) (by decide) hO28q_47 hS41 (fun _ _ h => h) (by (try simp only [List.length_nil]); omega) (by decide) (by omega) ?_)
 intro A48 c49 w50 hO51 hF52
 have hsw50 := hF52.size
 have hF_53 := hF_43.own hF52 (own_ge hO28q_47 (by omega))
 have hB_54 := hB_44.fr hF52 (by first | exact own_notin hO28q_47 (by omega))
 have hRA_55 := hRA_45.fr hF52 (by first | exact own_notin hO28q_47 (by omega))
 have hK_56 := hK_46.frP (FrP.of hF52) (fun k hk => .inr (fun hq => by have h1 := hHb k hq; have h2 := own_ge hO28q_47 (Nat.le_refl _) k hk; omega))
 refine V.nil ?_
 refine ⟨trivial, ?_⟩
 refine V.ga (sm hz14.p8.p4 rfl) ?_
 refine V.nil ?_
 refine ⟨chk [] trivial (by kernel_rfl), ?_⟩
 refine V.then_n (hK19 _ _ ?_)
 refine V.flushW hz14.p8.p4.p2 (fun a57 hz58 up59 => ?_)
 have s2_60 := up59 2 _ (sm hz14.p8.p4.p1 rfl)
 clear up59
 refine V.ret ?_
 refine V.ret1 hz58 rfl (s2_60) ?_
 have hq : T.a.flatten ++ ([] : List (ByteArray × Int)) = (T.a ++ T.b).flatten := by rw [List.flatten_append, List.eq_nil_of_length_eq_zero hb]; simp only [List.flatten_nil]
 have hn : (T.a.flatten).length + (([] : List (ByteArray × Int))).length = T.n := by rw [← hok0.cn, ← hq]; simp
 rw [hn, hq] at hO51
 rw [hn]
 exact ⟨_, _, rfl, hO51, hF_53⟩
set_option maxHeartbeats 4000000 in
set_option maxRecDepth 20000 in
theorem items_M (w : World) (H : Nat → Prop) (av : List Nat) (t gA gB : Nat) (vsA vsB : List Value) (T : Tb Int) (hok : T.Ok) (hT : TabM 67 87 86 itI w H av t gA gB vsA vsB T) (hHb : ∀ k, H k → k < w.heap.size) (hb : T.b.length ≠ 0) : Calls Try.prog 70 #[.pointer (some ⟨t, 0, none⟩)] w (fun e w' => ∃ A c, e = .returned (.slice A T.n c) ∧ OwR itI NoZ w' w.heap.size 86 (.slice A T.n c) (T.a ++ T.b).flatten ∧ Fr [] w w') := by
 have hF := Fr.refl [] w
 have hok0 := hok
 have hsum := hok.sum
 obtain ⟨hsd, hpa, hla, hlb, hmv, hmz, hnn, hcn, hks⟩ := hok
 obtain ⟨hB, hRA, hRB, hlA, hlB, hK, hne, hne2, hne3, hpt, hpg, hph⟩ := hT
 have hltg2 := hRB.lt
 have hltt := hB.lt
 have hltg := hRA.lt
 refine V.enter 19 Try.func70 rfl rfl ?_
 intro a hz ha
 have s0 : a.eval (.tmp 0) = (.pointer (some ⟨t, 0, none⟩)) := ha 0 _ rfl
 clear ha
 refine V.seq (fun K1 hK2 => ?_)
 refine V.rg ?_
 refine V.ga evc ?_
 refine V.nil ?_
 refine V.then_n (hK2 _ _ ?_)
 refine V.seq (fun K3 hK4 => ?_)
 refine V.seq (fun K5 hK6 => ?_)
 refine V.rg ?_
 refine V.gm (o1 rfl s0) ?_
 refine V.go (V.call 51 #[] #[.pointer (some ⟨t, 0, none⟩)] evf (args1 (sm hz.p1 rfl)) (Go.Proofs.enters_of Try.func51 (by kernel_rfl) rfl) (made_M w t T.seed T.a.length T.b.length 0 gA gB (.int .i64 (T.moved : Int)) (.int .i64 (T.n : Int)) hB) ?_)
 rintro _ w8 ⟨rfl, hF7⟩
 refine ⟨_, rfl, ?_⟩
 have hsw8 := hF7.size
 have hF_9 := hF.new hF7
 have hB_10 := hB.fr0 hF7
 have hRA_11 := hRA.fr0 hF7
 have hRB_12 := hRB.fr0 hF7
 have hK_13 := hK.fr0 hF7
 refine V.ge_ [(4, .bool true)] ⟨(sm hz.p2 rfl), trivial⟩ (.bool false) ?_
 refine V.nil ?_
 refine V.then_n (hK6 _ _ ?_)
 refine V.flushW hz.p4 (fun a14 hz15 up16 => ?_)
 have s0_17 := up16 0 _ (o4 rfl s0)
 have s5_18 := up16 5 _ (sm hz.p2.p1 rfl)
 clear up16
 refine V.cond_f (s5_18) ?_
 refine V.skip ?_
 refine V.then_n (hK4 _ _ ?_)
 refine V.seq (fun K19 hK20 => ?_)
 refine V.plan [[], [0], [0, 1], [0, 1, 2], [0, 1, 2, 3], [0, 1, 2, 3, 4], [], [6], [6, 7], [6, 7, 8], [6, 7, 8, 9], [0, 1, 2, 3, 4, 5, 6, 7, 8, 9, 10], [0, 1, 2, 3, 4, 5, 6, 7, 8, 9, 10, 11], [0, 1, 2, 3, 4, 5, 6, 7, 8, 9, 10, 11, 12]] [([0, 1, 2, 3, 4, 6, 7, 8, 9, 10], some (5, [10])), ([], some (11, [])), ([], some (12, [])), ([13], none)] (by kernel_rfl) (by kernel_rfl) (by exact fun _ _ _ _ h => h) ?_
 simp only [Plan.wpSegs, Plan.pickAll, Plan.nth, V.L_eq]
 obtain ⟨w21, hF22e⟩ : ∃ w1, w1 = w8.drew := ⟨_, rfl⟩
 rw [← hF22e]
 have hF22 : Fr [] w8 w21 := by rw [hF22e]; exact Fr.drew _ _
 have hsw21 : w21.heap.size = w8.heap.size := by rw [hF22e]; rfl
 clear hF22e
 have hF_23 := hF_9.new hF22
 have hB_24 := hB_10.fr0 hF22
 have hRA_25 := hRA_11.fr0 hF22
 have hRB_26 := hRB_12.fr0 hF22
 have hK_27 := hK_13.fr0 hF22
 refine V.gm (s0_17) ?_
 refine V.ge_ [(6, .pointer (some ⟨t, 0, none⟩))] ⟨(sm hz15 rfl), trivial⟩ (.pointer (some ⟨t, 0, none⟩)) ?_
 refine V.ge_ [(7, .pointer (some ⟨t, 0, none⟩))] ⟨(sm hz15.p1 rfl), trivial⟩ (.pointer (some ⟨t, 1, none⟩)) ?_
 refine V.ge_ [(8, .pointer (some ⟨t, 1, none⟩))] ⟨(sm hz15.p2 rfl), trivial⟩ (.pointer (some ⟨t, 1, none⟩)) ?_
 refine V.go (V.ld ⟨t, 1, none⟩ (.slice (some ⟨gA, 0, none⟩) T.a.length T.a.length) (sm hz15.p2.p1 rfl) (by kernel_rfl) (hB_24.at 1 rfl) ?_)
 refine V.gm (o4 rfl (o1 rfl s0_17)) ?_
 refine V.ge_ [(12, .pointer (some ⟨t, 0, none⟩))] ⟨(sm hz15.p4.p1 rfl), trivial⟩ (.pointer (some ⟨t, 0, none⟩)) ?_
 refine V.ge_ [(13, .pointer (some ⟨t, 0, none⟩))] ⟨(sm hz15.p4.p2 rfl), trivial⟩ (.pointer (some ⟨t, 1, none⟩)) ?_
 refine V.ge_ [(14, .pointer (some ⟨t, 1, none⟩))] ⟨(sm hz15.p4.p2.p1 rfl), trivial⟩ (.pointer (some ⟨t, 2, none⟩)) ?_
 refine V.go (V.ld ⟨t, 2, none⟩ (.slice (some ⟨gB, 0, none⟩) T.b.length T.b.length) (sm hz15.p8 rfl) (by kernel_rfl) (hB_24.at 2 rfl) ?_)
 refine V.nil ?_
 refine ⟨chk [(6, .pointer (some ⟨t, 0, none⟩)), (12, .pointer (some ⟨t, 0, none⟩))] ⟨(o8 rfl (o1 rfl (sm hz15 rfl))), (o4 rfl (sm hz15.p4.p1 rfl)), trivial⟩ (by kernel_rfl), ?_⟩
 refine V.go (V.call 79 #[] #[.slice (some ⟨gA, 0, none⟩) T.a.length T.a.length] evf (args1 (o4 rfl (o1 rfl (sm hz15.p4 rfl)))) (Go.Proofs.enters_of Try.func79 (by kernel_rfl) rfl) (concat_row w21 _ _ gA vsA vsB T.a T.b hRA_25 hlA hK_27 (fun k hk => by have := hHb k hk; omega) (by omega) (by omega)) ?_)
 rintro _ w34 ⟨A28, c29, rfl, hO30, hF31⟩
 refine ⟨_, rfl, ?_⟩
 have hsw34 := hF31.size
 have hF_35 := hF_23.new hF31
 have hB_36 := hB_24.fr0 hF31
 have hRA_37 := hRA_25.fr0 hF31
 have hRB_38 := hRB_26.fr0 hF31
 have hK_39 := hK_27.fr0 hF31
 have hO30q := hO30.rebase (base' := w.heap.size) (by omega)
 refine V.nil ?_
 refine ⟨(fun _ => held_blk (n := 1) (hx := (o1 rfl (sm hz15.p8 rfl))) hB_24 hB_36 (by kernel_rfl) rfl (by simp only [List.length]; omega)), ?_⟩
 refine V.nil ?_
 refine ⟨chk [] trivial (by kernel_rfl), ?_⟩
 refine V.go (V.call 79 #[] #[.slice (some ⟨gB, 0, none⟩) T.b.length T.b.length] evf (args1 (o1 rfl (sm hz15.p8.p1 rfl))) (Go.Proofs.enters_of Try.func79 (by kernel_rfl) rfl) (concat_row w34 _ _ gB vsB [] T.b [] hRB_38 hlB (by have h := hK_39.dropNil hlA; rw [List.append_nil, List.append_nil]; exact h) (fun k hk => by have := hHb k hk; omega) (by omega) (by omega)) ?_)
 rintro _ w46 ⟨A40, c41, rfl, hO42, hF43⟩
 refine ⟨_, rfl, ?_⟩
 have hsw46 := hF43.size
 have hF_47 := hF_35.new hF43
 have hB_48 := hB_36.fr0 hF43
 have hRA_49 := hRA_37.fr0 hF43
 have hRB_50 := hRB_38.fr0 hF43
 have hK_51 := hK_39.fr0 hF43
 have hO30q_52 := hO30q.fr0 hF43
 have hS44 := hO42.read (Z' := fun _ => True) (fun _ _ _ => trivial) (fun _ _ _ => trivial)
 refine V.nil ?_
 refine ⟨trivial, ?_⟩
 refine V.nil ?_
 refine ⟨chk [] trivial (by kernel_rfl), ?_⟩
 refine V.go (V.appS (R := itI) (o1 rfl (sm hz15.p8.p2 rfl)) (sm hz15.p8.p2.p1 rfl) (by kernel_rfl) info86 (by kernel_rfl) (by decide) hO30q_52 hS44 (fun _ _ h => h) (by (try simp only [List.length_nil]); omega) (by decide) (by omega) ?_)
 intro A53 c54 w55 hO56 hF57
 have hsw55 := hF57.size
 have hF_58 := hF_47.own hF57 (own_ge hO30q_52 (by omega))
 have hB_59 := hB_48.fr hF57 (by first | exact own_notin hO30q_52 (by omega))
 have hRA_60 := hRA_49.fr hF57 (by first | exact own_notin hO30q_52 (by omega))
 have hRB_61 := hRB_50.fr hF57 (by first | exact own_notin hO30q_52 (by omega))
 have hK_62 := hK_51.frP (FrP.of hF57) (fun k hk => .inr (fun hq => by have h1 := hHb k hq; have h2 := own_ge hO30q_52 (Nat.le_refl _) k hk; omega))
 refine V.nil ?_
 refine ⟨trivial, ?_⟩
 refine V.ga (sm hz15.p8.p4 rfl) ?_
 refine V.nil ?_
 refine ⟨chk [] trivial (by kernel_rfl), ?_⟩
 refine V.then_n (hK20 _ _ ?_)
 refine V.flushW hz15.p8.p4.p2 (fun a63 hz64 up65 => ?_)
 have s2_66 := up65 2 _ (sm hz15.p8.p4.p1 rfl)
 clear up65
 refine V.ret ?_
 refine V.ret1 hz64 rfl (s2_66) ?_
 have hq : T.a.flatten ++ T.b.flatten = (T.a ++ T.b).flatten := by rw [List.flatten_append]
 have hn : (T.a.flatten).length + (T.b.flatten).length = T.n := by rw [← hok0.cn, ← hq]; simp
 rw [hn, hq] at hO56
 rw [hn]
 exact ⟨_, _, rfl, hO56, hF_58⟩
theorem items_any (w : World) (H : Nat → Prop) (av : List Nat) (t : Nat) (T : Tb Int) (hT : TabX 67 87 86 itI w H av t T) (hHb : ∀ k, H k → k < w.heap.size) :
    Calls Try.prog 70 #[.pointer (some ⟨t, 0, none⟩)] w (fun e w' => ∃ A c, e = .returned (.slice A T.n c) ∧ OwR itI NoZ w' w.heap.size 86 (.slice A T.n c) (T.a ++ T.b).flatten ∧ Fr [] w w') := by
  rcases hT.2 with ⟨hb, gA, vsA, h⟩ | ⟨hb, gA, gB, vsA, vsB, h⟩
  · exact items_N w H av t gA vsA T hT.1 h hHb (by rw [hb]; rfl)
  · exact items_M w H av t gA gB vsA vsB T hT.1 h hHb (fun h => hb (List.eq_nil_of_length_eq_zero h))
set_option maxHeartbeats 4000000 in
set_option maxRecDepth 20000 in
theorem all_any (w : World) (q : Option Addr) : Calls Try.prog 43 #[.pointer q] w (fun e w' => ∃ b, e = .returned (.func (.func 69) #[] #[.pointer (some ⟨b, 0, none⟩)]) ∧ Blk w' b [.pointer q] 28 ∧ w.heap.size ≤ b ∧ Fr [] w w') := by
 have hF := Fr.refl [] w
 refine V.enter 4 Try.func43 rfl rfl ?_
 intro a hz ha
 have s0 : a.eval (.tmp 0) = (.pointer q) := ha 0 _ rfl
 clear ha
 refine V.seq (fun K1 hK2 => ?_)
 refine V.rg ?_
 refine V.go (V.mk [(0, .pointer q)] ⟨(s0), trivial⟩ (by kernel_rfl) [.pointer q] 28 (fun b => .pointer (some ⟨b, 0, none⟩)) (by kernel_rfl) ?_)
 intro w4 b3 heb3 hB5 hF6 hsb3
 have hF_7 := hF.new hF6
 refine V.ga evc ?_
 refine V.nil ?_
 refine V.then_n (hK2 _ _ ?_)
 refine V.seq (fun K8 hK9 => ?_)
 refine V.rg ?_
 refine V.ge_ [(1, .pointer (some ⟨b3, 0, none⟩))] ⟨(o1 rfl (sm hz rfl)), trivial⟩ (.func (.func 69) #[] #[.pointer (some ⟨b3, 0, none⟩)]) ?_
 refine V.ga (sm hz.p2 rfl) ?_
 refine V.nil ?_
 refine V.then_n (hK9 _ _ ?_)
 refine V.flushW hz.p4 (fun a10 hz11 up12 => ?_)
 have s2_13 := up12 2 _ (sm hz.p2.p1 rfl)
 clear up12
 refine V.ret ?_
 refine V.ret1 hz11 rfl (s2_13) ?_
 exact ⟨b3, rfl, hB5, by omega, hF_7⟩
set_option maxHeartbeats 4000000 in
set_option maxRecDepth 20000 in
theorem all1_any (w : World) (H : Nat → Prop) (av : List Nat) (t : Nat) (T : Tb Int) (hT : TabX 67 87 86 itI w H av t T) (hHb : ∀ k, H k → k < w.heap.size) (b : Nat) (hB : Blk w b [.pointer (some ⟨t, 0, none⟩)] 28) (fv : Value) (I Ix : Nat → List (ByteArray × Int) → World → Prop) (hI : ∀ n pre W W', I n pre W → Fr [] W W' → I n pre W') (h0 : ∀ W1, Fr [] w W1 → I W1.heap.size [] W1) (hY : ∀ n pre x W, w.heap.size ≤ n → n ≤ W.heap.size → I n pre W → (∃ rest, pre ++ x :: rest = (T.a ++ T.b).flatten) → CallV Try.prog fv #[.string x.1, .int .i64 x.2] W (fun e W' => (e = .returned (.bool true) ∧ I n (pre ++ [x]) W' ∧ KeptP (fun k => w.heap.size ≤ k ∧ k < n) W W') ∨ (e = .returned (.bool false) ∧ Ix n (pre ++ [x]) W'))) : Calls Try.prog 69 #[fv, .pointer (some ⟨b, 0, none⟩)] w (fun e w' => (∃ v, e = .returned v) ∧ ((∃ n, w.heap.size ≤ n ∧ I n (T.a ++ T.b).flatten w') ∨ (∃ n pre, w.heap.size ≤ n ∧ (∃ rest, pre ++ rest = (T.a ++ T.b).flatten) ∧ Ix n pre w'))) := by
 have hF := Fr.refl [] w
 refine V.enter 20 Try.func69 rfl rfl ?_
 intro a hz ha
 have s0 : a.eval (.tmp 0) = (fv) := ha 0 _ rfl
 have s1 : a.eval (.tmp 1) = (.pointer (some ⟨b, 0, none⟩)) := ha 1 _ rfl
 clear ha
 refine V.seq (fun K1 hK2 => ?_)
 refine V.rg ?_
 refine V.go (V.ld ⟨b, 0, none⟩ (.pointer (some ⟨t, 0, none⟩)) (s1) (by kernel_rfl) (hB.at 0 rfl) ?_)
 refine V.go (V.call 70 #[] #[.pointer (some ⟨t, 0, none⟩)] evf (args1 (sm hz rfl)) (Go.Proofs.enters_of Try.func70 (by kernel_rfl) rfl) (items_any w (H) (av) t (T) hT (fun k hk => by have := hHb k hk; omega)) ?_)
 rintro _ w8 ⟨A3, c4, rfl, hO5, hF6⟩
 refine ⟨_, rfl, ?_⟩
 have hsw8 := hF6.size
 have hF_9 := hF.new hF6
 obtain ⟨n, hn⟩ : ∃ n, n = w8.heap.size := ⟨_, rfl⟩
 have hS := hO5.read (Z' := fun k => w.heap.size ≤ k ∧ k < n) (fun _ _ h => h.elim) (fun b hb hl => ⟨hb, by omega⟩)
 have hcn := hT.1.cn
 have hnn := hT.1.nn
 refine V.ge_ [(6, .slice A3 T.n c4)] ⟨(sm hz.p1 rfl), trivial⟩ (.int .i64 ((T.n : Nat) : Int)) ?_
 refine V.gm evc ?_
 refine V.nil ?_
 refine V.then_n (hK2 _ _ ?_)
 refine V.flushW hz.p4 (fun a10 hz11 up12 => ?_)
 have s0_13 := up12 0 _ (o4 rfl s0)
 have s6_14 : a10.eval (.tmp 6) = (.slice A3 T.n c4) := up12 _ _ (o2 rfl (sm hz.p1 rfl))
 have s7_15 := up12 7 _ (o1 rfl (sm hz.p2 rfl))
 have s8_16 := up12 8 _ (sm hz.p2.p1 rfl)
 clear up12
 refine V.block ?_
 refine V.loop2 (fun (i : Nat) (W0 : World) a_ w_ => Sz 20 a_ ∧ a_.eval (.tmp 0) = (fv) ∧ a_.eval (.tmp 6) = (.slice A3 T.n c4) ∧ a_.eval (.tmp 7) = (.int .i64 ((T.n : Nat) : Int)) ∧ a_.eval (.tmp 8) = (.int .i64 (i : Int)) ∧ Fr [] W0 w_ ∧ SlR itI (fun k => w.heap.size ≤ k ∧ k < n) w_ (.slice A3 T.n c4) ((T.a ++ T.b).flatten) ∧ (i ≤ (T.a ++ T.b).flatten.length) ∧ (w.heap.size ≤ n) ∧ (n ≤ W0.heap.size) ∧ (I n ((T.a ++ T.b).flatten.take i) W0)) (fun (i : Nat) (W0 : World) => (T.a ++ T.b).flatten.length - i) 0 w8 ?_ ?_
 ·
  refine ⟨hz11, ?_, ?_, ?_, ?_, (Fr.refl [] _), hS, (by omega), (by omega), (by omega), (by rw [hn]; exact h0 _ hF_9)⟩
  · exact (s0_13)
  · exact (s6_14)
  · exact Eq.trans (s7_15) (V.int_eq (by omega))
  · exact Eq.trans (s8_16) (V.int_eq (by omega))
 ·
  rintro i W0 a17 w18 ⟨hz19, s0_20, s6_21, s7_22, s8_23, hFr_24, hS_25, hi, hn0, hnl, hJ⟩
  have hfs26 := hFr_24.size
  refine V.seq (fun K27 hK28 => ?_)
  refine V.rg ?_
  refine V.ge_ [(8, .int .i64 (i : Int)), (7, .int .i64 ((T.n : Nat) : Int))] ⟨(s8_23), (s7_22), trivial⟩ (.bool (decide ((i : Int) < ((T.n : Nat) : Int)))) ?_
  refine V.nil ?_
  refine V.then_n (hK28 _ _ ?_)
  refine V.seq (fun K29 hK30 => ?_)
  refine V.condP (p := (i : Int) < ((T.n : Nat) : Int)) (sm hz19 rfl) (fun ht31 => ?_) (fun ht31 => ?_)
  ·
   refine V.skip ?_
   refine V.then_n (hK30 _ _ ?_)
   refine V.seq (fun K32 hK33 => ?_)
   refine V.block ?_
   refine V.seq (fun K34 hK35 => ?_)
   refine V.rg ?_
   obtain ⟨g36, o37, hA38, hA38l, hA38z⟩ := hS_25.addr (by omega)
   try dsimp only at hA38z
   refine V.go (V.ixa g36 o37 T.n c4 .i64 (i : Int) 2 ((o1 rfl s6_21).trans (by rw [hA38])) (o1 rfl s8_23) (by omega) (by omega) (by kernel_rfl) ?_)
   obtain ⟨cs39, hok40, hE41⟩ := hS_25.els hA38 (i : Int) (by omega) (by omega)
   obtain rfl : cs39 = [.string (at_ itI ((T.a ++ T.b).flatten) (i : Int)).1, .int .i64 (at_ itI ((T.a ++ T.b).flatten) (i : Int)).2] := hok40
   refine V.go (V.lds ⟨g36, o37 + (i : Int).toNat * 2, none⟩ [.string ((at_ itI ((T.a ++ T.b).flatten) (i : Int)).1), .int .i64 ((at_ itI ((T.a ++ T.b).flatten) (i : Int)).2)] (sm hz19.p1 rfl) (by kernel_rfl) (hE41.cells 0 _ rfl) ?_)
   refine V.go (V.mk [] trivial (by kernel_rfl) [.string ⟨#[]⟩, .int .i64 0] 86 (fun b => .pointer (some ⟨b, 0, none⟩)) (by kernel_rfl) ?_)
   intro w43 b42 heb42 hB44 hF45 hsb42
   have hFr_46 := hFr_24.new hF45
   have hS_47 := hS_25.fr0 hF45
   have hE41_48 := hE41.fr0 hF45
   refine V.go (V.stn b42 0 (.agg #[.string ((at_ itI ((T.a ++ T.b).flatten) (i : Int)).1), .int .i64 ((at_ itI ((T.a ++ T.b).flatten) (i : Int)).2)]) [.string ((at_ itI ((T.a ++ T.b).flatten) (i : Int)).1), .int .i64 ((at_ itI ((T.a ++ T.b).flatten) (i : Int)).2)] (sm hz19.p2.p1 rfl) (o1 rfl (sm hz19.p2 rfl)) rfl rfl (by kernel_rfl) hB44 (by simp) [.string ((at_ itI ((T.a ++ T.b).flatten) (i : Int)).1), .int .i64 ((at_ itI ((T.a ++ T.b).flatten) (i : Int)).2)] rfl ?_)
   intro w49 hB50 hF51 hsw49
   have hFr_52 := hFr_46.own hF51 (by simp <;> omega)
   have hS_53 := hS_47.fr hF51 (by simp <;> omega)
   have hE41_54 := hE41_48.fr hF51 (by simp <;> omega)
   refine V.nil ?_
   refine V.then_n (hK35 _ _ ?_)
   refine V.flushW hz19.p4 (fun a55 hz56 up57 => ?_)
   have s0_58 := up57 0 _ (o4 rfl s0_20)
   have s4_59 := up57 4 _ (sm hz19.p2.p1 rfl)
   have s6_60 : a55.eval (.tmp 6) = (.slice A3 T.n c4) := up57 _ _ (o4 rfl s6_21)
   have s7_61 := up57 7 _ (o4 rfl s7_22)
   have s8_62 := up57 8 _ (o4 rfl s8_23)
   clear up57
   refine V.seq (fun K63 hK64 => ?_)
   refine V.rg ?_
   refine V.gm (s0_58) ?_
   refine V.ge_ [(4, .pointer (some ⟨b42, 0, none⟩))] ⟨(o1 rfl s4_59), trivial⟩ (.pointer (some ⟨b42, 0, none⟩)) ?_
   refine V.go (V.ld ⟨b42, 0, none⟩ (.string ((at_ itI ((T.a ++ T.b).flatten) (i : Int)).1)) (sm hz56.p1 rfl) (by kernel_rfl) (hB50.at 0 rfl) ?_)
   refine V.ge_ [(4, .pointer (some ⟨b42, 0, none⟩))] ⟨(o2 rfl (o1 rfl s4_59)), trivial⟩ (.pointer (some ⟨b42, 1, none⟩)) ?_
   refine V.go (V.ld ⟨b42, 1, none⟩ (.int .i64 ((at_ itI ((T.a ++ T.b).flatten) (i : Int)).2)) (sm hz56.p2.p1 rfl) (by kernel_rfl) (hB50.at 1 rfl) ?_)
   have htk := take_at itI (l := (T.a ++ T.b).flatten) (k := i) (by omega)
   have hcall := hY n ((T.a ++ T.b).flatten.take i) (at_ itI (T.a ++ T.b).flatten (i : Int)) w49 hn0 (by omega) (hI _ _ _ _ hJ hFr_52) ⟨_, by rw [List.append_cons, ← htk]; exact List.take_append_drop (i + 1) _⟩
   refine V.go (V.callV fv #[.string ((at_ itI ((T.a ++ T.b).flatten) (i : Int)).1), .int .i64 ((at_ itI ((T.a ++ T.b).flatten) (i : Int)).2)] (o4 rfl (sm hz56 rfl)) (args2 (o2 rfl (sm hz56.p2 rfl)) (sm hz56.p4 rfl)) hcall ?_)
   rintro e w65 (⟨rfl, hJ1, hkp⟩ | ⟨rfl, hJx⟩)
   ·
    refine ⟨_, rfl, ?_⟩
    rw [← htk] at hJ1
    have hS66 := hS_53.kept hkp (fun k hk => hk)
    refine V.ge_ [(17, .bool true)] ⟨(sm hz56.p4.p1 rfl), trivial⟩ (.bool false) ?_
    refine V.nil ?_
    refine V.then_n (hK64 _ _ ?_)
    refine V.flushW hz56.p4.p2.p1 (fun a67 hz68 up69 => ?_)
    have s0_70 := up69 0 _ (o4 rfl (o2 rfl (o1 rfl s0_58)))
    have s6_71 : a67.eval (.tmp 6) = (.slice A3 T.n c4) := up69 _ _ (o4 rfl (o2 rfl (o1 rfl s6_60)))
    have s7_72 := up69 7 _ (o4 rfl (o2 rfl (o1 rfl s7_61)))
    have s8_73 := up69 8 _ (o4 rfl (o2 rfl (o1 rfl s8_62)))
    have s18_74 := up69 18 _ (sm hz56.p4.p2 rfl)
    clear up69
    refine V.cond_f (s18_74) ?_
    refine V.skip ?_
    refine V.blk_n ?_
    refine V.then_n (hK33 _ _ ?_)
    refine V.rg ?_
    refine V.gf_ [(8, .int .i64 (i : Int))] ⟨(s8_73), trivial⟩ (.int .i64 (IntKind.i64.wrap ((i : Int) + 1))) (.int .i64 ((i : Int) + 1)) (V.w_i64 (by omega) (by omega)) ?_
    refine V.gm (sm hz68 rfl) ?_
    refine V.nil ?_
    refine V.then_n ?_
    refine ⟨i + 1, w65, by omega, ?_⟩
    refine ⟨hz68.p2, ?_, ?_, ?_, ?_, (Fr.refl [] _), hS66, (by omega), (by omega), (by have := hkp.1; omega), hJ1⟩
    · exact (o2 rfl s0_70)
    · exact (o2 rfl s6_71)
    · exact Eq.trans (o2 rfl s7_72) (V.int_eq (by omega))
    · exact Eq.trans (sm hz68.p1 rfl) (V.int_eq (by omega))
   ·
    refine ⟨_, rfl, ?_⟩
    rw [← htk] at hJx
    refine V.ge_ [(17, .bool false)] ⟨(sm hz56.p4.p1 rfl), trivial⟩ (.bool true) ?_
    refine V.nil ?_
    refine V.then_n (hK64 _ _ ?_)
    refine V.flushW hz56.p4.p2.p1 (fun a75 hz76 up77 => ?_)
    have s0_78 := up77 0 _ (o4 rfl (o2 rfl (o1 rfl s0_58)))
    have s6_79 : a75.eval (.tmp 6) = (.slice A3 T.n c4) := up77 _ _ (o4 rfl (o2 rfl (o1 rfl s6_60)))
    have s7_80 := up77 7 _ (o4 rfl (o2 rfl (o1 rfl s7_61)))
    have s8_81 := up77 8 _ (o4 rfl (o2 rfl (o1 rfl s8_62)))
    have s18_82 := up77 18 _ (sm hz56.p4.p2 rfl)
    clear up77
    refine V.cond_t (s18_82) ?_
    refine V.ret ?_
    refine V.blk_r ?_
    refine V.then_r ?_
    refine V.then_r ?_
    refine V.blk_r ?_
    refine V.ret0 hz76 rfl ?_
    exact ⟨⟨_, rfl⟩, .inr ⟨n, _, hn0, ⟨_, List.take_append_drop (i + 1) _⟩, hJx⟩⟩
  ·
   refine V.exit ?_
   refine V.then_e ?_
   refine V.then_e ?_
   refine V.blk_hit ?_
   refine V.end0 hz19.p1 rfl ?_
   exact ⟨⟨_, rfl⟩, .inl ⟨n, hn0, by have h := hI _ _ _ _ hJ hFr_24; rwa [List.take_of_length_le (by omega)] at h⟩⟩
end Go.Proofs.Ytalhmegjomfbaaa
