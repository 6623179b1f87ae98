/- Walks of a table of texts: told one by one. -/
import Derived.Test.YtalhmegjomfbaaaProg
import Derived.Test.YtalhmegjomfbaaaSTi
import Derived.Test.YtalhmegjomfbaaaSTd
import Derived.Test.YtalhmegjomfbaaaTj
namespace Go.Proofs.Ytalhmegjomfbaaa.S
open Go.V Go.Base
open Go.RowKit (Below)
attribute [local irreducible] Act.put Act.eval
set_option linter.unusedVariables false
set_option linter.unusedSimpArgs false
set_option maxHeartbeats 4000000 in
set_option maxRecDepth 20000 in
theorem items_N (w : World) (H : Nat → Prop) (av : List Nat) (t gA : Nat) (vsA : List Value) (T : Tb ByteArray) (hok : T.Ok) (hT : TabN 91 94 93 itI w H av t gA vsA T) (hHb : ∀ k, H k → k < w.heap.size) (hb : T.b.length = 0) : Calls Try.prog 63 #[.pointer (some ⟨t, 0, none⟩)] w (fun e w' => ∃ A c, e = .returned (.slice A T.n c) ∧ OwR itI NoZ w' w.heap.size 93 (.slice A T.n c) (T.a ++ T.b).flatten ∧ Fr [] w w') := by
 have hF := Fr.refl [] w
 have hok0 := hok
 have hsum := hok.sum
 obtain ⟨hsd, hpa, hla, hlb, hmv, hmz, hnn, hcn, hks⟩ := hok
 obtain ⟨hB, hRA, hlA, hK, hne, hpt, hpg⟩ := hT
 have hltt := hB.lt
 have hltg := hRA.lt
 refine V.en 19 Try.func63 fun a h1 => ?_
 refine V.sr h1 [] 2 2 [] fun a h4 => ?_
 refine V.seq fun K5 k6 => ?_
 refine V.sg fun K7 k8 => ?_
 refine V.run h4 [] 1 1 0 [(3, .pointer (some ⟨t, 0, none⟩))] fun a h9 => ?_
 refine V.cl h9 (Go.Proofs.enters_of Try.func54 (by kernel_rfl) rfl) (made_N w t T.seed T.a.length 0 0 gA 0 (.int .i64 (T.moved : Int)) (.int .i64 (T.n : Int)) hB) ?_
 rintro _ w11 ⟨rfl, hF10⟩
 refine ⟨_, rfl, fun a h12 => ?_⟩
 have hsw11 := hF10.size
 have hF_13 := hF.new hF10
 have hB_14 := hB.fr0 hF10
 have hRA_15 := hRA.fr0 hF10
 have hK_16 := hK.fr0 hF10
 refine V.re h12 [] 1 0 [(5, .bool false)] fun a h17 => k8 _ _ ?_
 refine V.cf h17 ?_
 refine V.skip ?_
 refine V.then_n (k6 _ _ ?_)
 refine V.seq fun K18 k19 => ?_
 refine V.pl [([0,1,2,3,4,6,7,8,9,10],some (5,[10])),([],some (11,[])),([],some (12,[])),([13],none)] fun w20 hF21 hsw20 => ?_
 have hF_22 := hF_13.new hF21
 have hB_23 := hB_14.fr0 hF21
 have hRA_24 := hRA_15.fr0 hF21
 have hK_25 := hK_16.fr0 hF21
 refine V.pe h17 [(4, .b hB_23 1), (4, .b hB_23 2)] 6 14 [(10, .slice (some ⟨gA, 0, none⟩) T.a.length T.a.length), (15, .pointer (some ⟨t, 2, none⟩)), (16, .slice none 0 0)] fun a h26 => ?_
 refine V.cl h26 (Go.Proofs.enters_of Try.func78 (by kernel_rfl) rfl) (concat_row w20 _ _ gA vsA ([]) T.a ([]) hRA_24 hlA hK_25 (fun k hk => by have := hHb k hk; omega) (by omega) (by omega)) ?_
 rintro _ w33 ⟨A27, c28, rfl, hO29, hF30⟩
 refine ⟨_, rfl, fun a h34 => ?_⟩
 have hsw33 := hF30.size
 have hF_35 := hF_22.new hF30
 have hB_36 := hB_23.fr0 hF30
 have hRA_37 := hRA_24.fr0 hF30
 have hK_38 := hK_25.fr0 hF30
 have hO29q := hO29.rebase (base' := w.heap.size) (by omega)
 refine V.eh (fun _ => held_blk (n := 1) (hx := (h26.e (v := (.pointer (some ⟨t, 2, none⟩))))) hB_23 hB_36 (by kernel_rfl) rfl (by simp only [List.length]; omega)) ?_
 refine V.pe h34 [] 1 0 [] fun a h39 => ?_
 refine V.cl h39 (Go.Proofs.enters_of Try.func78 (by kernel_rfl) rfl) (concat_nil w33) ?_
 rintro _ w45 ⟨A40, c41, rfl, hO42, hF43⟩
 refine ⟨_, rfl, fun a h46 => ?_⟩
 have hsw45 := hF43.size
 have hF_47 := hF_35.new hF43
 have hB_48 := hB_36.fr0 hF43
 have hRA_49 := hRA_37.fr0 hF43
 have hK_50 := hK_38.fr0 hF43
 have hO29q_51 := hO29q.fr0 hF43
 have hS44 := hO42.read (Z' := fun _ => True) (fun _ _ _ => trivial) (fun _ _ _ => trivial)
 refine V.eh trivial ?_
 refine V.pe h46 [] 1 0 [] fun a h52 => ?_
 refine V.go (V.appS (R := itI) (h52.e (v := (.slice A27 T.a.flatten.length c28))) (h52.e (v := (.slice A40 0 c41))) (by kernel_rfl) info93 (by kernel_rfl) (by decide) hO29q_51 hS44 (fun _ _ h => h) (by (try simp only [List.length_nil]); omega) (by decide) (by omega) ?_)
 intro A53 c54 w55 hO56 hF57
 have hsw55 := hF57.size
 have hF_58 := hF_47.own hF57 (own_ge hO29q_51 (by omega))
 have hB_59 := hB_48.fr hF57 (by first | exact own_notin hO29q_51 (by omega))
 have hRA_60 := hRA_49.fr hF57 (by first | exact own_notin hO29q_51 (by omega))
 have hK_61 := hK_50.frP (FrP.of hF57) (fun k hk => .inr (fun hq => by have h1 := hHb k hq; have h2 := own_ge hO29q_51 (Nat.le_refl _) k hk; omega))
 refine V.pt h52 fun a h62 => ?_
 refine V.eh trivial ?_
 refine V.pz h62 [] 1 0 [(2, .slice A53 ((T.a.flatten).length + (([] : List (ByteArray × ByteArray))).length) c54)] fun a h63 => k19 _ _ ?_
 refine V.ret ?_
 refine V.r1 h63 (.slice A53 ((T.a.flatten).length + (([] : List (ByteArray × ByteArray))).length) c54) ?_
 have hq : T.a.flatten ++ ([] : List (ByteArray × ByteArray)) = (T.a ++ T.b).flatten := by rw [List.flatten_append, List.eq_nil_of_length_eq_zero hb]; simp only [List.flatten_nil]
 have hn : (T.a.flatten).length + (([] : List (ByteArray × ByteArray))).length = T.n := by rw [← hok0.cn, ← hq]; simp
 rw [hn, hq] at hO56
 rw [hn]
 exact ⟨_, _, rfl, hO56, hF_58⟩
set_option maxHeartbeats 4000000 in
set_option maxRecDepth 20000 in
theorem items_M (w : World) (H : Nat → Prop) (av : List Nat) (t gA gB : Nat) (vsA vsB : List Value) (T : Tb ByteArray) (hok : T.Ok) (hT : TabM 91 94 93 itI w H av t gA gB vsA vsB T) (hHb : ∀ k, H k → k < w.heap.size) (hb : T.b.length ≠ 0) : Calls Try.prog 63 #[.pointer (some ⟨t, 0, none⟩)] w (fun e w' => ∃ A c, e = .returned (.slice A T.n c) ∧ OwR itI NoZ w' w.heap.size 93 (.slice A T.n c) (T.a ++ T.b).flatten ∧ Fr [] w w') := by
 have hF := Fr.refl [] w
 have hok0 := hok
 have hsum := hok.sum
 obtain ⟨hsd, hpa, hla, hlb, hmv, hmz, hnn, hcn, hks⟩ := hok
 obtain ⟨hB, hRA, hRB, hlA, hlB, hK, hne, hne2, hne3, hpt, hpg, hph⟩ := hT
 have hltg2 := hRB.lt
 have hltt := hB.lt
 have hltg := hRA.lt
 refine V.en 19 Try.func63 fun a h1 => ?_
 refine V.sr h1 [] 2 2 [] fun a h4 => ?_
 refine V.seq fun K5 k6 => ?_
 refine V.sg fun K7 k8 => ?_
 refine V.run h4 [] 1 1 0 [(3, .pointer (some ⟨t, 0, none⟩))] fun a h9 => ?_
 refine V.cl h9 (Go.Proofs.enters_of Try.func54 (by kernel_rfl) rfl) (made_M w t T.seed T.a.length T.b.length 0 gA gB (.int .i64 (T.moved : Int)) (.int .i64 (T.n : Int)) hB) ?_
 rintro _ w11 ⟨rfl, hF10⟩
 refine ⟨_, rfl, fun a h12 => ?_⟩
 have hsw11 := hF10.size
 have hF_13 := hF.new hF10
 have hB_14 := hB.fr0 hF10
 have hRA_15 := hRA.fr0 hF10
 have hRB_16 := hRB.fr0 hF10
 have hK_17 := hK.fr0 hF10
 refine V.re h12 [] 1 0 [(5, .bool false)] fun a h18 => k8 _ _ ?_
 refine V.cf h18 ?_
 refine V.skip ?_
 refine V.then_n (k6 _ _ ?_)
 refine V.seq fun K19 k20 => ?_
 refine V.pl [([0,1,2,3,4,6,7,8,9,10],some (5,[10])),([],some (11,[])),([],some (12,[])),([13],none)] fun w21 hF22 hsw21 => ?_
 have hF_23 := hF_13.new hF22
 have hB_24 := hB_14.fr0 hF22
 have hRA_25 := hRA_15.fr0 hF22
 have hRB_26 := hRB_16.fr0 hF22
 have hK_27 := hK_17.fr0 hF22
 refine V.pe h18 [(4, .b hB_24 1), (4, .b hB_24 2)] 6 14 [(10, .slice (some ⟨gA, 0, none⟩) T.a.length T.a.length), (15, .pointer (some ⟨t, 2, none⟩)), (16, .slice (some ⟨gB, 0, none⟩) T.b.length T.b.length)] fun a h28 => ?_
 refine V.cl h28 (Go.Proofs.enters_of Try.func78 (by kernel_rfl) rfl) (concat_row w21 _ _ gA vsA vsB T.a T.b hRA_25 hlA hK_27 (fun k hk => by have := hHb k hk; omega) (by omega) (by omega)) ?_
 rintro _ w35 ⟨A29, c30, rfl, hO31, hF32⟩
 refine ⟨_, rfl, fun a h36 => ?_⟩
 have hsw35 := hF32.size
 have hF_37 := hF_23.new hF32
 have hB_38 := hB_24.fr0 hF32
 have hRA_39 := hRA_25.fr0 hF32
 have hRB_40 := hRB_26.fr0 hF32
 have hK_41 := hK_27.fr0 hF32
 have hO31q := hO31.rebase (base' := w.heap.size) (by omega)
 refine V.eh (fun _ => held_blk (n := 1) (hx := (h28.e (v := (.pointer (some ⟨t, 2, none⟩))))) hB_24 hB_38 (by kernel_rfl) rfl (by simp only [List.length]; omega)) ?_
 refine V.pe h36 [] 1 0 [] fun a h42 => ?_
 refine V.cl h42 (Go.Proofs.enters_of Try.func78 (by kernel_rfl) rfl) (concat_row w35 _ _ gB vsB [] T.b [] hRB_40 hlB (by have h := hK_41.dropNil hlA; rw [List.append_nil, List.append_nil]; exact h) (fun k hk => by have := hHb k hk; omega) (by omega) (by omega)) ?_
 rintro _ w49 ⟨A43, c44, rfl, hO45, hF46⟩
 refine ⟨_, rfl, fun a h50 => ?_⟩
 have hsw49 := hF46.size
 have hF_51 := hF_37.new hF46
 have hB_52 := hB_38.fr0 hF46
 have hRA_53 := hRA_39.fr0 hF46
 have hRB_54 := hRB_40.fr0 hF46
 have hK_55 := hK_41.fr0 hF46
 have hO31q_56 := hO31q.fr0 hF46
 have hS47 := hO45.read (Z' := fun _ => True) (fun _ _ _ => trivial) (fun _ _ _ => trivial)
 refine V.eh trivial ?_
 refine V.pe h50 [] 1 0 [] fun a h57 => ?_
 refine V.go (V.appS (R := itI) (h57.e (v := (.slice A29 T.a.flatten.length c30))) (h57.e (v := (.slice A43 T.b.flatten.length c44))) (by kernel_rfl) info93 (by kernel_rfl) (by decide) hO31q_56 hS47 (fun _ _ h => h) (by (try simp only [List.length_nil]); omega) (by decide) (by omega) ?_)
 intro A58 c59 w60 hO61 hF62
 have hsw60 := hF62.size
 have hF_63 := hF_51.own hF62 (own_ge hO31q_56 (by omega))
 have hB_64 := hB_52.fr hF62 (by first | exact own_notin hO31q_56 (by omega))
 have hRA_65 := hRA_53.fr hF62 (by first | exact own_notin hO31q_56 (by omega))
 have hRB_66 := hRB_54.fr hF62 (by first | exact own_notin hO31q_56 (by omega))
 have hK_67 := hK_55.frP (FrP.of hF62) (fun k hk => .inr (fun hq => by have h1 := hHb k hq; have h2 := own_ge hO31q_56 (Nat.le_refl _) k hk; omega))
 refine V.pt h57 fun a h68 => ?_
 refine V.eh trivial ?_
 refine V.pz h68 [] 1 0 [(2, .slice A58 ((T.a.flatten).length + (T.b.flatten).length) c59)] fun a h69 => k20 _ _ ?_
 refine V.ret ?_
 refine V.r1 h69 (.slice A58 ((T.a.flatten).length + (T.b.flatten).length) c59) ?_
 have hq : T.a.flatten ++ T.b.flatten = (T.a ++ T.b).flatten := by rw [List.flatten_append]
 have hn : (T.a.flatten).length + (T.b.flatten).length = T.n := by rw [← hok0.cn, ← hq]; simp
 rw [hn, hq] at hO61
 rw [hn]
 exact ⟨_, _, rfl, hO61, hF_63⟩
theorem items_any (w : World) (H : Nat → Prop) (av : List Nat) (t : Nat) (T : Tb ByteArray) (hT : TabX 91 94 93 itI w H av t T) (hHb : ∀ k, H k → k < w.heap.size) :
    Calls Try.prog 63 #[.pointer (some ⟨t, 0, none⟩)] w (fun e w' => ∃ A c, e = .returned (.slice A T.n c) ∧ OwR itI NoZ w' w.heap.size 93 (.slice A T.n c) (T.a ++ T.b).flatten ∧ Fr [] w w') := by
  rcases hT.2 with ⟨hb, gA, vsA, h⟩ | ⟨hb, gA, gB, vsA, vsB, h⟩
  · exact items_N w H av t gA vsA T hT.1 h hHb (by rw [hb]; rfl)
  · exact items_M w H av t gA gB vsA vsB T hT.1 h hHb (fun h => hb (List.eq_nil_of_length_eq_zero h))
set_option maxHeartbeats 4000000 in
set_option maxRecDepth 20000 in
theorem all_any (w : World) (q : Option Addr) : Calls Try.prog 29 #[.pointer q] w (fun e w' => ∃ b, e = .returned (.func (.func 62) #[] #[.pointer (some ⟨b, 0, none⟩)]) ∧ Blk w' b [.pointer q] 50 ∧ w.heap.size ≤ b ∧ Fr [] w w') := by
 have hF := Fr.refl [] w
 refine V.en 4 Try.func29 fun a h1 => ?_
 refine V.sg fun K2 k3 => ?_
 refine V.go (V.mk [(0, .pointer q)] ⟨h1.e, trivial⟩ (by kernel_rfl) [.pointer q] 50 (fun b => .pointer (some ⟨b, 0, none⟩)) (by kernel_rfl) ?_)
 intro w5 b4 heb4 hB6 hF7 hsb4
 have hF_8 := hF.new hF7
 refine V.pt h1 fun a h9 => ?_
 refine V.re h9 [] 2 2 [] fun a h10 => k3 _ _ ?_
 refine V.sr h10 [] 3 3 [(2, .func (.func 62) #[] #[.pointer (some ⟨b4, 0, none⟩)])] fun a h13 => ?_
 refine V.ret ?_
 refine V.r1 h13 (.func (.func 62) #[] #[.pointer (some ⟨b4, 0, none⟩)]) ?_
 exact ⟨b4, rfl, hB6, by omega, hF_8⟩
set_option maxHeartbeats 4000000 in
set_option maxRecDepth 20000 in
theorem all1_any (w : World) (H : Nat → Prop) (av : List Nat) (t : Nat) (T : Tb ByteArray) (hT : TabX 91 94 93 itI w H av t T) (hHb : ∀ k, H k → k < w.heap.size) (b : Nat) (hB : Blk w b [.pointer (some ⟨t, 0, none⟩)] 50) (fv : Value) (I Ix : Nat → List (ByteArray × ByteArray) → World → Prop) (hI : ∀ n pre W W', I n pre W → Fr [] W W' → I n pre W') (h0 : ∀ W1, Fr [] w W1 → I W1.heap.size [] W1) (hY : ∀ n pre x W, w.heap.size ≤ n → n ≤ W.heap.size → I n pre W → (∃ rest, pre ++ x :: rest = (T.a ++ T.b).flatten) → CallV Try.prog fv #[.string x.1, .string x.2] W (fun e W' => (e = .returned (.bool true) ∧ I n (pre ++ [x]) W' ∧ KeptP (fun k => w.heap.size ≤ k ∧ k < n) W W') ∨ (e = .returned (.bool false) ∧ Ix n (pre ++ [x]) W'))) : Calls Try.prog 62 #[fv, .pointer (some ⟨b, 0, none⟩)] w (fun e w' => (∃ v, e = .returned v) ∧ ((∃ n, w.heap.size ≤ n ∧ I n (T.a ++ T.b).flatten w') ∨ (∃ n pre, w.heap.size ≤ n ∧ (∃ rest, pre ++ rest = (T.a ++ T.b).flatten) ∧ Ix n pre w'))) := by
 have hF := Fr.refl [] w
 refine V.en 20 Try.func62 fun a h1 => ?_
 refine V.sg fun K2 k3 => ?_
 refine V.run h1 [(0, .b hB 0)] 1 1 0 [(5, .pointer (some ⟨t, 0, none⟩))] fun a h4 => ?_
 refine V.cl h4 (Go.Proofs.enters_of Try.func63 (by kernel_rfl) rfl) (items_any w (H) (av) t (T) hT (fun k hk => by have := hHb k hk; omega)) ?_
 rintro _ w10 ⟨A5, c6, rfl, hO7, hF8⟩
 refine ⟨_, rfl, fun a h11 => ?_⟩
 have hsw10 := hF8.size
 have hF_12 := hF.new hF8
 obtain ⟨n, hn⟩ : ∃ n, n = w10.heap.size := ⟨_, rfl⟩
 have hS := hO7.read (Z' := fun k => w.heap.size ≤ k ∧ k < n) (fun _ _ h => h.elim) (fun b hb hl => ⟨hb, by omega⟩)
 have hcn := hT.1.cn
 have hnn := hT.1.nn
 refine V.re h11 [] 1 0 [(7, .int .i64 ((T.n : Nat) : Int)), (8, .int .i64 0)] fun a h13 => k3 _ _ ?_
 refine V.block ?_
 refine V.loop2 (fun (i : Nat) (W0 : World) a_ w_ => En 20 [] a_ [(0, fv), (6, .slice A5 T.n c6), (7, .int .i64 ((T.n : Nat) : Int)), (8, .int .i64 (i : Int))] ∧ Fr [] W0 w_ ∧ SlR itI (fun k => w.heap.size ≤ k ∧ k < n) w_ (.slice A5 T.n c6) ((T.a ++ T.b).flatten) ∧ (i ≤ (T.a ++ T.b).flatten.length) ∧ (w.heap.size ≤ n) ∧ (n ≤ W0.heap.size) ∧ (I n ((T.a ++ T.b).flatten.take i) W0)) (fun (i : Nat) (W0 : World) => (T.a ++ T.b).flatten.length - i) 0 w10 ?_ ?_
 ·
  refine ⟨(h13.eq 8 (v := (.int .i64 0)) (u := (.int .i64 (0 : Int))) (V.int_eq (by omega))).only _, (Fr.refl [] _), hS, (by omega), (by omega), (by omega), (by rw [hn]; exact h0 _ hF_12)⟩
 ·
  rintro i W0 a14 w15 ⟨h16, hFr_17, hS_18, hi, hn0, hnl, hJ⟩
  have hfs19 := hFr_17.size
  refine V.sr h16 [] 1 0 [(9, .bool (decide ((i : Int) < ((T.n : Nat) : Int))))] fun a h22 => ?_
  refine V.seq fun K23 k24 => ?_
  refine V.cp h22 ((i : Int) < ((T.n : Nat) : Int)) (fun ht25 => ?_) (fun ht25 => ?_)
  ·
   refine V.skip ?_
   refine V.then_n (k24 _ _ ?_)
   refine V.seq fun K26 k27 => ?_
   refine V.block ?_
   obtain ⟨g30, o31, hA32, hA32l, hA32z⟩ := hS_18.addr (by omega)
   try dsimp only at hA32z
   obtain ⟨cs33, hok34, hE35⟩ := hS_18.els hA32 (i : Int) (by omega) (by omega)
   refine V.sg fun K28 k29 => ?_
   refine V.run h22 [(0, .ix g30 o31 T.n c6 .i64 (i : Int) 2 hA32)] 1 1 0 [(10, .pointer (some ⟨g30, o31 + (i : Int).toNat * 2, none⟩))] fun a h36 => ?_
   obtain rfl : cs33 = [.string (at_ itI ((T.a ++ T.b).flatten) (i : Int)).1, .string (at_ itI ((T.a ++ T.b).flatten) (i : Int)).2] := hok34
   refine V.run h36 [(0, .ls ⟨g30, o31 + (i : Int).toNat * 2, none⟩ [.string ((at_ itI ((T.a ++ T.b).flatten) (i : Int)).1), .string ((at_ itI ((T.a ++ T.b).flatten) (i : Int)).2)] (hE35.cells 0 _ rfl))] 1 1 0 [(11, .agg #[.string ((at_ itI ((T.a ++ T.b).flatten) (i : Int)).1), .string ((at_ itI ((T.a ++ T.b).flatten) (i : Int)).2)])] fun a h41 => ?_
   refine V.go (V.mk [] trivial (by kernel_rfl) [.string ⟨#[]⟩, .string ⟨#[]⟩] 93 (fun b => .pointer (some ⟨b, 0, none⟩)) (by kernel_rfl) ?_)
   intro w38 b37 heb37 hB39 hF40 hsb37
   have hFr_42 := hFr_17.new hF40
   have hS_43 := hS_18.fr0 hF40
   have hE35_44 := hE35.fr0 hF40
   refine V.pt h41 fun a h45 => ?_
   refine V.go (V.stn b37 0 (.agg #[.string ((at_ itI ((T.a ++ T.b).flatten) (i : Int)).1), .string ((at_ itI ((T.a ++ T.b).flatten) (i : Int)).2)]) [.string ((at_ itI ((T.a ++ T.b).flatten) (i : Int)).1), .string ((at_ itI ((T.a ++ T.b).flatten) (i : Int)).2)] h45.e h45.e rfl rfl (by kernel_rfl) hB39 (by simp) [.string ((at_ itI ((T.a ++ T.b).flatten) (i : Int)).1), .string ((at_ itI ((T.a ++ T.b).flatten) (i : Int)).2)] rfl ?_)
   intro w46 hB47 hF48 hsw46
   have hFr_49 := hFr_42.own hF48 (by simp <;> omega)
   have hS_50 := hS_43.fr hF48 (by simp <;> omega)
   have hE35_51 := hE35_44.fr hF48 (by simp <;> omega)
   refine V.nt (k29 _ _ ?_)
   refine V.sg fun K52 k53 => ?_
   refine V.run h45 [(2, .b hB47 0), (1, .b hB47 1)] 5 13 15 [(12, fv), (14, .string ((at_ itI ((T.a ++ T.b).flatten) (i : Int)).1)), (16, .string ((at_ itI ((T.a ++ T.b).flatten) (i : Int)).2))] fun a h55 => ?_
   have htk := take_at itI (l := (T.a ++ T.b).flatten) (k := i) (by omega)
   have hcall := hY n ((T.a ++ T.b).flatten.take i) (at_ itI (T.a ++ T.b).flatten (i : Int)) w46 hn0 (by omega) (hI _ _ _ _ hJ hFr_49) ⟨_, by rw [List.append_cons, ← htk]; exact List.take_append_drop (i + 1) _⟩
   refine V.go (V.callV fv #[.string ((at_ itI ((T.a ++ T.b).flatten) (i : Int)).1), .string ((at_ itI ((T.a ++ T.b).flatten) (i : Int)).2)] (h55.e (v := (fv))) (args2 (h55.e (v := (.string ((at_ itI ((T.a ++ T.b).flatten) (i : Int)).1)))) (h55.e (v := (.string ((at_ itI ((T.a ++ T.b).flatten) (i : Int)).2))))) hcall ?_)
   rintro e w54 (⟨rfl, hJ1, hkp⟩ | ⟨rfl, hJx⟩)
   ·
    refine ⟨_, rfl, ?_⟩
    rw [← htk] at hJ1
    have hS56 := hS_50.kept hkp (fun k hk => hk)
    refine V.pt h55 fun a h57 => ?_
    refine V.re h57 [] 1 0 [(18, .bool false)] fun a h58 => k53 _ _ ?_
    refine V.cf h58 ?_
    refine V.skip ?_
    refine V.blk_n ?_
    refine V.then_n (k27 _ _ ?_)
    refine V.rr h58 [(0, .i ((i : Int) + 1))] 19 19 [(8, .int .i64 ((i : Int) + 1))] fun a h59 => ?_
    refine V.then_n ?_
    refine ⟨i + 1, w54, by omega, ?_⟩
    refine ⟨(h59.eq 8 (v := (.int .i64 ((i : Int) + 1))) (u := (.int .i64 ((i + 1) : Int))) (V.int_eq (by omega))).only _, (Fr.refl [] _), hS56, (by omega), (by omega), (by have := hkp.1; omega), hJ1⟩
   ·
    refine ⟨_, rfl, ?_⟩
    rw [← htk] at hJx
    refine V.pt h55 fun a h60 => ?_
    refine V.re h60 [] 1 0 [(18, .bool true)] fun a h61 => k53 _ _ ?_
    refine V.ct h61 ?_
    refine V.ret ?_
    refine V.blk_r ?_
    refine V.then_r ?_
    refine V.then_r ?_
    refine V.blk_r ?_
    refine V.r0 h61 ?_
    exact ⟨⟨_, rfl⟩, .inr ⟨n, _, hn0, ⟨_, List.take_append_drop (i + 1) _⟩, hJx⟩⟩
  ·
   refine V.exit ?_
   refine V.then_e ?_
   refine V.then_e ?_
   refine V.blk_hit ?_
   refine V.e0 h22 ?_
   exact ⟨⟨_, rfl⟩, .inl ⟨n, hn0, by have h := hI _ _ _ _ hJ hFr_17; rwa [List.take_of_length_le (by omega)] at h⟩⟩
end Go.Proofs.Ytalhmegjomfbaaa.S
