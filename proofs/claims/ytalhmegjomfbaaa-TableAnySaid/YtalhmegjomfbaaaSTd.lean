/- Walks of a table of texts: Put. -/
import Derived.Test.YtalhmegjomfbaaaProg
import Derived.Test.YtalhmegjomfbaaaSTc
import Derived.Test.YtalhmegjomfbaaaTd
namespace Go.Proofs.Ytalhmegjomfbaaa.S
open Go.V Go.Base
open Go.RowKit (Below)
attribute [local irreducible] Act.put Act.eval
set_option linter.unusedVariables false
set_option linter.unusedSimpArgs false
set_option maxHeartbeats 4000000 in
set_option maxRecDepth 20000 in
theorem step_N (w : World) (H : Nat → Prop) (av : List Nat) (t gA : Nat) (vsA : List Value) (T : Tb ByteArray) (hok : T.Ok) (hT : TabN 91 94 93 itI w H av t gA vsA T) : Calls Try.prog 55 #[.pointer (some ⟨t, 0, none⟩)] w (fun e w' => e = .returned (.tuple #[]) ∧ Fr [] w w') := by
 have hF := Fr.refl [] w
 obtain ⟨hsd, hpa, hla, hlb, hmv, hmz, hnn, hcn, hks⟩ := hok
 obtain ⟨hB, hRA, hlA, hK, hne, hpt, hpg⟩ := hT
 have hltt := hB.lt
 have hltg := hRA.lt
 refine V.en 111 Try.func55 fun a h1 => ?_
 refine V.seq fun K2 k3 => ?_
 refine V.sg fun K4 k5 => ?_
 refine V.run h1 [] 1 1 0 [(5, .pointer (some ⟨t, 0, none⟩))] fun a h6 => ?_
 refine V.cl h6 (Go.Proofs.enters_of Try.func57 (by kernel_rfl) rfl) (moves_N w t T.seed T.a.length 0 0 gA 0 (.int .i64 (T.moved : Int)) (.int .i64 (T.n : Int)) hB) ?_
 rintro _ w8 ⟨rfl, hF7⟩
 refine ⟨_, rfl, fun a h9 => ?_⟩
 have hsw8 := hF7.size
 have hF_10 := hF.new hF7
 have hB_11 := hB.fr0 hF7
 have hRA_12 := hRA.fr0 hF7
 have hK_13 := hK.fr0 hF7
 refine V.re h9 [] 1 0 [(7, .bool true)] fun a h14 => k5 _ _ ?_
 refine V.ct h14 ?_
 refine V.ret ?_
 refine V.then_r ?_
 refine V.r0 h14 ?_
 exact ⟨rfl, hF_10⟩
section
variable {w : World} {H : Nat → Prop} {av : List Nat} {t : Nat} {T : Tb ByteArray}
theorem made_any (w : World) (H : Nat → Prop) (av : List Nat) (t : Nat) (T : Tb ByteArray) (hT : TabX 91 94 93 itI w H av t T) : Calls Try.prog 54 #[.pointer (some ⟨t, 0, none⟩)] w (fun e w' => e = .returned (.bool true) ∧ Fr [] w w') := by
  rcases hT.2 with ⟨_, gA, vsA, h⟩ | ⟨_, gA, gB, vsA, vsB, h⟩
  · exact made_N w t T.seed T.a.length 0 0 gA 0 _ _ h.blk
  · exact made_M w t T.seed T.a.length T.b.length 0 gA gB _ _ h.blk
theorem moves_any (w : World) (H : Nat → Prop) (av : List Nat) (t : Nat) (T : Tb ByteArray) (hT : TabX 91 94 93 itI w H av t T) : Calls Try.prog 57 #[.pointer (some ⟨t, 0, none⟩)] w (fun e w' => e = .returned (.bool (decide (T.b.length ≠ 0))) ∧ Fr [] w w') := by
  rcases hT.2 with ⟨hb, gA, vsA, h⟩ | ⟨hb, gA, gB, vsA, vsB, h⟩
  · rw [hb]; exact moves_N w t T.seed T.a.length 0 0 gA 0 _ _ h.blk
  · rw [decide_eq_true (show T.b.length ≠ 0 from fun h => hb (List.eq_nil_of_length_eq_zero h))]; exact moves_M w t T.seed T.a.length T.b.length 0 gA gB _ _ h.blk
theorem find_any (w : World) (H : Nat → Prop) (av : List Nat) (t : Nat) (T : Tb ByteArray) (hT : TabX 91 94 93 itI w H av t T) (k : ByteArray) (hk : k.size ≤ 9223372036854775807) :
    Calls Try.prog 56 #[.pointer (some ⟨t, 0, none⟩), .string k] w (fun e w' => e = .returned (.tuple #[.agg #[.int .i64 (findT T k).1.1, .int .i64 (findT T k).1.2.1, .int .i64 (findT T k).1.2.2], .bool (findT T k).2]) ∧ Fr [] w w') := by
  rcases hT.2 with ⟨hb, gA, vsA, h⟩ | ⟨hb, gA, gB, vsA, vsB, h⟩
  · exact find_N w H av t gA vsA T hT.1 h k hk (by rw [hb]; rfl)
  · exact find_M w H av t gA gB vsA vsB T hT.1 h k hk (fun h => hb (List.eq_nil_of_length_eq_zero h))
theorem step_any (w : World) (H : Nat → Prop) (av : List Nat) (t : Nat) (T : Tb ByteArray) (hT : TabX 91 94 93 itI w H av t T) (hm : T.Mv) :
    Calls Try.prog 55 #[.pointer (some ⟨t, 0, none⟩)] w (fun e w' => e = .returned (.tuple #[]) ∧ TabX 91 94 93 itI w' (gr H w w') av t (tbStep T) ∧ FrP (gp H av) w w') := by
  rcases hT.2 with ⟨hb, gA, vsA, h⟩ | ⟨hb, gA, gB, vsA, vsB, h⟩
  · refine (step_N w H av t gA vsA T hT.1 h).mono fun e w' q => ⟨q.1, ?_, (FrP.refl _ _).tr0 q.2⟩
    rw [show tbStep T = T from by unfold tbStep; rw [if_pos (by rw [hb]; rfl)]]
    exact (hT.fr0 q.2).gr1
  · exact step_M w H av t gA gB vsA vsB T hT.1 h (fun h => hb (List.eq_nil_of_length_eq_zero h)) hm
end
set_option maxHeartbeats 4000000 in
set_option maxRecDepth 20000 in
theorem put_any (w : World) (H : Nat → Prop) (av : List Nat) (t : Nat) (T : Tb ByteArray) (hT : TabX 91 94 93 itI w H av t T) (hm : T.Mv) (k : ByteArray) (hkz : k.size ≤ 9223372036854775807) (v : ByteArray) (hn : T.n < 1099511627776) : Calls Try.prog 25 #[.pointer (some ⟨t, 0, none⟩), .string k, .string v] w (fun e w' => e = .returned (.bool (findT (tbStep T) k).2) ∧ TabX 91 94 93 itI w' (gr H w w') av t (putT T k v) ∧ FrP (gp H av) w w') := by
 have hFP := FrP.refl (gp H av) w
 obtain ⟨hok0, hm1⟩ := tbStep_ok hT.1 hm
 obtain ⟨T1, hT1⟩ : ∃ T1, T1 = tbStep T := ⟨_, rfl⟩
 rw [← hT1] at hok0 hm1 ⊢
 have hn1 : T1.n < 1099511627776 := by rw [hT1, tbStep_n]; exact hn
 refine V.en 99 Try.func25 fun a h1 => ?_
 refine V.sr h1 [] 6 6 [] fun a h4 => ?_
 refine V.seq fun K5 k6 => ?_
 refine V.sg fun K7 k8 => ?_
 refine V.run h4 [] 1 1 0 [(11, .pointer (some ⟨t, 0, none⟩))] fun a h9 => ?_
 refine V.cl h9 (Go.Proofs.enters_of Try.func54 (by kernel_rfl) rfl) (made_any w (H) (av) t (T) hT) ?_
 rintro _ w11 ⟨rfl, hF10⟩
 refine ⟨_, rfl, fun a h12 => ?_⟩
 have hsw11 := hF10.size
 have hT_13 := hT.fr0 hF10
 have hFP_14 := hFP.tr0 hF10
 refine V.re h12 [] 1 0 [(13, .bool false)] fun a h15 => k8 _ _ ?_
 refine V.cf h15 ?_
 refine V.skip ?_
 refine V.then_n (k6 _ _ ?_)
 refine V.sg fun K16 k17 => ?_
 refine V.run h15 [] 1 1 0 [(14, .pointer (some ⟨t, 0, none⟩))] fun a h18 => ?_
 refine V.cl h18 (Go.Proofs.enters_of Try.func55 (by kernel_rfl) rfl) (step_any w11 (H) (av) t (T) hT_13 hm) ?_
 rintro _ w21 ⟨rfl, hT19, hfp20⟩
 refine ⟨_, rfl, fun a h22 => ?_⟩
 have hsw21 := hfp20.size
 have hFP_23 := hFP_14.trP hfp20 (fun k hk => .inl hk)
 have hT19q := hT19.grm (w := w) (by omega)
 rw [← hT1] at hT19q
 refine V.nt (k17 _ _ ?_)
 refine V.seq fun K24 k25 => ?_
 refine V.sg fun K26 k27 => ?_
 refine V.run h22 [] 2 1 0 [(17, .pointer (some ⟨t, 0, none⟩)), (18, .string k)] fun a h28 => ?_
 have hok1 := hT19q.1
 rcases findT_cases hok1 k with hf | ⟨j, hf, hj⟩ | ⟨hbn, j, hf, hj⟩
 ·
  rcases hT19q.2 with ⟨hb0, gA, vsA, hN⟩ | ⟨hb0, gA, gB, vsA, vsB, hN⟩
  ·
   have hb1 : T1.b.length = 0 := by rw [hb0]; rfl
   obtain ⟨hB, hRA, hlA, hK, hne, hpt, hpg⟩ := hN
   replace hK := hK.toH
   have hltt := hB.lt
   have hltg := hRA.lt
   have hE : FrP (gp (gr H w w21) av) w21 w21 := FrP.refl _ _
   have hK0 : ∀ k ∈ av, k < w21.heap.size := fun k hk => hK.avl k (by simp [hk])
   obtain ⟨hsd, hpa, hla, hlb, hmv, hmz, hnn, hcn, hks⟩ := (show T1.Ok from hok1)
   have hbl := hok1.bl
   have hFPE := hFP_23
   refine V.cl (av := #[.pointer (some ⟨t, 0, none⟩), .string k]) h28 (Go.Proofs.enters_of Try.func56 (by kernel_rfl) rfl) (by have h := find_any w21 (gr H w w21) (av) t T1 hT19q k hkz; rw [hf] at h; exact h) ?_
   rintro _ w30 ⟨rfl, hF29⟩
   refine ⟨_, rfl, fun a h31 => ?_⟩
   have hsw30 := hF29.size
   have hB_32 := hB.fr0 hF29
   have hRA_33 := hRA.fr0 hF29
   have hK_34 := hK.fr0 hF29
   have hE_35 := hE.tr0 hF29
   refine V.run h31 [] 3 16 16 [(20, .agg #[.int .i64 0, .int .i64 0, .int .i64 0]), (21, .bool false)] fun a h40 => ?_
   refine V.go (V.mk [] trivial (by kernel_rfl) [.int .i64 0, .int .i64 0, .int .i64 0] 82 (fun b => .pointer (some ⟨b, 0, none⟩)) (by kernel_rfl) ?_)
   intro w37 b36 heb36 hB38 hF39 hsb36
   have hB_41 := hB_32.fr0 hF39
   have hRA_42 := hRA_33.fr0 hF39
   have hK_43 := hK_34.alloc hF39 heb36 (by omega)
   have hE_44 := hE_35.tr0 hF39
   refine V.pt h40 fun a h45 => ?_
   refine V.go (V.stn b36 0 (.agg #[.int .i64 0, .int .i64 0, .int .i64 0]) [.int .i64 0, .int .i64 0, .int .i64 0] h45.e h45.e rfl rfl (by kernel_rfl) hB38 (by simp) [.int .i64 0, .int .i64 0, .int .i64 0] rfl ?_)
   intro w46 hB47 hF48 hsw46
   have hB_49 := hB_41.fr1 hF48 (by omega)
   have hRA_50 := hRA_42.fr1 hF48 (by omega)
   have hK_51 := hK_43.fr hF48 (by simp)
   have hE_52 := hE_44.tr1 hF48 (by first | exact .inl (by assumption) | exact .inr (by omega) | exact .inl (.inl rfl))
   refine V.re h45 [] 1 0 [(8, .bool false)] fun a h53 => k27 _ _ ?_
   refine V.sr h53 [] 1 0 [(22, .bool false)] fun a h56 => ?_
   refine V.cf h56 ?_
   refine V.skip ?_
   refine V.then_n (k25 _ _ ?_)
   refine V.sr h56 [] 1 0 [(9, .int .i64 0)] fun a h59 => ?_
   refine V.seq fun K60 k61 => ?_
   refine V.sg fun K62 k63 => ?_
   refine V.run h59 [] 1 1 0 [(39, .pointer (some ⟨t, 0, none⟩))] fun a h64 => ?_
   refine V.cl h64 (Go.Proofs.enters_of Try.func57 (by kernel_rfl) rfl) (moves_N w46 t T1.seed T1.a.length 0 0 gA 0 (.int .i64 (T1.moved : Int)) (.int .i64 (T1.n : Int)) hB_49) ?_
   rintro _ w66 ⟨rfl, hF65⟩
   refine ⟨_, rfl, fun a h67 => ?_⟩
   have hsw66 := hF65.size
   have hB_68 := hB_49.fr0 hF65
   have hRA_69 := hRA_50.fr0 hF65
   have hK_70 := hK_51.fr0 hF65
   have hE_71 := hE_52.tr0 hF65
   have hB47_72 := hB47.fr0 hF65
   refine V.nt (k63 _ _ ?_)
   refine V.cf h67 ?_
   refine V.skip ?_
   refine V.then_n (k61 _ _ ?_)
   refine V.sg fun K73 k74 => ?_
   refine V.run h67 [] 3 1 0 [(41, .pointer (some ⟨t, 0, none⟩)), (42, .int .i64 0), (43, .string k)] fun a h75 => ?_
   refine V.cl h75 (Go.Proofs.enters_of Try.func58 (by kernel_rfl) rfl) (bucket_N0 w66 t T1.seed T1.a.length 0 0 gA 0 (.int .i64 (T1.moved : Int)) (.int .i64 (T1.n : Int)) hB_68 k (by omega) (by omega) (by omega) (by omega)) ?_
   rintro _ w77 ⟨rfl, hF76⟩
   refine ⟨_, rfl, fun a h78 => ?_⟩
   have hsw77 := hF76.size
   have hB_79 := hB_68.fr0 hF76
   have hRA_80 := hRA_69.fr0 hF76
   have hK_81 := hK_70.fr0 hF76
   have hE_82 := hE_71.tr0 hF76
   have hB47_83 := hB47_72.fr0 hF76
   have hbl76 := bkt_lt T1.seed k (n := T1.a.length) (by omega)
   refine V.re h78 [] 1 0 [(10, .int .i64 ((bkt T1.seed T1.a.length k : Nat) : Int))] fun a h84 => k74 _ _ ?_
   refine V.seq fun K85 k86 => ?_
   have hbq := hbl (bkt T1.seed T1.a.length k)
   refine V.pl [([0,1,2,3,4,5,6,7,8,9,10,11,12,13,14,15,16,17,18],some (19,[5,12,15])),([],some (20,[5])),([21],some (22,[])),([],none)] fun w87 hF88 hsw87 => ?_
   have hB_89 := hB_79.fr0 hF88
   have hRA_90 := hRA_80.fr0 hF88
   have hK_91 := hK_81.fr0 hF88
   have hE_92 := hE_82.tr0 hF88
   have hB47_93 := hB47_83.fr0 hF88
   obtain ⟨A94, c95, hv96⟩ := hK_91.getA hlA (i := (bkt T1.seed T1.a.length k)) (by omega) nilS
   have hS97 := hK_91.slA hlA (i := (bkt T1.seed T1.a.length k)) (by omega) hv96
   refine V.pe h84 [(5, .b hB_89 1), (6, .b hB_89 1), (1, .ix gA 0 T1.a.length T1.a.length .i64 ((bkt T1.seed T1.a.length k : Nat) : Int) 1 rfl), (0, .l ⟨gA, 0 + ((bkt T1.seed T1.a.length k : Nat) : Int).toNat * 1, none⟩ (.slice A94 ((T1.a.getD (bkt T1.seed T1.a.length k) []).length) c95) ((hRA_90.at (bkt T1.seed T1.a.length k) nilS (by omega)).trans (congrArg some hv96)))] 45 62 [(49, .pointer (some ⟨t, 1, none⟩)), (50, .slice (some ⟨gA, 0, none⟩) T1.a.length T1.a.length), (51, .int .i64 ((bkt T1.seed T1.a.length k : Nat) : Int)), (56, .pointer (some ⟨t, 1, none⟩)), (59, .pointer (some ⟨gA, 0 + ((bkt T1.seed T1.a.length k : Nat) : Int).toNat * 1, none⟩)), (60, .slice A94 ((T1.a.getD (bkt T1.seed T1.a.length k) []).length) c95), (63, .agg #[.string k, .string v])] fun a h98 => ?_
   refine V.go (V.mk [(63, .agg #[.string k, .string v])] ⟨h98.e, trivial⟩ (by kernel_rfl) [.string k, .string v] 93 (fun b => .slice (some ⟨b, 0, none⟩) 1 1) (by kernel_rfl) ?_)
   intro w100 b99 heb99 hB101 hF102 hsb99
   have hB_103 := hB_89.fr0 hF102
   have hRA_104 := hRA_90.fr0 hF102
   have hK_105 := hK_91.alloc hF102 heb99 (by omega)
   have hE_106 := hE_92.tr0 hF102
   have hB47_107 := hB47_93.fr0 hF102
   have hS97_108 := hS97.fr0 hF102
   refine V.pt h98 fun a h109 => ?_
   refine V.eh ⟨(fun _ => held_blk (n := 1) (hx := (h98.e (v := (.pointer (some ⟨t, 1, none⟩))))) hB_89 hB_103 (by kernel_rfl) rfl (by simp only [List.length]; omega)), (fun _ => held_blk (n := 1) (hx := (h98.e (v := (.pointer (some ⟨t, 1, none⟩))))) hB_89 hB_103 (by kernel_rfl) rfl (by simp only [List.length]; omega)), (fun _ => held_row (hx := (h98.e (v := (.pointer (some ⟨gA, 0 + ((bkt T1.seed T1.a.length k : Nat) : Int).toNat * 1, none⟩))))) hRA_90 hRA_104 (by kernel_rfl) (by omega))⟩ ?_
   refine V.pe h109 [] 1 0 [] fun a h110 => ?_
   refine V.go (V.appRA (R := itI) (ys := ([(k, v)])) (news := [.string k, .string v]) hK_105 hlA (i := (bkt T1.seed T1.a.length k)) (by omega) hv96 (h110.e (v := (.slice A94 ((T1.a.getD (bkt T1.seed T1.a.length k) []).length) c95))) ⟨b99, 0, none⟩ 1 1 (h110.e (v := (.slice (some ⟨b99, 0, none⟩) 1 1))) (by kernel_rfl) (info93) (by kernel_rfl) (by decide) rfl ⟨[.string k, .string v], [], rfl, rfl, rfl⟩ (blk_cells hB101 0 _ rfl) (by omega) (by decide) (.inr (by omega)) ?_)
   intro A111 c112 w113 hK114 hF115 ho116
   have hsw113 := hF115.size
   have hB_117 := hB_103.fr hF115 (fun hm => (ho116 _ hm).1 (by simp))
   have hRA_118 := hRA_104.fr hF115 (fun hm => (ho116 _ hm).1 (by simp))
   have hE_119 := hE_106.tr hF115 (fun k hk => ((ho116 k hk).2).imp (fun h => ⟨h, fun hm => (ho116 k hk).1 (by simp [hm])⟩) id)
   have hB47_120 := hB47_107.fr hF115 (fun hm => (ho116 _ hm).1 (by simp))
   refine V.pt h110 fun a h121 => ?_
   refine V.eh (fun _ => held_blk (n := 1) (hx := (h110.e (v := (.pointer (some ⟨t, 1, none⟩))))) hB_103 hB_117 (by kernel_rfl) rfl (by simp only [List.length]; omega)) ?_
   refine V.pe h121 [(0, .ix gA 0 T1.a.length T1.a.length .i64 ((bkt T1.seed T1.a.length k : Nat) : Int) 1 rfl)] 1 0 [(66, .pointer (some ⟨gA, 0 + ((bkt T1.seed T1.a.length k : Nat) : Int).toNat * 1, none⟩))] fun a h122 => ?_
   refine V.go (V.strow (enc := idV) gA (((bkt T1.seed T1.a.length k : Nat) : Int).toNat) (.slice A111 ((T1.a.getD (bkt T1.seed T1.a.length k) []).length + 1) c112) h122.e h122.e rfl rfl (by kernel_rfl) hRA_118 (by first | omega | (simp only [List.length_set, List.length_replicate]; omega)) ?_)
   intro w123 hR124 hF125 hsw123
   have hB_126 := hB_117.fr1 hF125 (by omega)
   have hE_127 := hE_119.tr1 hF125 (by first | exact .inl (by assumption) | exact .inr (by omega) | exact .inl (.inl rfl))
   have hB47_128 := hB47_120.fr1 hF125 (by omega)
   have hK114_129 := hK114.fr hF125 (by simp)
   refine V.eh trivial ?_
   refine V.pz h122 [] 1 0 [] fun a h130 => k86 _ _ ?_
   have h131 := h130.only [(0, .pointer (some ⟨t, 0, none⟩))]
   refine V.sg fun K132 k133 => ?_
   refine V.run h131 [(3, .b hB_126 4), (0, .i ((T1.n : Int) + 1))] 7 67 72 [(71, .int .i64 ((T1.n : Int) + 1)), (73, .pointer (some ⟨t, 4, none⟩))] fun a h137 => ?_
   refine V.go (V.stn t 4 (.int .i64 ((T1.n : Int) + 1)) [.int .i64 ((T1.n : Int) + 1)] h137.e h137.e rfl rfl (by kernel_rfl) hB_126 (by simp) [.int .u64 (T1.seed : Int), .slice (some ⟨gA, 0, none⟩) T1.a.length T1.a.length, .slice none 0 0, .int .i64 (T1.moved : Int), .int .i64 ((T1.n : Int) + 1)] rfl ?_)
   intro w134 hB135 hF136 hsw134
   have hE_138 := hE_127.tr1 hF136 (by first | exact .inl (by assumption) | exact .inr (by omega) | exact .inl (.inl rfl))
   have hB47_139 := hB47_128.fr1 hF136 (by omega)
   have hK114_140 := hK114_129.fr hF136 (by simp)
   have hR124_141 := hR124.fr1 hF136 (by omega)
   refine V.nt (k133 _ _ ?_)
   refine V.seq fun K142 k143 => ?_
   refine V.seq fun K144 k145 => ?_
   refine V.pl [([0],some (1,[])),([2,3,4,5,6,7,8,9,10,11,12,13,14,15],none)] fun w146 hF147 hsw146 => ?_
   have hE_148 := hE_138.tr0 hF147
   have hB47_149 := hB47_139.fr0 hF147
   have hK114_150 := hK114_140.fr0 hF147
   have hR124_151 := hR124_141.fr0 hF147
   have hB135_152 := hB135.fr0 hF147
   refine V.pe h137 [] 1 0 [(74, .pointer (some ⟨t, 0, none⟩))] fun a h153 => ?_
   refine V.cl h153 (Go.Proofs.enters_of Try.func57 (by kernel_rfl) rfl) (moves_N w146 t T1.seed T1.a.length 0 0 gA 0 (.int .i64 (T1.moved : Int)) (.int .i64 ((T1.n : Int) + 1)) hB135_152) ?_
   rintro _ w155 ⟨rfl, hF154⟩
   refine ⟨_, rfl, fun a h156 => ?_⟩
   have hsw155 := hF154.size
   have hE_157 := hE_148.tr0 hF154
   have hB47_158 := hB47_149.fr0 hF154
   have hK114_159 := hK114_150.fr0 hF154
   have hR124_160 := hR124_151.fr0 hF154
   have hB135_161 := hB135_152.fr0 hF154
   refine V.eh trivial ?_
   refine V.pz h156 [(5, .b hB135_161 4), (4, .b hB135_161 1)] 76 88 [(89, .bool (decide (((T1.n : Int) + 1) > ((T1.a.length : Nat) : Int))))] fun a h162 => k145 _ _ ?_
   refine V.cp h162 (((T1.n : Int) + 1) > ((T1.a.length : Nat) : Int)) (fun ht163 => ?_) (fun ht163 => ?_)
   ·
    refine V.rg ?_
    refine V.run h162 [(5, .b hB135_161 1), (1, .q (.int .i64 ((2 * T1.a.length : Nat) : Int)) (w_mulN (by omega)))] 8 91 96 [(90, .pointer (some ⟨t, 0, none⟩)), (97, .int .i64 ((2 * T1.a.length : Nat) : Int))] fun a h164 => ?_
    have hins := insT_ok0 hok1 hb1 (by omega) k hkz v
    have hlp : (putB T1.seed T1.a (k, v)).length = T1.a.length := putB_length _ _ _
    have hN165 : TabN 91 94 93 itI w155 (gh (gr H w w21) w21) av t gA (vsA.set (((bkt T1.seed T1.a.length k : Nat) : Int).toNat) (.slice A111 ((T1.a.getD (bkt T1.seed T1.a.length k) []).length + 1) c112)) ({ T1 with a := putB T1.seed T1.a (k, v), n := T1.n + 1 } : Tb ByteArray) := TabN.mk2 hB135_161 hR124_160 (by simpa [putB] using hK114_159) (mem3 (by simp) (by simp) (by intro k hk; simp [hk])) hne ⟨.inl hpt.1, hpt.2⟩ ⟨.inl hpg.1, hpg.2⟩ rfl hlp.symm rfl (by simp) rfl
    refine V.cl h164 (Go.Proofs.enters_of Try.func59 (by kernel_rfl) rfl) (start_N w155 (gh (gr H w w21) w21) av t gA _ ({ T1 with a := putB T1.seed T1.a (k, v), n := T1.n + 1 } : Tb ByteArray) hins hN165 (2 * T1.a.length) hb0 (by omega) (by omega)) ?_
    rintro _ w168 ⟨rfl, hT166, hfp167⟩
    refine ⟨_, rfl, fun a h169 => ?_⟩
    have hsw168 := hfp167.size
    have hE_170 := hE_157.trP hfp167 (fun k hk => hk.1.imp (fun h => ⟨h, hk.2⟩) id)
    refine V.nt (k143 _ _ ?_)
    refine V.sr h169 [] 1 0 [(6, .bool false)] fun a h173 => ?_
    refine V.ret ?_
    refine V.r1 h173 (.bool false) ?_
    have hst : putT T k v = insT T1 k v := by (unfold putT; rw [← hT1]; unfold put1T; rw [hf, if_neg (by simp)])
    have hup := (insT_ok hok1 hm1 (by omega) k hkz v).1
    rw [hst]
    have hu2 : insT T1 k v = startT ({ T1 with a := putB T1.seed T1.a (k, v), n := T1.n + 1 } : Tb ByteArray) (2 * T1.a.length) := by (unfold insT; rw [if_pos hb1, if_pos (by omega)])
    rw [hu2]
    exact ⟨by rw [hf], (hT166.gr2 (by omega)).gr3 (by omega), (hFPE.gr hE_170)⟩
   ·
    refine V.skip ?_
    refine V.then_n (k143 _ _ ?_)
    refine V.sr h162 [] 1 0 [(6, .bool false)] fun a h176 => ?_
    refine V.ret ?_
    refine V.r1 h176 (.bool false) ?_
    have hst : putT T k v = insT T1 k v := by (unfold putT; rw [← hT1]; unfold put1T; rw [hf, if_neg (by simp)])
    have hup := (insT_ok hok1 hm1 (by omega) k hkz v).1
    rw [hst]
    have hu2 : insT T1 k v = ({ T1 with a := putB T1.seed T1.a (k, v), n := T1.n + 1 } : Tb ByteArray) := by (unfold insT; rw [if_pos hb1, if_neg (by omega)])
    rw [hu2] at hup ⊢
    exact ⟨by rw [hf], (TabN.fin (T := ({ T1 with a := putB T1.seed T1.a (k, v), n := T1.n + 1 })) hup hb0 hB135_161 hR124_160 (by have h := hK114_159; rw [List.append_nil, List.append_nil] at h; exact h) (mem3 (l := (b99 :: b36 :: t :: gA :: av)) (by simp) (by simp) (by intro k hk; simp [hk])) (by first | assumption | exact Ne.symm (by assumption) | omega) hpt ⟨.inl hpg.1, hpg.2⟩ rfl (putB_length _ _ _).symm rfl (by simp) rfl).gr3 (by omega), (hFPE.gr hE_157)⟩
  ·
   have hb1 : T1.b.length ≠ 0 := fun h => hb0 (List.eq_nil_of_length_eq_zero h)
   obtain ⟨hB, hRA, hRB, hlA, hlB, hK, hne, hne2, hne3, hpt, hpg, hph⟩ := hN
   replace hK := hK.toH
   have hltt := hB.lt
   have hltg := hRA.lt
   have hltg2 := hRB.lt
   have hE : FrP (gp (gr H w w21) av) w21 w21 := FrP.refl _ _
   have hK0 : ∀ k ∈ av, k < w21.heap.size := fun k hk => hK.avl k (by simp [hk])
   obtain ⟨hsd, hpa, hla, hlb, hmv, hmz, hnn, hcn, hks⟩ := (show T1.Ok from hok1)
   have hbl := hok1.bl
   have hFPE := hFP_23
   refine V.cl (av := #[.pointer (some ⟨t, 0, none⟩), .string k]) h28 (Go.Proofs.enters_of Try.func56 (by kernel_rfl) rfl) (by have h := find_any w21 (gr H w w21) (av) t T1 hT19q k hkz; rw [hf] at h; exact h) ?_
   rintro _ w178 ⟨rfl, hF177⟩
   refine ⟨_, rfl, fun a h179 => ?_⟩
   have hsw178 := hF177.size
   have hB_180 := hB.fr0 hF177
   have hRA_181 := hRA.fr0 hF177
   have hRB_182 := hRB.fr0 hF177
   have hK_183 := hK.fr0 hF177
   have hE_184 := hE.tr0 hF177
   refine V.run h179 [] 3 16 16 [(20, .agg #[.int .i64 0, .int .i64 0, .int .i64 0]), (21, .bool false)] fun a h189 => ?_
   refine V.go (V.mk [] trivial (by kernel_rfl) [.int .i64 0, .int .i64 0, .int .i64 0] 82 (fun b => .pointer (some ⟨b, 0, none⟩)) (by kernel_rfl) ?_)
   intro w186 b185 heb185 hB187 hF188 hsb185
   have hB_190 := hB_180.fr0 hF188
   have hRA_191 := hRA_181.fr0 hF188
   have hRB_192 := hRB_182.fr0 hF188
   have hK_193 := hK_183.alloc hF188 heb185 (by omega)
   have hE_194 := hE_184.tr0 hF188
   refine V.pt h189 fun a h195 => ?_
   refine V.go (V.stn b185 0 (.agg #[.int .i64 0, .int .i64 0, .int .i64 0]) [.int .i64 0, .int .i64 0, .int .i64 0] h195.e h195.e rfl rfl (by kernel_rfl) hB187 (by simp) [.int .i64 0, .int .i64 0, .int .i64 0] rfl ?_)
   intro w196 hB197 hF198 hsw196
   have hB_199 := hB_190.fr1 hF198 (by omega)
   have hRA_200 := hRA_191.fr1 hF198 (by omega)
   have hRB_201 := hRB_192.fr1 hF198 (by omega)
   have hK_202 := hK_193.fr hF198 (by simp)
   have hE_203 := hE_194.tr1 hF198 (by first | exact .inl (by assumption) | exact .inr (by omega) | exact .inl (.inl rfl))
   refine V.re h195 [] 1 0 [(8, .bool false)] fun a h204 => k27 _ _ ?_
   refine V.sr h204 [] 1 0 [(22, .bool false)] fun a h207 => ?_
   refine V.cf h207 ?_
   refine V.skip ?_
   refine V.then_n (k25 _ _ ?_)
   refine V.sr h207 [] 1 0 [(9, .int .i64 0)] fun a h210 => ?_
   refine V.seq fun K211 k212 => ?_
   refine V.sg fun K213 k214 => ?_
   refine V.run h210 [] 1 1 0 [(39, .pointer (some ⟨t, 0, none⟩))] fun a h215 => ?_
   refine V.cl h215 (Go.Proofs.enters_of Try.func57 (by kernel_rfl) rfl) (moves_M w196 t T1.seed T1.a.length T1.b.length 0 gA gB (.int .i64 (T1.moved : Int)) (.int .i64 (T1.n : Int)) hB_199) ?_
   rintro _ w217 ⟨rfl, hF216⟩
   refine ⟨_, rfl, fun a h218 => ?_⟩
   have hsw217 := hF216.size
   have hB_219 := hB_199.fr0 hF216
   have hRA_220 := hRA_200.fr0 hF216
   have hRB_221 := hRB_201.fr0 hF216
   have hK_222 := hK_202.fr0 hF216
   have hE_223 := hE_203.tr0 hF216
   have hB197_224 := hB197.fr0 hF216
   refine V.nt (k214 _ _ ?_)
   refine V.ct h218 ?_
   refine V.rr h218 [] 1 0 [(9, .int .i64 1)] fun a h225 => ?_
   refine V.then_n (k212 _ _ ?_)
   refine V.sg fun K226 k227 => ?_
   refine V.run h225 [] 3 1 0 [(41, .pointer (some ⟨t, 0, none⟩)), (42, .int .i64 1), (43, .string k)] fun a h228 => ?_
   refine V.cl h228 (Go.Proofs.enters_of Try.func58 (by kernel_rfl) rfl) (bucket_M1 w217 t T1.seed T1.a.length T1.b.length 0 gA gB (.int .i64 (T1.moved : Int)) (.int .i64 (T1.n : Int)) hB_219 k (by omega) (by omega) (by omega) (by omega)) ?_
   rintro _ w230 ⟨rfl, hF229⟩
   refine ⟨_, rfl, fun a h231 => ?_⟩
   have hsw230 := hF229.size
   have hB_232 := hB_219.fr0 hF229
   have hRA_233 := hRA_220.fr0 hF229
   have hRB_234 := hRB_221.fr0 hF229
   have hK_235 := hK_222.fr0 hF229
   have hE_236 := hE_223.tr0 hF229
   have hB197_237 := hB197_224.fr0 hF229
   have hbl229 := bkt_lt T1.seed k (n := T1.b.length) (by omega)
   refine V.re h231 [] 1 0 [(10, .int .i64 ((bkt T1.seed T1.b.length k : Nat) : Int))] fun a h238 => k227 _ _ ?_
   refine V.seq fun K239 k240 => ?_
   have hbq := hbl (bkt T1.seed T1.b.length k)
   refine V.pl [([0,1,2,3,4,5,6,7,8,9,10,11,12,13,14,15,16,17,18],some (19,[5,12,15])),([],some (20,[5])),([21],some (22,[])),([],none)] fun w241 hF242 hsw241 => ?_
   have hB_243 := hB_232.fr0 hF242
   have hRA_244 := hRA_233.fr0 hF242
   have hRB_245 := hRB_234.fr0 hF242
   have hK_246 := hK_235.fr0 hF242
   have hE_247 := hE_236.tr0 hF242
   have hB197_248 := hB197_237.fr0 hF242
   obtain ⟨A249, c250, hv251⟩ := hK_246.getB hlA (i := (bkt T1.seed T1.b.length k)) (by omega) nilS
   have hS252 := hK_246.slB hlA (i := (bkt T1.seed T1.b.length k)) (by omega) hv251
   refine V.pe h238 [(5, .b hB_243 2), (6, .b hB_243 2), (1, .ix gB 0 T1.b.length T1.b.length .i64 ((bkt T1.seed T1.b.length k : Nat) : Int) 1 rfl), (0, .l ⟨gB, 0 + ((bkt T1.seed T1.b.length k : Nat) : Int).toNat * 1, none⟩ (.slice A249 ((T1.b.getD (bkt T1.seed T1.b.length k) []).length) c250) ((hRB_245.at (bkt T1.seed T1.b.length k) nilS (by omega)).trans (congrArg some hv251)))] 45 62 [(49, .pointer (some ⟨t, 2, none⟩)), (50, .slice (some ⟨gB, 0, none⟩) T1.b.length T1.b.length), (51, .int .i64 ((bkt T1.seed T1.b.length k : Nat) : Int)), (56, .pointer (some ⟨t, 2, none⟩)), (59, .pointer (some ⟨gB, 0 + ((bkt T1.seed T1.b.length k : Nat) : Int).toNat * 1, none⟩)), (60, .slice A249 ((T1.b.getD (bkt T1.seed T1.b.length k) []).length) c250), (63, .agg #[.string k, .string v])] fun a h253 => ?_
   refine V.go (V.mk [(63, .agg #[.string k, .string v])] ⟨h253.e, trivial⟩ (by kernel_rfl) [.string k, .string v] 93 (fun b => .slice (some ⟨b, 0, none⟩) 1 1) (by kernel_rfl) ?_)
   intro w255 b254 heb254 hB256 hF257 hsb254
   have hB_258 := hB_243.fr0 hF257
   have hRA_259 := hRA_244.fr0 hF257
   have hRB_260 := hRB_245.fr0 hF257
   have hK_261 := hK_246.alloc hF257 heb254 (by omega)
   have hE_262 := hE_247.tr0 hF257
   have hB197_263 := hB197_248.fr0 hF257
   have hS252_264 := hS252.fr0 hF257
   refine V.pt h253 fun a h265 => ?_
   refine V.eh ⟨(fun _ => held_blk (n := 1) (hx := (h253.e (v := (.pointer (some ⟨t, 2, none⟩))))) hB_243 hB_258 (by kernel_rfl) rfl (by simp only [List.length]; omega)), (fun _ => held_blk (n := 1) (hx := (h253.e (v := (.pointer (some ⟨t, 2, none⟩))))) hB_243 hB_258 (by kernel_rfl) rfl (by simp only [List.length]; omega)), (fun _ => held_row (hx := (h253.e (v := (.pointer (some ⟨gB, 0 + ((bkt T1.seed T1.b.length k : Nat) : Int).toNat * 1, none⟩))))) hRB_245 hRB_260 (by kernel_rfl) (by omega))⟩ ?_
   refine V.pe h265 [] 1 0 [] fun a h266 => ?_
   refine V.go (V.appRB (R := itI) (ys := ([(k, v)])) (news := [.string k, .string v]) hK_261 hlA (i := (bkt T1.seed T1.b.length k)) (by omega) hv251 (h266.e (v := (.slice A249 ((T1.b.getD (bkt T1.seed T1.b.length k) []).length) c250))) ⟨b254, 0, none⟩ 1 1 (h266.e (v := (.slice (some ⟨b254, 0, none⟩) 1 1))) (by kernel_rfl) (info93) (by kernel_rfl) (by decide) rfl ⟨[.string k, .string v], [], rfl, rfl, rfl⟩ (blk_cells hB256 0 _ rfl) (by omega) (by decide) (.inr (by omega)) ?_)
   intro A267 c268 w269 hK270 hF271 ho272
   have hsw269 := hF271.size
   have hB_273 := hB_258.fr hF271 (fun hm => (ho272 _ hm).1 (by simp))
   have hRA_274 := hRA_259.fr hF271 (fun hm => (ho272 _ hm).1 (by simp))
   have hRB_275 := hRB_260.fr hF271 (fun hm => (ho272 _ hm).1 (by simp))
   have hE_276 := hE_262.tr hF271 (fun k hk => ((ho272 k hk).2).imp (fun h => ⟨h, fun hm => (ho272 k hk).1 (by simp [hm])⟩) id)
   have hB197_277 := hB197_263.fr hF271 (fun hm => (ho272 _ hm).1 (by simp))
   refine V.pt h266 fun a h278 => ?_
   refine V.eh (fun _ => held_blk (n := 1) (hx := (h266.e (v := (.pointer (some ⟨t, 2, none⟩))))) hB_258 hB_273 (by kernel_rfl) rfl (by simp only [List.length]; omega)) ?_
   refine V.pe h278 [(0, .ix gB 0 T1.b.length T1.b.length .i64 ((bkt T1.seed T1.b.length k : Nat) : Int) 1 rfl)] 1 0 [(66, .pointer (some ⟨gB, 0 + ((bkt T1.seed T1.b.length k : Nat) : Int).toNat * 1, none⟩))] fun a h279 => ?_
   refine V.go (V.strow (enc := idV) gB (((bkt T1.seed T1.b.length k : Nat) : Int).toNat) (.slice A267 ((T1.b.getD (bkt T1.seed T1.b.length k) []).length + 1) c268) h279.e h279.e rfl rfl (by kernel_rfl) hRB_275 (by first | omega | (simp only [List.length_set, List.length_replicate]; omega)) ?_)
   intro w280 hR281 hF282 hsw280
   have hB_283 := hB_273.fr1 hF282 (by omega)
   have hRA_284 := hRA_274.fr1 hF282 (by omega)
   have hE_285 := hE_276.tr1 hF282 (by first | exact .inl (by assumption) | exact .inr (by omega) | exact .inl (.inl rfl))
   have hB197_286 := hB197_277.fr1 hF282 (by omega)
   have hK270_287 := hK270.fr hF282 (by simp)
   refine V.eh trivial ?_
   refine V.pz h279 [] 1 0 [] fun a h288 => k240 _ _ ?_
   have h289 := h288.only [(0, .pointer (some ⟨t, 0, none⟩))]
   refine V.sg fun K290 k291 => ?_
   refine V.run h289 [(3, .b hB_283 4), (0, .i ((T1.n : Int) + 1))] 7 67 72 [(71, .int .i64 ((T1.n : Int) + 1)), (73, .pointer (some ⟨t, 4, none⟩))] fun a h295 => ?_
   refine V.go (V.stn t 4 (.int .i64 ((T1.n : Int) + 1)) [.int .i64 ((T1.n : Int) + 1)] h295.e h295.e rfl rfl (by kernel_rfl) hB_283 (by simp) [.int .u64 (T1.seed : Int), .slice (some ⟨gA, 0, none⟩) T1.a.length T1.a.length, .slice (some ⟨gB, 0, none⟩) T1.b.length T1.b.length, .int .i64 (T1.moved : Int), .int .i64 ((T1.n : Int) + 1)] rfl ?_)
   intro w292 hB293 hF294 hsw292
   have hRA_296 := hRA_284.fr1 hF294 (by omega)
   have hE_297 := hE_285.tr1 hF294 (by first | exact .inl (by assumption) | exact .inr (by omega) | exact .inl (.inl rfl))
   have hB197_298 := hB197_286.fr1 hF294 (by omega)
   have hK270_299 := hK270_287.fr hF294 (by simp)
   have hR281_300 := hR281.fr1 hF294 (by omega)
   refine V.nt (k291 _ _ ?_)
   refine V.seq fun K301 k302 => ?_
   refine V.seq fun K303 k304 => ?_
   refine V.pl [([0],some (1,[])),([2,3,4,5,6,7,8,9,10,11,12,13,14,15],none)] fun w305 hF306 hsw305 => ?_
   have hRA_307 := hRA_296.fr0 hF306
   have hE_308 := hE_297.tr0 hF306
   have hB197_309 := hB197_298.fr0 hF306
   have hK270_310 := hK270_299.fr0 hF306
   have hR281_311 := hR281_300.fr0 hF306
   have hB293_312 := hB293.fr0 hF306
   refine V.pe h295 [] 1 0 [(74, .pointer (some ⟨t, 0, none⟩))] fun a h313 => ?_
   refine V.cl h313 (Go.Proofs.enters_of Try.func57 (by kernel_rfl) rfl) (moves_M w305 t T1.seed T1.a.length T1.b.length 0 gA gB (.int .i64 (T1.moved : Int)) (.int .i64 ((T1.n : Int) + 1)) hB293_312) ?_
   rintro _ w315 ⟨rfl, hF314⟩
   refine ⟨_, rfl, fun a h316 => ?_⟩
   have hsw315 := hF314.size
   have hRA_317 := hRA_307.fr0 hF314
   have hE_318 := hE_308.tr0 hF314
   have hB197_319 := hB197_309.fr0 hF314
   have hK270_320 := hK270_310.fr0 hF314
   have hR281_321 := hR281_311.fr0 hF314
   have hB293_322 := hB293_312.fr0 hF314
   refine V.eh trivial ?_
   refine V.pz h316 [] 76 88 [(89, .bool false)] fun a h323 => k304 _ _ ?_
   refine V.cf h323 ?_
   refine V.skip ?_
   refine V.then_n (k302 _ _ ?_)
   refine V.sr h323 [] 1 0 [(6, .bool false)] fun a h326 => ?_
   refine V.ret ?_
   refine V.r1 h326 (.bool false) ?_
   have hst : putT T k v = insT T1 k v := by (unfold putT; rw [← hT1]; unfold put1T; rw [hf, if_neg (by simp)])
   have hup := (insT_ok hok1 hm1 (by omega) k hkz v).1
   rw [hst]
   have hu2 : insT T1 k v = ({ T1 with b := putB T1.seed T1.b (k, v), n := T1.n + 1 } : Tb ByteArray) := by (unfold insT; rw [if_neg hb1])
   rw [hu2] at hup ⊢
   exact ⟨by rw [hf], (TabM.fin (T := ({ T1 with b := putB T1.seed T1.b (k, v), n := T1.n + 1 })) hup (fun h => hb1 (by have := congrArg List.length h; rwa [putB_length] at this)) hB293_322 hRA_317 hR281_321 (by first | exact hlA | (simp only [List.length_set]; exact hlA)) hK270_320 (mem4 (l := (b254 :: b185 :: t :: gA :: gB :: av)) (by simp) (by simp) (by simp) (by intro k hk; simp [hk])) (by first | assumption | omega) (by first | assumption | omega) (by first | assumption | omega) hpt ⟨.inl hpg.1, hpg.2⟩ ⟨.inl hph.1, hph.2⟩ rfl rfl rfl (by simp) rfl rfl (putB_length _ _ _).symm).gr3 (by omega), (hFPE.gr hE_318)⟩
 ·
  rcases hT19q.2 with ⟨hb0, gA, vsA, hN⟩ | ⟨hb0, gA, gB, vsA, vsB, hN⟩
  ·
   have hb1 : T1.b.length = 0 := by rw [hb0]; rfl
   obtain ⟨hB, hRA, hlA, hK, hne, hpt, hpg⟩ := hN
   replace hK := hK.toH
   have hltt := hB.lt
   have hltg := hRA.lt
   have hE : FrP (gp (gr H w w21) av) w21 w21 := FrP.refl _ _
   have hK0 : ∀ k ∈ av, k < w21.heap.size := fun k hk => hK.avl k (by simp [hk])
   obtain ⟨hsd, hpa, hla, hlb, hmv, hmz, hnn, hcn, hks⟩ := (show T1.Ok from hok1)
   have hbl := hok1.bl
   have hFPE := hFP_23
   refine V.cl (av := #[.pointer (some ⟨t, 0, none⟩), .string k]) h28 (Go.Proofs.enters_of Try.func56 (by kernel_rfl) rfl) (by have h := find_any w21 (gr H w w21) (av) t T1 hT19q k hkz; rw [hf] at h; exact h) ?_
   rintro _ w328 ⟨rfl, hF327⟩
   refine ⟨_, rfl, fun a h329 => ?_⟩
   have hsw328 := hF327.size
   have hB_330 := hB.fr0 hF327
   have hRA_331 := hRA.fr0 hF327
   have hK_332 := hK.fr0 hF327
   have hE_333 := hE.tr0 hF327
   have hbkl := bkt_lt T1.seed k (n := T1.a.length) (by omega)
   refine V.run h329 [] 3 16 16 [(20, .agg #[.int .i64 0, .int .i64 ((bkt T1.seed T1.a.length k : Nat) : Int), .int .i64 (j : Int)]), (21, .bool true)] fun a h338 => ?_
   refine V.go (V.mk [] trivial (by kernel_rfl) [.int .i64 0, .int .i64 0, .int .i64 0] 82 (fun b => .pointer (some ⟨b, 0, none⟩)) (by kernel_rfl) ?_)
   intro w335 b334 heb334 hB336 hF337 hsb334
   have hB_339 := hB_330.fr0 hF337
   have hRA_340 := hRA_331.fr0 hF337
   have hK_341 := hK_332.alloc hF337 heb334 (by omega)
   have hE_342 := hE_333.tr0 hF337
   refine V.pt h338 fun a h343 => ?_
   refine V.go (V.stn b334 0 (.agg #[.int .i64 0, .int .i64 ((bkt T1.seed T1.a.length k : Nat) : Int), .int .i64 (j : Int)]) [.int .i64 0, .int .i64 ((bkt T1.seed T1.a.length k : Nat) : Int), .int .i64 (j : Int)] h343.e h343.e rfl rfl (by kernel_rfl) hB336 (by simp) [.int .i64 0, .int .i64 ((bkt T1.seed T1.a.length k : Nat) : Int), .int .i64 (j : Int)] rfl ?_)
   intro w344 hB345 hF346 hsw344
   have hB_347 := hB_339.fr1 hF346 (by omega)
   have hRA_348 := hRA_340.fr1 hF346 (by omega)
   have hK_349 := hK_341.fr hF346 (by simp)
   have hE_350 := hE_342.tr1 hF346 (by first | exact .inl (by assumption) | exact .inr (by omega) | exact .inl (.inl rfl))
   refine V.re h343 [] 1 0 [(8, .bool true)] fun a h351 => k27 _ _ ?_
   refine V.sr h351 [] 1 0 [(22, .bool true)] fun a h354 => ?_
   refine V.ct h354 ?_
   refine V.seq fun K355 k356 => ?_
   refine V.pl [([0,1,2,3,4,5,6,7,8,9,10,11,12,13,14,15],some (16,[])),([],none)] fun w357 hF358 hsw357 => ?_
   have hB_359 := hB_347.fr0 hF358
   have hRA_360 := hRA_348.fr0 hF358
   have hK_361 := hK_349.fr0 hF358
   have hE_362 := hE_350.tr0 hF358
   have hB345_363 := hB345.fr0 hF358
   obtain ⟨A364, c365, hv366⟩ := hK_361.getA hlA (i := (bkt T1.seed T1.a.length k)) (by omega) nilS
   have hS367 := hK_361.slA hlA (i := (bkt T1.seed T1.a.length k)) (by omega) hv366
   obtain ⟨g368, o369, hA370, hA370l, hA370z⟩ := hS367.addr (by omega)
   refine V.pe h354 [(2, .b hB345_363 0), (3, .b hB_359 1), (1, .b hB345_363 1), (0, .ix gA 0 T1.a.length T1.a.length .i64 ((bkt T1.seed T1.a.length k : Nat) : Int) 1 rfl), (0, .l ⟨gA, 0 + ((bkt T1.seed T1.a.length k : Nat) : Int).toNat * 1, none⟩ (.slice A364 ((T1.a.getD (bkt T1.seed T1.a.length k) []).length) c365) ((hRA_360.at (bkt T1.seed T1.a.length k) nilS (by omega)).trans (congrArg some hv366))), (1, .b hB345_363 2), (1, .ix g368 o369 ((T1.a.getD (bkt T1.seed T1.a.length k) []).length) c365 .i64 (j : Int) 2 hA370)] 23 37 [(36, .string v), (38, .pointer (some ⟨g368, (o369 + (j : Int).toNat * 2) + 1, none⟩))] fun a h371 => ?_
   refine V.go (V.stRA (R := itI) (j := j) (f := 1) hK_361 hlA (i := (bkt T1.seed T1.a.length k)) (by omega) hv366 hA370 (by omega) (by decide) (.string v) (fun x => (x.1, v)) (h371.e (v := (.pointer (some ⟨g368, (o369 + (j : Int).toNat * 2) + 1, none⟩)))) (h371.e (v := (.string v))) rfl rfl (by kernel_rfl) (fun w1 x c hc => by (have hc' : c = [.string x.1, .string x.2] := hc; subst hc'; rfl)) ?_)
   intro w372 hK373 hF374 hsw372 ho375
   have hB_376 := hB_359.fr hF374 (fun hm => (ho375 _ hm).1 (by simp))
   have hRA_377 := hRA_360.fr hF374 (fun hm => (ho375 _ hm).1 (by simp))
   have hE_378 := hE_362.tr hF374 (fun k hk => ((ho375 k hk).2).imp (fun h => ⟨h, fun hm => (ho375 k hk).1 (by simp [hm])⟩) id)
   have hB345_379 := hB345_363.fr hF374 (fun hm => (ho375 _ hm).1 (by simp))
   refine V.eh trivial ?_
   refine V.pz h371 [] 1 0 [] fun a h380 => k356 _ _ ?_
   refine V.sr h380 [] 1 0 [(6, .bool true)] fun a h383 => ?_
   refine V.ret ?_
   refine V.then_r ?_
   refine V.r1 h383 (.bool true) ?_
   have hst : putT T k v = ({ T1 with a := setV T1.a (bkt T1.seed T1.a.length k) j v } : Tb ByteArray) := by (unfold putT; rw [← hT1]; unfold put1T; rw [hf, if_pos rfl]; unfold updT; rw [hf]; simp)
   have hup := (updT_ok hok1 hm1 k v).1
   have hu2 : updT T1 k v = ({ T1 with a := setV T1.a (bkt T1.seed T1.a.length k) j v } : Tb ByteArray) := by (unfold updT; rw [hf]; simp)
   rw [hu2] at hup
   rw [hst]
   exact ⟨by rw [hf], (TabN.fin (T := ({ T1 with a := setV T1.a (bkt T1.seed T1.a.length k) j v })) hup hb0 hB_376 hRA_377 (by have h := hK373; rw [List.append_nil, List.append_nil] at h; exact h) (mem3 (l := (b334 :: t :: gA :: av)) (by simp) (by simp) (by intro k hk; simp [hk])) (by first | assumption | exact Ne.symm (by assumption) | omega) hpt ⟨.inl hpg.1, hpg.2⟩ rfl (setV_length _ _ _ _).symm rfl rfl rfl).gr3 (by omega), (hFPE.gr hE_378)⟩
  ·
   have hb1 : T1.b.length ≠ 0 := fun h => hb0 (List.eq_nil_of_length_eq_zero h)
   obtain ⟨hB, hRA, hRB, hlA, hlB, hK, hne, hne2, hne3, hpt, hpg, hph⟩ := hN
   replace hK := hK.toH
   have hltt := hB.lt
   have hltg := hRA.lt
   have hltg2 := hRB.lt
   have hE : FrP (gp (gr H w w21) av) w21 w21 := FrP.refl _ _
   have hK0 : ∀ k ∈ av, k < w21.heap.size := fun k hk => hK.avl k (by simp [hk])
   obtain ⟨hsd, hpa, hla, hlb, hmv, hmz, hnn, hcn, hks⟩ := (show T1.Ok from hok1)
   have hbl := hok1.bl
   have hFPE := hFP_23
   refine V.cl (av := #[.pointer (some ⟨t, 0, none⟩), .string k]) h28 (Go.Proofs.enters_of Try.func56 (by kernel_rfl) rfl) (by have h := find_any w21 (gr H w w21) (av) t T1 hT19q k hkz; rw [hf] at h; exact h) ?_
   rintro _ w385 ⟨rfl, hF384⟩
   refine ⟨_, rfl, fun a h386 => ?_⟩
   have hsw385 := hF384.size
   have hB_387 := hB.fr0 hF384
   have hRA_388 := hRA.fr0 hF384
   have hRB_389 := hRB.fr0 hF384
   have hK_390 := hK.fr0 hF384
   have hE_391 := hE.tr0 hF384
   have hbkl := bkt_lt T1.seed k (n := T1.a.length) (by omega)
   refine V.run h386 [] 3 16 16 [(20, .agg #[.int .i64 0, .int .i64 ((bkt T1.seed T1.a.length k : Nat) : Int), .int .i64 (j : Int)]), (21, .bool true)] fun a h396 => ?_
   refine V.go (V.mk [] trivial (by kernel_rfl) [.int .i64 0, .int .i64 0, .int .i64 0] 82 (fun b => .pointer (some ⟨b, 0, none⟩)) (by kernel_rfl) ?_)
   intro w393 b392 heb392 hB394 hF395 hsb392
   have hB_397 := hB_387.fr0 hF395
   have hRA_398 := hRA_388.fr0 hF395
   have hRB_399 := hRB_389.fr0 hF395
   have hK_400 := hK_390.alloc hF395 heb392 (by omega)
   have hE_401 := hE_391.tr0 hF395
   refine V.pt h396 fun a h402 => ?_
   refine V.go (V.stn b392 0 (.agg #[.int .i64 0, .int .i64 ((bkt T1.seed T1.a.length k : Nat) : Int), .int .i64 (j : Int)]) [.int .i64 0, .int .i64 ((bkt T1.seed T1.a.length k : Nat) : Int), .int .i64 (j : Int)] h402.e h402.e rfl rfl (by kernel_rfl) hB394 (by simp) [.int .i64 0, .int .i64 ((bkt T1.seed T1.a.length k : Nat) : Int), .int .i64 (j : Int)] rfl ?_)
   intro w403 hB404 hF405 hsw403
   have hB_406 := hB_397.fr1 hF405 (by omega)
   have hRA_407 := hRA_398.fr1 hF405 (by omega)
   have hRB_408 := hRB_399.fr1 hF405 (by omega)
   have hK_409 := hK_400.fr hF405 (by simp)
   have hE_410 := hE_401.tr1 hF405 (by first | exact .inl (by assumption) | exact .inr (by omega) | exact .inl (.inl rfl))
   refine V.re h402 [] 1 0 [(8, .bool true)] fun a h411 => k27 _ _ ?_
   refine V.sr h411 [] 1 0 [(22, .bool true)] fun a h414 => ?_
   refine V.ct h414 ?_
   refine V.seq fun K415 k416 => ?_
   refine V.pl [([0,1,2,3,4,5,6,7,8,9,10,11,12,13,14,15],some (16,[])),([],none)] fun w417 hF418 hsw417 => ?_
   have hB_419 := hB_406.fr0 hF418
   have hRA_420 := hRA_407.fr0 hF418
   have hRB_421 := hRB_408.fr0 hF418
   have hK_422 := hK_409.fr0 hF418
   have hE_423 := hE_410.tr0 hF418
   have hB404_424 := hB404.fr0 hF418
   obtain ⟨A425, c426, hv427⟩ := hK_422.getA hlA (i := (bkt T1.seed T1.a.length k)) (by omega) nilS
   have hS428 := hK_422.slA hlA (i := (bkt T1.seed T1.a.length k)) (by omega) hv427
   obtain ⟨g429, o430, hA431, hA431l, hA431z⟩ := hS428.addr (by omega)
   refine V.pe h414 [(2, .b hB404_424 0), (3, .b hB_419 1), (1, .b hB404_424 1), (0, .ix gA 0 T1.a.length T1.a.length .i64 ((bkt T1.seed T1.a.length k : Nat) : Int) 1 rfl), (0, .l ⟨gA, 0 + ((bkt T1.seed T1.a.length k : Nat) : Int).toNat * 1, none⟩ (.slice A425 ((T1.a.getD (bkt T1.seed T1.a.length k) []).length) c426) ((hRA_420.at (bkt T1.seed T1.a.length k) nilS (by omega)).trans (congrArg some hv427))), (1, .b hB404_424 2), (1, .ix g429 o430 ((T1.a.getD (bkt T1.seed T1.a.length k) []).length) c426 .i64 (j : Int) 2 hA431)] 23 37 [(36, .string v), (38, .pointer (some ⟨g429, (o430 + (j : Int).toNat * 2) + 1, none⟩))] fun a h432 => ?_
   refine V.go (V.stRA (R := itI) (j := j) (f := 1) hK_422 hlA (i := (bkt T1.seed T1.a.length k)) (by omega) hv427 hA431 (by omega) (by decide) (.string v) (fun x => (x.1, v)) (h432.e (v := (.pointer (some ⟨g429, (o430 + (j : Int).toNat * 2) + 1, none⟩)))) (h432.e (v := (.string v))) rfl rfl (by kernel_rfl) (fun w1 x c hc => by (have hc' : c = [.string x.1, .string x.2] := hc; subst hc'; rfl)) ?_)
   intro w433 hK434 hF435 hsw433 ho436
   have hB_437 := hB_419.fr hF435 (fun hm => (ho436 _ hm).1 (by simp))
   have hRA_438 := hRA_420.fr hF435 (fun hm => (ho436 _ hm).1 (by simp))
   have hRB_439 := hRB_421.fr hF435 (fun hm => (ho436 _ hm).1 (by simp))
   have hE_440 := hE_423.tr hF435 (fun k hk => ((ho436 k hk).2).imp (fun h => ⟨h, fun hm => (ho436 k hk).1 (by simp [hm])⟩) id)
   have hB404_441 := hB404_424.fr hF435 (fun hm => (ho436 _ hm).1 (by simp))
   refine V.eh trivial ?_
   refine V.pz h432 [] 1 0 [] fun a h442 => k416 _ _ ?_
   refine V.sr h442 [] 1 0 [(6, .bool true)] fun a h445 => ?_
   refine V.ret ?_
   refine V.then_r ?_
   refine V.r1 h445 (.bool true) ?_
   have hst : putT T k v = ({ T1 with a := setV T1.a (bkt T1.seed T1.a.length k) j v } : Tb ByteArray) := by (unfold putT; rw [← hT1]; unfold put1T; rw [hf, if_pos rfl]; unfold updT; rw [hf]; simp)
   have hup := (updT_ok hok1 hm1 k v).1
   have hu2 : updT T1 k v = ({ T1 with a := setV T1.a (bkt T1.seed T1.a.length k) j v } : Tb ByteArray) := by (unfold updT; rw [hf]; simp)
   rw [hu2] at hup
   rw [hst]
   exact ⟨by rw [hf], (TabM.fin (T := ({ T1 with a := setV T1.a (bkt T1.seed T1.a.length k) j v })) hup hb0 hB_437 hRA_438 hRB_439 (by first | exact hlA | (simp only [List.length_set]; exact hlA)) hK434 (mem4 (l := (b392 :: t :: gA :: gB :: av)) (by simp) (by simp) (by simp) (by intro k hk; simp [hk])) (by first | assumption | omega) (by first | assumption | omega) (by first | assumption | omega) hpt ⟨.inl hpg.1, hpg.2⟩ ⟨.inl hph.1, hph.2⟩ rfl (setV_length _ _ _ _).symm rfl rfl rfl rfl rfl).gr3 (by omega), (hFPE.gr hE_440)⟩
 ·
  rcases hT19q.2 with ⟨hb0, gA, vsA, hN⟩ | ⟨hb0, gA, gB, vsA, vsB, hN⟩
  ·
   exact absurd (by rw [hb0]; rfl) hbn
  ·
   have hb1 : T1.b.length ≠ 0 := fun h => hb0 (List.eq_nil_of_length_eq_zero h)
   obtain ⟨hB, hRA, hRB, hlA, hlB, hK, hne, hne2, hne3, hpt, hpg, hph⟩ := hN
   replace hK := hK.toH
   have hltt := hB.lt
   have hltg := hRA.lt
   have hltg2 := hRB.lt
   have hE : FrP (gp (gr H w w21) av) w21 w21 := FrP.refl _ _
   have hK0 : ∀ k ∈ av, k < w21.heap.size := fun k hk => hK.avl k (by simp [hk])
   obtain ⟨hsd, hpa, hla, hlb, hmv, hmz, hnn, hcn, hks⟩ := (show T1.Ok from hok1)
   have hbl := hok1.bl
   have hFPE := hFP_23
   refine V.cl (av := #[.pointer (some ⟨t, 0, none⟩), .string k]) h28 (Go.Proofs.enters_of Try.func56 (by kernel_rfl) rfl) (by have h := find_any w21 (gr H w w21) (av) t T1 hT19q k hkz; rw [hf] at h; exact h) ?_
   rintro _ w447 ⟨rfl, hF446⟩
   refine ⟨_, rfl, fun a h448 => ?_⟩
   have hsw447 := hF446.size
   have hB_449 := hB.fr0 hF446
   have hRA_450 := hRA.fr0 hF446
   have hRB_451 := hRB.fr0 hF446
   have hK_452 := hK.fr0 hF446
   have hE_453 := hE.tr0 hF446
   have hbkl := bkt_lt T1.seed k (n := T1.b.length) (by omega)
   refine V.run h448 [] 3 16 16 [(20, .agg #[.int .i64 1, .int .i64 ((bkt T1.seed T1.b.length k : Nat) : Int), .int .i64 (j : Int)]), (21, .bool true)] fun a h458 => ?_
   refine V.go (V.mk [] trivial (by kernel_rfl) [.int .i64 0, .int .i64 0, .int .i64 0] 82 (fun b => .pointer (some ⟨b, 0, none⟩)) (by kernel_rfl) ?_)
   intro w455 b454 heb454 hB456 hF457 hsb454
   have hB_459 := hB_449.fr0 hF457
   have hRA_460 := hRA_450.fr0 hF457
   have hRB_461 := hRB_451.fr0 hF457
   have hK_462 := hK_452.alloc hF457 heb454 (by omega)
   have hE_463 := hE_453.tr0 hF457
   refine V.pt h458 fun a h464 => ?_
   refine V.go (V.stn b454 0 (.agg #[.int .i64 1, .int .i64 ((bkt T1.seed T1.b.length k : Nat) : Int), .int .i64 (j : Int)]) [.int .i64 1, .int .i64 ((bkt T1.seed T1.b.length k : Nat) : Int), .int .i64 (j : Int)] h464.e h464.e rfl rfl (by kernel_rfl) hB456 (by simp) [.int .i64 1, .int .i64 ((bkt T1.seed T1.b.length k : Nat) : Int), .int .i64 (j : Int)] rfl ?_)
   intro w465 hB466 hF467 hsw465
   have hB_468 := hB_459.fr1 hF467 (by omega)
   have hRA_469 := hRA_460.fr1 hF467 (by omega)
   have hRB_470 := hRB_461.fr1 hF467 (by omega)
   have hK_471 := hK_462.fr hF467 (by simp)
   have hE_472 := hE_463.tr1 hF467 (by first | exact .inl (by assumption) | exact .inr (by omega) | exact .inl (.inl rfl))
   refine V.re h464 [] 1 0 [(8, .bool true)] fun a h473 => k27 _ _ ?_
   refine V.sr h473 [] 1 0 [(22, .bool true)] fun a h476 => ?_
   refine V.ct h476 ?_
   refine V.seq fun K477 k478 => ?_
   refine V.pl [([0,1,2,3,4,5,6,7,8,9,10,11,12,13,14,15],some (16,[])),([],none)] fun w479 hF480 hsw479 => ?_
   have hB_481 := hB_468.fr0 hF480
   have hRA_482 := hRA_469.fr0 hF480
   have hRB_483 := hRB_470.fr0 hF480
   have hK_484 := hK_471.fr0 hF480
   have hE_485 := hE_472.tr0 hF480
   have hB466_486 := hB466.fr0 hF480
   obtain ⟨A487, c488, hv489⟩ := hK_484.getB hlA (i := (bkt T1.seed T1.b.length k)) (by omega) nilS
   have hS490 := hK_484.slB hlA (i := (bkt T1.seed T1.b.length k)) (by omega) hv489
   obtain ⟨g491, o492, hA493, hA493l, hA493z⟩ := hS490.addr (by omega)
   refine V.pe h476 [(2, .b hB466_486 0), (3, .b hB_481 2), (1, .b hB466_486 1), (0, .ix gB 0 T1.b.length T1.b.length .i64 ((bkt T1.seed T1.b.length k : Nat) : Int) 1 rfl), (0, .l ⟨gB, 0 + ((bkt T1.seed T1.b.length k : Nat) : Int).toNat * 1, none⟩ (.slice A487 ((T1.b.getD (bkt T1.seed T1.b.length k) []).length) c488) ((hRB_483.at (bkt T1.seed T1.b.length k) nilS (by omega)).trans (congrArg some hv489))), (1, .b hB466_486 2), (1, .ix g491 o492 ((T1.b.getD (bkt T1.seed T1.b.length k) []).length) c488 .i64 (j : Int) 2 hA493)] 23 37 [(36, .string v), (38, .pointer (some ⟨g491, (o492 + (j : Int).toNat * 2) + 1, none⟩))] fun a h494 => ?_
   refine V.go (V.stRB (R := itI) (j := j) (f := 1) hK_484 hlA (i := (bkt T1.seed T1.b.length k)) (by omega) hv489 hA493 (by omega) (by decide) (.string v) (fun x => (x.1, v)) (h494.e (v := (.pointer (some ⟨g491, (o492 + (j : Int).toNat * 2) + 1, none⟩)))) (h494.e (v := (.string v))) rfl rfl (by kernel_rfl) (fun w1 x c hc => by (have hc' : c = [.string x.1, .string x.2] := hc; subst hc'; rfl)) ?_)
   intro w495 hK496 hF497 hsw495 ho498
   have hB_499 := hB_481.fr hF497 (fun hm => (ho498 _ hm).1 (by simp))
   have hRA_500 := hRA_482.fr hF497 (fun hm => (ho498 _ hm).1 (by simp))
   have hRB_501 := hRB_483.fr hF497 (fun hm => (ho498 _ hm).1 (by simp))
   have hE_502 := hE_485.tr hF497 (fun k hk => ((ho498 k hk).2).imp (fun h => ⟨h, fun hm => (ho498 k hk).1 (by simp [hm])⟩) id)
   have hB466_503 := hB466_486.fr hF497 (fun hm => (ho498 _ hm).1 (by simp))
   refine V.eh trivial ?_
   refine V.pz h494 [] 1 0 [] fun a h504 => k478 _ _ ?_
   refine V.sr h504 [] 1 0 [(6, .bool true)] fun a h507 => ?_
   refine V.ret ?_
   refine V.then_r ?_
   refine V.r1 h507 (.bool true) ?_
   have hst : putT T k v = ({ T1 with b := setV T1.b (bkt T1.seed T1.b.length k) j v } : Tb ByteArray) := by (unfold putT; rw [← hT1]; unfold put1T; rw [hf, if_pos rfl]; unfold updT; rw [hf]; simp)
   have hup := (updT_ok hok1 hm1 k v).1
   have hu2 : updT T1 k v = ({ T1 with b := setV T1.b (bkt T1.seed T1.b.length k) j v } : Tb ByteArray) := by (unfold updT; rw [hf]; simp)
   rw [hu2] at hup
   rw [hst]
   exact ⟨by rw [hf], (TabM.fin (T := ({ T1 with b := setV T1.b (bkt T1.seed T1.b.length k) j v })) hup (fun h => hb1 (by have := congrArg List.length h; rwa [setV_length] at this)) hB_499 hRA_500 hRB_501 (by first | exact hlA | (simp only [List.length_set]; exact hlA)) hK496 (mem4 (l := (b454 :: t :: gA :: gB :: av)) (by simp) (by simp) (by simp) (by intro k hk; simp [hk])) (by first | assumption | omega) (by first | assumption | omega) (by first | assumption | omega) hpt ⟨.inl hpg.1, hpg.2⟩ ⟨.inl hph.1, hph.2⟩ rfl rfl rfl rfl rfl rfl (setV_length _ _ _ _).symm).gr3 (by omega), (hFPE.gr hE_502)⟩
end Go.Proofs.Ytalhmegjomfbaaa.S
