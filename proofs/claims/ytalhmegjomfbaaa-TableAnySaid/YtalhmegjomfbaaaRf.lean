/- Walks: a key by a draw. -/
import Derived.Test.YtalhmegjomfbaaaProg
import Derived.Test.YtalhmegjomfbaaaRe
import Derived.Test.YtalhmegjomfbaaaRunM
namespace Go.Proofs.Ytalhmegjomfbaaa
open Go.V Go.Base
open Go.RowKit (Below)
attribute [local irreducible] Act.put Act.eval
set_option linter.unusedVariables false
set_option linter.unusedSimpArgs false
/-- A key and its value, by a draw. -/
def pickT {α : Type} (z : ByteArray × α) (T : Tb α) (d : Nat) : (ByteArray × α) × Bool := if T.n = 0 then (z, false) else ((T.a ++ T.b).flatten.getD (d % T.n) z, true)
theorem _root_.Go.V.TabX.blkN {α : Type} {tt te e : TypeId} {R : Rp (ByteArray × α)} {w : World} {H : Nat → Prop} {av : List Nat} {t : Nat} {T : Tb α} (h : TabX tt te e R w H av t T) : ∃ v0 v1 v2 v3, Blk w t [v0, v1, v2, v3, .int .i64 (T.n : Int)] tt := by
  rcases h.2 with ⟨_, gA, vsA, h⟩ | ⟨_, gA, gB, vsA, vsB, h⟩
  · exact ⟨_, _, _, _, h.blk⟩
  · exact ⟨_, _, _, _, h.blk⟩
set_option maxHeartbeats 4000000 in
set_option maxRecDepth 20000 in
theorem rpick_any (w : World) (H : Nat → Prop) (av : List Nat) (t : Nat) (T : Tb Int) (hT : TabX 40 42 60 itI w H av t T) (hHb : ∀ k, H k → k < w.heap.size) (d : Nat) (hd : d < 18446744073709551616) : Calls Try.prog 50 #[.pointer (some ⟨t, 0, none⟩), .int .u64 (d : Int)] w (fun e w' => e = .returned (.tuple #[.agg #[.string (pickT (⟨#[]⟩, 0) T d).1.1, .int .i64 (pickT (⟨#[]⟩, 0) T d).1.2], .bool (pickT (⟨#[]⟩, 0) T d).2]) ∧ Fr [] w w') := by
 have hF := Fr.refl [] w
 obtain ⟨p0, p1, p2, p3, hB⟩ := hT.blkN
 have hcn := hT.1.cn
 have hnn := hT.1.nn
 have hltt := hB.lt
 refine V.en 24 Try.func50 fun a h1 => ?_
 refine V.sg fun K2 k3 => ?_
 refine V.go (V.mk [] trivial (by kernel_rfl) [.string ⟨#[]⟩, .int .i64 0] 60 (fun b => .pointer (some ⟨b, 0, none⟩)) (by kernel_rfl) ?_)
 intro w5 b4 heb4 hB6 hF7 hsb4
 have hF_8 := hF.new hF7
 have hT_9 := hT.alloc hF7 heb4 (by omega)
 have hB_10 := hB.fr0 hF7
 refine V.pt h1 fun a h11 => ?_
 refine V.re h11 [] 5 5 [] fun a h12 => k3 _ _ ?_
 refine V.seq fun K13 k14 => ?_
 refine V.sr h12 [(3, .b hB_10 4), (0, .eq (T.n : Int) 0)] 6 9 [(10, .bool (decide ((T.n : Int) = 0)))] fun a h17 => ?_
 refine V.cp h17 ((T.n : Int) = 0) (fun ht18 => ?_) (fun ht18 => ?_)
 ·
  refine V.sg fun K19 k20 => ?_
  refine V.run h17 [] 1 1 0 [(11, .agg #[.string ⟨#[]⟩, .int .i64 0])] fun a h24 => ?_
  refine V.go (V.stn b4 0 (.agg #[.string ⟨#[]⟩, .int .i64 0]) [.string ⟨#[]⟩, .int .i64 0] h24.e h24.e rfl rfl (by kernel_rfl) hB6 (by simp) [.string ⟨#[]⟩, .int .i64 0] rfl ?_)
  intro w21 hB22 hF23 hsw21
  have hF_25 := hF_8.own hF23 (by simp <;> omega)
  have hT_26 := hT_9.fr hF23 (by intro k hk; simp only [List.mem_singleton] at hk; subst hk; exact .inl (by simp))
  have hB_27 := hB_10.fr1 hF23 (by omega)
  refine V.re h24 [] 1 0 [(5, .bool false)] fun a h28 => k20 _ _ ?_
  refine V.ret ?_
  refine V.then_r ?_
  refine V.retCT h28.sd rfl _ (h28.e (v := (.pointer (some ⟨b4, 0, none⟩)))) (V.run_loadVar_agg (cs := [.string ⟨#[]⟩, .int .i64 0]) (by kernel_rfl) (blk_cells hB22 0 _ rfl)) (h28.e (v := (.bool false))) ?_
  refine ⟨?_, hF_25⟩
  unfold pickT
  rw [if_pos (by omega)]
 ·
  refine V.skip ?_
  refine V.then_n (k14 _ _ ?_)
  refine V.seq fun K29 k30 => ?_
  have hmod := Nat.mod_lt d (show 0 < T.n by omega)
  refine V.pl [([0,2,3,4,5,6,7,8,9],some (1,[6])),([10,11],some (12,[])),([13],none)] fun w31 hF32 hsw31 => ?_
  have hF_33 := hF_8.new hF32
  have hT_34 := hT_9.fr0 hF32
  have hB_35 := hB_10.fr0 hF32
  have hB6_36 := hB6.fr0 hF32
  refine V.pe h17 [(5, .b hB_35 4), (0, .q (.int .u64 (T.n : Int)) (V.w_u64 (by omega) (by omega))), (0, .remN .u64 d T.n), (0, .q (.int .i64 ((d % T.n : Nat) : Int)) (V.w_i64 (by omega) (by omega)))] 14 20 [(12, .pointer (some ⟨t, 0, none⟩)), (17, .pointer (some ⟨t, 4, none⟩)), (21, .int .i64 ((d % T.n : Nat) : Int))] fun a h37 => ?_
  refine V.cl h37 (Go.Proofs.enters_of Try.func21 (by kernel_rfl) rfl) (rall_any w31 (H) (b4 :: av) t (T) hT_34 (fun k hk => by have := hHb k hk; omega)) ?_
  rintro _ w43 ⟨A38, c39, rfl, hO40, hF41⟩
  refine ⟨_, rfl, fun a h44 => ?_⟩
  have hsw43 := hF41.size
  have hF_45 := hF_33.new hF41
  have hT_46 := hT_34.fr0 hF41
  have hB_47 := hB_35.fr0 hF41
  have hB6_48 := hB6_36.fr0 hF41
  have hS42 := hO40.read (Z' := fun k => w31.heap.size ≤ k) (fun _ _ h => h.elim) (fun b hb _ => hb)
  refine V.eh (fun _ => held_blk (n := 1) (hx := (h37.e (v := (.pointer (some ⟨t, 4, none⟩))))) hB_35 hB_47 (by kernel_rfl) rfl (by simp only [List.length]; omega)) ?_
  obtain ⟨g49, o50, hA51, hA51l, hA51z⟩ := hS42.addr (by omega)
  try dsimp only at hA51z
  obtain ⟨cs52, hok53, hE54⟩ := hS42.els hA51 ((d % T.n : Nat) : Int) (by omega) (by omega)
  refine V.pe0 ?_
  refine V.run h44 [(0, .ix g49 o50 T.n c39 .i64 ((d % T.n : Nat) : Int) 2 hA51)] 1 1 0 [(22, .pointer (some ⟨g49, o50 + ((d % T.n : Nat) : Int).toNat * 2, none⟩))] fun a h55 => ?_
  obtain rfl : cs52 = [.string (at_ itI ((T.a ++ T.b).flatten) ((d % T.n : Nat) : Int)).1, .int .i64 (at_ itI ((T.a ++ T.b).flatten) ((d % T.n : Nat) : Int)).2] := hok53
  refine V.se h55 [(0, .ls ⟨g49, o50 + ((d % T.n : Nat) : Int).toNat * 2, none⟩ [.string ((at_ itI ((T.a ++ T.b).flatten) ((d % T.n : Nat) : Int)).1), .int .i64 ((at_ itI ((T.a ++ T.b).flatten) ((d % T.n : Nat) : Int)).2)] (hE54.cells 0 _ rfl))] 1 0 [(23, .agg #[.string ((at_ itI ((T.a ++ T.b).flatten) ((d % T.n : Nat) : Int)).1), .int .i64 ((at_ itI ((T.a ++ T.b).flatten) ((d % T.n : Nat) : Int)).2)])] fun a h56 => ?_
  refine V.go (V.stn b4 0 (.agg #[.string ((at_ itI ((T.a ++ T.b).flatten) ((d % T.n : Nat) : Int)).1), .int .i64 ((at_ itI ((T.a ++ T.b).flatten) ((d % T.n : Nat) : Int)).2)]) [.string ((at_ itI ((T.a ++ T.b).flatten) ((d % T.n : Nat) : Int)).1), .int .i64 ((at_ itI ((T.a ++ T.b).flatten) ((d % T.n : Nat) : Int)).2)] h56.e h56.e rfl rfl (by kernel_rfl) hB6_48 (by simp) [.string ((at_ itI ((T.a ++ T.b).flatten) ((d % T.n : Nat) : Int)).1), .int .i64 ((at_ itI ((T.a ++ T.b).flatten) ((d % T.n : Nat) : Int)).2)] rfl ?_)
  intro w57 hB58 hF59 hsw57
  have hF_60 := hF_45.own hF59 (by simp <;> omega)
  have hT_61 := hT_46.fr hF59 (by intro k hk; simp only [List.mem_singleton] at hk; subst hk; exact .inl (by simp))
  have hB_62 := hB_47.fr1 hF59 (by omega)
  have hS42_63 := hS42.fr hF59 (by simp <;> omega)
  have hE54_64 := hE54.fr hF59 (by simp <;> omega)
  refine V.eh trivial ?_
  refine V.pz h56 [] 1 0 [(5, .bool true)] fun a h65 => k30 _ _ ?_
  refine V.ret ?_
  refine V.retCT h65.sd rfl _ (h65.e (v := (.pointer (some ⟨b4, 0, none⟩)))) (V.run_loadVar_agg (cs := [.string ((at_ itI ((T.a ++ T.b).flatten) ((d % T.n : Nat) : Int)).1), .int .i64 ((at_ itI ((T.a ++ T.b).flatten) ((d % T.n : Nat) : Int)).2)]) (by kernel_rfl) (blk_cells hB58 0 _ rfl)) (h65.e (v := (.bool true))) ?_
  refine ⟨?_, hF_60⟩
  unfold pickT
  rw [if_neg (by omega)]; rfl
def encP (x : ByteArray × Int) : Array Value := #[.string x.1, .int .i64 x.2]
theorem pick_at {T : Tb Int} {d : Nat} {pre rest : List (ByteArray × Int)} {x : ByteArray × Int} (h : pre ++ [x] ++ rest = (T.a ++ T.b).flatten) (hn : T.n ≠ 0) (hd : pre.length = d % T.n) : (pickT (⟨#[]⟩, 0) T d).1 = x := by
  unfold pickT
  rw [if_neg hn, ← h, ← hd]
  simp
theorem all1_iter (w : World) (H : Nat → Prop) (av : List Nat) (t : Nat) (T : Tb Int) (hT : TabX 67 87 86 itI w H av t T) (hHb : ∀ k, H k → k < w.heap.size) (b : Nat) (hB : Blk w b [.pointer (some ⟨t, 0, none⟩)] 28) :
    IterP Try.prog 69 #[.pointer (some ⟨b, 0, none⟩)] encP (fun _ _ _ => True) (fun xs => xs = (T.a ++ T.b).flatten) (fun pre => ∃ rest, pre ++ rest = (T.a ++ T.b).flatten) (fun k => k = b ∨ w.heap.size + 2 ≤ k) w := by
  intro W1 f hsz l J Jx hY h0
  refine (all1_any W1 H av t T (hT.fr0 f) (fun k hk => by have := hHb k hk; omega) b (hB.fr0 f) (.func (.yield l) #[] #[]) (fun n pre W => ∃ W0, J pre W0 ∧ Fr [] W0 W) (fun n pre W => Jx pre W) ?_ ?_ ?_).mono ?_
  · rintro n pre W W' ⟨W0, hj, hf⟩ f'
    exact ⟨W0, hj, hf.trans f' (by simp)⟩
  · intro W2 f'
    exact ⟨W1, h0, f'⟩
  · rintro n pre x W hn hnl ⟨W0, hj, hf⟩ ⟨rest, hr⟩
    refine .inl ⟨l, rfl, (hY pre x W0 W hj hf trivial ⟨rest, by simpa using hr⟩).mono ?_⟩
    rintro e W' (⟨he, hj', hk⟩ | ⟨he, hj'⟩)
    · exact .inl ⟨he, ⟨W', hj', Fr.refl _ _⟩, hk.1, fun k hlt hK => hk.2 k hlt (.inr (by omega))⟩
    · exact .inr ⟨he, hj'⟩
  · rintro e W' ⟨he, ⟨n, hn, W0, hj, hf⟩ | ⟨n, pre, hn, hp, hj⟩⟩
    · exact ⟨he, .inl ⟨_, W0, rfl, hj, hf⟩⟩
    · exact ⟨he, .inr ⟨pre, W', hp, hj, Fr.refl _ _⟩⟩
set_option maxHeartbeats 4000000 in
set_option maxRecDepth 20000 in
theorem pick_any (w : World) (H : Nat → Prop) (av : List Nat) (t : Nat) (T : Tb Int) (hT : TabX 67 87 86 itI w H av t T) (hHb : ∀ k, H k → k < w.heap.size) (d : Nat) (hd : d < 18446744073709551616) : Calls Try.prog 37 #[.pointer (some ⟨t, 0, none⟩), .int .u64 (d : Int)] w (fun e w' => e = .returned (.tuple #[.string (pickT (⟨#[]⟩, 0) T d).1.1, .int .i64 (pickT (⟨#[]⟩, 0) T d).1.2, .bool (pickT (⟨#[]⟩, 0) T d).2]) ∧ Fr [] w w') := by
 have hF := Fr.refl [] w
 obtain ⟨p0, p1, p2, p3, hB⟩ := hT.blkN
 have hcn := hT.1.cn
 have hnn := hT.1.nn
 have hltt := hB.lt
 refine V.enM 34 Try.func37 fun a h1 => ?_
 refine V.sg fun K2 k3 => ?_
 refine V.go (V.mk [] trivial (by kernel_rfl) [.string ⟨#[]⟩] 9 (fun b => .pointer (some ⟨b, 0, none⟩)) (by kernel_rfl) ?_)
 intro w5 b4 heb4 hB6 hF7 hsb4
 have hF_8 := hF.new hF7
 have hT_9 := hT.alloc hF7 heb4 (by omega)
 have hB_10 := hB.fr0 hF7
 refine V.pt h1 fun a h11 => ?_
 refine V.go (V.mk [] trivial (by kernel_rfl) [.int .i64 0] 3 (fun b => .pointer (some ⟨b, 0, none⟩)) (by kernel_rfl) ?_)
 intro w13 b12 heb12 hB14 hF15 hsb12
 have hF_16 := hF_8.new hF15
 have hT_17 := hT_9.alloc hF15 heb12 (by omega)
 have hB_18 := hB_10.fr0 hF15
 have hB6_19 := hB6.fr0 hF15
 refine V.pt h11 fun a h20 => ?_
 refine V.go (V.mk [] trivial (by kernel_rfl) [.bool false] 4 (fun b => .pointer (some ⟨b, 0, none⟩)) (by kernel_rfl) ?_)
 intro w22 b21 heb21 hB23 hF24 hsb21
 have hF_25 := hF_16.new hF24
 have hT_26 := hT_17.alloc hF24 heb21 (by omega)
 have hB_27 := hB_18.fr0 hF24
 have hB6_28 := hB6_19.fr0 hF24
 have hB14_29 := hB14.fr0 hF24
 refine V.pt h20 fun a h30 => ?_
 refine V.nt (k3 _ _ ?_)
 refine V.sr h30 [] 1 0 [(7, .int .i64 0)] fun a h33 => ?_
 refine V.seq fun K34 k35 => ?_
 refine V.sg fun K36 k37 => ?_
 refine V.run h33 [] 1 1 0 [(11, .pointer (some ⟨t, 0, none⟩))] fun a h38 => ?_
 refine V.cl h38 (Go.Proofs.enters_of Try.func18 (by kernel_rfl) rfl) (len_any w22 (H) (b21 :: b12 :: b4 :: av) t (T) hT_26) ?_
 rintro _ w40 ⟨rfl, hF39⟩
 refine ⟨_, rfl, fun a h41 => ?_⟩
 have hsw40 := hF39.size
 have hF_42 := hF_25.new hF39
 have hT_43 := hT_26.fr0 hF39
 have hB_44 := hB_27.fr0 hF39
 have hB6_45 := hB6_28.fr0 hF39
 have hB14_46 := hB14_29.fr0 hF39
 have hB23_47 := hB23.fr0 hF39
 refine V.re h41 [(0, .eq (T.n : Int) 0)] 1 0 [(13, .bool (decide ((T.n : Int) = 0)))] fun a h48 => k37 _ _ ?_
 refine V.cp h48 ((T.n : Int) = 0) (fun ht49 => ?_) (fun ht49 => ?_)
 ·
  refine V.sg fun K50 k51 => ?_
  refine V.run h48 [] 1 1 0 [(14, .int .i64 0)] fun a h55 => ?_
  refine V.go (V.stn b4 0 (.string ⟨#[]⟩) [.string ⟨#[]⟩] h55.e evc rfl rfl (by kernel_rfl) hB6_45 (by simp) [.string ⟨#[]⟩] rfl ?_)
  intro w52 hB53 hF54 hsw52
  have hF_56 := hF_42.own hF54 (by simp <;> omega)
  have hT_57 := hT_43.fr hF54 (by intro k hk; simp only [List.mem_singleton] at hk; subst hk; exact .inl (by simp))
  have hB_58 := hB_44.fr1 hF54 (by omega)
  have hB14_59 := hB14_46.fr1 hF54 (by omega)
  have hB23_60 := hB23_47.fr1 hF54 (by omega)
  refine V.go (V.stn b12 0 (.int .i64 0) [.int .i64 0] h55.e h55.e rfl rfl (by kernel_rfl) hB14_59 (by simp) [.int .i64 0] rfl ?_)
  intro w61 hB62 hF63 hsw61
  have hF_64 := hF_56.own hF63 (by simp <;> omega)
  have hT_65 := hT_57.fr hF63 (by intro k hk; simp only [List.mem_singleton] at hk; subst hk; exact .inl (by simp))
  have hB_66 := hB_58.fr1 hF63 (by omega)
  have hB23_67 := hB23_60.fr1 hF63 (by omega)
  have hB53_68 := hB53.fr1 hF63 (by omega)
  refine V.go (V.stn b21 0 (.bool false) [.bool false] h55.e evc rfl rfl (by kernel_rfl) hB23_67 (by simp) [.bool false] rfl ?_)
  intro w69 hB70 hF71 hsw69
  have hF_72 := hF_64.own hF71 (by simp <;> omega)
  have hT_73 := hT_65.fr hF71 (by intro k hk; simp only [List.mem_singleton] at hk; subst hk; exact .inl (by simp))
  have hB_74 := hB_66.fr1 hF71 (by omega)
  have hB53_75 := hB53_68.fr1 hF71 (by omega)
  have hB62_76 := hB62.fr1 hF71 (by omega)
  refine V.nt (k51 _ _ ?_)
  refine V.ret ?_
  refine V.then_r ?_
  refine V.retM0 h55.sd ⟨_, V.resCCC rfl _ _ _ (h55.e (v := (.pointer (some ⟨b4, 0, none⟩)))) (h55.e (v := (.pointer (some ⟨b12, 0, none⟩)))) (h55.e (v := (.pointer (some ⟨b21, 0, none⟩)))) (V.run_loadVar_scalar (by kernel_rfl) (hB53_75.at 0 rfl)) (V.run_loadVar_scalar (by kernel_rfl) (hB62_76.at 0 rfl)) (V.run_loadVar_scalar (by kernel_rfl) (hB70.at 0 rfl)), ?_⟩
  refine ⟨?_, hF_72⟩
  unfold pickT
  rw [if_pos (by omega)]
 ·
  refine V.skip ?_
  refine V.then_n (k35 _ _ ?_)
  refine V.seq fun K77 k78 => ?_
  have hmod := Nat.mod_lt d (show 0 < T.n by omega)
  refine V.rg ?_
  refine V.run h48 [(4, .b hB_44 4), (0, .q (.int .u64 (T.n : Int)) (V.w_u64 (by omega) (by omega))), (0, .remN .u64 d T.n), (0, .q (.int .i64 ((d % T.n : Nat) : Int)) (V.w_i64 (by omega) (by omega)))] 8 15 21 [(22, .int .i64 ((d % T.n : Nat) : Int))] fun a h83 => ?_
  refine V.go (V.mk [] trivial (by kernel_rfl) [.int .i64 0] 3 (fun b => .pointer (some ⟨b, 0, none⟩)) (by kernel_rfl) ?_)
  intro w80 b79 heb79 hB81 hF82 hsb79
  have hF_84 := hF_42.new hF82
  have hT_85 := hT_43.alloc hF82 heb79 (by omega)
  have hB_86 := hB_44.fr0 hF82
  have hB6_87 := hB6_45.fr0 hF82
  have hB14_88 := hB14_46.fr0 hF82
  have hB23_89 := hB23_47.fr0 hF82
  refine V.pt h83 fun a h90 => ?_
  refine V.go (V.stn b79 0 (.int .i64 ((d % T.n : Nat) : Int)) [.int .i64 ((d % T.n : Nat) : Int)] h90.e h90.e rfl rfl (by kernel_rfl) hB81 (by simp) [.int .i64 ((d % T.n : Nat) : Int)] rfl ?_)
  intro w91 hB92 hF93 hsw91
  have hF_94 := hF_84.own hF93 (by simp <;> omega)
  have hT_95 := hT_85.fr hF93 (by intro k hk; simp only [List.mem_singleton] at hk; subst hk; exact .inl (by simp))
  have hB_96 := hB_86.fr1 hF93 (by omega)
  have hB6_97 := hB6_87.fr1 hF93 (by omega)
  have hB14_98 := hB14_88.fr1 hF93 (by omega)
  have hB23_99 := hB23_89.fr1 hF93 (by omega)
  refine V.nt (k78 _ _ ?_)
  refine V.seq fun K100 k101 => ?_
  refine V.sg fun K102 k103 => ?_
  refine V.run h90 [] 1 1 0 [(23, .pointer (some ⟨t, 0, none⟩))] fun a h104 => ?_
  refine V.cl h104 (Go.Proofs.enters_of Try.func43 (by kernel_rfl) rfl) (all_any w91 (some ⟨t, 0, none⟩)) ?_
  rintro _ w108 ⟨b107, rfl, hB106, hleb107, hF105⟩
  refine ⟨_, rfl, fun a h109 => ?_⟩
  have hsw108 := hF105.size
  have hF_110 := hF_94.new hF105
  have hT_111 := hT_95.fr0 hF105
  have hB_112 := hB_96.fr0 hF105
  have hB6_113 := hB6_97.fr0 hF105
  have hB14_114 := hB14_98.fr0 hF105
  have hB23_115 := hB23_99.fr0 hF105
  have hB92_116 := hB92.fr0 hF105
  have hlthB106 := hB106.lt
  refine V.nt (k103 _ _ ?_)
  refine V.block ?_
  refine V.rngP h109.sd h109.e (Go.Proofs.enters_of Try.func69 (by kernel_rfl) rfl) (KB := fun k => k = b107 ∨ w108.heap.size + 2 ≤ k) (fun k hk => by (try dsimp only at hk); omega) (all1_iter w108 (H) (b79 :: b21 :: b12 :: b4 :: av) t (T) hT_111 (fun k hk => by have := hHb k hk; omega) b107 hB106) (fun _ => rfl) (fun (pre : List (ByteArray × Int)) W_ => Blk W_ b79 [.int .i64 (((d % T.n : Nat) : Int) - (pre.length : Int))] 3 ∧ Blk W_ b4 [.string ⟨#[]⟩] 9 ∧ Blk W_ b12 [.int .i64 0] 3 ∧ Blk W_ b21 [.bool false] 4 ∧ Fr [] w W_ ∧ (pre.length ≤ d % T.n)) (fun c pre W_ => c = Code.ret ∧ ∃ (z8 : Int), Blk W_ b79 [.int .i64 z8] 3 ∧ Blk W_ b4 [.string ((pickT (⟨#[]⟩, 0) T d).1.1)] 9 ∧ Blk W_ b12 [.int .i64 ((pickT (⟨#[]⟩, 0) T d).1.2)] 3 ∧ Blk W_ b21 [.bool true] 4 ∧ Fr [] w W_) ?_ ?_ ?_ ?_ ?_ ?_
  ·
   rintro pre W W1 ⟨hB8, hB4, hB5, hB6, hFr, hat⟩ hf
   have := hB8.lt
   have := hB4.lt
   have := hB5.lt
   have := hB6.lt
   have := hFr.size
   exact ⟨(by exact hB8.fr1 hf (by omega)), (by exact hB4.fr1 hf (by omega)), (by exact hB5.fr1 hf (by omega)), (by exact hB6.fr1 hf (by omega)), (by exact hFr.own hf (by simp <;> omega)), hat⟩
  ·
   rintro c pre W W1 ⟨hc, z8, hB8, hB4, hB5, hB6, hFr⟩ hf
   have := hB8.lt
   have := hB4.lt
   have := hB5.lt
   have := hB6.lt
   have := hFr.size
   exact ⟨hc, z8, (by exact hB8.fr1 hf (by omega)), (by exact hB4.fr1 hf (by omega)), (by exact hB5.fr1 hf (by omega)), (by exact hB6.fr1 hf (by omega)), (by exact hFr.own hf (by simp <;> omega))⟩
  ·
   rintro W hf hszW
   have hF_117 := hF_110.new hf
   have hT_118 := hT_111.fr0 hf
   have hB_119 := hB_112.fr0 hf
   have hB6_120 := hB6_113.fr0 hf
   have hB14_121 := hB14_114.fr0 hf
   have hB23_122 := hB23_115.fr0 hf
   have hB92_123 := hB92_116.fr0 hf
   have hB106_124 := hB106.fr0 hf
   exact ⟨(by simpa using hB92_123), hB6_120, hB14_121, hB23_122, hF_117, (by simp)⟩
  ·
   rintro l pre x W0 W hl ⟨hB8, hB4, hB5, hB6, hFr, hat⟩ hfr hx hsp hsz a1 hz1 htm
   subst hl
   
   have hszfr := hfr.size
   have hlt125 := hB8.lt
   have hlt126 := hB4.lt
   have hlt127 := hB5.lt
   have hlt128 := hB6.lt
   have hfs129 := hFr.size
   have hB8_130 := hB8.fr0 hfr
   have hB4_131 := hB4.fr0 hfr
   have hB5_132 := hB5.fr0 hfr
   have hB6_133 := hB6.fr0 hfr
   have hFr_134 := hFr.new hfr
   have hK := KeptP.refl (fun k => k = w108.heap.size ∨ k = w108.heap.size + 1 ∨ (k = b107 ∨ w108.heap.size + 2 ≤ k)) W
   have htm1 : a1.tmps = (a.tmps.setIfInBounds 25 (.string x.1)).setIfInBounds 26 (.int .i64 x.2) := by simpa [encP] using htm
   have s25 : a1.eval (.tmp 25) = (.string x.1) := par2_fst h109.sd rfl rfl htm1
   have hE := (En.nil hz1).add s25
   have s26 : a1.eval (.tmp 26) = (.int .i64 x.2) := par2_snd h109.sd rfl htm1
   replace hE := hE.add s26
   have s4_135 : a1.eval (.tmp 4) = (.pointer (some ⟨b4, 0, none⟩)) := par2_other htm1 rfl rfl h109.e
   replace hE := hE.add s4_135
   have s5_136 : a1.eval (.tmp 5) = (.pointer (some ⟨b12, 0, none⟩)) := par2_other htm1 rfl rfl h109.e
   replace hE := hE.add s5_136
   have s6_137 : a1.eval (.tmp 6) = (.pointer (some ⟨b21, 0, none⟩)) := par2_other htm1 rfl rfl h109.e
   replace hE := hE.add s6_137
   have s7_138 : a1.eval (.tmp 7) = (.int .i64 0) := par2_other htm1 rfl rfl h109.e
   replace hE := hE.add s7_138
   have s8_139 : a1.eval (.tmp 8) = (.pointer (some ⟨b79, 0, none⟩)) := par2_other htm1 rfl rfl h109.e
   replace hE := hE.add s8_139
   refine V.sr hE [] 1 0 [(9, .string x.1)] fun a h142 => ?_
   refine V.rr h142 [] 1 0 [(10, .int .i64 x.2)] fun a h143 => ?_
   refine ⟨hK, fun W2 hf2 => ?_⟩
   have hszf2 := hf2.size
   have hB8_144 := hB8_130.fr1 hf2 (by omega)
   have hB4_145 := hB4_131.fr1 hf2 (by omega)
   have hB5_146 := hB5_132.fr1 hf2 (by omega)
   have hB6_147 := hB6_133.fr1 hf2 (by omega)
   have hFr_148 := hFr_134.own hf2 (by simp <;> omega)
   have hK2 := KeptP.refl (fun k => k = w108.heap.size ∨ k = w108.heap.size + 1 ∨ (k = b107 ∨ w108.heap.size + 2 ≤ k)) W2
   refine V.block ?_
   refine V.seq fun K149 k150 => ?_
   refine V.sr h143 [(0, .b hB8_144 0), (0, .eq (((d % T.n : Nat) : Int) - (pre.length : Int)) 0)] 27 27 [(28, .bool (decide ((((d % T.n : Nat) : Int) - (pre.length : Int)) = 0)))] fun a h153 => ?_
   refine V.cp h153 ((((d % T.n : Nat) : Int) - (pre.length : Int)) = 0) (fun ht154 => ?_) (fun ht154 => ?_)
   ·
    refine V.sg fun K155 k156 => ?_
    refine V.run h153 [] 2 1 0 [(29, .string x.1), (30, .int .i64 x.2)] fun a h160 => ?_
    refine V.go (V.stn b4 0 (.string x.1) [.string x.1] h160.e h160.e rfl rfl (by kernel_rfl) hB4_145 (by simp) [.string x.1] rfl ?_)
    intro w157 hB158 hF159 hsw157
    have hB8_161 := hB8_144.fr1 hF159 (by omega)
    have hB5_162 := hB5_146.fr1 hF159 (by omega)
    have hB6_163 := hB6_147.fr1 hF159 (by omega)
    have hFr_164 := hFr_148.own hF159 (by simp <;> omega)
    have hK2_165 := hK2.fr hF159 (by intro k hk; simp only [List.mem_singleton] at hk; subst hk; intro h; (try dsimp only at h); omega)
    refine V.go (V.stn b12 0 (.int .i64 x.2) [.int .i64 x.2] h160.e h160.e rfl rfl (by kernel_rfl) hB5_162 (by simp) [.int .i64 x.2] rfl ?_)
    intro w166 hB167 hF168 hsw166
    have hB8_169 := hB8_161.fr1 hF168 (by omega)
    have hB6_170 := hB6_163.fr1 hF168 (by omega)
    have hFr_171 := hFr_164.own hF168 (by simp <;> omega)
    have hK2_172 := hK2_165.fr hF168 (by intro k hk; simp only [List.mem_singleton] at hk; subst hk; intro h; (try dsimp only at h); omega)
    have hB158_173 := hB158.fr1 hF168 (by omega)
    refine V.go (V.stn b21 0 (.bool true) [.bool true] h160.e evc rfl rfl (by kernel_rfl) hB6_170 (by simp) [.bool true] rfl ?_)
    intro w174 hB175 hF176 hsw174
    have hB8_177 := hB8_169.fr1 hF176 (by omega)
    have hFr_178 := hFr_171.own hF176 (by simp <;> omega)
    have hK2_179 := hK2_172.fr hF176 (by intro k hk; simp only [List.mem_singleton] at hk; subst hk; intro h; (try dsimp only at h); omega)
    have hB158_180 := hB158_173.fr1 hF176 (by omega)
    have hB167_181 := hB167.fr1 hF176 (by omega)
    refine V.nt (k156 _ _ ?_)
    refine V.ret ?_
    refine V.then_r ?_
    refine V.blk_r ?_
    obtain ⟨rest, hrest⟩ := hsp
    have hpk : (pickT (⟨#[]⟩, 0) T d).1 = x := pick_at hrest (by omega) (by omega)
    exact ⟨hK2_179, rfl, _, hB8_177, (by rw [hpk]; exact hB158_180), (by rw [hpk]; exact hB167_181), hB175, hFr_178⟩
   ·
    refine V.skip ?_
    refine V.then_n (k150 _ _ ?_)
    refine V.rg ?_
    refine V.run h153 [(0, .b hB8_144 0), (0, .i ((((d % T.n : Nat) : Int) - (pre.length : Int)) - 1))] 2 31 31 [(32, .int .i64 ((((d % T.n : Nat) : Int) - (pre.length : Int)) - 1))] fun a h185 => ?_
    refine V.go (V.stn b79 0 (.int .i64 ((((d % T.n : Nat) : Int) - (pre.length : Int)) - 1)) [.int .i64 ((((d % T.n : Nat) : Int) - (pre.length : Int)) - 1)] h185.e h185.e rfl rfl (by kernel_rfl) hB8_144 (by simp) [.int .i64 ((((d % T.n : Nat) : Int) - (pre.length : Int)) - 1)] rfl ?_)
    intro w182 hB183 hF184 hsw182
    have hB4_186 := hB4_145.fr1 hF184 (by omega)
    have hB5_187 := hB5_146.fr1 hF184 (by omega)
    have hB6_188 := hB6_147.fr1 hF184 (by omega)
    have hFr_189 := hFr_148.own hF184 (by simp <;> omega)
    have hK2_190 := hK2.fr hF184 (by intro k hk; simp only [List.mem_singleton] at hk; subst hk; intro h; (try dsimp only at h); omega)
    refine V.nil ?_
    refine V.blk_n ?_
    exact ⟨hK2_190, (by rw [show ((d % T.n : Nat) : Int) - ((pre ++ [x]).length : Int) = ((d % T.n : Nat) : Int) - (pre.length : Int) - 1 by simp; omega]; exact hB183), hB4_186, hB5_187, hB6_188, hFr_189, (by simp; omega)⟩
  ·
   rintro xs W hS ⟨hB8, hB4, hB5, hB6, hFr, hat⟩ hD a2 hz2 htm2
   obtain ⟨pre, hprexs⟩ : ∃ pre, pre = xs := ⟨_, rfl⟩; subst hprexs
   have hE := En.nil hz2
   have hlt191 := hB8.lt
   have hlt192 := hB4.lt
   have hlt193 := hB5.lt
   have hlt194 := hB6.lt
   have hfs195 := hFr.size
   have hDf : Df W (w108.heap.size) := hD
   have hDlt := (Array.getElem?_eq_some_iff.1 hD).1
   have s4_196 : a2.eval (.tmp 4) = (.pointer (some ⟨b4, 0, none⟩)) := par_tm htm2 h109.e
   replace hE := hE.add s4_196
   have s5_197 : a2.eval (.tmp 5) = (.pointer (some ⟨b12, 0, none⟩)) := par_tm htm2 h109.e
   replace hE := hE.add s5_197
   have s6_198 : a2.eval (.tmp 6) = (.pointer (some ⟨b21, 0, none⟩)) := par_tm htm2 h109.e
   replace hE := hE.add s6_198
   have s7_199 : a2.eval (.tmp 7) = (.int .i64 0) := par_tm htm2 h109.e
   replace hE := hE.add s7_199
   refine V.blk_n ?_
   refine V.then_n (k101 _ _ ?_)
   refine V.sg fun K200 k201 => ?_
   refine V.run hE [] 1 1 0 [(33, .int .i64 0)] fun a h205 => ?_
   refine V.go (V.stn b4 0 (.string ⟨#[]⟩) [.string ⟨#[]⟩] h205.e evc rfl rfl (by kernel_rfl) hB4 (by simp) [.string ⟨#[]⟩] rfl ?_)
   intro w202 hB203 hF204 hsw202
   have hB8_206 := hB8.fr1 hF204 (by omega)
   have hB5_207 := hB5.fr1 hF204 (by omega)
   have hB6_208 := hB6.fr1 hF204 (by omega)
   have hFr_209 := hFr.own hF204 (by simp <;> omega)
   have hDf_210 := hDf.fr hF204 (by simp <;> omega)
   refine V.go (V.stn b12 0 (.int .i64 0) [.int .i64 0] h205.e h205.e rfl rfl (by kernel_rfl) hB5_207 (by simp) [.int .i64 0] rfl ?_)
   intro w211 hB212 hF213 hsw211
   have hB8_214 := hB8_206.fr1 hF213 (by omega)
   have hB6_215 := hB6_208.fr1 hF213 (by omega)
   have hFr_216 := hFr_209.own hF213 (by simp <;> omega)
   have hDf_217 := hDf_210.fr hF213 (by simp <;> omega)
   have hB203_218 := hB203.fr1 hF213 (by omega)
   refine V.go (V.stn b21 0 (.bool false) [.bool false] h205.e evc rfl rfl (by kernel_rfl) hB6_215 (by simp) [.bool false] rfl ?_)
   intro w219 hB220 hF221 hsw219
   have hB8_222 := hB8_214.fr1 hF221 (by omega)
   have hFr_223 := hFr_216.own hF221 (by simp <;> omega)
   have hDf_224 := hDf_217.fr hF221 (by simp <;> omega)
   have hB203_225 := hB203_218.fr1 hF221 (by omega)
   have hB212_226 := hB212.fr1 hF221 (by omega)
   refine V.nt (k201 _ _ ?_)
   refine V.ret ?_
   refine V.retM h205.sd hDf_224 (fun w227 hF228 => ?_)
   have hsw227 := hF228.size
   have hB8_229 := hB8_222.fr1 hF228 (by omega)
   have hFr_230 := hFr_223.own hF228 (by simp <;> omega)
   have hB203_231 := hB203_225.fr1 hF228 (by omega)
   have hB212_232 := hB212_226.fr1 hF228 (by omega)
   have hB220_233 := hB220.fr1 hF228 (by omega)
   refine ⟨_, V.resCCC rfl _ _ _ (h205.e (v := (.pointer (some ⟨b4, 0, none⟩)))) (h205.e (v := (.pointer (some ⟨b12, 0, none⟩)))) (h205.e (v := (.pointer (some ⟨b21, 0, none⟩)))) (V.run_loadVar_scalar (by kernel_rfl) (hB203_231.at 0 rfl)) (V.run_loadVar_scalar (by kernel_rfl) (hB212_232.at 0 rfl)) (V.run_loadVar_scalar (by kernel_rfl) (hB220_233.at 0 rfl)), ?_⟩
   exact absurd (congrArg List.length hS) (by rw [hcn]; omega)
  ·
   rintro c pre W hSp ⟨hc, z8, hB8, hB4, hB5, hB6, hFr⟩ hD a2 hz2 htm2
   subst hc
   have hE := En.nil hz2
   have hlt234 := hB8.lt
   have hlt235 := hB4.lt
   have hlt236 := hB5.lt
   have hlt237 := hB6.lt
   have hfs238 := hFr.size
   have hDf : Df W (w108.heap.size) := hD
   have hDlt := (Array.getElem?_eq_some_iff.1 hD).1
   have s4_239 : a2.eval (.tmp 4) = (.pointer (some ⟨b4, 0, none⟩)) := par_tm htm2 h109.e
   replace hE := hE.add s4_239
   have s5_240 : a2.eval (.tmp 5) = (.pointer (some ⟨b12, 0, none⟩)) := par_tm htm2 h109.e
   replace hE := hE.add s5_240
   have s6_241 : a2.eval (.tmp 6) = (.pointer (some ⟨b21, 0, none⟩)) := par_tm htm2 h109.e
   replace hE := hE.add s6_241
   have s7_242 : a2.eval (.tmp 7) = (.int .i64 0) := par_tm htm2 h109.e
   replace hE := hE.add s7_242
   refine V.ret ?_
   refine V.blk_r ?_
   refine V.then_r ?_
   refine V.retM hE.sd hDf (fun w243 hF244 => ?_)
   have hsw243 := hF244.size
   have hB8_245 := hB8.fr1 hF244 (by omega)
   have hB4_246 := hB4.fr1 hF244 (by omega)
   have hB5_247 := hB5.fr1 hF244 (by omega)
   have hB6_248 := hB6.fr1 hF244 (by omega)
   have hFr_249 := hFr.own hF244 (by simp <;> omega)
   refine ⟨_, V.resCCC rfl _ _ _ (hE.e (v := (.pointer (some ⟨b4, 0, none⟩)))) (hE.e (v := (.pointer (some ⟨b12, 0, none⟩)))) (hE.e (v := (.pointer (some ⟨b21, 0, none⟩)))) (V.run_loadVar_scalar (by kernel_rfl) (hB4_246.at 0 rfl)) (V.run_loadVar_scalar (by kernel_rfl) (hB5_247.at 0 rfl)) (V.run_loadVar_scalar (by kernel_rfl) (hB6_248.at 0 rfl)), ?_⟩
   refine ⟨?_, hFr_249⟩
   have hpo : (pickT (⟨#[]⟩, 0) T d).2 = true := by (unfold pickT; rw [if_neg (by omega)])
   rw [hpo]
end Go.Proofs.Ytalhmegjomfbaaa
