/- Walks: a key by a draw. -/
import Derived.Test.YtalhmegjomfbaaaProg
import Derived.Test.YtalhmegjomfbaaaRe
namespace Go.Proofs.Ytalhmegjomfbaaa
open Go.V Go.Base
open Go.RowKit (Below)
attribute [local irreducible] Act.put Act.eval
set_option linter.unusedVariables false
set_option linter.unusedSimpArgs false
/-- A key and its value, by a draw. -/
def pickT {α : Type} (z : ByteArray × α) (T : Tb α) (d : Nat) : (ByteArray × α) × Bool := if T.n = 0 then (z, false) else ((T.a ++ T.b).flatten.getD (d % T.n) z, true)
theorem _root_.Go.V.TabX.blkN {α : Type} {tt te e : TypeId} {R : Rp (ByteArray × α)} {w : World} {H : Nat → Prop} {av : List Nat} {t : Nat} {T : Tb α} (h : TabX tt te e R w H av t T) : ∃ v0 v1 v2 v3, Blk w t [v0, v1, v2, v3, .int .i64 (T.n : Int)] tt := by
  rcases h.2 with ⟨_, gA, vsA, h⟩ | ⟨_, gA, gB, vsA, vsB, h⟩
  · exact ⟨_, _, _, _, h.blk⟩
  · exact ⟨_, _, _, _, h.blk⟩
set_option maxHeartbeats 4000000 in
set_option maxRecDepth 20000 in
theorem rpick_any (w : World) (H : Nat → Prop) (av : List Nat) (t : Nat) (T : Tb Int) (hT : TabX 40 42 60 itI w H av t T) (hHb : ∀ k, H k → k < w.heap.size) (d : Nat) (hd : d < 18446744073709551616) : Calls Try.prog 50 #[.pointer (some ⟨t, 0, none⟩), .int .u64 (d : Int)] w (fun e w' => e = .returned (.tuple #[.agg #[.string (pickT (⟨#[]⟩, 0) T d).1.1, .int .i64 (pickT (⟨#[]⟩, 0) T d).1.2], .bool (pickT (⟨#[]⟩, 0) T d).2]) ∧ Fr [] w w') := by
 have hF := Fr.refl [] w
 obtain ⟨p0, p1, p2, p3, hB⟩ := hT.blkN
 have hcn := hT.1.cn
 have hnn := hT.1.nn
 have hltt := hB.lt
 refine V.enter 24 Try.func50 rfl rfl ?_
 intro a hz ha
 have s0 : a.eval (.tmp 0) = (.pointer (some ⟨t, 0, none⟩)) := ha 0 _ rfl
 have s1 : a.eval (.tmp 1) = (.int .u64 (d : Int)) := ha 1 _ rfl
 clear ha
 refine V.seq (fun K1 hK2 => ?_)
 refine V.rg ?_
 refine V.go (V.mk [] trivial (by kernel_rfl) [.string ⟨#[]⟩, .int .i64 0] 60 (fun b => .pointer (some ⟨b, 0, none⟩)) (by kernel_rfl) ?_)
 intro w4 b3 heb3 hB5 hF6 hsb3
 have hF_7 := hF.new hF6
 have hT_8 := hT.alloc hF6 heb3 (by omega)
 have hB_9 := hB.fr0 hF6
 refine V.ga evc ?_
 refine V.nil ?_
 refine V.then_n (hK2 _ _ ?_)
 refine V.seq (fun K10 hK11 => ?_)
 refine V.seq (fun K12 hK13 => ?_)
 refine V.rg ?_
 refine V.gm (o2 rfl s0) ?_
 refine V.ge_ [(6, .pointer (some ⟨t, 0, none⟩))] ⟨(sm hz.p2 rfl), trivial⟩ (.pointer (some ⟨t, 0, none⟩)) ?_
 refine V.ge_ [(7, .pointer (some ⟨t, 0, none⟩))] ⟨(sm hz.p2.p1 rfl), trivial⟩ (.pointer (some ⟨t, 4, none⟩)) ?_
 refine V.go (V.ld ⟨t, 4, none⟩ (.int .i64 (T.n : Int)) (sm hz.p4 rfl) (by kernel_rfl) (hB_9.at 4 rfl) ?_)
 refine V.gf_ [(9, .int .i64 (T.n : Int))] ⟨(sm hz.p4.p1 rfl), trivial⟩ (.bool ((T.n : Int) == 0)) (.bool (decide ((T.n : Int) = 0))) V.t_eql ?_
 refine V.nil ?_
 refine V.then_n (hK13 _ _ ?_)
 refine V.flushW hz.p4.p2.p1 (fun a14 hz15 up16 => ?_)
 have s0_17 := up16 0 _ (o4 rfl (o2 rfl (o1 rfl s0)))
 have s1_18 := up16 1 _ (o4 rfl (o2 rfl (o1 rfl s1)))
 have s4_19 := up16 4 _ (o4 rfl (o2 rfl (sm hz rfl)))
 have s10_20 := up16 10 _ (sm hz.p4.p2 rfl)
 clear up16
 refine V.condP (p := (T.n : Int) = 0) (s10_20) (fun ht21 => ?_) (fun ht21 => ?_)
 ·
  refine V.seq (fun K22 hK23 => ?_)
  refine V.rg ?_
  refine V.ge_ [] trivial (.agg #[.string ⟨#[]⟩, .int .i64 0]) ?_
  refine V.go (V.stn b3 0 (.agg #[.string ⟨#[]⟩, .int .i64 0]) [.string ⟨#[]⟩, .int .i64 0] (o1 rfl s4_19) (sm hz15 rfl) rfl rfl (by kernel_rfl) hB5 (by simp) [.string ⟨#[]⟩, .int .i64 0] rfl ?_)
  intro w24 hB25 hF26 hsw24
  have hF_27 := hF_7.own hF26 (by simp <;> omega)
  have hT_28 := hT_8.fr hF26 (by intro k hk; simp only [List.mem_singleton] at hk; subst hk; exact .inl (by simp))
  have hB_29 := hB_9.fr1 hF26 (by omega)
  refine V.ga evc ?_
  refine V.nil ?_
  refine V.then_n (hK23 _ _ ?_)
  refine V.ret ?_
  refine V.then_r ?_
  refine V.retCT hz15.p2 rfl _ (o2 rfl s4_19) (V.run_loadVar_agg (cs := [.string ⟨#[]⟩, .int .i64 0]) (by kernel_rfl) (blk_cells hB25 0 _ rfl)) (sm hz15.p1 rfl) ?_
  refine ⟨?_, hF_27⟩
  unfold pickT
  rw [if_pos (by omega)]
 ·
  refine V.skip ?_
  refine V.then_n (hK11 _ _ ?_)
  refine V.seq (fun K30 hK31 => ?_)
  have hmod := Nat.mod_lt d (show 0 < T.n by omega)
  refine V.plan [[], [0], [], [], [3], [3, 4], [3, 4, 5], [3, 4, 5, 6], [2, 3, 4, 5, 6, 7], [2, 3, 4, 5, 6, 7, 8], [0, 1, 2, 3, 4, 5, 6, 7, 8, 9], [0, 1, 2, 3, 4, 5, 6, 7, 8, 9, 10], [0, 1, 2, 3, 4, 5, 6, 7, 8, 9, 10, 11], [0, 1, 2, 3, 4, 5, 6, 7, 8, 9, 10, 11, 12]] [([0, 2, 3, 4, 5, 6, 7, 8, 9], some (1, [6])), ([10, 11], some (12, [])), ([13], none)] (by kernel_rfl) (by kernel_rfl) (by exact fun _ _ _ _ h => h) ?_
  simp only [Plan.wpSegs, Plan.pickAll, Plan.nth, V.L_eq]
  obtain ⟨w32, hF33e⟩ : ∃ w1, w1 = w4.drew := ⟨_, rfl⟩
  rw [← hF33e]
  have hF33 : Fr [] w4 w32 := by rw [hF33e]; exact Fr.drew _ _
  have hsw32 : w32.heap.size = w4.heap.size := by rw [hF33e]; rfl
  clear hF33e
  have hF_34 := hF_7.new hF33
  have hT_35 := hT_8.fr0 hF33
  have hB_36 := hB_9.fr0 hF33
  have hB5_37 := hB5.fr0 hF33
  refine V.gm (s0_17) ?_
  refine V.gm (o1 rfl s1_18) ?_
  refine V.gm (o2 rfl s0_17) ?_
  refine V.ge_ [(15, .pointer (some ⟨t, 0, none⟩))] ⟨(sm hz15.p2 rfl), trivial⟩ (.pointer (some ⟨t, 0, none⟩)) ?_
  refine V.ge_ [(16, .pointer (some ⟨t, 0, none⟩))] ⟨(sm hz15.p2.p1 rfl), trivial⟩ (.pointer (some ⟨t, 4, none⟩)) ?_
  refine V.go (V.ld ⟨t, 4, none⟩ (.int .i64 (T.n : Int)) (sm hz15.p4 rfl) (by kernel_rfl) (hB_36.at 4 rfl) ?_)
  refine V.gf_ [(18, .int .i64 (T.n : Int))] ⟨(sm hz15.p4.p1 rfl), trivial⟩ (.int .u64 (IntKind.u64.wrap (T.n : Int))) (.int .u64 (T.n : Int)) (V.w_u64 (by omega) (by omega)) ?_
  refine V.go (V.remN d T.n (o4 rfl (o1 rfl (sm hz15.p1 rfl))) (sm hz15.p4.p2 rfl) (by omega) ?_)
  refine V.gf_ [(20, .int .u64 ((d % T.n : Nat) : Int))] ⟨(sm hz15.p4.p2.p1 rfl), trivial⟩ (.int .i64 (IntKind.i64.wrap ((d % T.n : Nat) : Int))) (.int .i64 ((d % T.n : Nat) : Int)) (V.w_i64 (by omega) (by omega)) ?_
  refine V.nil ?_
  refine ⟨chk [(15, .pointer (some ⟨t, 0, none⟩)), (18, .int .i64 (T.n : Int)), (14, .int .u64 (d : Int)), (19, .int .u64 (T.n : Int)), (20, .int .u64 ((d % T.n : Nat) : Int))] ⟨(o4 rfl (o2 rfl (sm hz15.p2 rfl))), (o2 rfl (o1 rfl (sm hz15.p4.p1 rfl))), (o4 rfl (o2 rfl (o1 rfl (sm hz15.p1 rfl)))), (o2 rfl (sm hz15.p4.p2 rfl)), (o1 rfl (sm hz15.p4.p2.p1 rfl)), trivial⟩ (by kernel_rfl), ?_⟩
  refine V.go (V.call 21 #[] #[.pointer (some ⟨t, 0, none⟩)] evf (args1 (o8 rfl (sm hz15 rfl))) (Go.Proofs.enters_of Try.func21 (by kernel_rfl) rfl) (rall_any w32 (H) (b3 :: av) t (T) hT_35 (fun k hk => by have := hHb k hk; omega)) ?_)
  rintro _ w43 ⟨A38, c39, rfl, hO40, hF41⟩
  refine ⟨_, rfl, ?_⟩
  have hsw43 := hF41.size
  have hF_44 := hF_34.new hF41
  have hT_45 := hT_35.fr0 hF41
  have hB_46 := hB_36.fr0 hF41
  have hB5_47 := hB5_37.fr0 hF41
  have hS42 := hO40.read (Z' := fun k => w32.heap.size ≤ k) (fun _ _ h => h.elim) (fun b hb _ => hb)
  refine V.nil ?_
  refine ⟨(fun _ => held_blk (n := 1) (hx := (o4 rfl (sm hz15.p4 rfl))) hB_36 hB_46 (by kernel_rfl) rfl (by simp only [List.length]; omega)), ?_⟩
  obtain ⟨g48, o49, hA50, hA50l, hA50z⟩ := hS42.addr (by omega)
  try dsimp only at hA50z
  refine V.go (V.ixa g48 o49 T.n c39 .i64 ((d % T.n : Nat) : Int) 2 ((sm hz15.p8.p1 rfl).trans (by rw [hA50])) (o1 rfl (sm hz15.p8 rfl)) (by omega) (by omega) (by kernel_rfl) ?_)
  obtain ⟨cs51, hok52, hE53⟩ := hS42.els hA50 ((d % T.n : Nat) : Int) (by omega) (by omega)
  obtain rfl : cs51 = [.string (at_ itI ((T.a ++ T.b).flatten) ((d % T.n : Nat) : Int)).1, .int .i64 (at_ itI ((T.a ++ T.b).flatten) ((d % T.n : Nat) : Int)).2] := hok52
  refine V.go (V.lds ⟨g48, o49 + ((d % T.n : Nat) : Int).toNat * 2, none⟩ [.string ((at_ itI ((T.a ++ T.b).flatten) ((d % T.n : Nat) : Int)).1), .int .i64 ((at_ itI ((T.a ++ T.b).flatten) ((d % T.n : Nat) : Int)).2)] (sm hz15.p8.p2 rfl) (by kernel_rfl) (hE53.cells 0 _ rfl) ?_)
  refine V.nil ?_
  refine ⟨chk [] trivial (by kernel_rfl), ?_⟩
  refine V.go (V.stn b3 0 (.agg #[.string ((at_ itI ((T.a ++ T.b).flatten) ((d % T.n : Nat) : Int)).1), .int .i64 ((at_ itI ((T.a ++ T.b).flatten) ((d % T.n : Nat) : Int)).2)]) [.string ((at_ itI ((T.a ++ T.b).flatten) ((d % T.n : Nat) : Int)).1), .int .i64 ((at_ itI ((T.a ++ T.b).flatten) ((d % T.n : Nat) : Int)).2)] (o8 rfl (o4 rfl s4_19)) (sm hz15.p8.p2.p1 rfl) rfl rfl (by kernel_rfl) hB5_47 (by simp) [.string ((at_ itI ((T.a ++ T.b).flatten) ((d % T.n : Nat) : Int)).1), .int .i64 ((at_ itI ((T.a ++ T.b).flatten) ((d % T.n : Nat) : Int)).2)] rfl ?_)
  intro w54 hB55 hF56 hsw54
  have hF_57 := hF_44.own hF56 (by simp <;> omega)
  have hT_58 := hT_45.fr hF56 (by intro k hk; simp only [List.mem_singleton] at hk; subst hk; exact .inl (by simp))
  have hB_59 := hB_46.fr1 hF56 (by omega)
  have hS42_60 := hS42.fr hF56 (by simp <;> omega)
  have hE53_61 := hE53.fr hF56 (by simp <;> omega)
  refine V.nil ?_
  refine ⟨trivial, ?_⟩
  refine V.ga evc ?_
  refine V.nil ?_
  refine ⟨chk [] trivial (by kernel_rfl), ?_⟩
  refine V.then_n (hK31 _ _ ?_)
  refine V.flushW hz15.p8.p4.p1 (fun a62 hz63 up64 => ?_)
  have s4_65 := up64 4 _ (o8 rfl (o4 rfl (o1 rfl s4_19)))
  have s5_66 := up64 5 _ (sm hz15.p8.p4 rfl)
  clear up64
  refine V.ret ?_
  refine V.retCT hz63 rfl _ (s4_65) (V.run_loadVar_agg (cs := [.string ((at_ itI ((T.a ++ T.b).flatten) ((d % T.n : Nat) : Int)).1), .int .i64 ((at_ itI ((T.a ++ T.b).flatten) ((d % T.n : Nat) : Int)).2)]) (by kernel_rfl) (blk_cells hB55 0 _ rfl)) (s5_66) ?_
  refine ⟨?_, hF_57⟩
  unfold pickT
  rw [if_neg (by omega)]; rfl
def encP (x : ByteArray × Int) : Array Value := #[.string x.1, .int .i64 x.2]
theorem pick_at {T : Tb Int} {d : Nat} {pre rest : List (ByteArray × Int)} {x : ByteArray × Int} (h : pre ++ [x] ++ rest = (T.a ++ T.b).flatten) (hn : T.n ≠ 0) (hd : pre.length = d % T.n) : (pickT (⟨#[]⟩, 0) T d).1 = x := by
  unfold pickT
  rw [if_neg hn, ← h, ← hd]
  simp
theorem all1_iter (w : World) (H : Nat → Prop) (av : List Nat) (t : Nat) (T : Tb Int) (hT : TabX 67 87 86 itI w H av t T) (hHb : ∀ k, H k → k < w.heap.size) (b : Nat) (hB : Blk w b [.pointer (some ⟨t, 0, none⟩)] 28) :
    IterP Try.prog 69 #[.pointer (some ⟨b, 0, none⟩)] encP (fun _ _ _ => True) (fun xs => xs = (T.a ++ T.b).flatten) (fun pre => ∃ rest, pre ++ rest = (T.a ++ T.b).flatten) (fun k => k = b ∨ w.heap.size + 2 ≤ k) w := by
  intro W1 f hsz l J Jx hY h0
  refine (all1_any W1 H av t T (hT.fr0 f) (fun k hk => by have := hHb k hk; omega) b (hB.fr0 f) (.func (.yield l) #[] #[]) (fun n pre W => ∃ W0, J pre W0 ∧ Fr [] W0 W) (fun n pre W => Jx pre W) ?_ ?_ ?_).mono ?_
  · rintro n pre W W' ⟨W0, hj, hf⟩ f'
    exact ⟨W0, hj, hf.trans f' (by simp)⟩
  · intro W2 f'
    exact ⟨W1, h0, f'⟩
  · rintro n pre x W hn hnl ⟨W0, hj, hf⟩ ⟨rest, hr⟩
    refine .inl ⟨l, rfl, (hY pre x W0 W hj hf trivial ⟨rest, by simpa using hr⟩).mono ?_⟩
    rintro e W' (⟨he, hj', hk⟩ | ⟨he, hj'⟩)
    · exact .inl ⟨he, ⟨W', hj', Fr.refl _ _⟩, hk.1, fun k hlt hK => hk.2 k hlt (.inr (by omega))⟩
    · exact .inr ⟨he, hj'⟩
  · rintro e W' ⟨he, ⟨n, hn, W0, hj, hf⟩ | ⟨n, pre, hn, hp, hj⟩⟩
    · exact ⟨he, .inl ⟨_, W0, rfl, hj, hf⟩⟩
    · exact ⟨he, .inr ⟨pre, W', hp, hj, Fr.refl _ _⟩⟩
set_option maxHeartbeats 4000000 in
set_option maxRecDepth 20000 in
theorem pick_any (w : World) (H : Nat → Prop) (av : List Nat) (t : Nat) (T : Tb Int) (hT : TabX 67 87 86 itI w H av t T) (hHb : ∀ k, H k → k < w.heap.size) (d : Nat) (hd : d < 18446744073709551616) : Calls Try.prog 37 #[.pointer (some ⟨t, 0, none⟩), .int .u64 (d : Int)] w (fun e w' => e = .returned (.tuple #[.string (pickT (⟨#[]⟩, 0) T d).1.1, .int .i64 (pickT (⟨#[]⟩, 0) T d).1.2, .bool (pickT (⟨#[]⟩, 0) T d).2]) ∧ Fr [] w w') := by
 have hF := Fr.refl [] w
 obtain ⟨p0, p1, p2, p3, hB⟩ := hT.blkN
 have hcn := hT.1.cn
 have hnn := hT.1.nn
 have hltt := hB.lt
 refine V.enterM 34 Try.func37 rfl rfl ?_
 intro a hz ha
 have s0 : a.eval (.tmp 0) = (.pointer (some ⟨t, 0, none⟩)) := ha 0 _ rfl
 have s1 : a.eval (.tmp 1) = (.int .u64 (d : Int)) := ha 1 _ rfl
 clear ha
 refine V.seq (fun K1 hK2 => ?_)
 refine V.rg ?_
 refine V.go (V.mk [] trivial (by kernel_rfl) [.string ⟨#[]⟩] 9 (fun b => .pointer (some ⟨b, 0, none⟩)) (by kernel_rfl) ?_)
 intro w4 b3 heb3 hB5 hF6 hsb3
 have hF_7 := hF.new hF6
 have hT_8 := hT.alloc hF6 heb3 (by omega)
 have hB_9 := hB.fr0 hF6
 refine V.go (V.mk [] trivial (by kernel_rfl) [.int .i64 0] 3 (fun b => .pointer (some ⟨b, 0, none⟩)) (by kernel_rfl) ?_)
 intro w11 b10 heb10 hB12 hF13 hsb10
 have hF_14 := hF_7.new hF13
 have hT_15 := hT_8.alloc hF13 heb10 (by omega)
 have hB_16 := hB_9.fr0 hF13
 have hB5_17 := hB5.fr0 hF13
 refine V.go (V.mk [] trivial (by kernel_rfl) [.bool false] 4 (fun b => .pointer (some ⟨b, 0, none⟩)) (by kernel_rfl) ?_)
 intro w19 b18 heb18 hB20 hF21 hsb18
 have hF_22 := hF_14.new hF21
 have hT_23 := hT_15.alloc hF21 heb18 (by omega)
 have hB_24 := hB_16.fr0 hF21
 have hB5_25 := hB5_17.fr0 hF21
 have hB12_26 := hB12.fr0 hF21
 refine V.nil ?_
 refine V.then_n (hK2 _ _ ?_)
 refine V.seq (fun K27 hK28 => ?_)
 refine V.rg ?_
 refine V.ga evc ?_
 refine V.nil ?_
 refine V.then_n (hK28 _ _ ?_)
 refine V.flushW hz.p4 (fun a29 hz30 up31 => ?_)
 have s0_32 := up31 0 _ (o4 rfl s0)
 have s1_33 := up31 1 _ (o4 rfl s1)
 have s4_34 := up31 4 _ (o2 rfl (o1 rfl (sm hz rfl)))
 have s5_35 := up31 5 _ (o2 rfl (sm hz.p1 rfl))
 have s6_36 := up31 6 _ (o1 rfl (sm hz.p2 rfl))
 have s7_37 := up31 7 _ (sm hz.p2.p1 rfl)
 clear up31
 refine V.seq (fun K38 hK39 => ?_)
 refine V.seq (fun K40 hK41 => ?_)
 refine V.rg ?_
 refine V.gm (s0_32) ?_
 refine V.go (V.call 18 #[] #[.pointer (some ⟨t, 0, none⟩)] evf (args1 (sm hz30 rfl)) (Go.Proofs.enters_of Try.func18 (by kernel_rfl) rfl) (len_any w19 (H) (b18 :: b10 :: b3 :: av) t (T) hT_23) ?_)
 rintro _ w43 ⟨rfl, hF42⟩
 refine ⟨_, rfl, ?_⟩
 have hsw43 := hF42.size
 have hF_44 := hF_22.new hF42
 have hT_45 := hT_23.fr0 hF42
 have hB_46 := hB_24.fr0 hF42
 have hB5_47 := hB5_25.fr0 hF42
 have hB12_48 := hB12_26.fr0 hF42
 have hB20_49 := hB20.fr0 hF42
 refine V.gf_ [(12, .int .i64 (T.n : Int))] ⟨(sm hz30.p1 rfl), trivial⟩ (.bool ((T.n : Int) == 0)) (.bool (decide ((T.n : Int) = 0))) V.t_eql ?_
 refine V.nil ?_
 refine V.then_n (hK41 _ _ ?_)
 refine V.condP (p := (T.n : Int) = 0) (sm hz30.p2 rfl) (fun ht50 => ?_) (fun ht50 => ?_)
 ·
  refine V.seq (fun K51 hK52 => ?_)
  refine V.rg ?_
  refine V.gm (o2 rfl (o1 rfl s7_37)) ?_
  refine V.go (V.stn b3 0 (.string ⟨#[]⟩) [.string ⟨#[]⟩] (o4 rfl s4_34) evc rfl rfl (by kernel_rfl) hB5_47 (by simp) [.string ⟨#[]⟩] rfl ?_)
  intro w53 hB54 hF55 hsw53
  have hF_56 := hF_44.own hF55 (by simp <;> omega)
  have hT_57 := hT_45.fr hF55 (by intro k hk; simp only [List.mem_singleton] at hk; subst hk; exact .inl (by simp))
  have hB_58 := hB_46.fr1 hF55 (by omega)
  have hB12_59 := hB12_48.fr1 hF55 (by omega)
  have hB20_60 := hB20_49.fr1 hF55 (by omega)
  refine V.go (V.stn b10 0 (.int .i64 0) [.int .i64 0] (o4 rfl s5_35) (sm hz30.p2.p1 rfl) rfl rfl (by kernel_rfl) hB12_59 (by simp) [.int .i64 0] rfl ?_)
  intro w61 hB62 hF63 hsw61
  have hF_64 := hF_56.own hF63 (by simp <;> omega)
  have hT_65 := hT_57.fr hF63 (by intro k hk; simp only [List.mem_singleton] at hk; subst hk; exact .inl (by simp))
  have hB_66 := hB_58.fr1 hF63 (by omega)
  have hB20_67 := hB20_60.fr1 hF63 (by omega)
  have hB54_68 := hB54.fr1 hF63 (by omega)
  refine V.go (V.stn b18 0 (.bool false) [.bool false] (o4 rfl s6_36) evc rfl rfl (by kernel_rfl) hB20_67 (by simp) [.bool false] rfl ?_)
  intro w69 hB70 hF71 hsw69
  have hF_72 := hF_64.own hF71 (by simp <;> omega)
  have hT_73 := hT_65.fr hF71 (by intro k hk; simp only [List.mem_singleton] at hk; subst hk; exact .inl (by simp))
  have hB_74 := hB_66.fr1 hF71 (by omega)
  have hB54_75 := hB54_68.fr1 hF71 (by omega)
  have hB62_76 := hB62.fr1 hF71 (by omega)
  refine V.nil ?_
  refine V.then_n (hK52 _ _ ?_)
  refine V.flushW hz30.p4 (fun a77 hz78 up79 => ?_)
  have s0_80 := up79 0 _ (o4 rfl s0_32)
  have s1_81 := up79 1 _ (o4 rfl s1_33)
  have s4_82 := up79 4 _ (o4 rfl s4_34)
  have s5_83 := up79 5 _ (o4 rfl s5_35)
  have s6_84 := up79 6 _ (o4 rfl s6_36)
  have s7_85 := up79 7 _ (o4 rfl s7_37)
  clear up79
  refine V.ret ?_
  refine V.then_r ?_
  refine V.retM0 hz78 ⟨_, V.resCCC rfl _ _ _ (s4_82) (s5_83) (s6_84) (V.run_loadVar_scalar (by kernel_rfl) (hB54_75.at 0 rfl)) (V.run_loadVar_scalar (by kernel_rfl) (hB62_76.at 0 rfl)) (V.run_loadVar_scalar (by kernel_rfl) (hB70.at 0 rfl)), ?_⟩
  refine ⟨?_, hF_72⟩
  unfold pickT
  rw [if_pos (by omega)]
 ·
  refine V.skip ?_
  refine V.then_n (hK39 _ _ ?_)
  refine V.seq (fun K86 hK87 => ?_)
  have hmod := Nat.mod_lt d (show 0 < T.n by omega)
  refine V.rg ?_
  refine V.gm (o2 rfl (o1 rfl s1_33)) ?_
  refine V.gm (o4 rfl s0_32) ?_
  refine V.ge_ [(16, .pointer (some ⟨t, 0, none⟩))] ⟨(sm hz30.p4 rfl), trivial⟩ (.pointer (some ⟨t, 0, none⟩)) ?_
  refine V.ge_ [(17, .pointer (some ⟨t, 0, none⟩))] ⟨(sm hz30.p4.p1 rfl), trivial⟩ (.pointer (some ⟨t, 4, none⟩)) ?_
  refine V.go (V.ld ⟨t, 4, none⟩ (.int .i64 (T.n : Int)) (sm hz30.p4.p2 rfl) (by kernel_rfl) (hB_46.at 4 rfl) ?_)
  refine V.gf_ [(19, .int .i64 (T.n : Int))] ⟨(sm hz30.p4.p2.p1 rfl), trivial⟩ (.int .u64 (IntKind.u64.wrap (T.n : Int))) (.int .u64 (T.n : Int)) (V.w_u64 (by omega) (by omega)) ?_
  refine V.go (V.remN d T.n (o4 rfl (o1 rfl (sm hz30.p2.p1 rfl))) (sm hz30.p8 rfl) (by omega) ?_)
  refine V.gf_ [(21, .int .u64 ((d % T.n : Nat) : Int))] ⟨(sm hz30.p8.p1 rfl), trivial⟩ (.int .i64 (IntKind.i64.wrap ((d % T.n : Nat) : Int))) (.int .i64 ((d % T.n : Nat) : Int)) (V.w_i64 (by omega) (by omega)) ?_
  refine V.go (V.mk [] trivial (by kernel_rfl) [.int .i64 0] 3 (fun b => .pointer (some ⟨b, 0, none⟩)) (by kernel_rfl) ?_)
  intro w89 b88 heb88 hB90 hF91 hsb88
  have hF_92 := hF_44.new hF91
  have hT_93 := hT_45.alloc hF91 heb88 (by omega)
  have hB_94 := hB_46.fr0 hF91
  have hB5_95 := hB5_47.fr0 hF91
  have hB12_96 := hB12_48.fr0 hF91
  have hB20_97 := hB20_49.fr0 hF91
  refine V.go (V.stn b88 0 (.int .i64 ((d % T.n : Nat) : Int)) [.int .i64 ((d % T.n : Nat) : Int)] (sm hz30.p8.p2.p1 rfl) (o1 rfl (sm hz30.p8.p2 rfl)) rfl rfl (by kernel_rfl) hB90 (by simp) [.int .i64 ((d % T.n : Nat) : Int)] rfl ?_)
  intro w98 hB99 hF100 hsw98
  have hF_101 := hF_92.own hF100 (by simp <;> omega)
  have hT_102 := hT_93.fr hF100 (by intro k hk; simp only [List.mem_singleton] at hk; subst hk; exact .inl (by simp))
  have hB_103 := hB_94.fr1 hF100 (by omega)
  have hB5_104 := hB5_95.fr1 hF100 (by omega)
  have hB12_105 := hB12_96.fr1 hF100 (by omega)
  have hB20_106 := hB20_97.fr1 hF100 (by omega)
  refine V.nil ?_
  refine V.then_n (hK87 _ _ ?_)
  refine V.flushW hz30.p8.p4 (fun a107 hz108 up109 => ?_)
  have s0_110 := up109 0 _ (o8 rfl (o4 rfl s0_32))
  have s4_111 := up109 4 _ (o8 rfl (o4 rfl s4_34))
  have s5_112 := up109 5 _ (o8 rfl (o4 rfl s5_35))
  have s6_113 := up109 6 _ (o8 rfl (o4 rfl s6_36))
  have s7_114 := up109 7 _ (o8 rfl (o4 rfl s7_37))
  have s8_115 := up109 8 _ (sm hz30.p8.p2.p1 rfl)
  clear up109
  refine V.seq (fun K116 hK117 => ?_)
  refine V.seq (fun K118 hK119 => ?_)
  refine V.rg ?_
  refine V.gm (s0_110) ?_
  refine V.go (V.call 43 #[] #[.pointer (some ⟨t, 0, none⟩)] evf (args1 (sm hz108 rfl)) (Go.Proofs.enters_of Try.func43 (by kernel_rfl) rfl) (all_any w98 (some ⟨t, 0, none⟩)) ?_)
  rintro _ w123 ⟨b122, rfl, hB121, hleb122, hF120⟩
  refine ⟨_, rfl, ?_⟩
  have hsw123 := hF120.size
  have hF_124 := hF_101.new hF120
  have hT_125 := hT_102.fr0 hF120
  have hB_126 := hB_103.fr0 hF120
  have hB5_127 := hB5_104.fr0 hF120
  have hB12_128 := hB12_105.fr0 hF120
  have hB20_129 := hB20_106.fr0 hF120
  have hB99_130 := hB99.fr0 hF120
  have hlthB121 := hB121.lt
  refine V.nil ?_
  refine V.then_n (hK119 _ _ ?_)
  refine V.block ?_
  refine V.flushW hz108.p2 (fun a131 hz132 up133 => ?_)
  have s4_134 := up133 4 _ (o2 rfl s4_111)
  have s5_135 := up133 5 _ (o2 rfl s5_112)
  have s6_136 := up133 6 _ (o2 rfl s6_113)
  have s7_137 := up133 7 _ (o2 rfl s7_114)
  have s8_138 := up133 8 _ (o2 rfl s8_115)
  have s24_139 : a131.eval (.tmp 24) = (.func (.func 69) #[] #[.pointer (some ⟨b122, 0, none⟩)]) := up133 _ _ (sm hz108.p1 rfl)
  clear up133
  refine V.rngP hz132 (s24_139) (Go.Proofs.enters_of Try.func69 (by kernel_rfl) rfl) (KB := fun k => k = b122 ∨ w123.heap.size + 2 ≤ k) (fun k hk => by (try dsimp only at hk); omega) (all1_iter w123 (H) (b88 :: b18 :: b10 :: b3 :: av) t (T) hT_125 (fun k hk => by have := hHb k hk; omega) b122 hB121) (fun _ => rfl) (fun (pre : List (ByteArray × Int)) W_ => Blk W_ b88 [.int .i64 (((d % T.n : Nat) : Int) - (pre.length : Int))] 3 ∧ Blk W_ b3 [.string ⟨#[]⟩] 9 ∧ Blk W_ b10 [.int .i64 0] 3 ∧ Blk W_ b18 [.bool false] 4 ∧ Fr [] w W_ ∧ (pre.length ≤ d % T.n)) (fun c pre W_ => c = Code.ret ∧ ∃ (z8 : Int), Blk W_ b88 [.int .i64 z8] 3 ∧ Blk W_ b3 [.string ((pickT (⟨#[]⟩, 0) T d).1.1)] 9 ∧ Blk W_ b10 [.int .i64 ((pickT (⟨#[]⟩, 0) T d).1.2)] 3 ∧ Blk W_ b18 [.bool true] 4 ∧ Fr [] w W_) ?_ ?_ ?_ ?_ ?_ ?_
  ·
   rintro pre W W1 ⟨hB8, hB4, hB5, hB6, hFr, hat⟩ hf
   have := hB8.lt
   have := hB4.lt
   have := hB5.lt
   have := hB6.lt
   have := hFr.size
   exact ⟨(by exact hB8.fr1 hf (by omega)), (by exact hB4.fr1 hf (by omega)), (by exact hB5.fr1 hf (by omega)), (by exact hB6.fr1 hf (by omega)), (by exact hFr.own hf (by simp <;> omega)), hat⟩
  ·
   rintro c pre W W1 ⟨hc, z8, hB8, hB4, hB5, hB6, hFr⟩ hf
   have := hB8.lt
   have := hB4.lt
   have := hB5.lt
   have := hB6.lt
   have := hFr.size
   exact ⟨hc, z8, (by exact hB8.fr1 hf (by omega)), (by exact hB4.fr1 hf (by omega)), (by exact hB5.fr1 hf (by omega)), (by exact hB6.fr1 hf (by omega)), (by exact hFr.own hf (by simp <;> omega))⟩
  ·
   rintro W hf hszW
   have hF_140 := hF_124.new hf
   have hT_141 := hT_125.fr0 hf
   have hB_142 := hB_126.fr0 hf
   have hB5_143 := hB5_127.fr0 hf
   have hB12_144 := hB12_128.fr0 hf
   have hB20_145 := hB20_129.fr0 hf
   have hB99_146 := hB99_130.fr0 hf
   have hB121_147 := hB121.fr0 hf
   exact ⟨(by simpa using hB99_146), hB5_143, hB12_144, hB20_145, hF_140, (by simp)⟩
  ·
   rintro l pre x W0 W hl ⟨hB8, hB4, hB5, hB6, hFr, hat⟩ hfr hx hsp hsz a1 hz1 htm
   subst hl
   
   have hszfr := hfr.size
   have hlt148 := hB8.lt
   have hlt149 := hB4.lt
   have hlt150 := hB5.lt
   have hlt151 := hB6.lt
   have hfs152 := hFr.size
   have hB8_153 := hB8.fr0 hfr
   have hB4_154 := hB4.fr0 hfr
   have hB5_155 := hB5.fr0 hfr
   have hB6_156 := hB6.fr0 hfr
   have hFr_157 := hFr.new hfr
   have hK := KeptP.refl (fun k => k = w123.heap.size ∨ k = w123.heap.size + 1 ∨ (k = b122 ∨ w123.heap.size + 2 ≤ k)) W
   have htm1 : a1.tmps = (a131.tmps.setIfInBounds 25 (.string x.1)).setIfInBounds 26 (.int .i64 x.2) := by simpa [encP] using htm
   have s25 : a1.eval (.tmp 25) = (.string x.1) := par2_fst hz132 rfl rfl htm1
   have s26 : a1.eval (.tmp 26) = (.int .i64 x.2) := par2_snd hz132 rfl htm1
   have s4_158 : a1.eval (.tmp 4) = (.pointer (some ⟨b3, 0, none⟩)) := par2_other htm1 rfl rfl (s4_134)
   have s5_159 : a1.eval (.tmp 5) = (.pointer (some ⟨b10, 0, none⟩)) := par2_other htm1 rfl rfl (s5_135)
   have s6_160 : a1.eval (.tmp 6) = (.pointer (some ⟨b18, 0, none⟩)) := par2_other htm1 rfl rfl (s6_136)
   have s7_161 : a1.eval (.tmp 7) = (.int .i64 0) := par2_other htm1 rfl rfl (s7_137)
   have s8_162 : a1.eval (.tmp 8) = (.pointer (some ⟨b88, 0, none⟩)) := par2_other htm1 rfl rfl (s8_138)
   refine V.seq (fun K163 hK164 => ?_)
   refine V.rg ?_
   refine V.ga (s25) ?_
   refine V.nil ?_
   refine V.then_n (hK164 _ _ ?_)
   refine V.rg ?_
   refine V.ga (o1 rfl s26) ?_
   refine V.nil ?_
   refine ⟨hK, fun W2 hf2 => ?_⟩
   have hszf2 := hf2.size
   have hB8_165 := hB8_153.fr1 hf2 (by omega)
   have hB4_166 := hB4_154.fr1 hf2 (by omega)
   have hB5_167 := hB5_155.fr1 hf2 (by omega)
   have hB6_168 := hB6_156.fr1 hf2 (by omega)
   have hFr_169 := hFr_157.own hf2 (by simp <;> omega)
   have hK2 := KeptP.refl (fun k => k = w123.heap.size ∨ k = w123.heap.size + 1 ∨ (k = b122 ∨ w123.heap.size + 2 ≤ k)) W2
   refine V.block ?_
   refine V.seq (fun K170 hK171 => ?_)
   refine V.seq (fun K172 hK173 => ?_)
   refine V.rg ?_
   refine V.go (V.ld ⟨b88, 0, none⟩ (.int .i64 (((d % T.n : Nat) : Int) - (pre.length : Int))) (o2 rfl s8_162) (by kernel_rfl) (hB8_165.at 0 rfl) ?_)
   refine V.gf_ [(27, .int .i64 (((d % T.n : Nat) : Int) - (pre.length : Int)))] ⟨(sm hz1.p2 rfl), trivial⟩ (.bool ((((d % T.n : Nat) : Int) - (pre.length : Int)) == 0)) (.bool (decide ((((d % T.n : Nat) : Int) - (pre.length : Int)) = 0))) V.t_eql ?_
   refine V.nil ?_
   refine V.then_n (hK173 _ _ ?_)
   refine V.flushW hz1.p4 (fun a174 hz175 up176 => ?_)
   have s4_177 := up176 4 _ (o4 rfl s4_158)
   have s5_178 := up176 5 _ (o4 rfl s5_159)
   have s6_179 := up176 6 _ (o4 rfl s6_160)
   have s8_180 := up176 8 _ (o4 rfl s8_162)
   have s9_181 := up176 9 _ (o2 rfl (o1 rfl (sm hz1 rfl)))
   have s10_182 := up176 10 _ (o2 rfl (sm hz1.p1 rfl))
   have s28_183 := up176 28 _ (sm hz1.p2.p1 rfl)
   clear up176
   refine V.condP (p := (((d % T.n : Nat) : Int) - (pre.length : Int)) = 0) (s28_183) (fun ht184 => ?_) (fun ht184 => ?_)
   ·
    refine V.seq (fun K185 hK186 => ?_)
    refine V.rg ?_
    refine V.gm (s9_181) ?_
    refine V.gm (o1 rfl s10_182) ?_
    refine V.go (V.stn b3 0 (.string x.1) [.string x.1] (o2 rfl s4_177) (o1 rfl (sm hz175 rfl)) rfl rfl (by kernel_rfl) hB4_166 (by simp) [.string x.1] rfl ?_)
    intro w187 hB188 hF189 hsw187
    have hB8_190 := hB8_165.fr1 hF189 (by omega)
    have hB5_191 := hB5_167.fr1 hF189 (by omega)
    have hB6_192 := hB6_168.fr1 hF189 (by omega)
    have hFr_193 := hFr_169.own hF189 (by simp <;> omega)
    have hK2_194 := hK2.fr hF189 (by intro k hk; simp only [List.mem_singleton] at hk; subst hk; intro h; (try dsimp only at h); omega)
    refine V.go (V.stn b10 0 (.int .i64 x.2) [.int .i64 x.2] (o2 rfl s5_178) (sm hz175.p1 rfl) rfl rfl (by kernel_rfl) hB5_191 (by simp) [.int .i64 x.2] rfl ?_)
    intro w195 hB196 hF197 hsw195
    have hB8_198 := hB8_190.fr1 hF197 (by omega)
    have hB6_199 := hB6_192.fr1 hF197 (by omega)
    have hFr_200 := hFr_193.own hF197 (by simp <;> omega)
    have hK2_201 := hK2_194.fr hF197 (by intro k hk; simp only [List.mem_singleton] at hk; subst hk; intro h; (try dsimp only at h); omega)
    have hB188_202 := hB188.fr1 hF197 (by omega)
    refine V.go (V.stn b18 0 (.bool true) [.bool true] (o2 rfl s6_179) evc rfl rfl (by kernel_rfl) hB6_199 (by simp) [.bool true] rfl ?_)
    intro w203 hB204 hF205 hsw203
    have hB8_206 := hB8_198.fr1 hF205 (by omega)
    have hFr_207 := hFr_200.own hF205 (by simp <;> omega)
    have hK2_208 := hK2_201.fr hF205 (by intro k hk; simp only [List.mem_singleton] at hk; subst hk; intro h; (try dsimp only at h); omega)
    have hB188_209 := hB188_202.fr1 hF205 (by omega)
    have hB196_210 := hB196.fr1 hF205 (by omega)
    refine V.nil ?_
    refine V.then_n (hK186 _ _ ?_)
    refine V.ret ?_
    refine V.then_r ?_
    refine V.blk_r ?_
    obtain ⟨rest, hrest⟩ := hsp
    have hpk : (pickT (⟨#[]⟩, 0) T d).1 = x := pick_at hrest (by omega) (by omega)
    exact ⟨hK2_208, rfl, _, hB8_206, (by rw [hpk]; exact hB188_209), (by rw [hpk]; exact hB196_210), hB204, hFr_207⟩
   ·
    refine V.skip ?_
    refine V.then_n (hK171 _ _ ?_)
    refine V.rg ?_
    refine V.go (V.ld ⟨b88, 0, none⟩ (.int .i64 (((d % T.n : Nat) : Int) - (pre.length : Int))) (s8_180) (by kernel_rfl) (hB8_165.at 0 rfl) ?_)
    refine V.gf_ [(31, .int .i64 (((d % T.n : Nat) : Int) - (pre.length : Int)))] ⟨(sm hz175 rfl), trivial⟩ (.int .i64 (IntKind.i64.wrap ((((d % T.n : Nat) : Int) - (pre.length : Int)) - 1))) (.int .i64 ((((d % T.n : Nat) : Int) - (pre.length : Int)) - 1)) (V.w_i64 (by omega) (by omega)) ?_
    refine V.go (V.stn b88 0 (.int .i64 ((((d % T.n : Nat) : Int) - (pre.length : Int)) - 1)) [.int .i64 ((((d % T.n : Nat) : Int) - (pre.length : Int)) - 1)] (o2 rfl s8_180) (sm hz175.p1 rfl) rfl rfl (by kernel_rfl) hB8_165 (by simp) [.int .i64 ((((d % T.n : Nat) : Int) - (pre.length : Int)) - 1)] rfl ?_)
    intro w211 hB212 hF213 hsw211
    have hB4_214 := hB4_166.fr1 hF213 (by omega)
    have hB5_215 := hB5_167.fr1 hF213 (by omega)
    have hB6_216 := hB6_168.fr1 hF213 (by omega)
    have hFr_217 := hFr_169.own hF213 (by simp <;> omega)
    have hK2_218 := hK2.fr hF213 (by intro k hk; simp only [List.mem_singleton] at hk; subst hk; intro h; (try dsimp only at h); omega)
    refine V.nil ?_
    refine V.blk_n ?_
    exact ⟨hK2_218, (by rw [show ((d % T.n : Nat) : Int) - ((pre ++ [x]).length : Int) = ((d % T.n : Nat) : Int) - (pre.length : Int) - 1 by simp; omega]; exact hB212), hB4_214, hB5_215, hB6_216, hFr_217, (by simp; omega)⟩
  ·
   rintro xs W hS ⟨hB8, hB4, hB5, hB6, hFr, hat⟩ hD a2 hz2 htm2
   obtain ⟨pre, hprexs⟩ : ∃ pre, pre = xs := ⟨_, rfl⟩; subst hprexs
   have hlt219 := hB8.lt
   have hlt220 := hB4.lt
   have hlt221 := hB5.lt
   have hlt222 := hB6.lt
   have hfs223 := hFr.size
   have hDf : Df W (w123.heap.size) := hD
   have hDlt := (Array.getElem?_eq_some_iff.1 hD).1
   have s4_224 : a2.eval (.tmp 4) = (.pointer (some ⟨b3, 0, none⟩)) := par_tm htm2 (s4_134)
   have s5_225 : a2.eval (.tmp 5) = (.pointer (some ⟨b10, 0, none⟩)) := par_tm htm2 (s5_135)
   have s6_226 : a2.eval (.tmp 6) = (.pointer (some ⟨b18, 0, none⟩)) := par_tm htm2 (s6_136)
   have s7_227 : a2.eval (.tmp 7) = (.int .i64 0) := par_tm htm2 (s7_137)
   refine V.blk_n ?_
   refine V.then_n (hK117 _ _ ?_)
   refine V.seq (fun K228 hK229 => ?_)
   refine V.rg ?_
   refine V.gm (s7_227) ?_
   refine V.go (V.stn b3 0 (.string ⟨#[]⟩) [.string ⟨#[]⟩] (o1 rfl s4_224) evc rfl rfl (by kernel_rfl) hB4 (by simp) [.string ⟨#[]⟩] rfl ?_)
   intro w230 hB231 hF232 hsw230
   have hB8_233 := hB8.fr1 hF232 (by omega)
   have hB5_234 := hB5.fr1 hF232 (by omega)
   have hB6_235 := hB6.fr1 hF232 (by omega)
   have hFr_236 := hFr.own hF232 (by simp <;> omega)
   have hDf_237 := hDf.fr hF232 (by simp <;> omega)
   refine V.go (V.stn b10 0 (.int .i64 0) [.int .i64 0] (o1 rfl s5_225) (sm hz2 rfl) rfl rfl (by kernel_rfl) hB5_234 (by simp) [.int .i64 0] rfl ?_)
   intro w238 hB239 hF240 hsw238
   have hB8_241 := hB8_233.fr1 hF240 (by omega)
   have hB6_242 := hB6_235.fr1 hF240 (by omega)
   have hFr_243 := hFr_236.own hF240 (by simp <;> omega)
   have hDf_244 := hDf_237.fr hF240 (by simp <;> omega)
   have hB231_245 := hB231.fr1 hF240 (by omega)
   refine V.go (V.stn b18 0 (.bool false) [.bool false] (o1 rfl s6_226) evc rfl rfl (by kernel_rfl) hB6_242 (by simp) [.bool false] rfl ?_)
   intro w246 hB247 hF248 hsw246
   have hB8_249 := hB8_241.fr1 hF248 (by omega)
   have hFr_250 := hFr_243.own hF248 (by simp <;> omega)
   have hDf_251 := hDf_244.fr hF248 (by simp <;> omega)
   have hB231_252 := hB231_245.fr1 hF248 (by omega)
   have hB239_253 := hB239.fr1 hF248 (by omega)
   refine V.nil ?_
   refine V.then_n (hK229 _ _ ?_)
   refine V.ret ?_
   refine V.retM hz2.p1 hDf_251 (fun w254 hF255 => ?_)
   have hsw254 := hF255.size
   have hB8_256 := hB8_249.fr1 hF255 (by omega)
   have hFr_257 := hFr_250.own hF255 (by simp <;> omega)
   have hB231_258 := hB231_252.fr1 hF255 (by omega)
   have hB239_259 := hB239_253.fr1 hF255 (by omega)
   have hB247_260 := hB247.fr1 hF255 (by omega)
   refine ⟨_, V.resCCC rfl _ _ _ (o1 rfl s4_224) (o1 rfl s5_225) (o1 rfl s6_226) (V.run_loadVar_scalar (by kernel_rfl) (hB231_258.at 0 rfl)) (V.run_loadVar_scalar (by kernel_rfl) (hB239_259.at 0 rfl)) (V.run_loadVar_scalar (by kernel_rfl) (hB247_260.at 0 rfl)), ?_⟩
   exact absurd (congrArg List.length hS) (by rw [hcn]; omega)
  ·
   rintro c pre W hSp ⟨hc, z8, hB8, hB4, hB5, hB6, hFr⟩ hD a2 hz2 htm2
   subst hc
   have hlt261 := hB8.lt
   have hlt262 := hB4.lt
   have hlt263 := hB5.lt
   have hlt264 := hB6.lt
   have hfs265 := hFr.size
   have hDf : Df W (w123.heap.size) := hD
   have hDlt := (Array.getElem?_eq_some_iff.1 hD).1
   have s4_266 : a2.eval (.tmp 4) = (.pointer (some ⟨b3, 0, none⟩)) := par_tm htm2 (s4_134)
   have s5_267 : a2.eval (.tmp 5) = (.pointer (some ⟨b10, 0, none⟩)) := par_tm htm2 (s5_135)
   have s6_268 : a2.eval (.tmp 6) = (.pointer (some ⟨b18, 0, none⟩)) := par_tm htm2 (s6_136)
   have s7_269 : a2.eval (.tmp 7) = (.int .i64 0) := par_tm htm2 (s7_137)
   refine V.ret ?_
   refine V.blk_r ?_
   refine V.then_r ?_
   refine V.retM hz2 hDf (fun w270 hF271 => ?_)
   have hsw270 := hF271.size
   have hB8_272 := hB8.fr1 hF271 (by omega)
   have hB4_273 := hB4.fr1 hF271 (by omega)
   have hB5_274 := hB5.fr1 hF271 (by omega)
   have hB6_275 := hB6.fr1 hF271 (by omega)
   have hFr_276 := hFr.own hF271 (by simp <;> omega)
   refine ⟨_, V.resCCC rfl _ _ _ (s4_266) (s5_267) (s6_268) (V.run_loadVar_scalar (by kernel_rfl) (hB4_273.at 0 rfl)) (V.run_loadVar_scalar (by kernel_rfl) (hB5_274.at 0 rfl)) (V.run_loadVar_scalar (by kernel_rfl) (hB6_275.at 0 rfl)), ?_⟩
   refine ⟨?_, hFr_276⟩
   have hpo : (pickT (⟨#[]⟩, 0) T d).2 = true := by (unfold pickT; rw [if_neg (by omega)])
   rw [hpo]
end Go.Proofs.Ytalhmegjomfbaaa
