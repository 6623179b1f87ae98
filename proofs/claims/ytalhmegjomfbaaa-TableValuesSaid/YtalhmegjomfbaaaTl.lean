/- Walks: the items as the law has them told. -/
import Derived.Test.YtalhmegjomfbaaaProg
import Derived.Test.YtalhmegjomfbaaaTj
namespace Go.Proofs.Ytalhmegjomfbaaa
open Go.V Go.Base
open Go.RowKit (Below)
attribute [local irreducible] Act.put Act.eval
set_option linter.unusedVariables false
set_option linter.unusedSimpArgs false
theorem info60 : (Try.prog.info? 60).map (fun i => (i.zero, i.size, i.bytes)) = some (some (.agg #[.string ⟨#[]⟩, .int .i64 0]), 2, 24) := by kernel_rfl
theorem info42 : (Try.prog.info? 42).map (fun i => (i.zero, i.size, i.bytes)) = some (some (.slice none 0 0), 1, 24) := by kernel_rfl
set_option maxHeartbeats 4000000 in
set_option maxRecDepth 20000 in
theorem items1_any (w : World) (n lb c : Nat) (A : Option Addr) (pre : List (ByteArray × Int)) (k : ByteArray) (v : Int) (hB : Blk w lb [.slice A pre.length c] 42) (hO : OwR itI NoZ w n 60 (.slice A pre.length c) pre) (hn : n ≤ w.heap.size) (hlb : lb < n) (hp : pre.length < 4999) : Calls Try.prog 52 #[.string k, .int .i64 v, .pointer (some ⟨lb, 0, none⟩)] w (fun e w' => e = .returned (.bool true) ∧ (∃ A' c', Blk w' lb [.slice A' (pre.length + 1) c'] 42 ∧ OwR itI NoZ w' n 60 (.slice A' (pre.length + 1) c') (pre ++ [(k, v)])) ∧ FrP (fun k => k = lb ∨ n ≤ k) w w') := by
 have hFP := FrP.refl (fun k => k = lb ∨ n ≤ k) w
 refine V.enter 15 Try.func52 rfl rfl ?_
 intro a hz ha
 have s0 : a.eval (.tmp 0) = (.string k) := ha 0 _ rfl
 have s1 : a.eval (.tmp 1) = (.int .i64 v) := ha 1 _ rfl
 have s2 : a.eval (.tmp 2) = (.pointer (some ⟨lb, 0, none⟩)) := ha 2 _ rfl
 clear ha
 refine V.seq (fun K1 hK2 => ?_)
 refine V.rg ?_
 refine V.ga evc ?_
 refine V.nil ?_
 refine V.then_n (hK2 _ _ ?_)
 refine V.seq (fun K3 hK4 => ?_)
 refine V.rg ?_
 refine V.go (V.ld ⟨lb, 0, none⟩ (.slice A pre.length c) (o1 rfl s2) (by kernel_rfl) (hB.at 0 rfl) ?_)
 refine V.gm (o2 rfl s0) ?_
 refine V.gm (o2 rfl (o1 rfl s1)) ?_
 refine V.ge_ [(7, .string k), (8, .int .i64 v)] ⟨(o1 rfl (sm hz.p2 rfl)), (sm hz.p2.p1 rfl), trivial⟩ (.agg #[.string k, .int .i64 v]) ?_
 refine V.go (V.mk [(9, .agg #[.string k, .int .i64 v])] ⟨(sm hz.p4 rfl), trivial⟩ (by kernel_rfl) [.string k, .int .i64 v] 60 (fun b => .slice (some ⟨b, 0, none⟩) 1 1) (by kernel_rfl) ?_)
 intro w6 b5 heb5 hB7 hF8 hsb5
 have hB_9 := hB.fr0 hF8
 have hO_10 := hO.fr0 hF8
 have hFP_11 := hFP.tr0 hF8
 refine V.go (V.app (R := itI) (ys := ([(k, v)])) (news := [.string k, .int .i64 v]) (o4 rfl (sm hz.p1 rfl)) ⟨b5, 0, none⟩ 1 1 (sm hz.p4.p1 rfl) (by kernel_rfl) (info60) (by kernel_rfl) (by decide) hO_10 rfl ⟨[.string k, .int .i64 v], [], rfl, rfl, rfl⟩ (blk_cells hB7 0 _ rfl) (by first | omega | (simp; omega)) (by decide) (by omega) ?_)
 intro A12 c13 w14 hO15z hF16 hatw14
 have hsw14 := hF16.size
 have hB_17 := hB_9.fr hF16 (by first | exact own_notin hO_10 (by omega))
 have hFP_18 := hFP_11.tr hF16 (fun k hk => .inl (by have := own_ge hO_10 (Nat.le_refl _) k hk; first | exact .inr this | (dsimp only; omega)))
 have hO15 := hO15z.zone (Z' := NoZ) (fun _ _ q => q.1) (fun _ _ q => q)
 refine V.go (V.stn lb 0 (.slice A12 ((pre.length) + 1) c13) [.slice A12 ((pre.length) + 1) c13] (o4 rfl (o2 rfl (o1 rfl s2))) (sm hz.p4.p2 rfl) rfl rfl (by kernel_rfl) hB_17 (by simp) [.slice A12 ((pre.length) + 1) c13] rfl ?_)
 intro w19 hB20 hF21 hsw19
 have hFP_22 := hFP_18.tr1 hF21 (by first | exact .inl (by assumption) | exact .inr (by omega) | exact .inl (.inl rfl))
 have hO15_23 := hO15.frn hF21 (fun h => h) (by first | exact own_ne hO15 (by omega) | exact own_ne2 hO15 (by omega))
 refine V.nil ?_
 refine V.then_n (hK4 _ _ ?_)
 refine V.flushW hz.p4.p2.p1 (fun a24 hz25 up26 => ?_)
 have s2_27 := up26 2 _ (o4 rfl (o2 rfl (o1 rfl s2)))
 clear up26
 refine V.seq (fun K28 hK29 => ?_)
 refine V.rg ?_
 refine V.go (V.ld ⟨lb, 0, none⟩ (.slice A12 ((pre.length) + 1) c13) (s2_27) (by kernel_rfl) (hB20.at 0 rfl) ?_)
 refine V.ge_ [(12, .slice A12 ((pre.length) + 1) c13)] ⟨(sm hz25 rfl), trivial⟩ (.int .i64 (((pre.length) + 1 : Nat) : Int)) ?_
 refine V.ge_ [(13, .int .i64 (((pre.length) + 1 : Nat) : Int))] ⟨(sm hz25.p1 rfl), trivial⟩ (.bool (decide ((((pre.length) + 1 : Nat) : Int) < 5000))) ?_
 refine V.ga (sm hz25.p2 rfl) ?_
 refine V.nil ?_
 refine V.then_n (hK29 _ _ ?_)
 refine V.flushW hz25.p4 (fun a30 hz31 up32 => ?_)
 have s5_33 := up32 5 _ (sm hz25.p2.p1 rfl)
 clear up32
 refine V.ret ?_
 refine V.ret1 hz31 rfl (s5_33) ?_
 exact ⟨congrArg (fun b => Ending.returned (Value.bool b)) (decide_eq_true (by omega)), ⟨_, _, hB20, by simpa using hO15_23⟩, hFP_22⟩
/-- What was told so far, in the law's row. -/
def itemsI (lb : Nat) (w0 : World) (n : Nat) (pre : List (ByteArray × Int)) (W : World) : Prop :=
  w0.heap.size ≤ n ∧ n ≤ W.heap.size ∧ ∃ A c, Blk W lb [.slice A pre.length c] 42 ∧ OwR itI NoZ W n 60 (.slice A pre.length c) pre ∧ Fr [lb] w0 W
theorem items_run (w : World) (H : Nat → Prop) (av : List Nat) (t : Nat) (T : Tb Int) (hT : TabX 67 87 86 itI w H av t T) (hHb : ∀ k, H k → k < w.heap.size) (b : Nat) (hB : Blk w b [.pointer (some ⟨t, 0, none⟩)] 28) (lb : Nat) (hL : Blk w lb [.slice none 0 0] 42) (hn5 : T.n < 4999) :
    Calls Try.prog 69 #[.func (.func 52) #[] #[.pointer (some ⟨lb, 0, none⟩)], .pointer (some ⟨b, 0, none⟩)] w (fun e w' => (∃ v, e = .returned v) ∧ ∃ A c, Blk w' lb [.slice A T.n c] 42 ∧ OwR itI NoZ w' w.heap.size 60 (.slice A T.n c) (T.a ++ T.b).flatten ∧ Fr [lb] w w') := by
  have hlb := hL.lt
  have hcn := hT.1.cn
  refine (all1_any w H av t T hT hHb b hB _ (itemsI lb w) (fun _ _ _ => False) ?_ ?_ ?_).mono ?_
  · rintro n pre W W' ⟨h1, h2, A, c, h3, h4, h5⟩ f
    exact ⟨h1, Nat.le_trans h2 f.size, A, c, h3.fr0 f, h4.fr0 f, h5.trans f (by simp)⟩
  · intro W1 f
    exact ⟨f.size, Nat.le_refl _, none, 0, hL.fr0 f, OwR.nil _ _ _ _ _, f.mono (by simp)⟩
  · rintro n pre x W hn hnl ⟨h1, h2, A, c, h3, h4, h5⟩ ⟨rest, hr⟩
    have hpl : pre.length < 4999 := by
      have := congrArg List.length hr
      rw [hcn] at this; simp at this; omega
    refine .inr ⟨52, _, rfl, Go.Proofs.enters_of Try.func52 (by kernel_rfl) rfl, (items1_any W n lb c A pre x.1 x.2 h3 h4 h2 (by omega) hpl).mono ?_⟩
    rintro e W' ⟨he, ⟨A', c', q1, q2⟩, q3⟩
    refine .inl ⟨he, ⟨h1, Nat.le_trans h2 q3.size, A', c', by simpa using q1, by simpa using q2, h5.trP q3 fun k hk => ?_⟩, q3.size, fun k hk hK => q3.block k hk fun hp => ?_⟩
    · rcases hk with rfl | hk
      · exact .inl (by simp)
      · exact .inr (by omega)
    · rcases hp with rfl | hp
      · omega
      · omega
  · rintro e w' ⟨he, ⟨n, hn, h1, h2, A, c, h3, h4, h5⟩ | ⟨_, _, _, _, h⟩⟩
    · rw [hcn] at h3 h4
      exact ⟨he, A, c, h3, h4.rebase h1, h5⟩
    · exact h.elim
set_option maxHeartbeats 4000000 in
set_option maxRecDepth 20000 in
theorem litems_any (w : World) (H : Nat → Prop) (av : List Nat) (t : Nat) (T : Tb Int) (hT : TabX 67 87 86 itI w H av t T) (hHb : ∀ k, H k → k < w.heap.size) (hn5 : T.n < 4999) : Calls Try.prog 20 #[.pointer (some ⟨t, 0, none⟩)] w (fun e w' => ∃ A c, e = .returned (.slice A T.n c) ∧ OwR itI NoZ w' w.heap.size 60 (.slice A T.n c) (T.a ++ T.b).flatten ∧ Fr [] w w') := by
 have hF := Fr.refl [] w
 refine V.enter 15 Try.func20 rfl rfl ?_
 intro a hz ha
 have s0 : a.eval (.tmp 0) = (.pointer (some ⟨t, 0, none⟩)) := ha 0 _ rfl
 clear ha
 refine V.seq (fun K1 hK2 => ?_)
 refine V.rg ?_
 refine V.ga evc ?_
 refine V.nil ?_
 refine V.then_n (hK2 _ _ ?_)
 refine V.seq (fun K3 hK4 => ?_)
 refine V.rg ?_
 refine V.go (V.mk [] trivial (by kernel_rfl) [.slice none 0 0] 42 (fun b => .pointer (some ⟨b, 0, none⟩)) (by kernel_rfl) ?_)
 intro w6 b5 heb5 hB7 hF8 hsb5
 have hF_9 := hF.new hF8
 have hT_10 := hT.alloc hF8 heb5 (by omega)
 refine V.nil ?_
 refine V.then_n (hK4 _ _ ?_)
 refine V.seq (fun K11 hK12 => ?_)
 refine V.rg ?_
 refine V.gm (o2 rfl s0) ?_
 refine V.go (V.call 43 #[] #[.pointer (some ⟨t, 0, none⟩)] evf (args1 (sm hz.p2 rfl)) (Go.Proofs.enters_of Try.func43 (by kernel_rfl) rfl) (all_any w6 (some ⟨t, 0, none⟩)) ?_)
 rintro _ w16 ⟨b15, rfl, hB14, hleb15, hF13⟩
 refine ⟨_, rfl, ?_⟩
 have hsw16 := hF13.size
 have hF_17 := hF_9.new hF13
 have hT_18 := hT_10.fr0 hF13
 have hB7_19 := hB7.fr0 hF13
 have hlthB14 := hB14.lt
 refine V.ga (v := (.func (.func 69) #[] #[.pointer (some ⟨b15, 0, none⟩)])) (sm hz.p2.p1 rfl) ?_
 refine V.nil ?_
 refine V.then_n (hK12 _ _ ?_)
 refine V.flushW hz.p4.p1 (fun a20 hz21 up22 => ?_)
 have s3_23 := up22 3 _ (o2 rfl (o1 rfl (sm hz.p1 rfl)))
 have s4_24 : a20.eval (.tmp 4) = (.func (.func 69) #[] #[.pointer (some ⟨b15, 0, none⟩)]) := up22 _ _ (sm hz.p4 rfl)
 clear up22
 refine V.seq (fun K25 hK26 => ?_)
 refine V.seq (fun K27 hK28 => ?_)
 refine V.rg ?_
 refine V.gm (v := (.func (.func 69) #[] #[.pointer (some ⟨b15, 0, none⟩)])) (s4_24) ?_
 refine V.ge_ [(7, .func (.func 69) #[] #[.pointer (some ⟨b15, 0, none⟩)])] ⟨(sm hz21 rfl), trivial⟩ (.bool false) ?_
 refine V.nil ?_
 refine V.then_n (hK28 _ _ ?_)
 refine V.cond_f (sm hz21.p1 rfl) ?_
 refine V.skip ?_
 refine V.then_n (hK26 _ _ ?_)
 refine V.seq (fun K29 hK30 => ?_)
 refine V.rg ?_
 refine V.gm (v := (.func (.func 69) #[] #[.pointer (some ⟨b15, 0, none⟩)])) (o2 rfl s4_24) ?_
 refine V.ge_ [(3, .pointer (some ⟨b5, 0, none⟩))] ⟨(o2 rfl (o1 rfl s3_23)), trivial⟩ (.func (.func 52) #[] #[.pointer (some ⟨b5, 0, none⟩)]) ?_
 refine V.go (V.call 69 #[.pointer (some ⟨b15, 0, none⟩)] #[.func (.func 52) #[] #[.pointer (some ⟨b5, 0, none⟩)]] (o1 rfl (sm hz21.p2 rfl)) (args1 (sm hz21.p2.p1 rfl)) (Go.Proofs.enters_of Try.func69 (by kernel_rfl) rfl) (items_run w16 (H) (b5 :: av) t (T) hT_18 (fun k hk => by have := hHb k hk; omega) b15 hB14 b5 hB7_19 hn5) ?_)
 rintro _ w37 ⟨⟨v36, rfl⟩, A31, c32, hB33, hO34, hF35⟩
 refine ⟨_, rfl, ?_⟩
 have hsw37 := hF35.size
 have hF_38 := hF_17.own hF35 (by simp <;> omega)
 have hT_39 := hT_18.fr hF35 (by intro k hk; simp only [List.mem_singleton] at hk; subst hk; exact .inl (by simp))
 have hO34q := hO34.rebase (base' := w.heap.size) (by omega)
 refine V.nil ?_
 refine V.then_n (hK30 _ _ ?_)
 refine V.flushW hz21.p4.p1 (fun a40 hz41 up42 => ?_)
 have s3_43 := up42 3 _ (o4 rfl (o1 rfl s3_23))
 clear up42
 refine V.seq (fun K44 hK45 => ?_)
 refine V.rg ?_
 refine V.go (V.ld ⟨b5, 0, none⟩ (.slice A31 T.n c32) (s3_43) (by kernel_rfl) (hB33.at 0 rfl) ?_)
 refine V.ga (sm hz41 rfl) ?_
 refine V.nil ?_
 refine V.then_n (hK45 _ _ ?_)
 refine V.ret ?_
 refine V.ret1 hz41.p2 rfl (sm hz41.p1 rfl) ?_
 exact ⟨_, _, rfl, hO34q, hF_38⟩
set_option maxHeartbeats 4000000 in
set_option maxRecDepth 20000 in
theorem same_any (w : World) (Z1 Z2 : Nat → Prop) (A1 A2 : Option Addr) (c1 c2 : Nat) (l : List (ByteArray × Int)) (hS1 : SlR itI Z1 w (.slice A1 l.length c1) l) (hS2 : SlR itI Z2 w (.slice A2 l.length c2) l) : Calls Try.prog 19 #[.slice A1 l.length c1, .slice A2 l.length c2] w (fun e w' => e = .returned (.bool true) ∧ Fr [] w w') := by
 have hF := Fr.refl [] w
 have hlen0 := hS1.len_le
 refine V.enter 26 Try.func19 rfl rfl ?_
 intro a hz ha
 have s0 : a.eval (.tmp 0) = (.slice A1 l.length c1) := ha 0 _ rfl
 have s1 : a.eval (.tmp 1) = (.slice A2 l.length c2) := ha 1 _ rfl
 clear ha
 refine V.seq (fun K1 hK2 => ?_)
 refine V.rg ?_
 refine V.ga evc ?_
 refine V.nil ?_
 refine V.then_n (hK2 _ _ ?_)
 refine V.seq (fun K3 hK4 => ?_)
 refine V.seq (fun K5 hK6 => ?_)
 refine V.rg ?_
 refine V.gm (o1 rfl s0) ?_
 refine V.ge_ [(6, .slice A1 l.length c1)] ⟨(sm hz.p1 rfl), trivial⟩ (.int .i64 ((l.length : Nat) : Int)) ?_
 refine V.gm (o2 rfl (o1 rfl s1)) ?_
 refine V.ge_ [(8, .slice A2 l.length c2)] ⟨(sm hz.p2.p1 rfl), trivial⟩ (.int .i64 ((l.length : Nat) : Int)) ?_
 refine V.gf_ [(7, .int .i64 ((l.length : Nat) : Int)), (9, .int .i64 ((l.length : Nat) : Int))] ⟨(o2 rfl (sm hz.p2 rfl)), (sm hz.p4 rfl), trivial⟩ (.bool (((l.length : Nat) : Int) != ((l.length : Nat) : Int))) (.bool (decide (¬ ((l.length : Nat) : Int) = ((l.length : Nat) : Int)))) V.t_neq ?_
 refine V.nil ?_
 refine V.then_n (hK6 _ _ ?_)
 refine V.flushW hz.p4.p2 (fun a7 hz8 up9 => ?_)
 have s0_10 := up9 0 _ (o4 rfl (o2 rfl s0))
 have s1_11 := up9 1 _ (o4 rfl (o2 rfl s1))
 have s10_12 := up9 10 _ (sm hz.p4.p1 rfl)
 clear up9
 refine V.condP (p := ¬ ((l.length : Nat) : Int) = ((l.length : Nat) : Int)) (s10_12) (fun ht13 => ?_) (fun ht13 => ?_)
 · exact absurd rfl ht13
 ·
  refine V.skip ?_
  refine V.then_n (hK4 _ _ ?_)
  refine V.seq (fun K14 hK15 => ?_)
  refine V.seq (fun K16 hK17 => ?_)
  refine V.rg ?_
  refine V.ga evc ?_
  refine V.nil ?_
  refine V.then_n (hK17 _ _ ?_)
  refine V.block ?_
  refine V.loop1 (fun (i : Nat) a_ w_ => Sz 26 a_ ∧ a_.eval (.tmp 0) = (.slice A1 l.length c1) ∧ a_.eval (.tmp 1) = (.slice A2 l.length c2) ∧ a_.eval (.tmp 5) = (.int .i64 (i : Int)) ∧ Fr [] w w_ ∧ SlR itI Z1 w_ (.slice A1 l.length c1) l ∧ SlR itI Z2 w_ (.slice A2 l.length c2) l ∧ (i ≤ l.length)) (fun (i : Nat) => l.length - i) 0 ?_ ?_
  ·
   refine ⟨hz8.p1, ?_, ?_, ?_, hF, hS1, hS2, (by omega)⟩
   · exact (o1 rfl s0_10)
   · exact (o1 rfl s1_11)
   · exact Eq.trans (sm hz8 rfl) (V.int_eq (by omega))
  ·
   rintro i a18 w19 ⟨hz20, s0_21, s1_22, s5_23, hF_24, hS1_25, hS2_26, hi⟩
   have hfs27 := hF_24.size
   refine V.seq (fun K28 hK29 => ?_)
   refine V.seq (fun K30 hK31 => ?_)
   refine V.rg ?_
   refine V.gm (s5_23) ?_
   refine V.gm (o1 rfl s0_21) ?_
   refine V.ge_ [(12, .slice A1 l.length c1)] ⟨(sm hz20.p1 rfl), trivial⟩ (.int .i64 ((l.length : Nat) : Int)) ?_
   refine V.ge_ [(11, .int .i64 (i : Int)), (13, .int .i64 ((l.length : Nat) : Int))] ⟨(o2 rfl (sm hz20 rfl)), (sm hz20.p2 rfl), trivial⟩ (.bool (decide ((i : Int) < ((l.length : Nat) : Int)))) ?_
   refine V.nil ?_
   refine V.then_n (hK31 _ _ ?_)
   refine V.flushW hz20.p4 (fun a32 hz33 up34 => ?_)
   have s0_35 := up34 0 _ (o4 rfl s0_21)
   have s1_36 := up34 1 _ (o4 rfl s1_22)
   have s5_37 := up34 5 _ (o4 rfl s5_23)
   have s14_38 := up34 14 _ (sm hz20.p2.p1 rfl)
   clear up34
   refine V.condP (p := (i : Int) < ((l.length : Nat) : Int)) (s14_38) (fun ht39 => ?_) (fun ht39 => ?_)
   ·
    refine V.skip ?_
    refine V.then_n (hK29 _ _ ?_)
    refine V.seq (fun K40 hK41 => ?_)
    refine V.block ?_
    refine V.seq (fun K42 hK43 => ?_)
    refine V.plan [[], [], [0, 1], [0, 1, 2], [], [], [4, 5], [4, 5, 6], [0, 1, 2, 3, 4, 5, 6, 7]] [([0, 1, 2, 3, 4, 5, 6, 7], some (8, [])), ([], none)] (by kernel_rfl) (by kernel_rfl) (by exact fun _ _ _ _ h => h) ?_
    simp only [Plan.wpSegs, Plan.pickAll, Plan.nth, V.L_eq]
    obtain ⟨w44, hF45e⟩ : ∃ w1, w1 = w19.drew := ⟨_, rfl⟩
    rw [← hF45e]
    have hF45 : Fr [] w19 w44 := by rw [hF45e]; exact Fr.drew _ _
    have hsw44 : w44.heap.size = w19.heap.size := by rw [hF45e]; rfl
    clear hF45e
    have hF_46 := hF_24.new hF45
    have hS1_47 := hS1_25.fr0 hF45
    have hS2_48 := hS2_26.fr0 hF45
    refine V.gm (s0_35) ?_
    refine V.gm (o1 rfl s5_37) ?_
    obtain ⟨g49, o50, hA51, hA51l, hA51z⟩ := hS1_47.addr (by omega)
    refine V.go (V.ixa g49 o50 l.length c1 .i64 (i : Int) 2 ((o1 rfl (sm hz33 rfl)).trans (by rw [hA51])) (sm hz33.p1 rfl) (by omega) (by omega) (by kernel_rfl) ?_)
    obtain ⟨cs52, hok53, hE54⟩ := hS1_47.els hA51 (i : Int) (by omega) (by omega)
    obtain rfl : cs52 = [.string (at_ itI l (i : Int)).1, .int .i64 (at_ itI l (i : Int)).2] := hok53
    refine V.go (V.lds ⟨g49, o50 + (i : Int).toNat * 2, none⟩ [.string ((at_ itI l (i : Int)).1), .int .i64 ((at_ itI l (i : Int)).2)] (sm hz33.p2 rfl) (by kernel_rfl) (hE54.cells 0 _ rfl) ?_)
    refine V.gm (o4 rfl s1_36) ?_
    refine V.gm (o4 rfl (o1 rfl s5_37)) ?_
    obtain ⟨g55, o56, hA57, hA57l, hA57z⟩ := hS2_48.addr (by omega)
    refine V.go (V.ixa g55 o56 l.length c2 .i64 (i : Int) 2 ((o1 rfl (sm hz33.p4 rfl)).trans (by rw [hA57])) (sm hz33.p4.p1 rfl) (by omega) (by omega) (by kernel_rfl) ?_)
    obtain ⟨cs58, hok59, hE60⟩ := hS2_48.els hA57 (i : Int) (by omega) (by omega)
    obtain rfl : cs58 = [.string (at_ itI l (i : Int)).1, .int .i64 (at_ itI l (i : Int)).2] := hok59
    refine V.go (V.lds ⟨g55, o56 + (i : Int).toNat * 2, none⟩ [.string ((at_ itI l (i : Int)).1), .int .i64 ((at_ itI l (i : Int)).2)] (sm hz33.p4.p2 rfl) (by kernel_rfl) (hE60.cells 0 _ rfl) ?_)
    refine V.nil ?_
    refine ⟨chk [] trivial (by kernel_rfl), ?_⟩
    refine V.go (V.neqSI .i64 ((at_ itI l (i : Int)).1) ((at_ itI l (i : Int)).1) ((at_ itI l (i : Int)).2) ((at_ itI l (i : Int)).2) (o4 rfl (sm hz33.p2.p1 rfl)) (sm hz33.p4.p2.p1 rfl) (by kernel_rfl) ?_)
    refine V.nil ?_
    refine ⟨trivial, ?_⟩
    refine V.nil ?_
    refine ⟨chk [] trivial (by kernel_rfl), ?_⟩
    refine V.then_n (hK43 _ _ ?_)
    refine V.flushW hz33.p8.p1 (fun a61 hz62 up63 => ?_)
    have s0_64 := up63 0 _ (o8 rfl (o1 rfl s0_35))
    have s1_65 := up63 1 _ (o8 rfl (o1 rfl s1_36))
    have s5_66 := up63 5 _ (o8 rfl (o1 rfl s5_37))
    have s25_67 := up63 25 _ (sm hz33.p8 rfl)
    clear up63
    refine V.condP (p := ¬ (((at_ itI l (i : Int)).1) = ((at_ itI l (i : Int)).1) ∧ ((at_ itI l (i : Int)).2) = ((at_ itI l (i : Int)).2))) (s25_67) (fun ht68 => ?_) (fun ht68 => ?_)
    · exact absurd ⟨rfl, rfl⟩ ht68
    ·
     refine V.skip ?_
     refine V.blk_n ?_
     refine V.then_n (hK41 _ _ ?_)
     refine V.rg ?_
     refine V.gm (s5_66) ?_
     refine V.gf_ [(15, .int .i64 (i : Int))] ⟨(sm hz62 rfl), trivial⟩ (.int .i64 (IntKind.i64.wrap ((i : Int) + 1))) (.int .i64 ((i : Int) + 1)) (V.w_i64 (by omega) (by omega)) ?_
     refine V.ga (sm hz62.p1 rfl) ?_
     refine V.nil ?_
     refine V.then_n ?_
     refine ⟨i + 1, by omega, ?_⟩
     refine ⟨hz62.p2.p1, ?_, ?_, ?_, hF_46, hS1_47, hS2_48, (by omega)⟩
     · exact (o2 rfl (o1 rfl s0_64))
     · exact (o2 rfl (o1 rfl s1_65))
     · exact Eq.trans (sm hz62.p2 rfl) (V.int_eq (by omega))
   ·
    refine V.exit ?_
    refine V.then_e ?_
    refine V.then_e ?_
    refine V.blk_hit ?_
    refine V.then_n (hK15 _ _ ?_)
    refine V.seq (fun K69 hK70 => ?_)
    refine V.rg ?_
    refine V.ga evc ?_
    refine V.nil ?_
    refine V.then_n (hK70 _ _ ?_)
    refine V.ret ?_
    refine V.ret1 hz33.p1 rfl (sm hz33 rfl) ?_
    exact ⟨rfl, hF_24⟩
end Go.Proofs.Ytalhmegjomfbaaa
