/- Walks: the items as the law has them told. -/
import Derived.Test.YtalhmegjomfbaaaProg
import Derived.Test.YtalhmegjomfbaaaTj
namespace Go.Proofs.Ytalhmegjomfbaaa
open Go.V Go.Base
open Go.RowKit (Below)
attribute [local irreducible] Act.put Act.eval
set_option linter.unusedVariables false
set_option linter.unusedSimpArgs false
theorem info60 : (Try.prog.info? 60).map (fun i => (i.zero, i.size, i.bytes)) = some (some (.agg #[.string ⟨#[]⟩, .int .i64 0]), 2, 24) := by kernel_rfl
theorem info42 : (Try.prog.info? 42).map (fun i => (i.zero, i.size, i.bytes)) = some (some (.slice none 0 0), 1, 24) := by kernel_rfl
set_option maxHeartbeats 4000000 in
set_option maxRecDepth 20000 in
theorem items1_any (w : World) (n lb c : Nat) (A : Option Addr) (pre : List (ByteArray × Int)) (k : ByteArray) (v : Int) (hB : Blk w lb [.slice A pre.length c] 42) (hO : OwR itI NoZ w n 60 (.slice A pre.length c) pre) (hn : n ≤ w.heap.size) (hlb : lb < n) (hp : pre.length < 4999) : Calls Try.prog 52 #[.string k, .int .i64 v, .pointer (some ⟨lb, 0, none⟩)] w (fun e w' => e = .returned (.bool true) ∧ (∃ A' c', Blk w' lb [.slice A' (pre.length + 1) c'] 42 ∧ OwR itI NoZ w' n 60 (.slice A' (pre.length + 1) c') (pre ++ [(k, v)])) ∧ FrP (fun k => k = lb ∨ n ≤ k) w w') := by
 have hFP := FrP.refl (fun k => k = lb ∨ n ≤ k) w
 refine V.en 15 Try.func52 fun a h1 => ?_
 refine V.sr h1 [] 5 5 [] fun a h4 => ?_
 refine V.sg fun K5 k6 => ?_
 refine V.run h4 [(0, .b hB 0)] 4 7 8 [(6, .slice A pre.length c), (9, .agg #[.string k, .int .i64 v])] fun a h7 => ?_
 refine V.go (V.mk [(9, .agg #[.string k, .int .i64 v])] ⟨h7.e, trivial⟩ (by kernel_rfl) [.string k, .int .i64 v] 60 (fun b => .slice (some ⟨b, 0, none⟩) 1 1) (by kernel_rfl) ?_)
 intro w9 b8 heb8 hB10 hF11 hsb8
 have hB_12 := hB.fr0 hF11
 have hO_13 := hO.fr0 hF11
 have hFP_14 := hFP.tr0 hF11
 refine V.pt h7 fun a h15 => ?_
 refine V.go (V.app (R := itI) (ys := ([(k, v)])) (news := [.string k, .int .i64 v]) (h15.e (v := (.slice A pre.length c))) ⟨b8, 0, none⟩ 1 1 (h15.e (v := (.slice (some ⟨b8, 0, none⟩) 1 1))) (by kernel_rfl) (info60) (by kernel_rfl) (by decide) hO_13 rfl ⟨[.string k, .int .i64 v], [], rfl, rfl, rfl⟩ (blk_cells hB10 0 _ rfl) (by first | omega | (simp; omega)) (by decide) (by omega) ?_)
 intro A16 c17 w18 hO19z hF20 hatw18
 have hsw18 := hF20.size
 have hB_21 := hB_12.fr hF20 (by first | exact own_notin hO_13 (by omega))
 have hFP_22 := hFP_14.tr hF20 (fun k hk => .inl (by have := own_ge hO_13 (Nat.le_refl _) k hk; first | exact .inr this | (dsimp only; omega)))
 have hO19 := hO19z.zone (Z' := NoZ) (fun _ _ q => q.1) (fun _ _ q => q)
 refine V.pt h15 fun a h23 => ?_
 refine V.go (V.stn lb 0 (.slice A16 ((pre.length) + 1) c17) [.slice A16 ((pre.length) + 1) c17] h23.e h23.e rfl rfl (by kernel_rfl) hB_21 (by simp) [.slice A16 ((pre.length) + 1) c17] rfl ?_)
 intro w24 hB25 hF26 hsw24
 have hFP_27 := hFP_22.tr1 hF26 (by first | exact .inl (by assumption) | exact .inr (by omega) | exact .inl (.inl rfl))
 have hO19_28 := hO19.frn hF26 (fun h => h) (by first | exact own_ne hO19 (by omega) | exact own_ne2 hO19 (by omega))
 refine V.nt (k6 _ _ ?_)
 refine V.sr h23 [(0, .b hB25 0)] 12 14 [(5, .bool (decide ((((pre.length) + 1 : Nat) : Int) < 5000)))] fun a h31 => ?_
 refine V.ret ?_
 refine V.r1 h31 (.bool (decide ((((pre.length) + 1 : Nat) : Int) < 5000))) ?_
 exact ⟨congrArg (fun b => Ending.returned (Value.bool b)) (decide_eq_true (by omega)), ⟨_, _, hB25, by simpa using hO19_28⟩, hFP_27⟩
/-- What was told so far, in the law's row. -/
def itemsI (lb : Nat) (w0 : World) (n : Nat) (pre : List (ByteArray × Int)) (W : World) : Prop :=
  w0.heap.size ≤ n ∧ n ≤ W.heap.size ∧ ∃ A c, Blk W lb [.slice A pre.length c] 42 ∧ OwR itI NoZ W n 60 (.slice A pre.length c) pre ∧ Fr [lb] w0 W
theorem items_run (w : World) (H : Nat → Prop) (av : List Nat) (t : Nat) (T : Tb Int) (hT : TabX 67 87 86 itI w H av t T) (hHb : ∀ k, H k → k < w.heap.size) (b : Nat) (hB : Blk w b [.pointer (some ⟨t, 0, none⟩)] 28) (lb : Nat) (hL : Blk w lb [.slice none 0 0] 42) (hn5 : T.n < 4999) :
    Calls Try.prog 69 #[.func (.func 52) #[] #[.pointer (some ⟨lb, 0, none⟩)], .pointer (some ⟨b, 0, none⟩)] w (fun e w' => (∃ v, e = .returned v) ∧ ∃ A c, Blk w' lb [.slice A T.n c] 42 ∧ OwR itI NoZ w' w.heap.size 60 (.slice A T.n c) (T.a ++ T.b).flatten ∧ Fr [lb] w w') := by
  have hlb := hL.lt
  have hcn := hT.1.cn
  refine (all1_any w H av t T hT hHb b hB _ (itemsI lb w) (fun _ _ _ => False) ?_ ?_ ?_).mono ?_
  · rintro n pre W W' ⟨h1, h2, A, c, h3, h4, h5⟩ f
    exact ⟨h1, Nat.le_trans h2 f.size, A, c, h3.fr0 f, h4.fr0 f, h5.trans f (by simp)⟩
  · intro W1 f
    exact ⟨f.size, Nat.le_refl _, none, 0, hL.fr0 f, OwR.nil _ _ _ _ _, f.mono (by simp)⟩
  · rintro n pre x W hn hnl ⟨h1, h2, A, c, h3, h4, h5⟩ ⟨rest, hr⟩
    have hpl : pre.length < 4999 := by
      have := congrArg List.length hr
      rw [hcn] at this; simp at this; omega
    refine .inr ⟨52, _, rfl, Go.Proofs.enters_of Try.func52 (by kernel_rfl) rfl, (items1_any W n lb c A pre x.1 x.2 h3 h4 h2 (by omega) hpl).mono ?_⟩
    rintro e W' ⟨he, ⟨A', c', q1, q2⟩, q3⟩
    refine .inl ⟨he, ⟨h1, Nat.le_trans h2 q3.size, A', c', by simpa using q1, by simpa using q2, h5.trP q3 fun k hk => ?_⟩, q3.size, fun k hk hK => q3.block k hk fun hp => ?_⟩
    · rcases hk with rfl | hk
      · exact .inl (by simp)
      · exact .inr (by omega)
    · rcases hp with rfl | hp
      · omega
      · omega
  · rintro e w' ⟨he, ⟨n, hn, h1, h2, A, c, h3, h4, h5⟩ | ⟨_, _, _, _, h⟩⟩
    · rw [hcn] at h3 h4
      exact ⟨he, A, c, h3, h4.rebase h1, h5⟩
    · exact h.elim
set_option maxHeartbeats 4000000 in
set_option maxRecDepth 20000 in
theorem litems_any (w : World) (H : Nat → Prop) (av : List Nat) (t : Nat) (T : Tb Int) (hT : TabX 67 87 86 itI w H av t T) (hHb : ∀ k, H k → k < w.heap.size) (hn5 : T.n < 4999) : Calls Try.prog 20 #[.pointer (some ⟨t, 0, none⟩)] w (fun e w' => ∃ A c, e = .returned (.slice A T.n c) ∧ OwR itI NoZ w' w.heap.size 60 (.slice A T.n c) (T.a ++ T.b).flatten ∧ Fr [] w w') := by
 have hF := Fr.refl [] w
 refine V.en 15 Try.func20 fun a h1 => ?_
 refine V.sr h1 [] 2 2 [] fun a h4 => ?_
 refine V.sg fun K5 k6 => ?_
 refine V.go (V.mk [] trivial (by kernel_rfl) [.slice none 0 0] 42 (fun b => .pointer (some ⟨b, 0, none⟩)) (by kernel_rfl) ?_)
 intro w8 b7 heb7 hB9 hF10 hsb7
 have hF_11 := hF.new hF10
 have hT_12 := hT.alloc hF10 heb7 (by omega)
 refine V.pt h4 fun a h13 => ?_
 refine V.nt (k6 _ _ ?_)
 refine V.sg fun K14 k15 => ?_
 refine V.run h13 [] 1 1 0 [(5, .pointer (some ⟨t, 0, none⟩))] fun a h16 => ?_
 refine V.cl h16 (Go.Proofs.enters_of Try.func43 (by kernel_rfl) rfl) (all_any w8 (some ⟨t, 0, none⟩)) ?_
 rintro _ w20 ⟨b19, rfl, hB18, hleb19, hF17⟩
 refine ⟨_, rfl, fun a h21 => ?_⟩
 have hsw20 := hF17.size
 have hF_22 := hF_11.new hF17
 have hT_23 := hT_12.fr0 hF17
 have hB9_24 := hB9.fr0 hF17
 have hlthB18 := hB18.lt
 refine V.re h21 [] 1 0 [(4, .func (.func 69) #[] #[.pointer (some ⟨b19, 0, none⟩)])] fun a h25 => k15 _ _ ?_
 refine V.seq fun K26 k27 => ?_
 refine V.sr h25 [] 7 7 [(8, .bool false)] fun a h30 => ?_
 refine V.cf h30 ?_
 refine V.skip ?_
 refine V.then_n (k27 _ _ ?_)
 refine V.sg fun K31 k32 => ?_
 refine V.run h30 [] 2 1 0 [(11, .func (.func 69) #[] #[.pointer (some ⟨b19, 0, none⟩)]), (12, .func (.func 52) #[] #[.pointer (some ⟨b7, 0, none⟩)])] fun a h33 => ?_
 refine V.cl h33 (Go.Proofs.enters_of Try.func69 (by kernel_rfl) rfl) (items_run w20 (H) (b7 :: av) t (T) hT_23 (fun k hk => by have := hHb k hk; omega) b19 hB18 b7 hB9_24 hn5) ?_
 rintro _ w40 ⟨⟨v39, rfl⟩, A34, c35, hB36, hO37, hF38⟩
 refine ⟨_, rfl, fun a h41 => ?_⟩
 have hsw40 := hF38.size
 have hF_42 := hF_22.own hF38 (by simp <;> omega)
 have hT_43 := hT_23.fr hF38 (by intro k hk; simp only [List.mem_singleton] at hk; subst hk; exact .inl (by simp))
 have hO37q := hO37.rebase (base' := w.heap.size) (by omega)
 refine V.nt (k32 _ _ ?_)
 refine V.sr h41 [(0, .b hB36 0)] 14 14 [(2, .slice A34 T.n c35)] fun a h46 => ?_
 refine V.ret ?_
 refine V.r1 h46 (.slice A34 T.n c35) ?_
 exact ⟨_, _, rfl, hO37q, hF_42⟩
set_option maxHeartbeats 4000000 in
set_option maxRecDepth 20000 in
theorem same_any (w : World) (Z1 Z2 : Nat → Prop) (A1 A2 : Option Addr) (c1 c2 : Nat) (l : List (ByteArray × Int)) (hS1 : SlR itI Z1 w (.slice A1 l.length c1) l) (hS2 : SlR itI Z2 w (.slice A2 l.length c2) l) : Calls Try.prog 19 #[.slice A1 l.length c1, .slice A2 l.length c2] w (fun e w' => e = .returned (.bool true) ∧ Fr [] w w') := by
 have hF := Fr.refl [] w
 have hlen0 := hS1.len_le
 refine V.en 26 Try.func19 fun a h1 => ?_
 refine V.sr h1 [] 4 4 [] fun a h4 => ?_
 refine V.seq fun K5 k6 => ?_
 refine V.sr h4 [(4, .ne ((l.length : Nat) : Int) ((l.length : Nat) : Int))] 6 9 [(10, .bool (decide (¬ ((l.length : Nat) : Int) = ((l.length : Nat) : Int))))] fun a h9 => ?_
 refine V.cp h9 (¬ ((l.length : Nat) : Int) = ((l.length : Nat) : Int)) (fun ht10 => ?_) (fun ht10 => ?_)
 · exact absurd rfl ht10
 ·
  refine V.skip ?_
  refine V.then_n (k6 _ _ ?_)
  refine V.seq fun K11 k12 => ?_
  refine V.sr h9 [] 1 0 [(5, .int .i64 0)] fun a h15 => ?_
  refine V.block ?_
  refine V.loop1 (fun (i : Nat) a_ w_ => En 26 [] a_ [(0, .slice A1 l.length c1), (1, .slice A2 l.length c2), (5, .int .i64 (i : Int))] ∧ Fr [] w w_ ∧ SlR itI Z1 w_ (.slice A1 l.length c1) l ∧ SlR itI Z2 w_ (.slice A2 l.length c2) l ∧ (i ≤ l.length)) (fun (i : Nat) => l.length - i) 0 ?_ ?_
  ·
   refine ⟨(h15.eq 5 (v := (.int .i64 0)) (u := (.int .i64 (0 : Int))) (V.int_eq (by omega))).only _, hF, hS1, hS2, (by omega)⟩
  ·
   rintro i a16 w17 ⟨h18, hF_19, hS1_20, hS2_21, hi⟩
   have hfs22 := hF_19.size
   refine V.seq fun K23 k24 => ?_
   refine V.sr h18 [] 11 13 [(14, .bool (decide ((i : Int) < ((l.length : Nat) : Int))))] fun a h27 => ?_
   refine V.cp h27 ((i : Int) < ((l.length : Nat) : Int)) (fun ht28 => ?_) (fun ht28 => ?_)
   ·
    refine V.skip ?_
    refine V.then_n (k24 _ _ ?_)
    refine V.seq fun K29 k30 => ?_
    refine V.block ?_
    refine V.seq fun K31 k32 => ?_
    refine V.pl [([0,1,2,3,4,5,6,7],some (8,[])),([],none)] fun w33 hF34 hsw33 => ?_
    have hF_35 := hF_19.new hF34
    have hS1_36 := hS1_20.fr0 hF34
    have hS2_37 := hS2_21.fr0 hF34
    obtain ⟨g38, o39, hA40, hA40l, hA40z⟩ := hS1_36.addr (by omega)
    obtain ⟨cs41, hok42, hE43⟩ := hS1_36.els hA40 (i : Int) (by omega) (by omega)
    refine V.pe0 ?_
    refine V.run h27 [(2, .ix g38 o39 l.length c1 .i64 (i : Int) 2 hA40)] 3 17 18 [(19, .pointer (some ⟨g38, o39 + (i : Int).toNat * 2, none⟩))] fun a h44 => ?_
    obtain rfl : cs41 = [.string (at_ itI l (i : Int)).1, .int .i64 (at_ itI l (i : Int)).2] := hok42
    obtain ⟨g45, o46, hA47, hA47l, hA47z⟩ := hS2_37.addr (by omega)
    obtain ⟨cs48, hok49, hE50⟩ := hS2_37.els hA47 (i : Int) (by omega) (by omega)
    refine V.run h44 [(0, .ls ⟨g38, o39 + (i : Int).toNat * 2, none⟩ [.string ((at_ itI l (i : Int)).1), .int .i64 ((at_ itI l (i : Int)).2)] (hE43.cells 0 _ rfl)), (2, .ix g45 o46 l.length c2 .i64 (i : Int) 2 hA47)] 4 21 22 [(20, .agg #[.string ((at_ itI l (i : Int)).1), .int .i64 ((at_ itI l (i : Int)).2)]), (23, .pointer (some ⟨g45, o46 + (i : Int).toNat * 2, none⟩))] fun a h51 => ?_
    obtain rfl : cs48 = [.string (at_ itI l (i : Int)).1, .int .i64 (at_ itI l (i : Int)).2] := hok49
    refine V.se h51 [(0, .ls ⟨g45, o46 + (i : Int).toNat * 2, none⟩ [.string ((at_ itI l (i : Int)).1), .int .i64 ((at_ itI l (i : Int)).2)] (hE50.cells 0 _ rfl))] 1 0 [(24, .agg #[.string ((at_ itI l (i : Int)).1), .int .i64 ((at_ itI l (i : Int)).2)])] fun a h52 => ?_
    refine V.go (V.neqSI .i64 ((at_ itI l (i : Int)).1) ((at_ itI l (i : Int)).1) ((at_ itI l (i : Int)).2) ((at_ itI l (i : Int)).2) h52.e h52.e (by kernel_rfl) ?_)
    refine V.pt h52 fun a h53 => ?_
    refine V.eh trivial ?_
    refine V.pz h53 [] 1 0 [] fun a h54 => k32 _ _ ?_
    refine V.cp h54 (¬ (((at_ itI l (i : Int)).1) = ((at_ itI l (i : Int)).1) ∧ ((at_ itI l (i : Int)).2) = ((at_ itI l (i : Int)).2))) (fun ht55 => ?_) (fun ht55 => ?_)
    · exact absurd ⟨rfl, rfl⟩ ht55
    ·
     refine V.skip ?_
     refine V.blk_n ?_
     refine V.then_n (k30 _ _ ?_)
     refine V.rr h54 [(1, .i ((i : Int) + 1))] 15 16 [(5, .int .i64 ((i : Int) + 1))] fun a h56 => ?_
     refine V.then_n ?_
     refine ⟨i + 1, by omega, ?_⟩
     refine ⟨(h56.eq 5 (v := (.int .i64 ((i : Int) + 1))) (u := (.int .i64 ((i + 1) : Int))) (V.int_eq (by omega))).only _, hF_35, hS1_36, hS2_37, (by omega)⟩
   ·
    refine V.exit ?_
    refine V.then_e ?_
    refine V.then_e ?_
    refine V.blk_hit ?_
    refine V.then_n (k12 _ _ ?_)
    refine V.sr h27 [] 1 0 [(4, .bool true)] fun a h59 => ?_
    refine V.ret ?_
    refine V.r1 h59 (.bool true) ?_
    exact ⟨rfl, hF_19⟩
end Go.Proofs.Ytalhmegjomfbaaa
