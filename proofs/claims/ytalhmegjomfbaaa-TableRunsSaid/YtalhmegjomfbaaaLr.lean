/- Walks: TableRuns. -/
import Derived.Test.YtalhmegjomfbaaaProg
import Derived.Test.YtalhmegjomfbaaaAc
import Derived.Test.YtalhmegjomfbaaaTh
namespace Go.Proofs.Ytalhmegjomfbaaa
open Go.V Go.Base
open Go.RowKit (Below)
attribute [local irreducible] Act.put Act.eval
set_option linter.unusedVariables false
set_option linter.unusedSimpArgs false
/-- An act as it lies in cells. -/
def opR : Rp OpD where
  dflt := ⟨0, ⟨#[]⟩, 0, 0⟩
  sz := 4
  ok := fun _ _ x cs => cs = [.int .i64 x.kind, .string x.key, .int .i64 x.v, .int .u64 (x.draw : Int)] ∧ x.ok
  len := by rintro _ _ x cs ⟨rfl, _⟩; rfl
  one := by rintro _ _ x cs ⟨rfl, _⟩ u hu; simp at hu; rcases hu with rfl | rfl | rfl | rfl <;> rfl
  mono := by rintro _ _ _ _ x cs _ _ h; exact h
/-- The program's table alone. -/
def D1 (w0 w : World) (av : List Nat) (t : Nat) (T : Tb Int) : Prop := ∃ Ht : Nat → Prop, TabX 67 87 86 itI w Ht av t T ∧ ∀ k, Ht k → w0.heap.size ≤ k ∧ k < w.heap.size
section
variable {w0 w w1 w2 : World} {av av' : List Nat} {t r : Nat} {T U : Tb Int}
theorem D1.new (h1 : TabX 67 87 86 itI w1 (gr (fun _ => False) w w1) av t T) (hw : w0.heap.size ≤ w.heap.size) : D1 w0 w1 av t T :=
  ⟨_, h1, fun k hk => by
    rcases hk with hk | hk
    · exact hk.elim
    · exact ⟨by omega, hk.2⟩⟩
theorem D1.two (h1 : D1 w0 w1 av t T) (f : Fr [] w w1) (h2 : TabX 40 42 60 itI w1 (gr (fun _ => False) w w1) av r U) (h0 : D1 w0 w av t T) : D2 w0 w1 av t T r U := by
  obtain ⟨Ht, h3, h4⟩ := h0
  have hs := f.size
  have hlt := (h3.pt.1)
  have hw := h4 t h3.pt.1
  exact ⟨Ht, _, h3.fr0 f, h2, fun k hk => ⟨(h4 k hk).1, by have := (h4 k hk).2; omega, fun hr => by
    rcases hr with hr | hr
    · exact hr
    · have := (h4 k hk).2; omega⟩, fun k hk => by
    rcases hk with hk | hk
    · exact hk.elim
    · exact ⟨by omega, hk.2⟩⟩
theorem D2.one (h : D2 w0 w av t T r U) : D1 w0 w av t T := by
  obtain ⟨Ht, Hr, h1, h2, h3, h4⟩ := h
  exact ⟨Ht, h1, fun k hk => ⟨(h3 k hk).1, (h3 k hk).2.1⟩⟩
theorem D1.fr (h : D1 w0 w av t T) {l : List Nat} (f : Fr l w w1) (hl : ∀ k ∈ l, k ∈ av ∨ k < w0.heap.size) : D1 w0 w1 av t T := by
  obtain ⟨Ht, h1, h3⟩ := h
  have hs := f.size
  exact ⟨Ht, h1.fr f fun k hk => (hl k hk).imp id fun q hq => by have := (h3 k hq).1; omega, fun k hk => ⟨(h3 k hk).1, by have := (h3 k hk).2; omega⟩⟩
theorem D1.fr0 (h : D1 w0 w av t T) (f : Fr [] w w1) : D1 w0 w1 av t T := h.fr f fun k hk => by cases hk
theorem D1.alloc (h : D1 w0 w av t T) (f : Fr [] w w1) {b : Nat} (hb : b = w.heap.size) (hlt : b < w1.heap.size) : D1 w0 w1 (b :: av) t T := by
  obtain ⟨Ht, h1, h3⟩ := h
  have hs := f.size
  exact ⟨Ht, h1.alloc f hb hlt, fun k hk => ⟨(h3 k hk).1, by have := (h3 k hk).2; omega⟩⟩
theorem D1.sub (h : D1 w0 w av t T) (hs : ∀ k ∈ av', k ∈ av) : D1 w0 w av' t T := by
  obtain ⟨Ht, h1, h3⟩ := h
  exact ⟨Ht, h1.sub hs fun _ _ q => q, h3⟩
theorem D1.rd {P : Program} {f : FuncId} {args : Array Value} {R : Ending → World → Prop} (h : D1 w0 w av t T) (hc : ∀ H, TabX 67 87 86 itI w H av t T → (∀ k, H k → k < w.heap.size) → Calls P f args w R) : Calls P f args w R := by
  obtain ⟨H, hq, hqb⟩ := h
  exact hc H hq fun k hk => (hqb k hk).2
theorem D2.blkU (h : D2 w0 w av t T r U) : ∃ v0 A c B d, Blk w r [v0, .slice A U.a.length c, .slice B U.b.length d, .int .i64 (U.moved : Int), .int .i64 (U.n : Int)] 40 := by
  obtain ⟨Ht, Hr, h1, h2, h3, h4⟩ := h
  rcases h2.2 with ⟨hb, gA, vsA, h⟩ | ⟨hb, gA, gB, vsA, vsB, h⟩
  · have hq := h.blk
    have h0 : U.b.length = 0 := by rw [hb]; rfl
    exact ⟨.int .u64 (U.seed : Int), some ⟨gA, 0, none⟩, U.a.length, none, 0, by rw [h0]; exact hq⟩
  · exact ⟨_, _, _, _, _, h.blk⟩
theorem act_same (w w0 : World) (av : List Nat) (t r : Nat) (T : Tb Int) (N : Nat) (o : OpD) (hD : D2 w0 w av t T r T) (hgT : Gd T N) (hN : N < 1000000) (ho : o.ok) (hw : w0.heap.size ≤ w.heap.size) :
    Calls Try.prog 16 #[.pointer (some ⟨t, 0, none⟩), .pointer (some ⟨r, 0, none⟩), .agg #[.int .i64 o.kind, .string o.key, .int .i64 o.v, .int .u64 (o.draw : Int)]] w (fun e w' => e = .returned (.bool true) ∧ D2 w0 w' av t (actT T o) r (actT T o) ∧ FrP (zn w0 av) w w') :=
  (act_any w w0 av t r T T N o hD hgT hgT hN ho hw).mono fun e w' ⟨b, he, hb, q⟩ => ⟨by rw [he, hb rfl], q⟩
theorem act_new (w w0 : World) (av : List Nat) (t r : Nat) (T U : Tb Int) (N : Nat) (o : OpD) (hD : D2 w0 w av t T r U) (hgT : Gd T N) (hgU : Gd U 0) (hN : N < 1000000) (ho : o.ok) (hw : w0.heap.size ≤ w.heap.size) :
    Calls Try.prog 16 #[.pointer (some ⟨t, 0, none⟩), .pointer (some ⟨r, 0, none⟩), .agg #[.int .i64 o.kind, .string o.key, .int .i64 o.v, .int .u64 (o.draw : Int)]] w (fun e w' => (∃ b, e = .returned (.bool b)) ∧ D1 w0 w' av t (actT T o) ∧ FrP (zn w0 av) w w') :=
  (act_any w w0 av t r T U N o hD hgT (hgU.raise (Nat.zero_le _)) hN ho hw).mono fun e w' ⟨b, he, _, q1, q2⟩ => ⟨⟨b, he⟩, q1.one, q2⟩
end
set_option maxHeartbeats 4000000 in
set_option maxRecDepth 20000 in
theorem tableRuns_any (w : World) (seed : Nat) (hsd : seed < 18446744073709551616) (A0 : Option Addr) (c0 : Nat) (l : List OpD) (hS : SlR opR (fun k => k < w.heap.size) w (.slice A0 l.length c0) l) : Calls Try.prog 4 #[.int .u64 (seed : Int), .slice A0 l.length c0] w (fun e w' => e = .returned (.bool true) ∧ Fr [] w w') := by
 have hF := Fr.refl [] w
 refine V.enter 83 Try.func4 rfl rfl ?_
 intro a hz ha
 have s0 : a.eval (.tmp 0) = (.int .u64 (seed : Int)) := ha 0 _ rfl
 have s1 : a.eval (.tmp 1) = (.slice A0 l.length c0) := ha 1 _ rfl
 clear ha
 refine V.seq (fun K1 hK2 => ?_)
 refine V.region (by kernel_rfl) ?_
 refine V.go (V.asg evc ?_)
 refine V.nil ?_
 refine V.then_n (hK2 _ _ ?_)
 refine V.seq (fun K3 hK4 => ?_)
 refine V.region (by kernel_rfl) ?_
 refine V.go (V.mv (o1 rfl s0) ?_)
 refine V.go (V.call 14 #[] #[.int .u64 (seed : Int)] evf (args1 (at_same hz.p1 rfl _)) (Go.Proofs.enters_of Try.func14 (by kernel_rfl) rfl) (new_any w [] (by simp) seed hsd) ?_)
 rintro _ w9 ⟨t5, rfl, hT6, hF7⟩
 refine ⟨_, rfl, ?_⟩
 have hsw9 := hF7.size
 have hF_10 := hF.new hF7
 have hS_11 := hS.fr0 hF7
 have hD8 := D1.new (w0 := w) hT6 (by omega)
 refine V.go (V.mv (o2 rfl (o1 rfl s0)) ?_)
 refine V.go (V.call 15 #[] #[.int .u64 (seed : Int)] evf (args1 (at_same hz.p2.p1 rfl _)) (Go.Proofs.enters_of Try.func15 (by kernel_rfl) rfl) (rnew_any w9 ([]) (by simp) seed hsd) ?_)
 rintro _ w16 ⟨r12, rfl, hU13, hF14⟩
 refine ⟨_, rfl, ?_⟩
 have hsw16 := hF14.size
 have hF_17 := hF_10.new hF14
 have hS_18 := hS_11.fr0 hF14
 have hD8_19 := hD8.fr0 hF14
 have hD15 := hD8_19.two hF14 hU13 hD8
 refine V.go (V.asg (v := (.pointer (some ⟨t5, 0, none⟩))) (o2 rfl (at_same hz.p2 rfl _)) ?_)
 refine V.go (V.asg (v := (.pointer (some ⟨r12, 0, none⟩))) (o1 rfl (at_same hz.p4 rfl _)) ?_)
 refine V.nil ?_
 refine V.then_n (hK4 _ _ ?_)
 refine V.flushW hz.p4.p2.p1 (fun a20 hz21 up22 => ?_)
 have s1_23 := up22 1 _ (o4 rfl (o2 rfl (o1 rfl s1)))
 have s5_24 : a20.eval (.tmp 5) = (.pointer (some ⟨t5, 0, none⟩)) := up22 _ _ (o1 rfl (at_same hz.p4.p1 rfl _))
 have s6_25 : a20.eval (.tmp 6) = (.pointer (some ⟨r12, 0, none⟩)) := up22 _ _ (at_same hz.p4.p2 rfl _)
 clear up22
 refine V.seq (fun K26 hK27 => ?_)
 refine V.seq (fun K28 hK29 => ?_)
 refine V.region (by kernel_rfl) ?_
 refine V.go (V.mv (v := (.pointer (some ⟨t5, 0, none⟩))) (s5_24) ?_)
 refine V.go (V.pv [(15, .pointer (some ⟨t5, 0, none⟩))] ⟨(at_same hz21 rfl _), trivial⟩ (by kernel_rfl) (.bool false) (by kernel_rfl) ?_)
 refine V.nil ?_
 refine V.then_n (hK29 _ _ ?_)
 refine V.cond_f (at_same hz21.p1 rfl _) ?_
 refine V.skip ?_
 refine V.then_n (hK27 _ _ ?_)
 refine V.seq (fun K30 hK31 => ?_)
 refine V.seq (fun K32 hK33 => ?_)
 refine V.region (by kernel_rfl) ?_
 refine V.go (V.asg evc ?_)
 refine V.nil ?_
 refine V.then_n (hK33 _ _ ?_)
 refine V.block ?_
 refine V.loop2 (fun (i : Nat) (T : Tb Int) a_ w_ => Sz 83 a_ ∧ a_.eval (.tmp 1) = (.slice A0 l.length c0) ∧ a_.eval (.tmp 5) = (.pointer (some ⟨t5, 0, none⟩)) ∧ a_.eval (.tmp 6) = (.pointer (some ⟨r12, 0, none⟩)) ∧ a_.eval (.tmp 7) = (.int .i64 (i : Int)) ∧ D2 w w_ ([]) t5 T r12 T ∧ Fr [] w w_ ∧ SlR opR (fun k => k < w.heap.size) w_ (.slice A0 l.length c0) l ∧ (i ≤ l.length ∧ i ≤ 200) ∧ (Gd T i)) (fun (i : Nat) (T : Tb Int) => l.length - i) 0 (newT seed) ?_ ?_
 ·
  refine ⟨hz21.p2.p1, ?_, ?_, ?_, ?_, hD15, hF_17, hS_18, (by omega), (Gd.new hsd)⟩
  · exact (o2 rfl (o1 rfl s1_23))
  · exact (o2 rfl (o1 rfl s5_24))
  · exact (o2 rfl (o1 rfl s6_25))
  · exact Eq.trans (at_same hz21.p2 rfl _) (V.int_eq (by omega))
 ·
  rintro i T a34 w35 ⟨hz36, s1_37, s5_38, s6_39, s7_40, hD_41, hF_42, hS_43, hi, hgT⟩
  have hfs44 := hF_42.size
  have hlen0 := hS.len_le
  refine V.seq (fun K45 hK46 => ?_)
  refine V.seq (fun K47 hK48 => ?_)
  refine V.region (by kernel_rfl) ?_
  refine V.go (V.mv (s7_40) ?_)
  refine V.go (V.mv (o1 rfl s1_37) ?_)
  refine V.go (V.pv [(18, .slice A0 l.length c0)] ⟨(at_same hz36.p1 rfl _), trivial⟩ (by kernel_rfl) (.int .i64 ((l.length : Nat) : Int)) (by kernel_rfl) ?_)
  refine V.go (V.pv [(17, .int .i64 (i : Int)), (19, .int .i64 ((l.length : Nat) : Int))] ⟨(o2 rfl (at_same hz36 rfl _)), (at_same hz36.p2 rfl _), trivial⟩ (by kernel_rfl) (.bool (decide ((i : Int) < ((l.length : Nat) : Int)))) (by kernel_rfl) ?_)
  refine V.go (V.mv (at_same hz36.p2.p1 rfl _) ?_)
  by_cases hg49 : (i : Int) < ((l.length : Nat) : Int)
  ·
   refine V.go_on 21 (by kernel_rfl) (((at_same hz36.p4 rfl _ : Act.eval _ _ = (.bool (decide ((i : Int) < ((l.length : Nat) : Int)))))).trans (dt hg49)) (V.mv (o4 rfl (o1 rfl s7_40)) ?_)
   refine V.go_on 21 (by kernel_rfl) (((o1 rfl (at_same hz36.p4 rfl _) : Act.eval _ _ = (.bool (decide ((i : Int) < ((l.length : Nat) : Int)))))).trans (dt hg49)) (V.pv [(22, .int .i64 (i : Int))] ⟨(at_same hz36.p4.p1 rfl _), trivial⟩ (by kernel_rfl) (.bool (decide ((i : Int) < 200))) (by kernel_rfl) ?_)
   refine V.go (V.pk_t (((o2 rfl (at_same hz36.p4 rfl _) : Act.eval _ _ = (.bool (decide ((i : Int) < ((l.length : Nat) : Int)))))).trans (dt hg49)) (v := (.bool (decide ((i : Int) < 200)))) (at_same hz36.p4.p2 rfl _) ?_)
   refine V.nil ?_
   refine V.then_n (hK48 _ _ ?_)
   refine V.flushW hz36.p8 (fun a50 hz51 up52 => ?_)
   have s1_53 := up52 1 _ (o8 rfl s1_37)
   have s5_54 : a50.eval (.tmp 5) = (.pointer (some ⟨t5, 0, none⟩)) := up52 _ _ (o8 rfl s5_38)
   have s6_55 : a50.eval (.tmp 6) = (.pointer (some ⟨r12, 0, none⟩)) := up52 _ _ (o8 rfl s6_39)
   have s7_56 := up52 7 _ (o8 rfl s7_40)
   have s24_57 := up52 24 _ (at_same hz36.p4.p2.p1 rfl _)
   clear up52
   refine V.condP (p := (i : Int) < 200) (s24_57) (fun ht58 => ?_) (fun ht58 => ?_)
   ·
    refine V.skip ?_
    refine V.then_n (hK46 _ _ ?_)
    refine V.seq (fun K59 hK60 => ?_)
    refine V.block ?_
    refine V.seq (fun K61 hK62 => ?_)
    refine V.seq (fun K63 hK64 => ?_)
    refine V.region (by kernel_rfl) ?_
    refine V.go (V.mv (v := (.pointer (some ⟨t5, 0, none⟩))) (s5_54) ?_)
    refine V.go (V.mv (v := (.pointer (some ⟨r12, 0, none⟩))) (o1 rfl s6_55) ?_)
    refine V.go (V.mv (o2 rfl s1_53) ?_)
    refine V.go (V.mv (o2 rfl (o1 rfl s7_56)) ?_)
    obtain ⟨g65, o66, hA67, hA67l, hA67z⟩ := hS_43.addr (by omega)
    refine V.go (V.ixa g65 o66 l.length c0 .i64 (i : Int) 4 ((o1 rfl (at_same hz51.p2 rfl _)).trans (by rw [hA67])) (at_same hz51.p2.p1 rfl _) (by omega) (by omega) (by kernel_rfl) ?_)
    obtain ⟨cs68, hok69, hE70⟩ := hS_43.els hA67 (i : Int) (by omega) (by omega)
    obtain ⟨rfl, hoo71⟩ := hok69
    refine V.go (V.lds ⟨g65, o66 + (i : Int).toNat * 4, none⟩ [.int .i64 ((at_ opR l (i : Int)).kind), .string ((at_ opR l (i : Int)).key), .int .i64 ((at_ opR l (i : Int)).v), .int .u64 ((at_ opR l (i : Int)).draw : Int)] (at_same hz51.p4 rfl _) (by kernel_rfl) (hE70.cells 0 _ rfl) ?_)
    refine V.go (V.call 16 #[] #[.pointer (some ⟨t5, 0, none⟩), .pointer (some ⟨r12, 0, none⟩), .agg #[.int .i64 ((at_ opR l (i : Int)).kind), .string ((at_ opR l (i : Int)).key), .int .i64 ((at_ opR l (i : Int)).v), .int .u64 ((at_ opR l (i : Int)).draw : Int)]] evf (args3 (o4 rfl (o1 rfl (at_same hz51 rfl _))) (o4 rfl (at_same hz51.p1 rfl _)) (at_same hz51.p4.p1 rfl _)) (Go.Proofs.enters_of Try.func16 (by kernel_rfl) rfl) (act_same w35 w ([]) t5 r12 T i (at_ opR l (i : Int)) hD_41 hgT (by omega) hoo71 (by omega)) ?_)
    rintro _ w74 ⟨rfl, hD72, hfp73⟩
    refine ⟨_, rfl, ?_⟩
    have hsw74 := hfp73.size
    have hF_75 := hF_42.trP hfp73 (fun k hk => .inr hk.1)
    have hS_76 := hS_43.frP hfp73 (fun k hz hp => by have h1 := hp.1; (try dsimp only at hz); omega)
    refine V.go (V.pv [(33, .bool true)] ⟨(at_same hz51.p4.p2 rfl _), trivial⟩ (by kernel_rfl) (.bool false) (by kernel_rfl) ?_)
    refine V.nil ?_
    refine V.then_n (hK64 _ _ ?_)
    refine V.flushW hz51.p8 (fun a77 hz78 up79 => ?_)
    have s1_80 := up79 1 _ (o8 rfl s1_53)
    have s5_81 : a77.eval (.tmp 5) = (.pointer (some ⟨t5, 0, none⟩)) := up79 _ _ (o8 rfl s5_54)
    have s6_82 : a77.eval (.tmp 6) = (.pointer (some ⟨r12, 0, none⟩)) := up79 _ _ (o8 rfl s6_55)
    have s7_83 := up79 7 _ (o8 rfl s7_56)
    have s34_84 := up79 34 _ (at_same hz51.p4.p2.p1 rfl _)
    clear up79
    refine V.cond_f (s34_84) ?_
    refine V.skip ?_
    refine V.then_n (hK62 _ _ ?_)
    refine V.seq (fun K85 hK86 => ?_)
    refine V.region (by kernel_rfl) ?_
    refine V.go (V.mv (v := (.pointer (some ⟨t5, 0, none⟩))) (s5_81) ?_)
    refine V.go (V.call 17 #[] #[.pointer (some ⟨t5, 0, none⟩)] evf (args1 (at_same hz78 rfl _)) (Go.Proofs.enters_of Try.func17 (by kernel_rfl) rfl) (hD72.rdT (fun Hq hq hqb => sizes_any w74 Hq ([]) t5 (actT T (at_ opR l (i : Int))) hq )) ?_)
    rintro _ w92 ⟨rfl, hF87⟩
    refine ⟨_, rfl, ?_⟩
    have hsw92 := hF87.size
    have hF_93 := hF_75.new hF87
    have hS_94 := hS_76.fr0 hF87
    have hD72_95 := hD72.fr0 hF87
    refine V.go (V.mv (v := (.tuple #[.int .i64 (((actT T (at_ opR l (i : Int))).a.length : Nat) : Int), .int .i64 (((actT T (at_ opR l (i : Int))).b.length : Nat) : Int), .int .i64 (((actT T (at_ opR l (i : Int))).moved : Nat) : Int)])) (at_same hz78.p1 rfl _) ?_)
    refine V.go (V.pv [(35, .tuple #[.int .i64 (((actT T (at_ opR l (i : Int))).a.length : Nat) : Int), .int .i64 (((actT T (at_ opR l (i : Int))).b.length : Nat) : Int), .int .i64 (((actT T (at_ opR l (i : Int))).moved : Nat) : Int)])] ⟨(at_same hz78.p2 rfl _), trivial⟩ (by kernel_rfl) (.int .i64 (((actT T (at_ opR l (i : Int))).a.length : Nat) : Int)) (by kernel_rfl) ?_)
    refine V.go (V.pv [(35, .tuple #[.int .i64 (((actT T (at_ opR l (i : Int))).a.length : Nat) : Int), .int .i64 (((actT T (at_ opR l (i : Int))).b.length : Nat) : Int), .int .i64 (((actT T (at_ opR l (i : Int))).moved : Nat) : Int)])] ⟨(o1 rfl (at_same hz78.p2 rfl _)), trivial⟩ (by kernel_rfl) (.int .i64 (((actT T (at_ opR l (i : Int))).b.length : Nat) : Int)) (by kernel_rfl) ?_)
    refine V.go (V.pv [(35, .tuple #[.int .i64 (((actT T (at_ opR l (i : Int))).a.length : Nat) : Int), .int .i64 (((actT T (at_ opR l (i : Int))).b.length : Nat) : Int), .int .i64 (((actT T (at_ opR l (i : Int))).moved : Nat) : Int)])] ⟨(o2 rfl (at_same hz78.p2 rfl _)), trivial⟩ (by kernel_rfl) (.int .i64 (((actT T (at_ opR l (i : Int))).moved : Nat) : Int)) (by kernel_rfl) ?_)
    refine V.go (V.asg (o2 rfl (at_same hz78.p2.p1 rfl _)) ?_)
    refine V.go (V.asg (o2 rfl (at_same hz78.p4 rfl _)) ?_)
    refine V.go (V.asg (o2 rfl (at_same hz78.p4.p1 rfl _)) ?_)
    refine V.nil ?_
    refine V.then_n (hK86 _ _ ?_)
    refine V.flushW hz78.p8.p1 (fun a96 hz97 up98 => ?_)
    have s1_99 := up98 1 _ (o8 rfl (o1 rfl s1_80))
    have s5_100 : a96.eval (.tmp 5) = (.pointer (some ⟨t5, 0, none⟩)) := up98 _ _ (o8 rfl (o1 rfl s5_81))
    have s6_101 : a96.eval (.tmp 6) = (.pointer (some ⟨r12, 0, none⟩)) := up98 _ _ (o8 rfl (o1 rfl s6_82))
    have s7_102 := up98 7 _ (o8 rfl (o1 rfl s7_83))
    have s8_103 := up98 8 _ (o2 rfl (at_same hz78.p4.p2 rfl _))
    have s9_104 := up98 9 _ (o1 rfl (at_same hz78.p4.p2.p1 rfl _))
    have s10_105 := up98 10 _ (at_same hz78.p8 rfl _)
    clear up98
    refine V.seq (fun K106 hK107 => ?_)
    have hga := hgT.act (by omega) (at_ opR l (i : Int))
    have hcn := hga.ok.cn
    have hnn := hga.nn
    obtain ⟨A110, B111, C112, D113, E114, hBU108⟩ := hD72_95.blkU
    have hltu := hBU108.lt
    refine V.plan [[], [0], [], [2], [2, 3], [2, 3, 4], [0, 1, 2, 3, 4, 5], [0, 1, 2, 3, 4, 5, 6], [0, 1, 2, 3, 4, 5, 6, 7], [0, 1, 2, 3, 4, 5, 6, 7], [0, 1, 2, 3, 4, 5, 6, 7, 9], [0, 1, 2, 3, 4, 5, 6, 7, 9, 10], [0, 1, 2, 3, 4, 5, 6, 7, 9, 10, 11], [0, 1, 2, 3, 4, 5, 6, 7, 9, 10, 11, 12], [0, 1, 2, 3, 4, 5, 6, 7, 8, 9, 10, 11, 12, 13], [0, 1, 2, 3, 4, 5, 6, 7, 8, 9, 10, 11, 12, 13, 14], [0, 1, 2, 3, 4, 5, 6, 7, 8, 9, 10, 11, 12, 13, 14, 15], [0, 1, 2, 3, 4, 5, 6, 7, 8, 9, 10, 11, 12, 13, 14, 15, 16], [0, 1, 2, 3, 4, 5, 6, 7, 8, 9, 10, 11, 12, 13, 14, 15, 16], [0, 1, 2, 3, 4, 5, 6, 7, 8, 9, 10, 11, 12, 13, 14, 15, 16, 18], [0, 1, 2, 3, 4, 5, 6, 7, 8, 9, 10, 11, 12, 13, 14, 15, 16, 18, 19], [0, 1, 2, 3, 4, 5, 6, 7, 8, 9, 10, 11, 12, 13, 14, 15, 16, 18, 19, 20], [0, 1, 2, 3, 4, 5, 6, 7, 8, 9, 10, 11, 12, 13, 14, 15, 16, 18, 19, 20, 21], [0, 1, 2, 3, 4, 5, 6, 7, 8, 9, 10, 11, 12, 13, 14, 15, 16, 17, 18, 19, 20, 21, 22], [0, 1, 2, 3, 4, 5, 6, 7, 8, 9, 10, 11, 12, 13, 14, 15, 16, 17, 18, 19, 20, 21, 22, 23], [0, 1, 2, 3, 4, 5, 6, 7, 8, 9, 10, 11, 12, 13, 14, 15, 16, 17, 18, 19, 20, 21, 22, 23, 24], [0, 1, 2, 3, 4, 5, 6, 7, 8, 9, 10, 11, 12, 13, 14, 15, 16, 17, 18, 19, 20, 21, 22, 23, 24, 25], [0, 1, 2, 3, 4, 5, 6, 7, 8, 9, 10, 11, 12, 13, 14, 15, 16, 17, 18, 19, 20, 21, 22, 23, 24, 25], [0, 1, 2, 3, 4, 5, 6, 7, 8, 9, 10, 11, 12, 13, 14, 15, 16, 17, 18, 19, 20, 21, 22, 23, 24, 25, 27], [0, 1, 2, 3, 4, 5, 6, 7, 8, 9, 10, 11, 12, 13, 14, 15, 16, 17, 18, 19, 20, 21, 22, 23, 24, 25, 27, 28], [0, 1, 2, 3, 4, 5, 6, 7, 8, 9, 10, 11, 12, 13, 14, 15, 16, 17, 18, 19, 20, 21, 22, 23, 24, 25, 27, 28, 29], [0, 1, 2, 3, 4, 5, 6, 7, 8, 9, 10, 11, 12, 13, 14, 15, 16, 17, 18, 19, 20, 21, 22, 23, 24, 25, 26, 27, 28, 29, 30], [0, 1, 2, 3, 4, 5, 6, 7, 8, 9, 10, 11, 12, 13, 14, 15, 16, 17, 18, 19, 20, 21, 22, 23, 24, 25, 26, 27, 28, 29, 30, 31], [0, 1, 2, 3, 4, 5, 6, 7, 8, 9, 10, 11, 12, 13, 14, 15, 16, 17, 18, 19, 20, 21, 22, 23, 24, 25, 26, 27, 28, 29, 30, 31, 32], [0, 1, 2, 3, 4, 5, 6, 7, 8, 9, 10, 11, 12, 13, 14, 15, 16, 17, 18, 19, 20, 21, 22, 23, 24, 25, 26, 27, 28, 29, 30, 31, 32, 33], [0, 1, 2, 3, 4, 5, 6, 7, 8, 9, 10, 11, 12, 13, 14, 15, 16, 17, 18, 19, 20, 21, 22, 23, 24, 25, 26, 27, 28, 29, 30, 31, 32, 33, 34], [0, 1, 2, 3, 4, 5, 6, 7, 8, 9, 10, 11, 12, 13, 14, 15, 16, 17, 18, 19, 20, 21, 22, 23, 24, 25, 26, 27, 28, 29, 30, 31, 32, 33], [0, 1, 2, 3, 4, 5, 6, 7, 8, 9, 10, 11, 12, 13, 14, 15, 16, 17, 18, 19, 20, 21, 22, 23, 24, 25, 26, 27, 28, 29, 30, 31, 32, 33, 34, 35, 36], [0, 1, 2, 3, 4, 5, 6, 7, 8, 9, 10, 11, 12, 13, 14, 15, 16, 17, 18, 19, 20, 21, 22, 23, 24, 25, 26, 27, 28, 29, 30, 31, 32, 33, 34, 35, 36, 37], [0, 1, 2, 3, 4, 5, 6, 7, 8, 9, 10, 11, 12, 13, 14, 15, 16, 17, 18, 19, 20, 21, 22, 23, 24, 25, 26, 27, 28, 29, 30, 31, 32, 33, 34, 35, 36, 37, 38], [0, 1, 2, 3, 4, 5, 6, 7, 8, 9, 10, 11, 12, 13, 14, 15, 16, 17, 18, 19, 20, 21, 22, 23, 24, 25, 26, 27, 28, 29, 30, 31, 32, 33, 34, 35, 36, 37, 38, 39]] [([0, 2, 3, 4, 5], some (1, [5])), ([6, 7, 8, 9, 10, 11, 12, 13, 14, 15, 16, 17, 18, 19, 20, 21, 22, 23, 24, 25, 26, 27, 28, 29, 30, 31, 32, 33, 34, 36], some (35, [])), ([], some (37, [])), ([], some (38, [])), ([39, 40], none)] (by kernel_rfl) (by kernel_rfl) (by exact fun _ _ _ _ h => h) ?_
    simp only [Plan.wpSegs, Plan.pickAll, Plan.nth, V.L_eq]
    obtain ⟨w115, hF116e⟩ : ∃ w1, w1 = w92.drew := ⟨_, rfl⟩
    rw [← hF116e]
    have hF116 : Fr [] w92 w115 := by rw [hF116e]; exact Fr.drew _ _
    have hsw115 : w115.heap.size = w92.heap.size := by rw [hF116e]; rfl
    clear hF116e
    have hF_117 := hF_93.new hF116
    have hS_118 := hS_94.fr0 hF116
    have hD72_119 := hD72_95.fr0 hF116
    have hBU108_120 := hBU108.fr0 hF116
    refine V.go (V.mv (v := (.pointer (some ⟨t5, 0, none⟩))) (s5_100) ?_)
    refine V.go (V.mv (v := (.pointer (some ⟨r12, 0, none⟩))) (o1 rfl s6_101) ?_)
    refine V.go (V.pv [(43, .pointer (some ⟨r12, 0, none⟩))] ⟨(at_same hz97.p1 rfl _), trivial⟩ (by kernel_rfl) (.pointer (some ⟨r12, 0, none⟩)) (by kernel_rfl) ?_)
    refine V.go (V.pv [(44, .pointer (some ⟨r12, 0, none⟩))] ⟨(at_same hz97.p2 rfl _), trivial⟩ (by kernel_rfl) (.pointer (some ⟨r12, 4, none⟩)) (by kernel_rfl) ?_)
    refine V.go (V.ld ⟨r12, 4, none⟩ (.int .i64 (((actT T (at_ opR l (i : Int))).n : Nat) : Int)) (at_same hz97.p2.p1 rfl _) (by kernel_rfl) (hBU108_120.at 4 rfl) ?_)
    refine V.nil ?_
    refine ⟨chk [(43, .pointer (some ⟨r12, 0, none⟩))] ⟨(o2 rfl (o1 rfl (at_same hz97.p1 rfl _))), trivial⟩ (by kernel_rfl), ?_⟩
    refine V.go (V.call 18 #[] #[.pointer (some ⟨t5, 0, none⟩)] evf (args1 (o4 rfl (at_same hz97 rfl _))) (Go.Proofs.enters_of Try.func18 (by kernel_rfl) rfl) (hD72_119.rdT (fun Hq hq hqb => len_any w115 Hq ([]) t5 (actT T (at_ opR l (i : Int))) hq )) ?_)
    rintro _ w126 ⟨rfl, hF121⟩
    refine ⟨_, rfl, ?_⟩
    have hsw126 := hF121.size
    have hF_127 := hF_117.new hF121
    have hS_128 := hS_118.fr0 hF121
    have hD72_129 := hD72_119.fr0 hF121
    have hBU108_130 := hBU108_120.fr0 hF121
    refine V.nil ?_
    refine ⟨(fun _ => held_blk (n := 1) (hx := (o1 rfl (at_same hz97.p2.p1 rfl _))) hBU108_120 hBU108_130 (by kernel_rfl) rfl (by simp only [List.length]; omega)), ?_⟩
    refine V.go (V.pvw [(42, .int .i64 (((actT T (at_ opR l (i : Int))).n : Nat) : Int)), (46, .int .i64 (((actT T (at_ opR l (i : Int))).n : Nat) : Int))] ⟨(at_same hz97.p4.p1 rfl _), (o1 rfl (at_same hz97.p4 rfl _)), trivial⟩ (by kernel_rfl) (.bool ((((actT T (at_ opR l (i : Int))).n : Nat) : Int) != (((actT T (at_ opR l (i : Int))).n : Nat) : Int))) (.bool (decide (¬ (((actT T (at_ opR l (i : Int))).n : Nat) : Int) = (((actT T (at_ opR l (i : Int))).n : Nat) : Int)))) (by kernel_rfl) V.t_neq ?_)
    refine V.go (V.mv (at_same hz97.p4.p2 rfl _) ?_)
    by_cases hg131 : ¬ (((actT T (at_ opR l (i : Int))).n : Nat) : Int) = (((actT T (at_ opR l (i : Int))).n : Nat) : Int)
    ·
     refine V.go_off 48 (by kernel_rfl) (((at_same hz97.p4.p2.p1 rfl _ : Act.eval _ _ = (.bool (decide (¬ (((actT T (at_ opR l (i : Int))).n : Nat) : Int) = (((actT T (at_ opR l (i : Int))).n : Nat) : Int)))))).trans (dt hg131)) (by kernel_rfl) ?_
     refine V.go_off 48 (by kernel_rfl) (((o1 rfl (at_same hz97.p4.p2.p1 rfl _) : Act.eval _ _ = (.bool (decide (¬ (((actT T (at_ opR l (i : Int))).n : Nat) : Int) = (((actT T (at_ opR l (i : Int))).n : Nat) : Int)))))).trans (dt hg131)) (by kernel_rfl) ?_
     refine V.go_off 48 (by kernel_rfl) (((o2 rfl (at_same hz97.p4.p2.p1 rfl _) : Act.eval _ _ = (.bool (decide (¬ (((actT T (at_ opR l (i : Int))).n : Nat) : Int) = (((actT T (at_ opR l (i : Int))).n : Nat) : Int)))))).trans (dt hg131)) (by kernel_rfl) ?_
     refine V.go_off 48 (by kernel_rfl) (((o2 rfl (o1 rfl (at_same hz97.p4.p2.p1 rfl _)) : Act.eval _ _ = (.bool (decide (¬ (((actT T (at_ opR l (i : Int))).n : Nat) : Int) = (((actT T (at_ opR l (i : Int))).n : Nat) : Int)))))).trans (dt hg131)) (by kernel_rfl) ?_
     refine V.go_off 48 (by kernel_rfl) (((o4 rfl (at_same hz97.p4.p2.p1 rfl _) : Act.eval _ _ = (.bool (decide (¬ (((actT T (at_ opR l (i : Int))).n : Nat) : Int) = (((actT T (at_ opR l (i : Int))).n : Nat) : Int)))))).trans (dt hg131)) (by kernel_rfl) ?_
     refine V.go_off 48 (by kernel_rfl) (((o4 rfl (o1 rfl (at_same hz97.p4.p2.p1 rfl _)) : Act.eval _ _ = (.bool (decide (¬ (((actT T (at_ opR l (i : Int))).n : Nat) : Int) = (((actT T (at_ opR l (i : Int))).n : Nat) : Int)))))).trans (dt hg131)) (by kernel_rfl) ?_
     refine V.go_off 48 (by kernel_rfl) (((o4 rfl (o2 rfl (at_same hz97.p4.p2.p1 rfl _)) : Act.eval _ _ = (.bool (decide (¬ (((actT T (at_ opR l (i : Int))).n : Nat) : Int) = (((actT T (at_ opR l (i : Int))).n : Nat) : Int)))))).trans (dt hg131)) (by kernel_rfl) ?_
     refine V.go (V.pk_t (((o4 rfl (o2 rfl (o1 rfl (at_same hz97.p4.p2.p1 rfl _))) : Act.eval _ _ = (.bool (decide (¬ (((actT T (at_ opR l (i : Int))).n : Nat) : Int) = (((actT T (at_ opR l (i : Int))).n : Nat) : Int)))))).trans (dt hg131)) (v := (.bool true)) evc ?_)
     refine V.go (V.mv (at_same hz97.p8.p4.p2.p1 rfl _) ?_)
     refine V.go_off 57 (by kernel_rfl) (at_same hz97.p16 rfl _) (by kernel_rfl) ?_
     refine V.go_off 57 (by kernel_rfl) (o1 rfl (at_same hz97.p16 rfl _)) (by kernel_rfl) ?_
     refine V.go_off 57 (by kernel_rfl) (o2 rfl (at_same hz97.p16 rfl _)) (by kernel_rfl) ?_
     refine V.go_off 57 (by kernel_rfl) (o2 rfl (o1 rfl (at_same hz97.p16 rfl _))) (by kernel_rfl) ?_
     refine V.go_off 57 (by kernel_rfl) (o4 rfl (at_same hz97.p16 rfl _)) (by kernel_rfl) ?_
     refine V.go_off 57 (by kernel_rfl) (o4 rfl (o1 rfl (at_same hz97.p16 rfl _))) (by kernel_rfl) ?_
     refine V.go_off 57 (by kernel_rfl) (o4 rfl (o2 rfl (at_same hz97.p16 rfl _))) (by kernel_rfl) ?_
     refine V.go (V.pk_t (o4 rfl (o2 rfl (o1 rfl (at_same hz97.p16 rfl _)))) (v := (.bool true)) evc ?_)
     refine V.flushL hz97.p16.p8.p1 (fun a132 hz133 up134 => ?_)
     have s1_135 := up134 1 _ (o16 rfl (o8 rfl (o1 rfl s1_99)))
     have s5_136 : a132.eval (.tmp 5) = (.pointer (some ⟨t5, 0, none⟩)) := up134 _ _ (o16 rfl (o8 rfl (o1 rfl s5_100)))
     have s6_137 : a132.eval (.tmp 6) = (.pointer (some ⟨r12, 0, none⟩)) := up134 _ _ (o16 rfl (o8 rfl (o1 rfl s6_101)))
     have s7_138 := up134 7 _ (o16 rfl (o8 rfl (o1 rfl s7_102)))
     have s8_139 := up134 8 _ (o16 rfl (o8 rfl (o1 rfl s8_103)))
     have s9_140 := up134 9 _ (o16 rfl (o8 rfl (o1 rfl s9_104)))
     have s10_141 := up134 10 _ (o16 rfl (o8 rfl (o1 rfl s10_105)))
     have s41_142 : a132.eval (.tmp 41) = (.pointer (some ⟨t5, 0, none⟩)) := up134 _ _ (o16 rfl (o8 rfl (at_same hz97 rfl _)))
     have s42_143 : a132.eval (.tmp 42) = (.int .i64 (((actT T (at_ opR l (i : Int))).n : Nat) : Int)) := up134 _ _ (o16 rfl (o2 rfl (o1 rfl (at_same hz97.p4.p1 rfl _))))
     have s43_144 : a132.eval (.tmp 43) = (.pointer (some ⟨r12, 0, none⟩)) := up134 _ _ (o16 rfl (o4 rfl (o2 rfl (o1 rfl (at_same hz97.p1 rfl _)))))
     have s44_145 : a132.eval (.tmp 44) = (.pointer (some ⟨r12, 0, none⟩)) := up134 _ _ (o16 rfl (o4 rfl (o2 rfl (at_same hz97.p2 rfl _))))
     have s45_146 := up134 45 _ (o16 rfl (o4 rfl (o1 rfl (at_same hz97.p2.p1 rfl _))))
     have s46_147 := up134 46 _ (o16 rfl (o4 rfl (at_same hz97.p4 rfl _)))
     have s47_148 := up134 47 _ (o16 rfl (o2 rfl (at_same hz97.p4.p2 rfl _)))
     have s48_149 := up134 48 _ (o16 rfl (o1 rfl (at_same hz97.p4.p2.p1 rfl _)))
     have s49_150 := up134 49 _ (o16 rfl (at_same hz97.p8 rfl _))
     have s50_151 := up134 50 _ (o8 rfl (o4 rfl (o2 rfl (o1 rfl (at_same hz97.p8.p1 rfl _)))))
     have s51_152 := up134 51 _ (o8 rfl (o4 rfl (o2 rfl (at_same hz97.p8.p2 rfl _))))
     have s52_153 := up134 52 _ (o8 rfl (o4 rfl (o1 rfl (at_same hz97.p8.p2.p1 rfl _))))
     have s53_154 := up134 53 _ (o8 rfl (o4 rfl (at_same hz97.p8.p4 rfl _)))
     have s54_155 := up134 54 _ (o8 rfl (o2 rfl (o1 rfl (at_same hz97.p8.p4.p1 rfl _))))
     have s55_156 := up134 55 _ (o8 rfl (o2 rfl (at_same hz97.p8.p4.p2 rfl _)))
     have s56_157 := up134 56 _ (o8 rfl (o1 rfl (at_same hz97.p8.p4.p2.p1 rfl _)))
     have s57_158 := up134 57 _ (o8 rfl (at_same hz97.p16 rfl _))
     have s58_159 := up134 58 _ (o4 rfl (o2 rfl (o1 rfl (at_same hz97.p16.p1 rfl _))))
     have s59_160 := up134 59 _ (o4 rfl (o2 rfl (at_same hz97.p16.p2 rfl _)))
     have s60_161 := up134 60 _ (o4 rfl (o1 rfl (at_same hz97.p16.p2.p1 rfl _)))
     have s61_162 := up134 61 _ (o4 rfl (at_same hz97.p16.p4 rfl _))
     have s62_163 := up134 62 _ (o2 rfl (o1 rfl (at_same hz97.p16.p4.p1 rfl _)))
     have s63_164 := up134 63 _ (o2 rfl (at_same hz97.p16.p4.p2 rfl _))
     have s64_165 := up134 64 _ (o1 rfl (at_same hz97.p16.p4.p2.p1 rfl _))
     have s65_166 := up134 65 _ (at_same hz97.p16.p8 rfl _)
     clear up134
     refine V.go (V.mv (s65_166) ?_)
     refine V.go_off 66 (by kernel_rfl) (at_same hz133 rfl _) (by kernel_rfl) ?_
     refine V.go_off 66 (by kernel_rfl) (o1 rfl (at_same hz133 rfl _)) (by kernel_rfl) ?_
     refine V.go_off 66 (by kernel_rfl) (o2 rfl (at_same hz133 rfl _)) (by kernel_rfl) ?_
     refine V.go_off 66 (by kernel_rfl) (o2 rfl (o1 rfl (at_same hz133 rfl _))) (by kernel_rfl) ?_
     refine V.go_off 66 (by kernel_rfl) (o4 rfl (at_same hz133 rfl _)) (by kernel_rfl) ?_
     refine V.go_off 66 (by kernel_rfl) (o4 rfl (o1 rfl (at_same hz133 rfl _))) (by kernel_rfl) ?_
     refine V.go (V.pk_t (o4 rfl (o2 rfl (at_same hz133 rfl _))) (v := (.bool true)) evc ?_)
     refine V.go (V.mv (at_same hz133.p4.p2.p1 rfl _) ?_)
     refine V.go_off 74 (by kernel_rfl) (at_same hz133.p8 rfl _) (by kernel_rfl) ?_
     refine V.go_off 74 (by kernel_rfl) (o1 rfl (at_same hz133.p8 rfl _)) (by kernel_rfl) ?_
     refine V.nil ?_
     refine ⟨chk [(42, .int .i64 (((actT T (at_ opR l (i : Int))).n : Nat) : Int)), (46, .int .i64 (((actT T (at_ opR l (i : Int))).n : Nat) : Int)), (50, undef), (53, undef), (49, undef), (54, undef), (59, undef), (62, undef), (58, undef), (63, undef), (68, undef), (67, undef), (71, undef), (48, .bool true), (57, .bool true), (66, .bool true), (74, .bool true)] ⟨(o8 rfl (o2 rfl (o1 rfl s42_143))), (o8 rfl (o2 rfl (o1 rfl s46_147))), (o8 rfl (o2 rfl (o1 rfl s50_151))), (o8 rfl (o2 rfl (o1 rfl s53_154))), (o8 rfl (o2 rfl (o1 rfl s49_150))), (o8 rfl (o2 rfl (o1 rfl s54_155))), (o8 rfl (o2 rfl (o1 rfl s59_160))), (o8 rfl (o2 rfl (o1 rfl s62_163))), (o8 rfl (o2 rfl (o1 rfl s58_159))), (o8 rfl (o2 rfl (o1 rfl s63_164))), (o8 rfl (at_same hz133.p2 rfl _)), (o8 rfl (o1 rfl (at_same hz133.p1 rfl _))), (o4 rfl (o1 rfl (at_same hz133.p4.p1 rfl _))), (((o8 rfl (o2 rfl (o1 rfl s48_149)) : Act.eval _ _ = (.bool (decide (¬ (((actT T (at_ opR l (i : Int))).n : Nat) : Int) = (((actT T (at_ opR l (i : Int))).n : Nat) : Int)))))).trans (dt hg131)), (o8 rfl (o2 rfl (o1 rfl s57_158))), (o8 rfl (o2 rfl (at_same hz133 rfl _))), (o2 rfl (at_same hz133.p8 rfl _)), trivial⟩ (by kernel_rfl), ?_⟩
     refine V.go_off 74 (by kernel_rfl) (o2 rfl (at_same hz133.p8 rfl _)) (by kernel_rfl) ?_
     refine V.nil ?_
     refine ⟨trivial, ?_⟩
     refine V.nil ?_
     refine ⟨chk [] trivial (by kernel_rfl), ?_⟩
     refine V.go_off 74 (by kernel_rfl) (o2 rfl (o1 rfl (at_same hz133.p8 rfl _))) (by kernel_rfl) ?_
     refine V.nil ?_
     refine ⟨trivial, ?_⟩
     refine V.nil ?_
     refine ⟨chk [] trivial (by kernel_rfl), ?_⟩
     refine V.go_off 74 (by kernel_rfl) (o4 rfl (at_same hz133.p8 rfl _)) (by kernel_rfl) ?_
     refine V.nil ?_
     refine ⟨trivial, ?_⟩
     refine V.go_off 74 (by kernel_rfl) (o4 rfl (o1 rfl (at_same hz133.p8 rfl _))) (by kernel_rfl) ?_
     refine V.go (V.pk_t (o4 rfl (o2 rfl (at_same hz133.p8 rfl _))) (v := (.bool true)) evc ?_)
     refine V.nil ?_
     refine ⟨chk [(74, .bool true)] ⟨(o4 rfl (o2 rfl (o1 rfl (at_same hz133.p8 rfl _)))), trivial⟩ (by kernel_rfl), ?_⟩
     refine V.then_n (hK107 _ _ ?_)
     refine V.flushW hz133.p16 (fun a167 hz168 up169 => ?_)
     have s1_170 := up169 1 _ (o16 rfl s1_135)
     have s5_171 : a167.eval (.tmp 5) = (.pointer (some ⟨t5, 0, none⟩)) := up169 _ _ (o16 rfl s5_136)
     have s6_172 : a167.eval (.tmp 6) = (.pointer (some ⟨r12, 0, none⟩)) := up169 _ _ (o16 rfl s6_137)
     have s7_173 := up169 7 _ (o16 rfl s7_138)
     have s81_174 := up169 81 _ (at_same hz133.p8.p4.p2.p1 rfl _)
     clear up169
     refine V.cond_t (s81_174) ?_
     refine V.seq (fun K175 hK176 => ?_)
     refine V.region (by kernel_rfl) ?_
     refine V.go (V.asg evc ?_)
     refine V.nil ?_
     refine V.then_n (hK176 _ _ ?_)
     refine V.ret ?_
     refine V.blk_r ?_
     refine V.then_r ?_
     refine V.then_r ?_
     refine V.blk_r ?_
     refine V.then_r ?_
     refine V.ret1 hz168.p1 rfl (at_same hz168 rfl _) ?_
     exact absurd rfl hg131
    ·
     refine V.go_on 48 (by kernel_rfl) (((at_same hz97.p4.p2.p1 rfl _ : Act.eval _ _ = (.bool (decide (¬ (((actT T (at_ opR l (i : Int))).n : Nat) : Int) = (((actT T (at_ opR l (i : Int))).n : Nat) : Int)))))).trans (df hg131)) (V.mv (o8 rfl s8_103) ?_)
     refine V.go_on 48 (by kernel_rfl) (((o1 rfl (at_same hz97.p4.p2.p1 rfl _) : Act.eval _ _ = (.bool (decide (¬ (((actT T (at_ opR l (i : Int))).n : Nat) : Int) = (((actT T (at_ opR l (i : Int))).n : Nat) : Int)))))).trans (df hg131)) (V.mv (v := (.pointer (some ⟨r12, 0, none⟩))) (o8 rfl (o1 rfl s6_101)) ?_)
     refine V.go_on 48 (by kernel_rfl) (((o2 rfl (at_same hz97.p4.p2.p1 rfl _) : Act.eval _ _ = (.bool (decide (¬ (((actT T (at_ opR l (i : Int))).n : Nat) : Int) = (((actT T (at_ opR l (i : Int))).n : Nat) : Int)))))).trans (df hg131)) (V.pv [(50, .pointer (some ⟨r12, 0, none⟩))] ⟨(at_same hz97.p8.p1 rfl _), trivial⟩ (by kernel_rfl) (.pointer (some ⟨r12, 0, none⟩)) (by kernel_rfl) ?_)
     refine V.go_on 48 (by kernel_rfl) (((o2 rfl (o1 rfl (at_same hz97.p4.p2.p1 rfl _)) : Act.eval _ _ = (.bool (decide (¬ (((actT T (at_ opR l (i : Int))).n : Nat) : Int) = (((actT T (at_ opR l (i : Int))).n : Nat) : Int)))))).trans (df hg131)) (V.pv [(51, .pointer (some ⟨r12, 0, none⟩))] ⟨(at_same hz97.p8.p2 rfl _), trivial⟩ (by kernel_rfl) (.pointer (some ⟨r12, 1, none⟩)) (by kernel_rfl) ?_)
     refine V.go_on 48 (by kernel_rfl) (((o4 rfl (at_same hz97.p4.p2.p1 rfl _) : Act.eval _ _ = (.bool (decide (¬ (((actT T (at_ opR l (i : Int))).n : Nat) : Int) = (((actT T (at_ opR l (i : Int))).n : Nat) : Int)))))).trans (df hg131)) (V.ld ⟨r12, 1, none⟩ (.slice B111 ((actT T (at_ opR l (i : Int))).a.length) C112) (at_same hz97.p8.p2.p1 rfl _) (by kernel_rfl) (hBU108_130.at 1 rfl) ?_)
     refine V.go_on 48 (by kernel_rfl) (((o4 rfl (o1 rfl (at_same hz97.p4.p2.p1 rfl _)) : Act.eval _ _ = (.bool (decide (¬ (((actT T (at_ opR l (i : Int))).n : Nat) : Int) = (((actT T (at_ opR l (i : Int))).n : Nat) : Int)))))).trans (df hg131)) (V.pv [(53, .slice B111 ((actT T (at_ opR l (i : Int))).a.length) C112)] ⟨(at_same hz97.p8.p4 rfl _), trivial⟩ (by kernel_rfl) (.int .i64 (((actT T (at_ opR l (i : Int))).a.length : Nat) : Int)) (by kernel_rfl) ?_)
     refine V.go_on 48 (by kernel_rfl) (((o4 rfl (o2 rfl (at_same hz97.p4.p2.p1 rfl _)) : Act.eval _ _ = (.bool (decide (¬ (((actT T (at_ opR l (i : Int))).n : Nat) : Int) = (((actT T (at_ opR l (i : Int))).n : Nat) : Int)))))).trans (df hg131)) (V.pvw [(49, .int .i64 (((actT T (at_ opR l (i : Int))).a.length : Nat) : Int)), (54, .int .i64 (((actT T (at_ opR l (i : Int))).a.length : Nat) : Int))] ⟨(o4 rfl (o1 rfl (at_same hz97.p8 rfl _))), (at_same hz97.p8.p4.p1 rfl _), trivial⟩ (by kernel_rfl) (.bool ((((actT T (at_ opR l (i : Int))).a.length : Nat) : Int) != (((actT T (at_ opR l (i : Int))).a.length : Nat) : Int))) (.bool (decide (¬ (((actT T (at_ opR l (i : Int))).a.length : Nat) : Int) = (((actT T (at_ opR l (i : Int))).a.length : Nat) : Int)))) (by kernel_rfl) V.t_neq ?_)
     refine V.go (V.pk_f (((o4 rfl (o2 rfl (o1 rfl (at_same hz97.p4.p2.p1 rfl _))) : Act.eval _ _ = (.bool (decide (¬ (((actT T (at_ opR l (i : Int))).n : Nat) : Int) = (((actT T (at_ opR l (i : Int))).n : Nat) : Int)))))).trans (df hg131)) (v := (.bool (decide (¬ (((actT T (at_ opR l (i : Int))).a.length : Nat) : Int) = (((actT T (at_ opR l (i : Int))).a.length : Nat) : Int))))) (at_same hz97.p8.p4.p2 rfl _) ?_)
     refine V.go (V.mv (at_same hz97.p8.p4.p2.p1 rfl _) ?_)
     by_cases hg177 : ¬ (((actT T (at_ opR l (i : Int))).a.length : Nat) : Int) = (((actT T (at_ opR l (i : Int))).a.length : Nat) : Int)
     ·
      refine V.go_off 57 (by kernel_rfl) (((at_same hz97.p16 rfl _ : Act.eval _ _ = (.bool (decide (¬ (((actT T (at_ opR l (i : Int))).a.length : Nat) : Int) = (((actT T (at_ opR l (i : Int))).a.length : Nat) : Int)))))).trans (dt hg177)) (by kernel_rfl) ?_
      refine V.go_off 57 (by kernel_rfl) (((o1 rfl (at_same hz97.p16 rfl _) : Act.eval _ _ = (.bool (decide (¬ (((actT T (at_ opR l (i : Int))).a.length : Nat) : Int) = (((actT T (at_ opR l (i : Int))).a.length : Nat) : Int)))))).trans (dt hg177)) (by kernel_rfl) ?_
      refine V.go_off 57 (by kernel_rfl) (((o2 rfl (at_same hz97.p16 rfl _) : Act.eval _ _ = (.bool (decide (¬ (((actT T (at_ opR l (i : Int))).a.length : Nat) : Int) = (((actT T (at_ opR l (i : Int))).a.length : Nat) : Int)))))).trans (dt hg177)) (by kernel_rfl) ?_
      refine V.go_off 57 (by kernel_rfl) (((o2 rfl (o1 rfl (at_same hz97.p16 rfl _)) : Act.eval _ _ = (.bool (decide (¬ (((actT T (at_ opR l (i : Int))).a.length : Nat) : Int) = (((actT T (at_ opR l (i : Int))).a.length : Nat) : Int)))))).trans (dt hg177)) (by kernel_rfl) ?_
      refine V.go_off 57 (by kernel_rfl) (((o4 rfl (at_same hz97.p16 rfl _) : Act.eval _ _ = (.bool (decide (¬ (((actT T (at_ opR l (i : Int))).a.length : Nat) : Int) = (((actT T (at_ opR l (i : Int))).a.length : Nat) : Int)))))).trans (dt hg177)) (by kernel_rfl) ?_
      refine V.go_off 57 (by kernel_rfl) (((o4 rfl (o1 rfl (at_same hz97.p16 rfl _)) : Act.eval _ _ = (.bool (decide (¬ (((actT T (at_ opR l (i : Int))).a.length : Nat) : Int) = (((actT T (at_ opR l (i : Int))).a.length : Nat) : Int)))))).trans (dt hg177)) (by kernel_rfl) ?_
      refine V.go_off 57 (by kernel_rfl) (((o4 rfl (o2 rfl (at_same hz97.p16 rfl _)) : Act.eval _ _ = (.bool (decide (¬ (((actT T (at_ opR l (i : Int))).a.length : Nat) : Int) = (((actT T (at_ opR l (i : Int))).a.length : Nat) : Int)))))).trans (dt hg177)) (by kernel_rfl) ?_
      refine V.go (V.pk_t (((o4 rfl (o2 rfl (o1 rfl (at_same hz97.p16 rfl _))) : Act.eval _ _ = (.bool (decide (¬ (((actT T (at_ opR l (i : Int))).a.length : Nat) : Int) = (((actT T (at_ opR l (i : Int))).a.length : Nat) : Int)))))).trans (dt hg177)) (v := (.bool true)) evc ?_)
      refine V.flushL hz97.p16.p8.p1 (fun a178 hz179 up180 => ?_)
      have s1_181 := up180 1 _ (o16 rfl (o8 rfl (o1 rfl s1_99)))
      have s5_182 : a178.eval (.tmp 5) = (.pointer (some ⟨t5, 0, none⟩)) := up180 _ _ (o16 rfl (o8 rfl (o1 rfl s5_100)))
      have s6_183 : a178.eval (.tmp 6) = (.pointer (some ⟨r12, 0, none⟩)) := up180 _ _ (o16 rfl (o8 rfl (o1 rfl s6_101)))
      have s7_184 := up180 7 _ (o16 rfl (o8 rfl (o1 rfl s7_102)))
      have s8_185 := up180 8 _ (o16 rfl (o8 rfl (o1 rfl s8_103)))
      have s9_186 := up180 9 _ (o16 rfl (o8 rfl (o1 rfl s9_104)))
      have s10_187 := up180 10 _ (o16 rfl (o8 rfl (o1 rfl s10_105)))
      have s41_188 : a178.eval (.tmp 41) = (.pointer (some ⟨t5, 0, none⟩)) := up180 _ _ (o16 rfl (o8 rfl (at_same hz97 rfl _)))
      have s42_189 : a178.eval (.tmp 42) = (.int .i64 (((actT T (at_ opR l (i : Int))).n : Nat) : Int)) := up180 _ _ (o16 rfl (o2 rfl (o1 rfl (at_same hz97.p4.p1 rfl _))))
      have s43_190 : a178.eval (.tmp 43) = (.pointer (some ⟨r12, 0, none⟩)) := up180 _ _ (o16 rfl (o4 rfl (o2 rfl (o1 rfl (at_same hz97.p1 rfl _)))))
      have s44_191 : a178.eval (.tmp 44) = (.pointer (some ⟨r12, 0, none⟩)) := up180 _ _ (o16 rfl (o4 rfl (o2 rfl (at_same hz97.p2 rfl _))))
      have s45_192 := up180 45 _ (o16 rfl (o4 rfl (o1 rfl (at_same hz97.p2.p1 rfl _))))
      have s46_193 := up180 46 _ (o16 rfl (o4 rfl (at_same hz97.p4 rfl _)))
      have s47_194 := up180 47 _ (o16 rfl (o2 rfl (at_same hz97.p4.p2 rfl _)))
      have s48_195 := up180 48 _ (o16 rfl (o1 rfl (at_same hz97.p4.p2.p1 rfl _)))
      have s49_196 := up180 49 _ (o16 rfl (at_same hz97.p8 rfl _))
      have s50_197 : a178.eval (.tmp 50) = (.pointer (some ⟨r12, 0, none⟩)) := up180 _ _ (o8 rfl (o4 rfl (o2 rfl (o1 rfl (at_same hz97.p8.p1 rfl _)))))
      have s51_198 : a178.eval (.tmp 51) = (.pointer (some ⟨r12, 0, none⟩)) := up180 _ _ (o8 rfl (o4 rfl (o2 rfl (at_same hz97.p8.p2 rfl _))))
      have s52_199 := up180 52 _ (o8 rfl (o4 rfl (o1 rfl (at_same hz97.p8.p2.p1 rfl _))))
      have s53_200 := up180 53 _ (o8 rfl (o4 rfl (at_same hz97.p8.p4 rfl _)))
      have s54_201 := up180 54 _ (o8 rfl (o2 rfl (o1 rfl (at_same hz97.p8.p4.p1 rfl _))))
      have s55_202 := up180 55 _ (o8 rfl (o2 rfl (at_same hz97.p8.p4.p2 rfl _)))
      have s56_203 := up180 56 _ (o8 rfl (o1 rfl (at_same hz97.p8.p4.p2.p1 rfl _)))
      have s57_204 := up180 57 _ (o8 rfl (at_same hz97.p16 rfl _))
      have s58_205 := up180 58 _ (o4 rfl (o2 rfl (o1 rfl (at_same hz97.p16.p1 rfl _))))
      have s59_206 := up180 59 _ (o4 rfl (o2 rfl (at_same hz97.p16.p2 rfl _)))
      have s60_207 := up180 60 _ (o4 rfl (o1 rfl (at_same hz97.p16.p2.p1 rfl _)))
      have s61_208 := up180 61 _ (o4 rfl (at_same hz97.p16.p4 rfl _))
      have s62_209 := up180 62 _ (o2 rfl (o1 rfl (at_same hz97.p16.p4.p1 rfl _)))
      have s63_210 := up180 63 _ (o2 rfl (at_same hz97.p16.p4.p2 rfl _))
      have s64_211 := up180 64 _ (o1 rfl (at_same hz97.p16.p4.p2.p1 rfl _))
      have s65_212 := up180 65 _ (at_same hz97.p16.p8 rfl _)
      clear up180
      refine V.go (V.mv (s65_212) ?_)
      refine V.go_off 66 (by kernel_rfl) (at_same hz179 rfl _) (by kernel_rfl) ?_
      refine V.go_off 66 (by kernel_rfl) (o1 rfl (at_same hz179 rfl _)) (by kernel_rfl) ?_
      refine V.go_off 66 (by kernel_rfl) (o2 rfl (at_same hz179 rfl _)) (by kernel_rfl) ?_
      refine V.go_off 66 (by kernel_rfl) (o2 rfl (o1 rfl (at_same hz179 rfl _))) (by kernel_rfl) ?_
      refine V.go_off 66 (by kernel_rfl) (o4 rfl (at_same hz179 rfl _)) (by kernel_rfl) ?_
      refine V.go_off 66 (by kernel_rfl) (o4 rfl (o1 rfl (at_same hz179 rfl _))) (by kernel_rfl) ?_
      refine V.go (V.pk_t (o4 rfl (o2 rfl (at_same hz179 rfl _))) (v := (.bool true)) evc ?_)
      refine V.go (V.mv (at_same hz179.p4.p2.p1 rfl _) ?_)
      refine V.go_off 74 (by kernel_rfl) (at_same hz179.p8 rfl _) (by kernel_rfl) ?_
      refine V.go_off 74 (by kernel_rfl) (o1 rfl (at_same hz179.p8 rfl _)) (by kernel_rfl) ?_
      refine V.nil ?_
      refine ⟨chk [(42, .int .i64 (((actT T (at_ opR l (i : Int))).n : Nat) : Int)), (46, .int .i64 (((actT T (at_ opR l (i : Int))).n : Nat) : Int)), (50, .pointer (some ⟨r12, 0, none⟩)), (53, .slice B111 ((actT T (at_ opR l (i : Int))).a.length) C112), (49, .int .i64 (((actT T (at_ opR l (i : Int))).a.length : Nat) : Int)), (54, .int .i64 (((actT T (at_ opR l (i : Int))).a.length : Nat) : Int)), (59, undef), (62, undef), (58, undef), (63, undef), (68, undef), (67, undef), (71, undef), (48, .bool false), (57, .bool true), (66, .bool true), (74, .bool true)] ⟨(o8 rfl (o2 rfl (o1 rfl s42_189))), (o8 rfl (o2 rfl (o1 rfl s46_193))), (o8 rfl (o2 rfl (o1 rfl s50_197))), (o8 rfl (o2 rfl (o1 rfl s53_200))), (o8 rfl (o2 rfl (o1 rfl s49_196))), (o8 rfl (o2 rfl (o1 rfl s54_201))), (o8 rfl (o2 rfl (o1 rfl s59_206))), (o8 rfl (o2 rfl (o1 rfl s62_209))), (o8 rfl (o2 rfl (o1 rfl s58_205))), (o8 rfl (o2 rfl (o1 rfl s63_210))), (o8 rfl (at_same hz179.p2 rfl _)), (o8 rfl (o1 rfl (at_same hz179.p1 rfl _))), (o4 rfl (o1 rfl (at_same hz179.p4.p1 rfl _))), (((o8 rfl (o2 rfl (o1 rfl s48_195)) : Act.eval _ _ = (.bool (decide (¬ (((actT T (at_ opR l (i : Int))).n : Nat) : Int) = (((actT T (at_ opR l (i : Int))).n : Nat) : Int)))))).trans (df hg131)), (((o8 rfl (o2 rfl (o1 rfl s57_204)) : Act.eval _ _ = (.bool (decide (¬ (((actT T (at_ opR l (i : Int))).a.length : Nat) : Int) = (((actT T (at_ opR l (i : Int))).a.length : Nat) : Int)))))).trans (dt hg177)), (o8 rfl (o2 rfl (at_same hz179 rfl _))), (o2 rfl (at_same hz179.p8 rfl _)), trivial⟩ (by kernel_rfl), ?_⟩
      refine V.go_off 74 (by kernel_rfl) (o2 rfl (at_same hz179.p8 rfl _)) (by kernel_rfl) ?_
      refine V.nil ?_
      refine ⟨trivial, ?_⟩
      refine V.nil ?_
      refine ⟨chk [] trivial (by kernel_rfl), ?_⟩
      refine V.go_off 74 (by kernel_rfl) (o2 rfl (o1 rfl (at_same hz179.p8 rfl _))) (by kernel_rfl) ?_
      refine V.nil ?_
      refine ⟨trivial, ?_⟩
      refine V.nil ?_
      refine ⟨chk [] trivial (by kernel_rfl), ?_⟩
      refine V.go_off 74 (by kernel_rfl) (o4 rfl (at_same hz179.p8 rfl _)) (by kernel_rfl) ?_
      refine V.nil ?_
      refine ⟨trivial, ?_⟩
      refine V.go_off 74 (by kernel_rfl) (o4 rfl (o1 rfl (at_same hz179.p8 rfl _))) (by kernel_rfl) ?_
      refine V.go (V.pk_t (o4 rfl (o2 rfl (at_same hz179.p8 rfl _))) (v := (.bool true)) evc ?_)
      refine V.nil ?_
      refine ⟨chk [(74, .bool true)] ⟨(o4 rfl (o2 rfl (o1 rfl (at_same hz179.p8 rfl _)))), trivial⟩ (by kernel_rfl), ?_⟩
      refine V.then_n (hK107 _ _ ?_)
      refine V.flushW hz179.p16 (fun a213 hz214 up215 => ?_)
      have s1_216 := up215 1 _ (o16 rfl s1_181)
      have s5_217 : a213.eval (.tmp 5) = (.pointer (some ⟨t5, 0, none⟩)) := up215 _ _ (o16 rfl s5_182)
      have s6_218 : a213.eval (.tmp 6) = (.pointer (some ⟨r12, 0, none⟩)) := up215 _ _ (o16 rfl s6_183)
      have s7_219 := up215 7 _ (o16 rfl s7_184)
      have s81_220 := up215 81 _ (at_same hz179.p8.p4.p2.p1 rfl _)
      clear up215
      refine V.cond_t (s81_220) ?_
      refine V.seq (fun K221 hK222 => ?_)
      refine V.region (by kernel_rfl) ?_
      refine V.go (V.asg evc ?_)
      refine V.nil ?_
      refine V.then_n (hK222 _ _ ?_)
      refine V.ret ?_
      refine V.blk_r ?_
      refine V.then_r ?_
      refine V.then_r ?_
      refine V.blk_r ?_
      refine V.then_r ?_
      refine V.ret1 hz214.p1 rfl (at_same hz214 rfl _) ?_
      exact absurd rfl hg177
     ·
      refine V.go_on 57 (by kernel_rfl) (((at_same hz97.p16 rfl _ : Act.eval _ _ = (.bool (decide (¬ (((actT T (at_ opR l (i : Int))).a.length : Nat) : Int) = (((actT T (at_ opR l (i : Int))).a.length : Nat) : Int)))))).trans (df hg177)) (V.mv (o16 rfl (o1 rfl s9_104)) ?_)
      refine V.go_on 57 (by kernel_rfl) (((o1 rfl (at_same hz97.p16 rfl _) : Act.eval _ _ = (.bool (decide (¬ (((actT T (at_ opR l (i : Int))).a.length : Nat) : Int) = (((actT T (at_ opR l (i : Int))).a.length : Nat) : Int)))))).trans (df hg177)) (V.mv (v := (.pointer (some ⟨r12, 0, none⟩))) (o16 rfl (o2 rfl s6_101)) ?_)
      refine V.go_on 57 (by kernel_rfl) (((o2 rfl (at_same hz97.p16 rfl _) : Act.eval _ _ = (.bool (decide (¬ (((actT T (at_ opR l (i : Int))).a.length : Nat) : Int) = (((actT T (at_ opR l (i : Int))).a.length : Nat) : Int)))))).trans (df hg177)) (V.pv [(59, .pointer (some ⟨r12, 0, none⟩))] ⟨(at_same hz97.p16.p2 rfl _), trivial⟩ (by kernel_rfl) (.pointer (some ⟨r12, 0, none⟩)) (by kernel_rfl) ?_)
      refine V.go_on 57 (by kernel_rfl) (((o2 rfl (o1 rfl (at_same hz97.p16 rfl _)) : Act.eval _ _ = (.bool (decide (¬ (((actT T (at_ opR l (i : Int))).a.length : Nat) : Int) = (((actT T (at_ opR l (i : Int))).a.length : Nat) : Int)))))).trans (df hg177)) (V.pv [(60, .pointer (some ⟨r12, 0, none⟩))] ⟨(at_same hz97.p16.p2.p1 rfl _), trivial⟩ (by kernel_rfl) (.pointer (some ⟨r12, 2, none⟩)) (by kernel_rfl) ?_)
      refine V.go_on 57 (by kernel_rfl) (((o4 rfl (at_same hz97.p16 rfl _) : Act.eval _ _ = (.bool (decide (¬ (((actT T (at_ opR l (i : Int))).a.length : Nat) : Int) = (((actT T (at_ opR l (i : Int))).a.length : Nat) : Int)))))).trans (df hg177)) (V.ld ⟨r12, 2, none⟩ (.slice D113 ((actT T (at_ opR l (i : Int))).b.length) E114) (at_same hz97.p16.p4 rfl _) (by kernel_rfl) (hBU108_130.at 2 rfl) ?_)
      refine V.go_on 57 (by kernel_rfl) (((o4 rfl (o1 rfl (at_same hz97.p16 rfl _)) : Act.eval _ _ = (.bool (decide (¬ (((actT T (at_ opR l (i : Int))).a.length : Nat) : Int) = (((actT T (at_ opR l (i : Int))).a.length : Nat) : Int)))))).trans (df hg177)) (V.pv [(62, .slice D113 ((actT T (at_ opR l (i : Int))).b.length) E114)] ⟨(at_same hz97.p16.p4.p1 rfl _), trivial⟩ (by kernel_rfl) (.int .i64 (((actT T (at_ opR l (i : Int))).b.length : Nat) : Int)) (by kernel_rfl) ?_)
      refine V.go_on 57 (by kernel_rfl) (((o4 rfl (o2 rfl (at_same hz97.p16 rfl _)) : Act.eval _ _ = (.bool (decide (¬ (((actT T (at_ opR l (i : Int))).a.length : Nat) : Int) = (((actT T (at_ opR l (i : Int))).a.length : Nat) : Int)))))).trans (df hg177)) (V.pvw [(58, .int .i64 (((actT T (at_ opR l (i : Int))).b.length : Nat) : Int)), (63, .int .i64 (((actT T (at_ opR l (i : Int))).b.length : Nat) : Int))] ⟨(o4 rfl (o1 rfl (at_same hz97.p16.p1 rfl _))), (at_same hz97.p16.p4.p2 rfl _), trivial⟩ (by kernel_rfl) (.bool ((((actT T (at_ opR l (i : Int))).b.length : Nat) : Int) != (((actT T (at_ opR l (i : Int))).b.length : Nat) : Int))) (.bool (decide (¬ (((actT T (at_ opR l (i : Int))).b.length : Nat) : Int) = (((actT T (at_ opR l (i : Int))).b.length : Nat) : Int)))) (by kernel_rfl) V.t_neq ?_)
      refine V.go (V.pk_f (((o4 rfl (o2 rfl (o1 rfl (at_same hz97.p16 rfl _))) : Act.eval _ _ = (.bool (decide (¬ (((actT T (at_ opR l (i : Int))).a.length : Nat) : Int) = (((actT T (at_ opR l (i : Int))).a.length : Nat) : Int)))))).trans (df hg177)) (v := (.bool (decide (¬ (((actT T (at_ opR l (i : Int))).b.length : Nat) : Int) = (((actT T (at_ opR l (i : Int))).b.length : Nat) : Int))))) (at_same hz97.p16.p4.p2.p1 rfl _) ?_)
      refine V.flushL hz97.p16.p8.p1 (fun a223 hz224 up225 => ?_)
      have s1_226 := up225 1 _ (o16 rfl (o8 rfl (o1 rfl s1_99)))
      have s5_227 : a223.eval (.tmp 5) = (.pointer (some ⟨t5, 0, none⟩)) := up225 _ _ (o16 rfl (o8 rfl (o1 rfl s5_100)))
      have s6_228 : a223.eval (.tmp 6) = (.pointer (some ⟨r12, 0, none⟩)) := up225 _ _ (o16 rfl (o8 rfl (o1 rfl s6_101)))
      have s7_229 := up225 7 _ (o16 rfl (o8 rfl (o1 rfl s7_102)))
      have s8_230 := up225 8 _ (o16 rfl (o8 rfl (o1 rfl s8_103)))
      have s9_231 := up225 9 _ (o16 rfl (o8 rfl (o1 rfl s9_104)))
      have s10_232 := up225 10 _ (o16 rfl (o8 rfl (o1 rfl s10_105)))
      have s41_233 : a223.eval (.tmp 41) = (.pointer (some ⟨t5, 0, none⟩)) := up225 _ _ (o16 rfl (o8 rfl (at_same hz97 rfl _)))
      have s42_234 : a223.eval (.tmp 42) = (.int .i64 (((actT T (at_ opR l (i : Int))).n : Nat) : Int)) := up225 _ _ (o16 rfl (o2 rfl (o1 rfl (at_same hz97.p4.p1 rfl _))))
      have s43_235 : a223.eval (.tmp 43) = (.pointer (some ⟨r12, 0, none⟩)) := up225 _ _ (o16 rfl (o4 rfl (o2 rfl (o1 rfl (at_same hz97.p1 rfl _)))))
      have s44_236 : a223.eval (.tmp 44) = (.pointer (some ⟨r12, 0, none⟩)) := up225 _ _ (o16 rfl (o4 rfl (o2 rfl (at_same hz97.p2 rfl _))))
      have s45_237 := up225 45 _ (o16 rfl (o4 rfl (o1 rfl (at_same hz97.p2.p1 rfl _))))
      have s46_238 := up225 46 _ (o16 rfl (o4 rfl (at_same hz97.p4 rfl _)))
      have s47_239 := up225 47 _ (o16 rfl (o2 rfl (at_same hz97.p4.p2 rfl _)))
      have s48_240 := up225 48 _ (o16 rfl (o1 rfl (at_same hz97.p4.p2.p1 rfl _)))
      have s49_241 := up225 49 _ (o16 rfl (at_same hz97.p8 rfl _))
      have s50_242 : a223.eval (.tmp 50) = (.pointer (some ⟨r12, 0, none⟩)) := up225 _ _ (o8 rfl (o4 rfl (o2 rfl (o1 rfl (at_same hz97.p8.p1 rfl _)))))
      have s51_243 : a223.eval (.tmp 51) = (.pointer (some ⟨r12, 0, none⟩)) := up225 _ _ (o8 rfl (o4 rfl (o2 rfl (at_same hz97.p8.p2 rfl _))))
      have s52_244 := up225 52 _ (o8 rfl (o4 rfl (o1 rfl (at_same hz97.p8.p2.p1 rfl _))))
      have s53_245 := up225 53 _ (o8 rfl (o4 rfl (at_same hz97.p8.p4 rfl _)))
      have s54_246 := up225 54 _ (o8 rfl (o2 rfl (o1 rfl (at_same hz97.p8.p4.p1 rfl _))))
      have s55_247 := up225 55 _ (o8 rfl (o2 rfl (at_same hz97.p8.p4.p2 rfl _)))
      have s56_248 := up225 56 _ (o8 rfl (o1 rfl (at_same hz97.p8.p4.p2.p1 rfl _)))
      have s57_249 := up225 57 _ (o8 rfl (at_same hz97.p16 rfl _))
      have s58_250 := up225 58 _ (o4 rfl (o2 rfl (o1 rfl (at_same hz97.p16.p1 rfl _))))
      have s59_251 : a223.eval (.tmp 59) = (.pointer (some ⟨r12, 0, none⟩)) := up225 _ _ (o4 rfl (o2 rfl (at_same hz97.p16.p2 rfl _)))
      have s60_252 : a223.eval (.tmp 60) = (.pointer (some ⟨r12, 0, none⟩)) := up225 _ _ (o4 rfl (o1 rfl (at_same hz97.p16.p2.p1 rfl _)))
      have s61_253 := up225 61 _ (o4 rfl (at_same hz97.p16.p4 rfl _))
      have s62_254 := up225 62 _ (o2 rfl (o1 rfl (at_same hz97.p16.p4.p1 rfl _)))
      have s63_255 := up225 63 _ (o2 rfl (at_same hz97.p16.p4.p2 rfl _))
      have s64_256 := up225 64 _ (o1 rfl (at_same hz97.p16.p4.p2.p1 rfl _))
      have s65_257 := up225 65 _ (at_same hz97.p16.p8 rfl _)
      clear up225
      refine V.go (V.mv (s65_257) ?_)
      by_cases hg258 : ¬ (((actT T (at_ opR l (i : Int))).b.length : Nat) : Int) = (((actT T (at_ opR l (i : Int))).b.length : Nat) : Int)
      ·
       refine V.go_off 66 (by kernel_rfl) (((at_same hz224 rfl _ : Act.eval _ _ = (.bool (decide (¬ (((actT T (at_ opR l (i : Int))).b.length : Nat) : Int) = (((actT T (at_ opR l (i : Int))).b.length : Nat) : Int)))))).trans (dt hg258)) (by kernel_rfl) ?_
       refine V.go_off 66 (by kernel_rfl) (((o1 rfl (at_same hz224 rfl _) : Act.eval _ _ = (.bool (decide (¬ (((actT T (at_ opR l (i : Int))).b.length : Nat) : Int) = (((actT T (at_ opR l (i : Int))).b.length : Nat) : Int)))))).trans (dt hg258)) (by kernel_rfl) ?_
       refine V.go_off 66 (by kernel_rfl) (((o2 rfl (at_same hz224 rfl _) : Act.eval _ _ = (.bool (decide (¬ (((actT T (at_ opR l (i : Int))).b.length : Nat) : Int) = (((actT T (at_ opR l (i : Int))).b.length : Nat) : Int)))))).trans (dt hg258)) (by kernel_rfl) ?_
       refine V.go_off 66 (by kernel_rfl) (((o2 rfl (o1 rfl (at_same hz224 rfl _)) : Act.eval _ _ = (.bool (decide (¬ (((actT T (at_ opR l (i : Int))).b.length : Nat) : Int) = (((actT T (at_ opR l (i : Int))).b.length : Nat) : Int)))))).trans (dt hg258)) (by kernel_rfl) ?_
       refine V.go_off 66 (by kernel_rfl) (((o4 rfl (at_same hz224 rfl _) : Act.eval _ _ = (.bool (decide (¬ (((actT T (at_ opR l (i : Int))).b.length : Nat) : Int) = (((actT T (at_ opR l (i : Int))).b.length : Nat) : Int)))))).trans (dt hg258)) (by kernel_rfl) ?_
       refine V.go_off 66 (by kernel_rfl) (((o4 rfl (o1 rfl (at_same hz224 rfl _)) : Act.eval _ _ = (.bool (decide (¬ (((actT T (at_ opR l (i : Int))).b.length : Nat) : Int) = (((actT T (at_ opR l (i : Int))).b.length : Nat) : Int)))))).trans (dt hg258)) (by kernel_rfl) ?_
       refine V.go (V.pk_t (((o4 rfl (o2 rfl (at_same hz224 rfl _)) : Act.eval _ _ = (.bool (decide (¬ (((actT T (at_ opR l (i : Int))).b.length : Nat) : Int) = (((actT T (at_ opR l (i : Int))).b.length : Nat) : Int)))))).trans (dt hg258)) (v := (.bool true)) evc ?_)
       refine V.go (V.mv (at_same hz224.p4.p2.p1 rfl _) ?_)
       refine V.go_off 74 (by kernel_rfl) (at_same hz224.p8 rfl _) (by kernel_rfl) ?_
       refine V.go_off 74 (by kernel_rfl) (o1 rfl (at_same hz224.p8 rfl _)) (by kernel_rfl) ?_
       refine V.nil ?_
       refine ⟨chk [(42, .int .i64 (((actT T (at_ opR l (i : Int))).n : Nat) : Int)), (46, .int .i64 (((actT T (at_ opR l (i : Int))).n : Nat) : Int)), (50, .pointer (some ⟨r12, 0, none⟩)), (53, .slice B111 ((actT T (at_ opR l (i : Int))).a.length) C112), (49, .int .i64 (((actT T (at_ opR l (i : Int))).a.length : Nat) : Int)), (54, .int .i64 (((actT T (at_ opR l (i : Int))).a.length : Nat) : Int)), (59, .pointer (some ⟨r12, 0, none⟩)), (62, .slice D113 ((actT T (at_ opR l (i : Int))).b.length) E114), (58, .int .i64 (((actT T (at_ opR l (i : Int))).b.length : Nat) : Int)), (63, .int .i64 (((actT T (at_ opR l (i : Int))).b.length : Nat) : Int)), (68, undef), (67, undef), (71, undef), (48, .bool false), (57, .bool false), (66, .bool true), (74, .bool true)] ⟨(o8 rfl (o2 rfl (o1 rfl s42_234))), (o8 rfl (o2 rfl (o1 rfl s46_238))), (o8 rfl (o2 rfl (o1 rfl s50_242))), (o8 rfl (o2 rfl (o1 rfl s53_245))), (o8 rfl (o2 rfl (o1 rfl s49_241))), (o8 rfl (o2 rfl (o1 rfl s54_246))), (o8 rfl (o2 rfl (o1 rfl s59_251))), (o8 rfl (o2 rfl (o1 rfl s62_254))), (o8 rfl (o2 rfl (o1 rfl s58_250))), (o8 rfl (o2 rfl (o1 rfl s63_255))), (o8 rfl (at_same hz224.p2 rfl _)), (o8 rfl (o1 rfl (at_same hz224.p1 rfl _))), (o4 rfl (o1 rfl (at_same hz224.p4.p1 rfl _))), (((o8 rfl (o2 rfl (o1 rfl s48_240)) : Act.eval _ _ = (.bool (decide (¬ (((actT T (at_ opR l (i : Int))).n : Nat) : Int) = (((actT T (at_ opR l (i : Int))).n : Nat) : Int)))))).trans (df hg131)), (((o8 rfl (o2 rfl (o1 rfl s57_249)) : Act.eval _ _ = (.bool (decide (¬ (((actT T (at_ opR l (i : Int))).a.length : Nat) : Int) = (((actT T (at_ opR l (i : Int))).a.length : Nat) : Int)))))).trans (df hg177)), (((o8 rfl (o2 rfl (at_same hz224 rfl _)) : Act.eval _ _ = (.bool (decide (¬ (((actT T (at_ opR l (i : Int))).b.length : Nat) : Int) = (((actT T (at_ opR l (i : Int))).b.length : Nat) : Int)))))).trans (dt hg258)), (o2 rfl (at_same hz224.p8 rfl _)), trivial⟩ (by kernel_rfl), ?_⟩
       refine V.go_off 74 (by kernel_rfl) (o2 rfl (at_same hz224.p8 rfl _)) (by kernel_rfl) ?_
       refine V.nil ?_
       refine ⟨trivial, ?_⟩
       refine V.nil ?_
       refine ⟨chk [] trivial (by kernel_rfl), ?_⟩
       refine V.go_off 74 (by kernel_rfl) (o2 rfl (o1 rfl (at_same hz224.p8 rfl _))) (by kernel_rfl) ?_
       refine V.nil ?_
       refine ⟨trivial, ?_⟩
       refine V.nil ?_
       refine ⟨chk [] trivial (by kernel_rfl), ?_⟩
       refine V.go_off 74 (by kernel_rfl) (o4 rfl (at_same hz224.p8 rfl _)) (by kernel_rfl) ?_
       refine V.nil ?_
       refine ⟨trivial, ?_⟩
       refine V.go_off 74 (by kernel_rfl) (o4 rfl (o1 rfl (at_same hz224.p8 rfl _))) (by kernel_rfl) ?_
       refine V.go (V.pk_t (o4 rfl (o2 rfl (at_same hz224.p8 rfl _))) (v := (.bool true)) evc ?_)
       refine V.nil ?_
       refine ⟨chk [(74, .bool true)] ⟨(o4 rfl (o2 rfl (o1 rfl (at_same hz224.p8 rfl _)))), trivial⟩ (by kernel_rfl), ?_⟩
       refine V.then_n (hK107 _ _ ?_)
       refine V.flushW hz224.p16 (fun a259 hz260 up261 => ?_)
       have s1_262 := up261 1 _ (o16 rfl s1_226)
       have s5_263 : a259.eval (.tmp 5) = (.pointer (some ⟨t5, 0, none⟩)) := up261 _ _ (o16 rfl s5_227)
       have s6_264 : a259.eval (.tmp 6) = (.pointer (some ⟨r12, 0, none⟩)) := up261 _ _ (o16 rfl s6_228)
       have s7_265 := up261 7 _ (o16 rfl s7_229)
       have s81_266 := up261 81 _ (at_same hz224.p8.p4.p2.p1 rfl _)
       clear up261
       refine V.cond_t (s81_266) ?_
       refine V.seq (fun K267 hK268 => ?_)
       refine V.region (by kernel_rfl) ?_
       refine V.go (V.asg evc ?_)
       refine V.nil ?_
       refine V.then_n (hK268 _ _ ?_)
       refine V.ret ?_
       refine V.blk_r ?_
       refine V.then_r ?_
       refine V.then_r ?_
       refine V.blk_r ?_
       refine V.then_r ?_
       refine V.ret1 hz260.p1 rfl (at_same hz260 rfl _) ?_
       exact absurd rfl hg258
      ·
       refine V.go_on 66 (by kernel_rfl) (((at_same hz224 rfl _ : Act.eval _ _ = (.bool (decide (¬ (((actT T (at_ opR l (i : Int))).b.length : Nat) : Int) = (((actT T (at_ opR l (i : Int))).b.length : Nat) : Int)))))).trans (df hg258)) (V.mv (o1 rfl s10_232) ?_)
       refine V.go_on 66 (by kernel_rfl) (((o1 rfl (at_same hz224 rfl _) : Act.eval _ _ = (.bool (decide (¬ (((actT T (at_ opR l (i : Int))).b.length : Nat) : Int) = (((actT T (at_ opR l (i : Int))).b.length : Nat) : Int)))))).trans (df hg258)) (V.mv (v := (.pointer (some ⟨r12, 0, none⟩))) (o2 rfl s6_228) ?_)
       refine V.go_on 66 (by kernel_rfl) (((o2 rfl (at_same hz224 rfl _) : Act.eval _ _ = (.bool (decide (¬ (((actT T (at_ opR l (i : Int))).b.length : Nat) : Int) = (((actT T (at_ opR l (i : Int))).b.length : Nat) : Int)))))).trans (df hg258)) (V.pv [(68, .pointer (some ⟨r12, 0, none⟩))] ⟨(at_same hz224.p2 rfl _), trivial⟩ (by kernel_rfl) (.pointer (some ⟨r12, 0, none⟩)) (by kernel_rfl) ?_)
       refine V.go_on 66 (by kernel_rfl) (((o2 rfl (o1 rfl (at_same hz224 rfl _)) : Act.eval _ _ = (.bool (decide (¬ (((actT T (at_ opR l (i : Int))).b.length : Nat) : Int) = (((actT T (at_ opR l (i : Int))).b.length : Nat) : Int)))))).trans (df hg258)) (V.pv [(69, .pointer (some ⟨r12, 0, none⟩))] ⟨(at_same hz224.p2.p1 rfl _), trivial⟩ (by kernel_rfl) (.pointer (some ⟨r12, 3, none⟩)) (by kernel_rfl) ?_)
       refine V.go_on 66 (by kernel_rfl) (((o4 rfl (at_same hz224 rfl _) : Act.eval _ _ = (.bool (decide (¬ (((actT T (at_ opR l (i : Int))).b.length : Nat) : Int) = (((actT T (at_ opR l (i : Int))).b.length : Nat) : Int)))))).trans (df hg258)) (V.ld ⟨r12, 3, none⟩ (.int .i64 (((actT T (at_ opR l (i : Int))).moved : Nat) : Int)) (at_same hz224.p4 rfl _) (by kernel_rfl) (hBU108_130.at 3 rfl) ?_)
       refine V.go_on 66 (by kernel_rfl) (((o4 rfl (o1 rfl (at_same hz224 rfl _)) : Act.eval _ _ = (.bool (decide (¬ (((actT T (at_ opR l (i : Int))).b.length : Nat) : Int) = (((actT T (at_ opR l (i : Int))).b.length : Nat) : Int)))))).trans (df hg258)) (V.pvw [(67, .int .i64 (((actT T (at_ opR l (i : Int))).moved : Nat) : Int)), (71, .int .i64 (((actT T (at_ opR l (i : Int))).moved : Nat) : Int))] ⟨(o4 rfl (at_same hz224.p1 rfl _)), (at_same hz224.p4.p1 rfl _), trivial⟩ (by kernel_rfl) (.bool ((((actT T (at_ opR l (i : Int))).moved : Nat) : Int) != (((actT T (at_ opR l (i : Int))).moved : Nat) : Int))) (.bool (decide (¬ (((actT T (at_ opR l (i : Int))).moved : Nat) : Int) = (((actT T (at_ opR l (i : Int))).moved : Nat) : Int)))) (by kernel_rfl) V.t_neq ?_)
       refine V.go (V.pk_f (((o4 rfl (o2 rfl (at_same hz224 rfl _)) : Act.eval _ _ = (.bool (decide (¬ (((actT T (at_ opR l (i : Int))).b.length : Nat) : Int) = (((actT T (at_ opR l (i : Int))).b.length : Nat) : Int)))))).trans (df hg258)) (v := (.bool (decide (¬ (((actT T (at_ opR l (i : Int))).moved : Nat) : Int) = (((actT T (at_ opR l (i : Int))).moved : Nat) : Int))))) (at_same hz224.p4.p2 rfl _) ?_)
       refine V.go (V.mv (at_same hz224.p4.p2.p1 rfl _) ?_)
       by_cases hg269 : ¬ (((actT T (at_ opR l (i : Int))).moved : Nat) : Int) = (((actT T (at_ opR l (i : Int))).moved : Nat) : Int)
       ·
        refine V.go_off 74 (by kernel_rfl) (((at_same hz224.p8 rfl _ : Act.eval _ _ = (.bool (decide (¬ (((actT T (at_ opR l (i : Int))).moved : Nat) : Int) = (((actT T (at_ opR l (i : Int))).moved : Nat) : Int)))))).trans (dt hg269)) (by kernel_rfl) ?_
        refine V.go_off 74 (by kernel_rfl) (((o1 rfl (at_same hz224.p8 rfl _) : Act.eval _ _ = (.bool (decide (¬ (((actT T (at_ opR l (i : Int))).moved : Nat) : Int) = (((actT T (at_ opR l (i : Int))).moved : Nat) : Int)))))).trans (dt hg269)) (by kernel_rfl) ?_
        refine V.nil ?_
        refine ⟨chk [(42, .int .i64 (((actT T (at_ opR l (i : Int))).n : Nat) : Int)), (46, .int .i64 (((actT T (at_ opR l (i : Int))).n : Nat) : Int)), (50, .pointer (some ⟨r12, 0, none⟩)), (53, .slice B111 ((actT T (at_ opR l (i : Int))).a.length) C112), (49, .int .i64 (((actT T (at_ opR l (i : Int))).a.length : Nat) : Int)), (54, .int .i64 (((actT T (at_ opR l (i : Int))).a.length : Nat) : Int)), (59, .pointer (some ⟨r12, 0, none⟩)), (62, .slice D113 ((actT T (at_ opR l (i : Int))).b.length) E114), (58, .int .i64 (((actT T (at_ opR l (i : Int))).b.length : Nat) : Int)), (63, .int .i64 (((actT T (at_ opR l (i : Int))).b.length : Nat) : Int)), (68, .pointer (some ⟨r12, 0, none⟩)), (67, .int .i64 (((actT T (at_ opR l (i : Int))).moved : Nat) : Int)), (71, .int .i64 (((actT T (at_ opR l (i : Int))).moved : Nat) : Int)), (48, .bool false), (57, .bool false), (66, .bool false), (74, .bool true)] ⟨(o8 rfl (o2 rfl (o1 rfl s42_234))), (o8 rfl (o2 rfl (o1 rfl s46_238))), (o8 rfl (o2 rfl (o1 rfl s50_242))), (o8 rfl (o2 rfl (o1 rfl s53_245))), (o8 rfl (o2 rfl (o1 rfl s49_241))), (o8 rfl (o2 rfl (o1 rfl s54_246))), (o8 rfl (o2 rfl (o1 rfl s59_251))), (o8 rfl (o2 rfl (o1 rfl s62_254))), (o8 rfl (o2 rfl (o1 rfl s58_250))), (o8 rfl (o2 rfl (o1 rfl s63_255))), (o8 rfl (at_same hz224.p2 rfl _)), (o8 rfl (o1 rfl (at_same hz224.p1 rfl _))), (o4 rfl (o1 rfl (at_same hz224.p4.p1 rfl _))), (((o8 rfl (o2 rfl (o1 rfl s48_240)) : Act.eval _ _ = (.bool (decide (¬ (((actT T (at_ opR l (i : Int))).n : Nat) : Int) = (((actT T (at_ opR l (i : Int))).n : Nat) : Int)))))).trans (df hg131)), (((o8 rfl (o2 rfl (o1 rfl s57_249)) : Act.eval _ _ = (.bool (decide (¬ (((actT T (at_ opR l (i : Int))).a.length : Nat) : Int) = (((actT T (at_ opR l (i : Int))).a.length : Nat) : Int)))))).trans (df hg177)), (((o8 rfl (o2 rfl (at_same hz224 rfl _)) : Act.eval _ _ = (.bool (decide (¬ (((actT T (at_ opR l (i : Int))).b.length : Nat) : Int) = (((actT T (at_ opR l (i : Int))).b.length : Nat) : Int)))))).trans (df hg258)), (((o2 rfl (at_same hz224.p8 rfl _) : Act.eval _ _ = (.bool (decide (¬ (((actT T (at_ opR l (i : Int))).moved : Nat) : Int) = (((actT T (at_ opR l (i : Int))).moved : Nat) : Int)))))).trans (dt hg269)), trivial⟩ (by kernel_rfl), ?_⟩
        refine V.go_off 74 (by kernel_rfl) (((o2 rfl (at_same hz224.p8 rfl _) : Act.eval _ _ = (.bool (decide (¬ (((actT T (at_ opR l (i : Int))).moved : Nat) : Int) = (((actT T (at_ opR l (i : Int))).moved : Nat) : Int)))))).trans (dt hg269)) (by kernel_rfl) ?_
        refine V.nil ?_
        refine ⟨trivial, ?_⟩
        refine V.nil ?_
        refine ⟨chk [] trivial (by kernel_rfl), ?_⟩
        refine V.go_off 74 (by kernel_rfl) (((o2 rfl (o1 rfl (at_same hz224.p8 rfl _)) : Act.eval _ _ = (.bool (decide (¬ (((actT T (at_ opR l (i : Int))).moved : Nat) : Int) = (((actT T (at_ opR l (i : Int))).moved : Nat) : Int)))))).trans (dt hg269)) (by kernel_rfl) ?_
        refine V.nil ?_
        refine ⟨trivial, ?_⟩
        refine V.nil ?_
        refine ⟨chk [] trivial (by kernel_rfl), ?_⟩
        refine V.go_off 74 (by kernel_rfl) (((o4 rfl (at_same hz224.p8 rfl _) : Act.eval _ _ = (.bool (decide (¬ (((actT T (at_ opR l (i : Int))).moved : Nat) : Int) = (((actT T (at_ opR l (i : Int))).moved : Nat) : Int)))))).trans (dt hg269)) (by kernel_rfl) ?_
        refine V.nil ?_
        refine ⟨trivial, ?_⟩
        refine V.go_off 74 (by kernel_rfl) (((o4 rfl (o1 rfl (at_same hz224.p8 rfl _)) : Act.eval _ _ = (.bool (decide (¬ (((actT T (at_ opR l (i : Int))).moved : Nat) : Int) = (((actT T (at_ opR l (i : Int))).moved : Nat) : Int)))))).trans (dt hg269)) (by kernel_rfl) ?_
        refine V.go (V.pk_t (((o4 rfl (o2 rfl (at_same hz224.p8 rfl _)) : Act.eval _ _ = (.bool (decide (¬ (((actT T (at_ opR l (i : Int))).moved : Nat) : Int) = (((actT T (at_ opR l (i : Int))).moved : Nat) : Int)))))).trans (dt hg269)) (v := (.bool true)) evc ?_)
        refine V.nil ?_
        refine ⟨chk [(74, .bool true)] ⟨(((o4 rfl (o2 rfl (o1 rfl (at_same hz224.p8 rfl _))) : Act.eval _ _ = (.bool (decide (¬ (((actT T (at_ opR l (i : Int))).moved : Nat) : Int) = (((actT T (at_ opR l (i : Int))).moved : Nat) : Int)))))).trans (dt hg269)), trivial⟩ (by kernel_rfl), ?_⟩
        refine V.then_n (hK107 _ _ ?_)
        refine V.flushW hz224.p16 (fun a270 hz271 up272 => ?_)
        have s1_273 := up272 1 _ (o16 rfl s1_226)
        have s5_274 : a270.eval (.tmp 5) = (.pointer (some ⟨t5, 0, none⟩)) := up272 _ _ (o16 rfl s5_227)
        have s6_275 : a270.eval (.tmp 6) = (.pointer (some ⟨r12, 0, none⟩)) := up272 _ _ (o16 rfl s6_228)
        have s7_276 := up272 7 _ (o16 rfl s7_229)
        have s81_277 := up272 81 _ (at_same hz224.p8.p4.p2.p1 rfl _)
        clear up272
        refine V.cond_t (s81_277) ?_
        refine V.seq (fun K278 hK279 => ?_)
        refine V.region (by kernel_rfl) ?_
        refine V.go (V.asg evc ?_)
        refine V.nil ?_
        refine V.then_n (hK279 _ _ ?_)
        refine V.ret ?_
        refine V.blk_r ?_
        refine V.then_r ?_
        refine V.then_r ?_
        refine V.blk_r ?_
        refine V.then_r ?_
        refine V.ret1 hz271.p1 rfl (at_same hz271 rfl _) ?_
        exact absurd rfl hg269
       ·
        refine V.go_on 74 (by kernel_rfl) (((at_same hz224.p8 rfl _ : Act.eval _ _ = (.bool (decide (¬ (((actT T (at_ opR l (i : Int))).moved : Nat) : Int) = (((actT T (at_ opR l (i : Int))).moved : Nat) : Int)))))).trans (df hg269)) (V.mv (v := (.pointer (some ⟨t5, 0, none⟩))) (o8 rfl (o1 rfl s5_227)) ?_)
        refine V.go_on 74 (by kernel_rfl) (((o1 rfl (at_same hz224.p8 rfl _) : Act.eval _ _ = (.bool (decide (¬ (((actT T (at_ opR l (i : Int))).moved : Nat) : Int) = (((actT T (at_ opR l (i : Int))).moved : Nat) : Int)))))).trans (df hg269)) (V.mv (v := (.pointer (some ⟨r12, 0, none⟩))) (o8 rfl (o2 rfl s6_228)) ?_)
        refine V.nil ?_
        refine ⟨chk [(42, .int .i64 (((actT T (at_ opR l (i : Int))).n : Nat) : Int)), (46, .int .i64 (((actT T (at_ opR l (i : Int))).n : Nat) : Int)), (50, .pointer (some ⟨r12, 0, none⟩)), (53, .slice B111 ((actT T (at_ opR l (i : Int))).a.length) C112), (49, .int .i64 (((actT T (at_ opR l (i : Int))).a.length : Nat) : Int)), (54, .int .i64 (((actT T (at_ opR l (i : Int))).a.length : Nat) : Int)), (59, .pointer (some ⟨r12, 0, none⟩)), (62, .slice D113 ((actT T (at_ opR l (i : Int))).b.length) E114), (58, .int .i64 (((actT T (at_ opR l (i : Int))).b.length : Nat) : Int)), (63, .int .i64 (((actT T (at_ opR l (i : Int))).b.length : Nat) : Int)), (68, .pointer (some ⟨r12, 0, none⟩)), (67, .int .i64 (((actT T (at_ opR l (i : Int))).moved : Nat) : Int)), (71, .int .i64 (((actT T (at_ opR l (i : Int))).moved : Nat) : Int)), (48, .bool false), (57, .bool false), (66, .bool false), (74, .bool false)] ⟨(o8 rfl (o2 rfl (o1 rfl s42_234))), (o8 rfl (o2 rfl (o1 rfl s46_238))), (o8 rfl (o2 rfl (o1 rfl s50_242))), (o8 rfl (o2 rfl (o1 rfl s53_245))), (o8 rfl (o2 rfl (o1 rfl s49_241))), (o8 rfl (o2 rfl (o1 rfl s54_246))), (o8 rfl (o2 rfl (o1 rfl s59_251))), (o8 rfl (o2 rfl (o1 rfl s62_254))), (o8 rfl (o2 rfl (o1 rfl s58_250))), (o8 rfl (o2 rfl (o1 rfl s63_255))), (o8 rfl (at_same hz224.p2 rfl _)), (o8 rfl (o1 rfl (at_same hz224.p1 rfl _))), (o4 rfl (o1 rfl (at_same hz224.p4.p1 rfl _))), (((o8 rfl (o2 rfl (o1 rfl s48_240)) : Act.eval _ _ = (.bool (decide (¬ (((actT T (at_ opR l (i : Int))).n : Nat) : Int) = (((actT T (at_ opR l (i : Int))).n : Nat) : Int)))))).trans (df hg131)), (((o8 rfl (o2 rfl (o1 rfl s57_249)) : Act.eval _ _ = (.bool (decide (¬ (((actT T (at_ opR l (i : Int))).a.length : Nat) : Int) = (((actT T (at_ opR l (i : Int))).a.length : Nat) : Int)))))).trans (df hg177)), (((o8 rfl (o2 rfl (at_same hz224 rfl _)) : Act.eval _ _ = (.bool (decide (¬ (((actT T (at_ opR l (i : Int))).b.length : Nat) : Int) = (((actT T (at_ opR l (i : Int))).b.length : Nat) : Int)))))).trans (df hg258)), (((o2 rfl (at_same hz224.p8 rfl _) : Act.eval _ _ = (.bool (decide (¬ (((actT T (at_ opR l (i : Int))).moved : Nat) : Int) = (((actT T (at_ opR l (i : Int))).moved : Nat) : Int)))))).trans (df hg269)), trivial⟩ (by kernel_rfl), ?_⟩
        refine V.go_on 74 (by kernel_rfl) (((o2 rfl (at_same hz224.p8 rfl _) : Act.eval _ _ = (.bool (decide (¬ (((actT T (at_ opR l (i : Int))).moved : Nat) : Int) = (((actT T (at_ opR l (i : Int))).moved : Nat) : Int)))))).trans (df hg269)) (V.call 20 #[] #[.pointer (some ⟨t5, 0, none⟩)] evf (args1 (o1 rfl (at_same hz224.p8.p1 rfl _))) (Go.Proofs.enters_of Try.func20 (by kernel_rfl) rfl) (hD72_129.rdT (fun Hq hq hqb => litems_any w126 Hq ([]) t5 (actT T (at_ opR l (i : Int))) hq hqb (by omega))) ?_)
        rintro _ w285 ⟨A281, c282, rfl, hO283, hF280⟩
        refine ⟨_, rfl, ?_⟩
        have hsw285 := hF280.size
        have hF_286 := hF_127.new hF280
        have hS_287 := hS_128.fr0 hF280
        have hD72_288 := hD72_129.fr0 hF280
        have hBU108_289 := hBU108_130.fr0 hF280
        have hS284 := hO283.read (Z' := fun _ => True) (fun _ _ _ => trivial) (fun _ _ _ => trivial)
        refine V.nil ?_
        refine ⟨trivial, ?_⟩
        refine V.nil ?_
        refine ⟨chk [] trivial (by kernel_rfl), ?_⟩
        refine V.go_on 74 (by kernel_rfl) (((o2 rfl (o1 rfl (at_same hz224.p8 rfl _)) : Act.eval _ _ = (.bool (decide (¬ (((actT T (at_ opR l (i : Int))).moved : Nat) : Int) = (((actT T (at_ opR l (i : Int))).moved : Nat) : Int)))))).trans (df hg269)) (V.call 21 #[] #[.pointer (some ⟨r12, 0, none⟩)] evf (args1 (o1 rfl (at_same hz224.p8.p2 rfl _))) (Go.Proofs.enters_of Try.func21 (by kernel_rfl) rfl) (hD72_288.rdU (fun Hq hq hqb => rall_any w285 Hq ([]) r12 (actT T (at_ opR l (i : Int))) hq hqb)) ?_)
        rintro _ w295 ⟨A291, c292, rfl, hO293, hF290⟩
        refine ⟨_, rfl, ?_⟩
        have hsw295 := hF290.size
        have hF_296 := hF_286.new hF290
        have hS_297 := hS_287.fr0 hF290
        have hD72_298 := hD72_288.fr0 hF290
        have hBU108_299 := hBU108_289.fr0 hF290
        have hS284_300 := hS284.fr0 hF290
        have hS294 := hO293.read (Z' := fun _ => True) (fun _ _ _ => trivial) (fun _ _ _ => trivial)
        refine V.nil ?_
        refine ⟨trivial, ?_⟩
        refine V.nil ?_
        refine ⟨chk [] trivial (by kernel_rfl), ?_⟩
        refine V.go_on 74 (by kernel_rfl) (((o4 rfl (at_same hz224.p8 rfl _) : Act.eval _ _ = (.bool (decide (¬ (((actT T (at_ opR l (i : Int))).moved : Nat) : Int) = (((actT T (at_ opR l (i : Int))).moved : Nat) : Int)))))).trans (df hg269)) (V.call 19 #[] #[.slice A281 ((actT T (at_ opR l (i : Int))).n) c282, .slice A291 ((actT T (at_ opR l (i : Int))).n) c292] evf (args2 (o1 rfl (at_same hz224.p8.p2.p1 rfl _)) (at_same hz224.p8.p4 rfl _)) (Go.Proofs.enters_of Try.func19 (by kernel_rfl) rfl) (by (have h := same_any w295 _ _ A281 A291 c282 c292 (((actT T (at_ opR l (i : Int))).a ++ (actT T (at_ opR l (i : Int))).b).flatten) (by rw [hcn]; exact hS284_300) (by rw [hcn]; exact hS294); rw [hcn] at h; exact h)) ?_)
        rintro _ w302 ⟨rfl, hF301⟩
        refine ⟨_, rfl, ?_⟩
        have hsw302 := hF301.size
        have hF_303 := hF_296.new hF301
        have hS_304 := hS_297.fr0 hF301
        have hD72_305 := hD72_298.fr0 hF301
        have hBU108_306 := hBU108_299.fr0 hF301
        have hS284_307 := hS284_300.fr0 hF301
        have hS294_308 := hS294.fr0 hF301
        refine V.nil ?_
        refine ⟨trivial, ?_⟩
        refine V.go_on 74 (by kernel_rfl) (((o4 rfl (o1 rfl (at_same hz224.p8 rfl _)) : Act.eval _ _ = (.bool (decide (¬ (((actT T (at_ opR l (i : Int))).moved : Nat) : Int) = (((actT T (at_ opR l (i : Int))).moved : Nat) : Int)))))).trans (df hg269)) (V.pv [(79, .bool true)] ⟨(at_same hz224.p8.p4.p1 rfl _), trivial⟩ (by kernel_rfl) (.bool false) (by kernel_rfl) ?_)
        refine V.go (V.pk_f (((o4 rfl (o2 rfl (at_same hz224.p8 rfl _)) : Act.eval _ _ = (.bool (decide (¬ (((actT T (at_ opR l (i : Int))).moved : Nat) : Int) = (((actT T (at_ opR l (i : Int))).moved : Nat) : Int)))))).trans (df hg269)) (v := (.bool false)) (at_same hz224.p8.p4.p2 rfl _) ?_)
        refine V.nil ?_
        refine ⟨chk [(74, .bool false)] ⟨(((o4 rfl (o2 rfl (o1 rfl (at_same hz224.p8 rfl _))) : Act.eval _ _ = (.bool (decide (¬ (((actT T (at_ opR l (i : Int))).moved : Nat) : Int) = (((actT T (at_ opR l (i : Int))).moved : Nat) : Int)))))).trans (df hg269)), trivial⟩ (by kernel_rfl), ?_⟩
        refine V.then_n (hK107 _ _ ?_)
        refine V.flushW hz224.p16 (fun a309 hz310 up311 => ?_)
        have s1_312 := up311 1 _ (o16 rfl s1_226)
        have s5_313 : a309.eval (.tmp 5) = (.pointer (some ⟨t5, 0, none⟩)) := up311 _ _ (o16 rfl s5_227)
        have s6_314 : a309.eval (.tmp 6) = (.pointer (some ⟨r12, 0, none⟩)) := up311 _ _ (o16 rfl s6_228)
        have s7_315 := up311 7 _ (o16 rfl s7_229)
        have s81_316 := up311 81 _ (at_same hz224.p8.p4.p2.p1 rfl _)
        clear up311
        refine V.cond_f (s81_316) ?_
        refine V.skip ?_
        refine V.blk_n ?_
        refine V.then_n (hK60 _ _ ?_)
        refine V.region (by kernel_rfl) ?_
        refine V.go (V.mv (s7_315) ?_)
        refine V.go (V.pvw [(25, .int .i64 (i : Int))] ⟨(at_same hz310 rfl _), trivial⟩ (by kernel_rfl) (.int .i64 (IntKind.i64.wrap ((i : Int) + 1))) (.int .i64 ((i : Int) + 1)) (by kernel_rfl) (V.w_i64 (by omega) (by omega)) ?_)
        refine V.go (V.asg (at_same hz310.p1 rfl _) ?_)
        refine V.nil ?_
        refine V.then_n ?_
        refine ⟨i + 1, actT T (at_ opR l (i : Int)), by omega, ?_⟩
        refine ⟨hz310.p2.p1, ?_, ?_, ?_, ?_, hD72_305, hF_303, hS_304, (by omega), (hgT.act (by omega) _)⟩
        · exact (o2 rfl (o1 rfl s1_312))
        · exact (o2 rfl (o1 rfl s5_313))
        · exact (o2 rfl (o1 rfl s6_314))
        · exact Eq.trans (at_same hz310.p2 rfl _) (V.int_eq (by omega))
   ·
    refine V.exit ?_
    refine V.then_e ?_
    refine V.then_e ?_
    refine V.blk_hit ?_
    refine V.then_n (hK31 _ _ ?_)
    refine V.seq (fun K317 hK318 => ?_)
    refine V.region (by kernel_rfl) ?_
    refine V.go (V.call 13 #[] #[] evf (args0) (Go.Proofs.enters_of Try.func13 (by kernel_rfl) rfl) (alive_any w35) ?_)
    rintro _ w320 ⟨rfl, hF319⟩
    refine ⟨_, rfl, ?_⟩
    have hsw320 := hF319.size
    have hD_321 := hD_41.fr0 hF319
    have hF_322 := hF_42.new hF319
    have hS_323 := hS_43.fr0 hF319
    refine V.go (V.asg (v := (.bool true)) (at_same hz51 rfl _) ?_)
    refine V.nil ?_
    refine V.then_n (hK318 _ _ ?_)
    refine V.ret ?_
    refine V.ret1 hz51.p2 rfl (at_same hz51.p1 rfl _) ?_
    exact ⟨rfl, hF_322⟩
  ·
   refine V.go_off 21 (by kernel_rfl) (((at_same hz36.p4 rfl _ : Act.eval _ _ = (.bool (decide ((i : Int) < ((l.length : Nat) : Int)))))).trans (df hg49)) (by kernel_rfl) ?_
   refine V.go_off 21 (by kernel_rfl) (((o1 rfl (at_same hz36.p4 rfl _) : Act.eval _ _ = (.bool (decide ((i : Int) < ((l.length : Nat) : Int)))))).trans (df hg49)) (by kernel_rfl) ?_
   refine V.go (V.pk_f (((o2 rfl (at_same hz36.p4 rfl _) : Act.eval _ _ = (.bool (decide ((i : Int) < ((l.length : Nat) : Int)))))).trans (df hg49)) (v := (.bool false)) evc ?_)
   refine V.nil ?_
   refine V.then_n (hK48 _ _ ?_)
   refine V.flushW hz36.p8 (fun a324 hz325 up326 => ?_)
   have s1_327 := up326 1 _ (o8 rfl s1_37)
   have s5_328 : a324.eval (.tmp 5) = (.pointer (some ⟨t5, 0, none⟩)) := up326 _ _ (o8 rfl s5_38)
   have s6_329 : a324.eval (.tmp 6) = (.pointer (some ⟨r12, 0, none⟩)) := up326 _ _ (o8 rfl s6_39)
   have s7_330 := up326 7 _ (o8 rfl s7_40)
   have s24_331 := up326 24 _ (at_same hz36.p4.p2.p1 rfl _)
   clear up326
   refine V.cond_f (s24_331) ?_
   refine V.exit ?_
   refine V.then_e ?_
   refine V.then_e ?_
   refine V.blk_hit ?_
   refine V.then_n (hK31 _ _ ?_)
   refine V.seq (fun K332 hK333 => ?_)
   refine V.region (by kernel_rfl) ?_
   refine V.go (V.call 13 #[] #[] evf (args0) (Go.Proofs.enters_of Try.func13 (by kernel_rfl) rfl) (alive_any w35) ?_)
   rintro _ w335 ⟨rfl, hF334⟩
   refine ⟨_, rfl, ?_⟩
   have hsw335 := hF334.size
   have hD_336 := hD_41.fr0 hF334
   have hF_337 := hF_42.new hF334
   have hS_338 := hS_43.fr0 hF334
   refine V.go (V.asg (v := (.bool true)) (at_same hz325 rfl _) ?_)
   refine V.nil ?_
   refine V.then_n (hK333 _ _ ?_)
   refine V.ret ?_
   refine V.ret1 hz325.p2 rfl (at_same hz325.p1 rfl _) ?_
   exact ⟨rfl, hF_337⟩
end Go.Proofs.Ytalhmegjomfbaaa
