/- Walks: an act on both. -/
import Derived.Test.YtalhmegjomfbaaaProg
import Derived.Test.YtalhmegjomfbaaaRf
namespace Go.Proofs.Ytalhmegjomfbaaa
open Go.V Go.Base
open Go.RowKit (Below)
attribute [local irreducible] Act.put Act.eval
set_option linter.unusedVariables false
set_option linter.unusedSimpArgs false
/-- An act, as data. -/
structure OpD where
  kind : Int
  key : ByteArray
  v : Int
  draw : Nat
def OpD.ok (o : OpD) : Prop := (-9223372036854775808 ≤ o.kind ∧ o.kind ≤ 9223372036854775807) ∧ o.key.size ≤ 9223372036854775807 ∧ (-9223372036854775808 ≤ o.v ∧ o.v ≤ 9223372036854775807) ∧ o.draw < 18446744073709551616
def actT (T : Tb Int) (o : OpD) : Tb Int :=
  if o.kind = 1 then putT T (keyS o.key) o.v else if o.kind = 2 then tbStep T else if o.kind = 3 then delT T (keyS o.key) else if o.kind = 5 then tbStep T else T
theorem act1 {T : Tb Int} {o : OpD} (h : o.kind = 1) : actT T o = putT T (keyS o.key) o.v := by unfold actT; rw [if_pos h]
theorem act2 {T : Tb Int} {o : OpD} (h : o.kind = 2) : actT T o = tbStep T := by unfold actT; rw [if_neg (by omega), if_pos h]
theorem act3 {T : Tb Int} {o : OpD} (h : o.kind = 3) : actT T o = delT T (keyS o.key) := by unfold actT; rw [if_neg (by omega), if_neg (by omega), if_pos h]
theorem act5 {T : Tb Int} {o : OpD} (h : o.kind = 5) : actT T o = tbStep T := by unfold actT; rw [if_neg (by omega), if_neg (by omega), if_neg (by omega), if_pos h]
theorem act0 {T : Tb Int} {o : OpD} (h1 : ¬ o.kind = 1) (h2 : ¬ o.kind = 2) (h3 : ¬ o.kind = 3) (h5 : ¬ o.kind = 5) : actT T o = T := by unfold actT; rw [if_neg h1, if_neg h2, if_neg h3, if_neg h5]
/-- What holds of a table behind N acts. -/
structure Gd (T : Tb Int) (N : Nat) : Prop where
  ok : T.Ok
  mv : T.Mv
  pw : T.Pw N
  nn : T.n ≤ N
theorem Gd.new {seed : Nat} (h : seed < 18446744073709551616) : Gd (newT seed) 0 := ⟨(newT_ok h).1, (newT_ok h).2, newT_pw seed, Nat.le_refl _⟩
theorem Gd.raise {T : Tb Int} {N M : Nat} (h : Gd T N) (hm : N ≤ M) : Gd T M := ⟨h.ok, h.mv, h.pw.mono hm, by have := h.nn; omega⟩
theorem key_le (s : ByteArray) : (keyS s).size ≤ 9223372036854775807 := by have := keyS_le s; omega
theorem Gd.step {T : Tb Int} {N : Nat} (h : Gd T N) : Gd (tbStep T) N := ⟨(tbStep_ok h.ok h.mv).1, (tbStep_ok h.ok h.mv).2, tbStep_pw h.pw h.nn, by rw [tbStep_n']; exact h.nn⟩
theorem Gd.put {T : Tb Int} {N : Nat} (h : Gd T N) (hN : N < 1000000) {k : ByteArray} (hk : k.size ≤ 9223372036854775807) (v : Int) : Gd (putT T k v) (N + 1) := by
  have hn := h.nn
  have h1 := putT_ok h.ok h.mv (by omega) k hk v
  exact ⟨h1.1, h1.2, putT_pw (h.pw.mono (Nat.le_succ N)) (by omega) _ _, by have := putT_n T k v; omega⟩
theorem Gd.del {T : Tb Int} {N : Nat} (h : Gd T N) (k : ByteArray) : Gd (delT T k) N := by
  have h1 := delT_ok h.ok h.mv k
  exact ⟨h1.1, h1.2, delT_pw h.pw h.nn _, by have := delT_n T k; have := h.nn; omega⟩
theorem Gd.act {T : Tb Int} {N : Nat} (h : Gd T N) (hN : N < 1000000) (o : OpD) : Gd (actT T o) (N + 1) := by
  unfold actT
  split
  · exact h.put hN (key_le _) _
  · split
    · exact h.step.raise (Nat.le_succ N)
    · split
      · exact (h.del _).raise (Nat.le_succ N)
      · split
        · exact h.step.raise (Nat.le_succ N)
        · exact h.raise (Nat.le_succ N)
theorem Gd.p8 {T : Tb Int} {N : Nat} (h : Gd T N) : 4 < (tbStep T).a.length → (tbStep T).a.length % 8 = 0 := fun h4 => (h.step.pw.pa.half h4).2.2
/-- Blocks made since w0, but for some. -/
def zn (w0 : World) (av : List Nat) : Nat → Prop := fun k => w0.heap.size ≤ k ∧ k ∉ av
/-- Two tables apart from each other: the program's, the reference's. -/
def D2 (w0 w : World) (av : List Nat) (t : Nat) (T : Tb Int) (r : Nat) (U : Tb Int) : Prop :=
  ∃ Ht Hr : Nat → Prop, TabX 67 87 86 itI w Ht av t T ∧ TabX 40 42 60 itI w Hr av r U ∧ (∀ k, Ht k → w0.heap.size ≤ k ∧ k < w.heap.size ∧ ¬ Hr k) ∧ ∀ k, Hr k → w0.heap.size ≤ k ∧ k < w.heap.size
section
variable {w0 w w1 : World} {av av' : List Nat} {t r : Nat} {T U T' : Tb Int}
theorem D2.turnT (h : D2 w0 w av t T r U) : ∃ H, TabX 67 87 86 itI w H av t T ∧ (∀ k, H k → k < w.heap.size) ∧ ∀ w1 T', TabX 67 87 86 itI w1 (gr H w w1) av t T' → FrP (gp H av) w w1 → D2 w0 w1 av t T' r U ∧ FrP (zn w0 av) w w1 := by
  obtain ⟨Ht, Hr, h1, h2, h3, h4⟩ := h
  refine ⟨Ht, h1, fun k hk => (h3 k hk).2.1, fun w1 T' h5 f => ?_⟩
  have hs := f.size
  have hlt := h2.lt
  exact ⟨⟨_, Hr, h5, h2.frP f fun k hk => .inr (h3 k hk.1).2.2, fun k hk => by
    rcases hk with hk | hk
    · exact ⟨(h3 k hk).1, by have := (h3 k hk).2.1; omega, (h3 k hk).2.2⟩
    · have h0 := h4 r h2.pt.1
      exact ⟨by omega, hk.2, fun hr => by have := (h4 k hr).2; omega⟩, fun k hk => ⟨(h4 k hk).1, by have := (h4 k hk).2; omega⟩⟩, f.mono fun k hk => ⟨(h3 k hk.1).1, hk.2⟩⟩
theorem D2.turnU (h : D2 w0 w av t T r U) : ∃ H, TabX 40 42 60 itI w H av r U ∧ (∀ k, H k → k < w.heap.size) ∧ ∀ w1 U', TabX 40 42 60 itI w1 (gr H w w1) av r U' → FrP (gp H av) w w1 → D2 w0 w1 av t T r U' ∧ FrP (zn w0 av) w w1 := by
  obtain ⟨Ht, Hr, h1, h2, h3, h4⟩ := h
  refine ⟨Hr, h2, fun k hk => (h4 k hk).2, fun w1 U' h5 f => ?_⟩
  have hs := f.size
  have hlt := h1.lt
  exact ⟨⟨Ht, _, h1.frP f fun k hk => .inr fun ht => (h3 k ht).2.2 hk.1, h5, fun k hk => ⟨(h3 k hk).1, by have := (h3 k hk).2.1; omega, fun hr => by
    rcases hr with hr | hr
    · exact (h3 k hk).2.2 hr
    · have := (h3 k hk).2.1; omega⟩, fun k hk => by
    rcases hk with hk | hk
    · exact ⟨(h4 k hk).1, by have := (h4 k hk).2; omega⟩
    · have h0 := h3 t h1.pt.1
      exact ⟨by omega, hk.2⟩⟩, f.mono fun k hk => ⟨(h4 k hk.1).1, hk.2⟩⟩
theorem D2.fr (h : D2 w0 w av t T r U) {l : List Nat} (f : Fr l w w1) (hl : ∀ k ∈ l, k ∈ av ∨ k < w0.heap.size) : D2 w0 w1 av t T r U := by
  obtain ⟨Ht, Hr, h1, h2, h3, h4⟩ := h
  have hs := f.size
  exact ⟨Ht, Hr, h1.fr f fun k hk => (hl k hk).imp id fun q hq => by have := (h3 k hq).1; omega, h2.fr f fun k hk => (hl k hk).imp id fun q hq => by have := (h4 k hq).1; omega, fun k hk => ⟨(h3 k hk).1, by have := (h3 k hk).2.1; omega, (h3 k hk).2.2⟩, fun k hk => ⟨(h4 k hk).1, by have := (h4 k hk).2; omega⟩⟩
theorem D2.fr0 (h : D2 w0 w av t T r U) (f : Fr [] w w1) : D2 w0 w1 av t T r U := h.fr f fun k hk => by cases hk
theorem D2.alloc (h : D2 w0 w av t T r U) (f : Fr [] w w1) {b : Nat} (hb : b = w.heap.size) (hlt : b < w1.heap.size) : D2 w0 w1 (b :: av) t T r U := by
  obtain ⟨Ht, Hr, h1, h2, h3, h4⟩ := h
  have hs := f.size
  exact ⟨Ht, Hr, h1.alloc f hb hlt, h2.alloc f hb hlt, fun k hk => ⟨(h3 k hk).1, by have := (h3 k hk).2.1; omega, (h3 k hk).2.2⟩, fun k hk => ⟨(h4 k hk).1, by have := (h4 k hk).2; omega⟩⟩
theorem D2.sub (h : D2 w0 w av t T r U) (hs : ∀ k ∈ av', k ∈ av) : D2 w0 w av' t T r U := by
  obtain ⟨Ht, Hr, h1, h2, h3, h4⟩ := h
  exact ⟨Ht, Hr, h1.sub hs fun _ _ q => q, h2.sub hs fun _ _ q => q, h3, h4⟩
end
section
variable {P : Program} {w0 w : World} {av : List Nat} {t r : Nat} {T U T' : Tb Int} {f : FuncId} {args : Array Value} {e0 : Ending}
theorem D2.wrT (h : D2 w0 w av t T r U) (hc : ∀ H, TabX 67 87 86 itI w H av t T → (∀ k, H k → k < w.heap.size) → Calls P f args w (fun e w' => e = e0 ∧ TabX 67 87 86 itI w' (gr H w w') av t T' ∧ FrP (gp H av) w w')) :
    Calls P f args w (fun e w' => e = e0 ∧ D2 w0 w' av t T' r U ∧ FrP (zn w0 av) w w') := by
  obtain ⟨H, hq, hqb, hqk⟩ := h.turnT
  exact (hc H hq hqb).mono fun e w1 q => ⟨q.1, hqk _ _ q.2.1 q.2.2⟩
theorem D2.wrU (h : D2 w0 w av t T r U) (hc : ∀ H, TabX 40 42 60 itI w H av r U → (∀ k, H k → k < w.heap.size) → Calls P f args w (fun e w' => e = e0 ∧ TabX 40 42 60 itI w' (gr H w w') av r T' ∧ FrP (gp H av) w w')) :
    Calls P f args w (fun e w' => e = e0 ∧ D2 w0 w' av t T r T' ∧ FrP (zn w0 av) w w') := by
  obtain ⟨H, hq, hqb, hqk⟩ := h.turnU
  exact (hc H hq hqb).mono fun e w1 q => ⟨q.1, hqk _ _ q.2.1 q.2.2⟩
theorem D2.rdT {R : Ending → World → Prop} (h : D2 w0 w av t T r U) (hc : ∀ H, TabX 67 87 86 itI w H av t T → (∀ k, H k → k < w.heap.size) → Calls P f args w R) : Calls P f args w R := by
  obtain ⟨H, hq, hqb, hqk⟩ := h.turnT
  exact hc H hq hqb
theorem D2.rdU {R : Ending → World → Prop} (h : D2 w0 w av t T r U) (hc : ∀ H, TabX 40 42 60 itI w H av r U → (∀ k, H k → k < w.heap.size) → Calls P f args w R) : Calls P f args w R := by
  obtain ⟨H, hq, hqb, hqk⟩ := h.turnU
  exact hc H hq hqb
end
set_option maxHeartbeats 4000000 in
set_option maxRecDepth 20000 in
theorem act_any (w : World) (w0 : World) (av : List Nat) (t r : Nat) (T U : Tb Int) (N : Nat) (o : OpD) (hD : D2 w0 w av t T r U) (hgT : Gd T N) (hgU : Gd U N) (hN : N < 1000000) (ho : o.ok) (hw : w0.heap.size ≤ w.heap.size) : Calls Try.prog 16 #[.pointer (some ⟨t, 0, none⟩), .pointer (some ⟨r, 0, none⟩), .agg #[.int .i64 o.kind, .string o.key, .int .i64 o.v, .int .u64 (o.draw : Int)]] w (fun e w' => ∃ b, e = .returned (.bool b) ∧ (T = U → b = true) ∧ D2 w0 w' av t (actT T o) r (actT U o) ∧ FrP (zn w0 av) w w') := by
 have hFP := FrP.refl (zn w0 av) w
 obtain ⟨hkk, hks, hv, hd⟩ := ho
 refine V.enter 131 Try.func16 rfl rfl ?_
 intro a hz ha
 have s0 : a.eval (.tmp 0) = (.pointer (some ⟨t, 0, none⟩)) := ha 0 _ rfl
 have s1 : a.eval (.tmp 1) = (.pointer (some ⟨r, 0, none⟩)) := ha 1 _ rfl
 have s2 : a.eval (.tmp 2) = (.agg #[.int .i64 o.kind, .string o.key, .int .i64 o.v, .int .u64 (o.draw : Int)]) := ha 2 _ rfl
 clear ha
 refine V.seq (fun K1 hK2 => ?_)
 refine V.region (by kernel_rfl) ?_
 refine V.go (V.mk [(2, .agg #[.int .i64 o.kind, .string o.key, .int .i64 o.v, .int .u64 (o.draw : Int)])] ⟨(s2), trivial⟩ (by kernel_rfl) [.int .i64 o.kind, .string o.key, .int .i64 o.v, .int .u64 (o.draw : Int)] 34 (fun b => .pointer (some ⟨b, 0, none⟩)) (by kernel_rfl) ?_)
 intro w4 b3 heb3 hB5 hF6 hsb3
 have hD_7 := hD.alloc hF6 heb3 (by omega)
 have hFP_8 := hFP.tr0 hF6
 refine V.go (V.asg evc ?_)
 refine V.nil ?_
 refine V.then_n (hK2 _ _ ?_)
 refine V.seq (fun K9 hK10 => ?_)
 refine V.region (by kernel_rfl) ?_
 refine V.go (V.pv [(5, .pointer (some ⟨b3, 0, none⟩))] ⟨(o1 rfl (at_same hz rfl _)), trivial⟩ (by kernel_rfl) (.pointer (some ⟨b3, 1, none⟩)) (by kernel_rfl) ?_)
 refine V.go (V.ld ⟨b3, 1, none⟩ (.string o.key) (at_same hz.p2 rfl _) (by kernel_rfl) (hB5.at 1 rfl) ?_)
 refine V.go (V.call 10 #[] #[.string o.key] evf (args1 (at_same hz.p2.p1 rfl _)) (Go.Proofs.enters_of Try.func10 (by kernel_rfl) rfl) (key_any w4 o.key) ?_)
 rintro _ w12 ⟨rfl, hF11⟩
 refine ⟨_, rfl, ?_⟩
 have hsw12 := hF11.size
 have hD_13 := hD_7.fr0 hF11
 have hFP_14 := hFP_8.tr0 hF11
 have hB5_15 := hB5.fr0 hF11
 have hkey11 := keyS_le o.key
 refine V.go (V.asg (v := (.string (keyS o.key))) (at_same hz.p4 rfl _) ?_)
 refine V.nil ?_
 refine V.then_n (hK10 _ _ ?_)
 refine V.flushW hz.p4.p2 (fun a16 hz17 up18 => ?_)
 have s0_19 := up18 0 _ (o4 rfl (o2 rfl s0))
 have s1_20 := up18 1 _ (o4 rfl (o2 rfl s1))
 have s5_21 := up18 5 _ (o4 rfl (o1 rfl (at_same hz rfl _)))
 have s7_22 : a16.eval (.tmp 7) = (.string (keyS o.key)) := up18 _ _ (at_same hz.p4.p1 rfl _)
 clear up18
 refine V.seq (fun K23 hK24 => ?_)
 refine V.seq (fun K25 hK26 => ?_)
 refine V.region (by kernel_rfl) ?_
 refine V.go (V.pv [(5, .pointer (some ⟨b3, 0, none⟩))] ⟨(s5_21), trivial⟩ (by kernel_rfl) (.pointer (some ⟨b3, 0, none⟩)) (by kernel_rfl) ?_)
 refine V.go (V.ld ⟨b3, 0, none⟩ (.int .i64 o.kind) (at_same hz17 rfl _) (by kernel_rfl) (hB5_15.at 0 rfl) ?_)
 refine V.nil ?_
 refine V.then_n (hK26 _ _ ?_)
 refine V.block ?_
 refine V.seq (fun K27 hK28 => ?_)
 refine V.region (by kernel_rfl) ?_
 refine V.go (V.pvw [(25, .int .i64 o.kind)] ⟨(at_same hz17.p1 rfl _), trivial⟩ (by kernel_rfl) (.bool (o.kind == 1)) (.bool (decide (o.kind = 1))) (by kernel_rfl) V.t_eql ?_)
 refine V.go (V.asg (at_same hz17.p2 rfl _) ?_)
 refine V.nil ?_
 refine V.then_n (hK28 _ _ ?_)
 refine V.flushW hz17.p4 (fun a29 hz30 up31 => ?_)
 have s0_32 := up31 0 _ (o4 rfl s0_19)
 have s1_33 := up31 1 _ (o4 rfl s1_20)
 have s5_34 := up31 5 _ (o4 rfl s5_21)
 have s7_35 : a29.eval (.tmp 7) = (.string (keyS o.key)) := up31 _ _ (o4 rfl s7_22)
 have s25_36 := up31 25 _ (o2 rfl (at_same hz17.p1 rfl _))
 have s26_37 := up31 26 _ (at_same hz17.p2.p1 rfl _)
 clear up31
 refine V.condP (p := o.kind = 1) (s26_37) (fun ht38 => ?_) (fun ht38 => ?_)
 ·
  refine V.seq (fun K39 hK40 => ?_)
  refine V.plan [[], [], [], [2], [0, 1, 2, 3], [], [], [], [7], [0, 1, 2, 3, 4, 5, 6, 7, 8], [0, 1, 2, 3, 4, 5, 6, 7, 8, 9], [0, 1, 2, 3, 4, 5, 6, 7, 8, 9, 10]] [([0, 1, 2, 3, 5, 6, 7, 8], some (4, [8])), ([], some (9, [])), ([10, 11], none)] (by kernel_rfl) (by kernel_rfl) (by exact fun _ _ _ _ h => h) ?_
  simp only [Plan.wpSegs, Plan.pickAll, Plan.nth, V.L_eq]
  obtain ⟨w41, hF42e⟩ : ∃ w1, w1 = w12.drew := ⟨_, rfl⟩
  rw [← hF42e]
  have hF42 : Fr [] w12 w41 := by rw [hF42e]; exact Fr.drew _ _
  have hsw41 : w41.heap.size = w12.heap.size := by rw [hF42e]; rfl
  clear hF42e
  have hD_43 := hD_13.fr0 hF42
  have hFP_44 := hFP_14.tr0 hF42
  have hB5_45 := hB5_15.fr0 hF42
  refine V.go (V.mv (s0_32) ?_)
  refine V.go (V.mv (v := (.string (keyS o.key))) (o1 rfl s7_35) ?_)
  refine V.go (V.pv [(5, .pointer (some ⟨b3, 0, none⟩))] ⟨(o2 rfl s5_34), trivial⟩ (by kernel_rfl) (.pointer (some ⟨b3, 2, none⟩)) (by kernel_rfl) ?_)
  refine V.go (V.ld ⟨b3, 2, none⟩ (.int .i64 o.v) (at_same hz30.p2 rfl _) (by kernel_rfl) (hB5_45.at 2 rfl) ?_)
  refine V.go (V.mv (o4 rfl s1_33) ?_)
  refine V.go (V.mv (v := (.string (keyS o.key))) (o4 rfl (o1 rfl s7_35)) ?_)
  refine V.go (V.pv [(5, .pointer (some ⟨b3, 0, none⟩))] ⟨(o4 rfl (o2 rfl s5_34)), trivial⟩ (by kernel_rfl) (.pointer (some ⟨b3, 2, none⟩)) (by kernel_rfl) ?_)
  refine V.go (V.ld ⟨b3, 2, none⟩ (.int .i64 o.v) (at_same hz30.p4.p2 rfl _) (by kernel_rfl) (hB5_45.at 2 rfl) ?_)
  refine V.nil ?_
  refine ⟨chk [] trivial (by kernel_rfl), ?_⟩
  refine V.go (V.call 38 #[] #[.pointer (some ⟨t, 0, none⟩), .string (keyS o.key), .int .i64 o.v] evf (args3 (o4 rfl (o2 rfl (o1 rfl (at_same hz30 rfl _)))) (o4 rfl (o2 rfl (at_same hz30.p1 rfl _))) (o4 rfl (at_same hz30.p2.p1 rfl _))) (Go.Proofs.enters_of Try.func38 (by kernel_rfl) rfl) (hD_43.wrT (fun Hq hq hqb => put_any w41 Hq (b3 :: av) t (T) hq hgT.mv (keyS o.key) (by first | exact key_le _ | omega) o.v hv (by have := hgT.nn; omega))) ?_)
  rintro _ w48 ⟨rfl, hD46, hfp47⟩
  refine ⟨_, rfl, ?_⟩
  have hsw48 := hfp47.size
  have hFP_49 := hFP_44.trP hfp47 (fun k hk => .inl ⟨hk.1, fun hm => hk.2 (by simp [hm])⟩)
  have hB5_50 := hB5_45.frP hfp47 (by exact fun hp => hp.2 (by simp))
  refine V.nil ?_
  refine ⟨(fun _ => held_blk (n := 1) (hx := (o1 rfl (at_same hz30.p4.p2 rfl _))) hB5_45 hB5_50 (by kernel_rfl) rfl (by simp only [List.length]; omega)), ?_⟩
  refine V.nil ?_
  refine ⟨chk [] trivial (by kernel_rfl), ?_⟩
  refine V.go (V.call 45 #[] #[.pointer (some ⟨r, 0, none⟩), .string (keyS o.key), .int .i64 o.v] evf (args3 (o4 rfl (at_same hz30.p4 rfl _)) (o2 rfl (o1 rfl (at_same hz30.p4.p1 rfl _))) (o1 rfl (at_same hz30.p4.p2.p1 rfl _))) (Go.Proofs.enters_of Try.func45 (by kernel_rfl) rfl) (hD46.wrU (fun Hq hq hqb => rput_any w48 Hq (b3 :: av) r (U) hq hgU.mv (keyS o.key) (by first | exact key_le _ | omega) o.v hv (by have := hgU.nn; omega))) ?_)
  rintro _ w53 ⟨rfl, hD51, hfp52⟩
  refine ⟨_, rfl, ?_⟩
  have hsw53 := hfp52.size
  have hFP_54 := hFP_49.trP hfp52 (fun k hk => .inl ⟨hk.1, fun hm => hk.2 (by simp [hm])⟩)
  have hB5_55 := hB5_50.frP hfp52 (by exact fun hp => hp.2 (by simp))
  refine V.nil ?_
  refine ⟨trivial, ?_⟩
  refine V.go (V.pvw [(32, .bool ((findT (tbStep T) (keyS o.key)).2)), (37, .bool ((findT (tbStep U) (keyS o.key)).2))] ⟨(o1 rfl (at_same hz30.p8 rfl _)), (at_same hz30.p8.p1 rfl _), trivial⟩ (by kernel_rfl) (.bool (((findT (tbStep T) (keyS o.key)).2) == ((findT (tbStep U) (keyS o.key)).2))) (.bool (decide (((findT (tbStep T) (keyS o.key)).2) = ((findT (tbStep U) (keyS o.key)).2)))) (by kernel_rfl) V.t_beql ?_)
  refine V.go (V.asg (at_same hz30.p8.p2 rfl _) ?_)
  refine V.nil ?_
  refine ⟨chk [(32, .bool ((findT (tbStep T) (keyS o.key)).2)), (37, .bool ((findT (tbStep U) (keyS o.key)).2))] ⟨(o2 rfl (o1 rfl (at_same hz30.p8 rfl _))), (o2 rfl (at_same hz30.p8.p1 rfl _)), trivial⟩ (by kernel_rfl), ?_⟩
  refine V.then_n (hK40 _ _ ?_)
  refine V.flushW hz30.p8.p4 (fun a56 hz57 up58 => ?_)
  have s6_59 := up58 6 _ (at_same hz30.p8.p2.p1 rfl _)
  clear up58
  refine V.ret ?_
  refine V.blk_r ?_
  refine V.then_r ?_
  refine V.ret1 hz57 rfl (s6_59) ?_
  rw [act1 (T := T) ht38, act1 (T := U) ht38]
  exact ⟨_, rfl, fun h => decide_eq_true (by rw [h]), hD51.sub (by intro k hk; simp [hk]), hFP_54⟩
 ·
  refine V.seq (fun K60 hK61 => ?_)
  refine V.region (by kernel_rfl) ?_
  refine V.go (V.pvw [(25, .int .i64 o.kind)] ⟨(s25_36), trivial⟩ (by kernel_rfl) (.bool (o.kind == 2)) (.bool (decide (o.kind = 2))) (by kernel_rfl) V.t_eql ?_)
  refine V.go (V.asg (at_same hz30 rfl _) ?_)
  refine V.nil ?_
  refine V.then_n (hK61 _ _ ?_)
  refine V.condP (p := o.kind = 2) (at_same hz30.p1 rfl _) (fun ht62 => ?_) (fun ht62 => ?_)
  ·
   refine V.seq (fun K63 hK64 => ?_)
   refine V.region (by kernel_rfl) ?_
   refine V.go (V.mv (o2 rfl s0_32) ?_)
   refine V.go (V.mv (v := (.string (keyS o.key))) (o2 rfl (o1 rfl s7_35)) ?_)
   refine V.go (V.call 36 #[] #[.pointer (some ⟨t, 0, none⟩), .string (keyS o.key)] evf (args2 (o1 rfl (at_same hz30.p2 rfl _)) (at_same hz30.p2.p1 rfl _)) (Go.Proofs.enters_of Try.func36 (by kernel_rfl) rfl) (hD_13.wrT (fun Hq hq hqb => get_any w12 Hq (b3 :: av) t (T) hq hgT.mv (keyS o.key) (by first | exact key_le _ | omega))) ?_)
   rintro _ w67 ⟨rfl, hD65, hfp66⟩
   refine ⟨_, rfl, ?_⟩
   have hsw67 := hfp66.size
   have hFP_68 := hFP_14.trP hfp66 (fun k hk => .inl ⟨hk.1, fun hm => hk.2 (by simp [hm])⟩)
   have hB5_69 := hB5_15.frP hfp66 (by exact fun hp => hp.2 (by simp))
   refine V.go (V.mv (v := (.tuple #[.int .i64 ((lookT 0 (tbStep T) (keyS o.key)).1), .bool ((lookT 0 (tbStep T) (keyS o.key)).2)])) (at_same hz30.p4 rfl _) ?_)
   refine V.go (V.pv [(41, .tuple #[.int .i64 ((lookT 0 (tbStep T) (keyS o.key)).1), .bool ((lookT 0 (tbStep T) (keyS o.key)).2)])] ⟨(at_same hz30.p4.p1 rfl _), trivial⟩ (by kernel_rfl) (.int .i64 ((lookT 0 (tbStep T) (keyS o.key)).1)) (by kernel_rfl) ?_)
   refine V.go (V.pv [(41, .tuple #[.int .i64 ((lookT 0 (tbStep T) (keyS o.key)).1), .bool ((lookT 0 (tbStep T) (keyS o.key)).2)])] ⟨(o1 rfl (at_same hz30.p4.p1 rfl _)), trivial⟩ (by kernel_rfl) (.bool ((lookT 0 (tbStep T) (keyS o.key)).2)) (by kernel_rfl) ?_)
   refine V.go (V.asg (o1 rfl (at_same hz30.p4.p2 rfl _)) ?_)
   refine V.go (V.asg (o1 rfl (at_same hz30.p4.p2.p1 rfl _)) ?_)
   refine V.nil ?_
   refine V.then_n (hK64 _ _ ?_)
   refine V.flushW hz30.p8.p2 (fun a70 hz71 up72 => ?_)
   have s1_73 := up72 1 _ (o8 rfl (o2 rfl s1_33))
   have s7_74 : a70.eval (.tmp 7) = (.string (keyS o.key)) := up72 _ _ (o8 rfl (o2 rfl s7_35))
   have s8_75 := up72 8 _ (o1 rfl (at_same hz30.p8 rfl _))
   have s9_76 := up72 9 _ (at_same hz30.p8.p1 rfl _)
   clear up72
   refine V.seq (fun K77 hK78 => ?_)
   refine V.region (by kernel_rfl) ?_
   refine V.go (V.mv (s1_73) ?_)
   refine V.go (V.mv (v := (.string (keyS o.key))) (o1 rfl s7_74) ?_)
   refine V.go (V.call 46 #[] #[.pointer (some ⟨r, 0, none⟩), .string (keyS o.key)] evf (args2 (o1 rfl (at_same hz71 rfl _)) (at_same hz71.p1 rfl _)) (Go.Proofs.enters_of Try.func46 (by kernel_rfl) rfl) (hD65.wrU (fun Hq hq hqb => rget_any w67 Hq (b3 :: av) r (U) hq hgU.mv (keyS o.key) (by first | exact key_le _ | omega))) ?_)
   rintro _ w81 ⟨rfl, hD79, hfp80⟩
   refine ⟨_, rfl, ?_⟩
   have hsw81 := hfp80.size
   have hFP_82 := hFP_68.trP hfp80 (fun k hk => .inl ⟨hk.1, fun hm => hk.2 (by simp [hm])⟩)
   have hB5_83 := hB5_69.frP hfp80 (by exact fun hp => hp.2 (by simp))
   refine V.go (V.mv (v := (.tuple #[.int .i64 ((lookT 0 (tbStep U) (keyS o.key)).1), .bool ((lookT 0 (tbStep U) (keyS o.key)).2)])) (at_same hz71.p2 rfl _) ?_)
   refine V.go (V.pv [(47, .tuple #[.int .i64 ((lookT 0 (tbStep U) (keyS o.key)).1), .bool ((lookT 0 (tbStep U) (keyS o.key)).2)])] ⟨(at_same hz71.p2.p1 rfl _), trivial⟩ (by kernel_rfl) (.int .i64 ((lookT 0 (tbStep U) (keyS o.key)).1)) (by kernel_rfl) ?_)
   refine V.go (V.pv [(47, .tuple #[.int .i64 ((lookT 0 (tbStep U) (keyS o.key)).1), .bool ((lookT 0 (tbStep U) (keyS o.key)).2)])] ⟨(o1 rfl (at_same hz71.p2.p1 rfl _)), trivial⟩ (by kernel_rfl) (.bool ((lookT 0 (tbStep U) (keyS o.key)).2)) (by kernel_rfl) ?_)
   refine V.go (V.asg (o1 rfl (at_same hz71.p4 rfl _)) ?_)
   refine V.go (V.asg (o1 rfl (at_same hz71.p4.p1 rfl _)) ?_)
   refine V.nil ?_
   refine V.then_n (hK78 _ _ ?_)
   refine V.flushW hz71.p8 (fun a84 hz85 up86 => ?_)
   have s8_87 := up86 8 _ (o8 rfl s8_75)
   have s9_88 := up86 9 _ (o8 rfl s9_76)
   have s10_89 := up86 10 _ (o1 rfl (at_same hz71.p4.p2 rfl _))
   have s11_90 := up86 11 _ (at_same hz71.p4.p2.p1 rfl _)
   clear up86
   refine V.seq (fun K91 hK92 => ?_)
   refine V.region (by kernel_rfl) ?_
   refine V.go (V.mv (s8_87) ?_)
   refine V.go (V.mv (o1 rfl s10_89) ?_)
   refine V.go (V.pvw [(53, .int .i64 ((lookT 0 (tbStep T) (keyS o.key)).1)), (54, .int .i64 ((lookT 0 (tbStep U) (keyS o.key)).1))] ⟨(o1 rfl (at_same hz85 rfl _)), (at_same hz85.p1 rfl _), trivial⟩ (by kernel_rfl) (.bool (((lookT 0 (tbStep T) (keyS o.key)).1) == ((lookT 0 (tbStep U) (keyS o.key)).1))) (.bool (decide (((lookT 0 (tbStep T) (keyS o.key)).1) = ((lookT 0 (tbStep U) (keyS o.key)).1)))) (by kernel_rfl) V.t_eql ?_)
   refine V.go (V.mv (at_same hz85.p2 rfl _) ?_)
   by_cases hg93 : ((lookT 0 (tbStep T) (keyS o.key)).1) = ((lookT 0 (tbStep U) (keyS o.key)).1)
   ·
    refine V.go_on 56 (by kernel_rfl) (((at_same hz85.p2.p1 rfl _ : Act.eval _ _ = (.bool (decide (((lookT 0 (tbStep T) (keyS o.key)).1) = ((lookT 0 (tbStep U) (keyS o.key)).1)))))).trans (dt hg93)) (V.mv (o4 rfl s9_88) ?_)
    refine V.go_on 56 (by kernel_rfl) (((o1 rfl (at_same hz85.p2.p1 rfl _) : Act.eval _ _ = (.bool (decide (((lookT 0 (tbStep T) (keyS o.key)).1) = ((lookT 0 (tbStep U) (keyS o.key)).1)))))).trans (dt hg93)) (V.mv (o4 rfl (o1 rfl s11_90)) ?_)
    refine V.go_on 56 (by kernel_rfl) (((o2 rfl (at_same hz85.p2.p1 rfl _) : Act.eval _ _ = (.bool (decide (((lookT 0 (tbStep T) (keyS o.key)).1) = ((lookT 0 (tbStep U) (keyS o.key)).1)))))).trans (dt hg93)) (V.pvw [(57, .bool ((lookT 0 (tbStep T) (keyS o.key)).2)), (58, .bool ((lookT 0 (tbStep U) (keyS o.key)).2))] ⟨(o1 rfl (at_same hz85.p4 rfl _)), (at_same hz85.p4.p1 rfl _), trivial⟩ (by kernel_rfl) (.bool (((lookT 0 (tbStep T) (keyS o.key)).2) == ((lookT 0 (tbStep U) (keyS o.key)).2))) (.bool (decide (((lookT 0 (tbStep T) (keyS o.key)).2) = ((lookT 0 (tbStep U) (keyS o.key)).2)))) (by kernel_rfl) V.t_beql ?_)
    refine V.go (V.pk_t (((o2 rfl (o1 rfl (at_same hz85.p2.p1 rfl _)) : Act.eval _ _ = (.bool (decide (((lookT 0 (tbStep T) (keyS o.key)).1) = ((lookT 0 (tbStep U) (keyS o.key)).1)))))).trans (dt hg93)) (v := (.bool (decide (((lookT 0 (tbStep T) (keyS o.key)).2) = ((lookT 0 (tbStep U) (keyS o.key)).2))))) (at_same hz85.p4.p2 rfl _) ?_)
    refine V.go (V.asg (at_same hz85.p4.p2.p1 rfl _) ?_)
    refine V.nil ?_
    refine V.then_n (hK92 _ _ ?_)
    refine V.flushW hz85.p8.p1 (fun a94 hz95 up96 => ?_)
    have s6_97 := up96 6 _ (at_same hz85.p8 rfl _)
    clear up96
    refine V.ret ?_
    refine V.blk_r ?_
    refine V.then_r ?_
    refine V.ret1 hz95 rfl (s6_97) ?_
    rw [act2 (T := T) ht62, act2 (T := U) ht62]
    exact ⟨_, rfl, fun h => decide_eq_true (by rw [h]), hD79.sub (by intro k hk; simp [hk]), hFP_82⟩
   ·
    refine V.go_off 56 (by kernel_rfl) (((at_same hz85.p2.p1 rfl _ : Act.eval _ _ = (.bool (decide (((lookT 0 (tbStep T) (keyS o.key)).1) = ((lookT 0 (tbStep U) (keyS o.key)).1)))))).trans (df hg93)) (by kernel_rfl) ?_
    refine V.go_off 56 (by kernel_rfl) (((o1 rfl (at_same hz85.p2.p1 rfl _) : Act.eval _ _ = (.bool (decide (((lookT 0 (tbStep T) (keyS o.key)).1) = ((lookT 0 (tbStep U) (keyS o.key)).1)))))).trans (df hg93)) (by kernel_rfl) ?_
    refine V.go_off 56 (by kernel_rfl) (((o2 rfl (at_same hz85.p2.p1 rfl _) : Act.eval _ _ = (.bool (decide (((lookT 0 (tbStep T) (keyS o.key)).1) = ((lookT 0 (tbStep U) (keyS o.key)).1)))))).trans (df hg93)) (by kernel_rfl) ?_
    refine V.go (V.pk_f (((o2 rfl (o1 rfl (at_same hz85.p2.p1 rfl _)) : Act.eval _ _ = (.bool (decide (((lookT 0 (tbStep T) (keyS o.key)).1) = ((lookT 0 (tbStep U) (keyS o.key)).1)))))).trans (df hg93)) (v := (.bool false)) evc ?_)
    refine V.go (V.asg (at_same hz85.p4.p2.p1 rfl _) ?_)
    refine V.nil ?_
    refine V.then_n (hK92 _ _ ?_)
    refine V.flushW hz85.p8.p1 (fun a98 hz99 up100 => ?_)
    have s6_101 := up100 6 _ (at_same hz85.p8 rfl _)
    clear up100
    refine V.ret ?_
    refine V.blk_r ?_
    refine V.then_r ?_
    refine V.ret1 hz99 rfl (s6_101) ?_
    rw [act2 (T := T) ht62, act2 (T := U) ht62]
    exact ⟨_, rfl, fun h => absurd (by rw [h]) hg93, hD79.sub (by intro k hk; simp [hk]), hFP_82⟩
  ·
   refine V.seq (fun K102 hK103 => ?_)
   refine V.region (by kernel_rfl) ?_
   refine V.go (V.pvw [(25, .int .i64 o.kind)] ⟨(o2 rfl s25_36), trivial⟩ (by kernel_rfl) (.bool (o.kind == 3)) (.bool (decide (o.kind = 3))) (by kernel_rfl) V.t_eql ?_)
   refine V.go (V.asg (at_same hz30.p2 rfl _) ?_)
   refine V.nil ?_
   refine V.then_n (hK103 _ _ ?_)
   refine V.flushW hz30.p4 (fun a104 hz105 up106 => ?_)
   have s0_107 := up106 0 _ (o4 rfl s0_32)
   have s1_108 := up106 1 _ (o4 rfl s1_33)
   have s5_109 := up106 5 _ (o4 rfl s5_34)
   have s7_110 : a104.eval (.tmp 7) = (.string (keyS o.key)) := up106 _ _ (o4 rfl s7_35)
   have s25_111 := up106 25 _ (o4 rfl s25_36)
   have s61_112 := up106 61 _ (at_same hz30.p2.p1 rfl _)
   clear up106
   refine V.condP (p := o.kind = 3) (s61_112) (fun ht113 => ?_) (fun ht113 => ?_)
   ·
    refine V.seq (fun K114 hK115 => ?_)
    refine V.region (by kernel_rfl) ?_
    refine V.go (V.mv (s0_107) ?_)
    refine V.go (V.mv (v := (.string (keyS o.key))) (o1 rfl s7_110) ?_)
    refine V.go (V.call 39 #[] #[.pointer (some ⟨t, 0, none⟩), .string (keyS o.key)] evf (args2 (o1 rfl (at_same hz105 rfl _)) (at_same hz105.p1 rfl _)) (Go.Proofs.enters_of Try.func39 (by kernel_rfl) rfl) (hD_13.wrT (fun Hq hq hqb => del_any w12 Hq (b3 :: av) t (T) hq hgT.mv (keyS o.key) (by first | exact key_le _ | omega))) ?_)
    rintro _ w118 ⟨rfl, hD116, hfp117⟩
    refine ⟨_, rfl, ?_⟩
    have hsw118 := hfp117.size
    have hFP_119 := hFP_14.trP hfp117 (fun k hk => .inl ⟨hk.1, fun hm => hk.2 (by simp [hm])⟩)
    have hB5_120 := hB5_15.frP hfp117 (by exact fun hp => hp.2 (by simp))
    refine V.go (V.mv (o2 rfl (o1 rfl s1_108)) ?_)
    refine V.go (V.mv (v := (.string (keyS o.key))) (o4 rfl s7_110) ?_)
    refine V.go (V.call 47 #[] #[.pointer (some ⟨r, 0, none⟩), .string (keyS o.key)] evf (args2 (o1 rfl (at_same hz105.p2.p1 rfl _)) (at_same hz105.p4 rfl _)) (Go.Proofs.enters_of Try.func47 (by kernel_rfl) rfl) (hD116.wrU (fun Hq hq hqb => rdel_any w118 Hq (b3 :: av) r (U) hq hgU.mv (keyS o.key) (by first | exact key_le _ | omega) hgU.p8)) ?_)
    rintro _ w123 ⟨rfl, hD121, hfp122⟩
    refine ⟨_, rfl, ?_⟩
    have hsw123 := hfp122.size
    have hFP_124 := hFP_119.trP hfp122 (fun k hk => .inl ⟨hk.1, fun hm => hk.2 (by simp [hm])⟩)
    have hB5_125 := hB5_120.frP hfp122 (by exact fun hp => hp.2 (by simp))
    refine V.go (V.pvw [(65, .bool ((findT (tbStep T) (keyS o.key)).2)), (68, .bool ((findT (tbStep U) (keyS o.key)).2))] ⟨(o2 rfl (o1 rfl (at_same hz105.p2 rfl _))), (at_same hz105.p4.p1 rfl _), trivial⟩ (by kernel_rfl) (.bool (((findT (tbStep T) (keyS o.key)).2) == ((findT (tbStep U) (keyS o.key)).2))) (.bool (decide (((findT (tbStep T) (keyS o.key)).2) = ((findT (tbStep U) (keyS o.key)).2)))) (by kernel_rfl) V.t_beql ?_)
    refine V.go (V.asg (at_same hz105.p4.p2 rfl _) ?_)
    refine V.nil ?_
    refine V.then_n (hK115 _ _ ?_)
    refine V.flushW hz105.p8 (fun a126 hz127 up128 => ?_)
    have s6_129 := up128 6 _ (at_same hz105.p4.p2.p1 rfl _)
    clear up128
    refine V.ret ?_
    refine V.blk_r ?_
    refine V.then_r ?_
    refine V.ret1 hz127 rfl (s6_129) ?_
    rw [act3 (T := T) ht113, act3 (T := U) ht113]
    exact ⟨_, rfl, fun h => decide_eq_true (by rw [h]), hD121.sub (by intro k hk; simp [hk]), hFP_124⟩
   ·
    refine V.seq (fun K130 hK131 => ?_)
    refine V.region (by kernel_rfl) ?_
    refine V.go (V.pvw [(25, .int .i64 o.kind)] ⟨(s25_111), trivial⟩ (by kernel_rfl) (.bool (o.kind == 4)) (.bool (decide (o.kind = 4))) (by kernel_rfl) V.t_eql ?_)
    refine V.go (V.asg (at_same hz105 rfl _) ?_)
    refine V.nil ?_
    refine V.then_n (hK131 _ _ ?_)
    refine V.condP (p := o.kind = 4) (at_same hz105.p1 rfl _) (fun ht132 => ?_) (fun ht132 => ?_)
    ·
     refine V.seq (fun K133 hK134 => ?_)
     refine V.region (by kernel_rfl) ?_
     refine V.go (V.mv (o2 rfl s0_107) ?_)
     refine V.go (V.mv (v := (.string (keyS o.key))) (o2 rfl (o1 rfl s7_110)) ?_)
     refine V.go (V.call 22 #[] #[.pointer (some ⟨t, 0, none⟩), .string (keyS o.key)] evf (args2 (o1 rfl (at_same hz105.p2 rfl _)) (at_same hz105.p2.p1 rfl _)) (Go.Proofs.enters_of Try.func22 (by kernel_rfl) rfl) (hD_13.rdT (fun Hq hq hqb => look_any w12 Hq (b3 :: av) t (T) hq (keyS o.key) (by first | exact key_le _ | omega))) ?_)
     rintro _ w136 ⟨rfl, hF135⟩
     refine ⟨_, rfl, ?_⟩
     have hsw136 := hF135.size
     have hD_137 := hD_13.fr0 hF135
     have hFP_138 := hFP_14.tr0 hF135
     have hB5_139 := hB5_15.fr0 hF135
     refine V.go (V.mv (v := (.tuple #[.int .i64 ((lookT 0 T (keyS o.key)).1), .bool ((lookT 0 T (keyS o.key)).2)])) (at_same hz105.p4 rfl _) ?_)
     refine V.go (V.pv [(72, .tuple #[.int .i64 ((lookT 0 T (keyS o.key)).1), .bool ((lookT 0 T (keyS o.key)).2)])] ⟨(at_same hz105.p4.p1 rfl _), trivial⟩ (by kernel_rfl) (.int .i64 ((lookT 0 T (keyS o.key)).1)) (by kernel_rfl) ?_)
     refine V.go (V.pv [(72, .tuple #[.int .i64 ((lookT 0 T (keyS o.key)).1), .bool ((lookT 0 T (keyS o.key)).2)])] ⟨(o1 rfl (at_same hz105.p4.p1 rfl _)), trivial⟩ (by kernel_rfl) (.bool ((lookT 0 T (keyS o.key)).2)) (by kernel_rfl) ?_)
     refine V.go (V.asg (o1 rfl (at_same hz105.p4.p2 rfl _)) ?_)
     refine V.go (V.asg (o1 rfl (at_same hz105.p4.p2.p1 rfl _)) ?_)
     refine V.nil ?_
     refine V.then_n (hK134 _ _ ?_)
     refine V.flushW hz105.p8.p2 (fun a140 hz141 up142 => ?_)
     have s1_143 := up142 1 _ (o8 rfl (o2 rfl s1_108))
     have s7_144 : a140.eval (.tmp 7) = (.string (keyS o.key)) := up142 _ _ (o8 rfl (o2 rfl s7_110))
     have s12_145 := up142 12 _ (o1 rfl (at_same hz105.p8 rfl _))
     have s13_146 := up142 13 _ (at_same hz105.p8.p1 rfl _)
     clear up142
     refine V.seq (fun K147 hK148 => ?_)
     refine V.region (by kernel_rfl) ?_
     refine V.go (V.mv (s1_143) ?_)
     refine V.go (V.mv (v := (.string (keyS o.key))) (o1 rfl s7_144) ?_)
     refine V.go (V.call 48 #[] #[.pointer (some ⟨r, 0, none⟩), .string (keyS o.key)] evf (args2 (o1 rfl (at_same hz141 rfl _)) (at_same hz141.p1 rfl _)) (Go.Proofs.enters_of Try.func48 (by kernel_rfl) rfl) (hD_137.rdU (fun Hq hq hqb => rlook_any w136 Hq (b3 :: av) r (U) hq (keyS o.key) (by first | exact key_le _ | omega))) ?_)
     rintro _ w150 ⟨rfl, hF149⟩
     refine ⟨_, rfl, ?_⟩
     have hsw150 := hF149.size
     have hD_151 := hD_137.fr0 hF149
     have hFP_152 := hFP_138.tr0 hF149
     have hB5_153 := hB5_139.fr0 hF149
     refine V.go (V.mv (v := (.tuple #[.int .i64 ((lookT 0 U (keyS o.key)).1), .bool ((lookT 0 U (keyS o.key)).2)])) (at_same hz141.p2 rfl _) ?_)
     refine V.go (V.pv [(78, .tuple #[.int .i64 ((lookT 0 U (keyS o.key)).1), .bool ((lookT 0 U (keyS o.key)).2)])] ⟨(at_same hz141.p2.p1 rfl _), trivial⟩ (by kernel_rfl) (.int .i64 ((lookT 0 U (keyS o.key)).1)) (by kernel_rfl) ?_)
     refine V.go (V.pv [(78, .tuple #[.int .i64 ((lookT 0 U (keyS o.key)).1), .bool ((lookT 0 U (keyS o.key)).2)])] ⟨(o1 rfl (at_same hz141.p2.p1 rfl _)), trivial⟩ (by kernel_rfl) (.bool ((lookT 0 U (keyS o.key)).2)) (by kernel_rfl) ?_)
     refine V.go (V.asg (o1 rfl (at_same hz141.p4 rfl _)) ?_)
     refine V.go (V.asg (o1 rfl (at_same hz141.p4.p1 rfl _)) ?_)
     refine V.nil ?_
     refine V.then_n (hK148 _ _ ?_)
     refine V.flushW hz141.p8 (fun a154 hz155 up156 => ?_)
     have s12_157 := up156 12 _ (o8 rfl s12_145)
     have s13_158 := up156 13 _ (o8 rfl s13_146)
     have s14_159 := up156 14 _ (o1 rfl (at_same hz141.p4.p2 rfl _))
     have s15_160 := up156 15 _ (at_same hz141.p4.p2.p1 rfl _)
     clear up156
     refine V.seq (fun K161 hK162 => ?_)
     refine V.region (by kernel_rfl) ?_
     refine V.go (V.mv (s12_157) ?_)
     refine V.go (V.mv (o1 rfl s14_159) ?_)
     refine V.go (V.pvw [(84, .int .i64 ((lookT 0 T (keyS o.key)).1)), (85, .int .i64 ((lookT 0 U (keyS o.key)).1))] ⟨(o1 rfl (at_same hz155 rfl _)), (at_same hz155.p1 rfl _), trivial⟩ (by kernel_rfl) (.bool (((lookT 0 T (keyS o.key)).1) == ((lookT 0 U (keyS o.key)).1))) (.bool (decide (((lookT 0 T (keyS o.key)).1) = ((lookT 0 U (keyS o.key)).1)))) (by kernel_rfl) V.t_eql ?_)
     refine V.go (V.mv (at_same hz155.p2 rfl _) ?_)
     by_cases hg163 : ((lookT 0 T (keyS o.key)).1) = ((lookT 0 U (keyS o.key)).1)
     ·
      refine V.go_on 87 (by kernel_rfl) (((at_same hz155.p2.p1 rfl _ : Act.eval _ _ = (.bool (decide (((lookT 0 T (keyS o.key)).1) = ((lookT 0 U (keyS o.key)).1)))))).trans (dt hg163)) (V.mv (o4 rfl s13_158) ?_)
      refine V.go_on 87 (by kernel_rfl) (((o1 rfl (at_same hz155.p2.p1 rfl _) : Act.eval _ _ = (.bool (decide (((lookT 0 T (keyS o.key)).1) = ((lookT 0 U (keyS o.key)).1)))))).trans (dt hg163)) (V.mv (o4 rfl (o1 rfl s15_160)) ?_)
      refine V.go_on 87 (by kernel_rfl) (((o2 rfl (at_same hz155.p2.p1 rfl _) : Act.eval _ _ = (.bool (decide (((lookT 0 T (keyS o.key)).1) = ((lookT 0 U (keyS o.key)).1)))))).trans (dt hg163)) (V.pvw [(88, .bool ((lookT 0 T (keyS o.key)).2)), (89, .bool ((lookT 0 U (keyS o.key)).2))] ⟨(o1 rfl (at_same hz155.p4 rfl _)), (at_same hz155.p4.p1 rfl _), trivial⟩ (by kernel_rfl) (.bool (((lookT 0 T (keyS o.key)).2) == ((lookT 0 U (keyS o.key)).2))) (.bool (decide (((lookT 0 T (keyS o.key)).2) = ((lookT 0 U (keyS o.key)).2)))) (by kernel_rfl) V.t_beql ?_)
      refine V.go (V.pk_t (((o2 rfl (o1 rfl (at_same hz155.p2.p1 rfl _)) : Act.eval _ _ = (.bool (decide (((lookT 0 T (keyS o.key)).1) = ((lookT 0 U (keyS o.key)).1)))))).trans (dt hg163)) (v := (.bool (decide (((lookT 0 T (keyS o.key)).2) = ((lookT 0 U (keyS o.key)).2))))) (at_same hz155.p4.p2 rfl _) ?_)
      refine V.go (V.asg (at_same hz155.p4.p2.p1 rfl _) ?_)
      refine V.nil ?_
      refine V.then_n (hK162 _ _ ?_)
      refine V.flushW hz155.p8.p1 (fun a164 hz165 up166 => ?_)
      have s6_167 := up166 6 _ (at_same hz155.p8 rfl _)
      clear up166
      refine V.ret ?_
      refine V.blk_r ?_
      refine V.then_r ?_
      refine V.ret1 hz165 rfl (s6_167) ?_
      rw [act0 (T := T) ht38 ht62 ht113 (by omega), act0 (T := U) ht38 ht62 ht113 (by omega)]
      exact ⟨_, rfl, fun h => decide_eq_true (by rw [h]), hD_151.sub (by intro k hk; simp [hk]), hFP_152⟩
     ·
      refine V.go_off 87 (by kernel_rfl) (((at_same hz155.p2.p1 rfl _ : Act.eval _ _ = (.bool (decide (((lookT 0 T (keyS o.key)).1) = ((lookT 0 U (keyS o.key)).1)))))).trans (df hg163)) (by kernel_rfl) ?_
      refine V.go_off 87 (by kernel_rfl) (((o1 rfl (at_same hz155.p2.p1 rfl _) : Act.eval _ _ = (.bool (decide (((lookT 0 T (keyS o.key)).1) = ((lookT 0 U (keyS o.key)).1)))))).trans (df hg163)) (by kernel_rfl) ?_
      refine V.go_off 87 (by kernel_rfl) (((o2 rfl (at_same hz155.p2.p1 rfl _) : Act.eval _ _ = (.bool (decide (((lookT 0 T (keyS o.key)).1) = ((lookT 0 U (keyS o.key)).1)))))).trans (df hg163)) (by kernel_rfl) ?_
      refine V.go (V.pk_f (((o2 rfl (o1 rfl (at_same hz155.p2.p1 rfl _)) : Act.eval _ _ = (.bool (decide (((lookT 0 T (keyS o.key)).1) = ((lookT 0 U (keyS o.key)).1)))))).trans (df hg163)) (v := (.bool false)) evc ?_)
      refine V.go (V.asg (at_same hz155.p4.p2.p1 rfl _) ?_)
      refine V.nil ?_
      refine V.then_n (hK162 _ _ ?_)
      refine V.flushW hz155.p8.p1 (fun a168 hz169 up170 => ?_)
      have s6_171 := up170 6 _ (at_same hz155.p8 rfl _)
      clear up170
      refine V.ret ?_
      refine V.blk_r ?_
      refine V.then_r ?_
      refine V.ret1 hz169 rfl (s6_171) ?_
      rw [act0 (T := T) ht38 ht62 ht113 (by omega), act0 (T := U) ht38 ht62 ht113 (by omega)]
      exact ⟨_, rfl, fun h => absurd (by rw [h]) hg163, hD_151.sub (by intro k hk; simp [hk]), hFP_152⟩
    ·
     refine V.seq (fun K172 hK173 => ?_)
     refine V.region (by kernel_rfl) ?_
     refine V.go (V.pvw [(25, .int .i64 o.kind)] ⟨(o2 rfl s25_111), trivial⟩ (by kernel_rfl) (.bool (o.kind == 5)) (.bool (decide (o.kind = 5))) (by kernel_rfl) V.t_eql ?_)
     refine V.go (V.asg (at_same hz105.p2 rfl _) ?_)
     refine V.nil ?_
     refine V.then_n (hK173 _ _ ?_)
     refine V.flushW hz105.p4 (fun a174 hz175 up176 => ?_)
     have s0_177 := up176 0 _ (o4 rfl s0_107)
     have s1_178 := up176 1 _ (o4 rfl s1_108)
     have s5_179 := up176 5 _ (o4 rfl s5_109)
     have s25_180 := up176 25 _ (o4 rfl s25_111)
     have s92_181 := up176 92 _ (at_same hz105.p2.p1 rfl _)
     clear up176
     refine V.condP (p := o.kind = 5) (s92_181) (fun ht182 => ?_) (fun ht182 => ?_)
     ·
      refine V.seq (fun K183 hK184 => ?_)
      refine V.region (by kernel_rfl) ?_
      refine V.go (V.mv (s0_177) ?_)
      refine V.go (V.call 40 #[] #[.pointer (some ⟨t, 0, none⟩)] evf (args1 (at_same hz175 rfl _)) (Go.Proofs.enters_of Try.func40 (by kernel_rfl) rfl) (hD_13.wrT (fun Hq hq hqb => stepx_any w12 Hq (b3 :: av) t (T) hq hgT.mv)) ?_)
      rintro _ w187 ⟨rfl, hD185, hfp186⟩
      refine ⟨_, rfl, ?_⟩
      have hsw187 := hfp186.size
      have hFP_188 := hFP_14.trP hfp186 (fun k hk => .inl ⟨hk.1, fun hm => hk.2 (by simp [hm])⟩)
      have hB5_189 := hB5_15.frP hfp186 (by exact fun hp => hp.2 (by simp))
      refine V.go (V.mv (o2 rfl s1_178) ?_)
      refine V.go (V.call 49 #[] #[.pointer (some ⟨r, 0, none⟩)] evf (args1 (at_same hz175.p2 rfl _)) (Go.Proofs.enters_of Try.func49 (by kernel_rfl) rfl) (hD185.wrU (fun Hq hq hqb => rstep_any w187 Hq (b3 :: av) r (U) hq hgU.mv)) ?_)
      rintro _ w192 ⟨rfl, hD190, hfp191⟩
      refine ⟨_, rfl, ?_⟩
      have hsw192 := hfp191.size
      have hFP_193 := hFP_188.trP hfp191 (fun k hk => .inl ⟨hk.1, fun hm => hk.2 (by simp [hm])⟩)
      have hB5_194 := hB5_189.frP hfp191 (by exact fun hp => hp.2 (by simp))
      refine V.go (V.pvw [(95, .bool (decide ((tbStep T).b.length ≠ 0))), (97, .bool (decide ((tbStep U).b.length ≠ 0)))] ⟨(o2 rfl (at_same hz175.p1 rfl _)), (at_same hz175.p2.p1 rfl _), trivial⟩ (by kernel_rfl) (.bool ((decide ((tbStep T).b.length ≠ 0)) == (decide ((tbStep U).b.length ≠ 0)))) (.bool (decide ((decide ((tbStep T).b.length ≠ 0)) = (decide ((tbStep U).b.length ≠ 0))))) (by kernel_rfl) V.t_beql ?_)
      refine V.go (V.asg (at_same hz175.p4 rfl _) ?_)
      refine V.nil ?_
      refine V.then_n (hK184 _ _ ?_)
      refine V.flushW hz175.p4.p2 (fun a195 hz196 up197 => ?_)
      have s6_198 := up197 6 _ (at_same hz175.p4.p1 rfl _)
      clear up197
      refine V.ret ?_
      refine V.blk_r ?_
      refine V.then_r ?_
      refine V.ret1 hz196 rfl (s6_198) ?_
      rw [act5 (T := T) ht182, act5 (T := U) ht182]
      exact ⟨_, rfl, fun h => decide_eq_true (by rw [h]), hD190.sub (by intro k hk; simp [hk]), hFP_193⟩
     ·
      refine V.seq (fun K199 hK200 => ?_)
      refine V.region (by kernel_rfl) ?_
      refine V.go (V.pvw [(25, .int .i64 o.kind)] ⟨(s25_180), trivial⟩ (by kernel_rfl) (.bool (o.kind == 6)) (.bool (decide (o.kind = 6))) (by kernel_rfl) V.t_eql ?_)
      refine V.go (V.asg (at_same hz175 rfl _) ?_)
      refine V.nil ?_
      refine V.then_n (hK200 _ _ ?_)
      refine V.condP (p := o.kind = 6) (at_same hz175.p1 rfl _) (fun ht201 => ?_) (fun ht201 => ?_)
      ·
       refine V.seq (fun K202 hK203 => ?_)
       refine V.region (by kernel_rfl) ?_
       refine V.go (V.mv (o2 rfl s0_177) ?_)
       refine V.go (V.pv [(5, .pointer (some ⟨b3, 0, none⟩))] ⟨(o2 rfl (o1 rfl s5_179)), trivial⟩ (by kernel_rfl) (.pointer (some ⟨b3, 3, none⟩)) (by kernel_rfl) ?_)
       refine V.go (V.ld ⟨b3, 3, none⟩ (.int .u64 (o.draw : Int)) (at_same hz175.p2.p1 rfl _) (by kernel_rfl) (hB5_15.at 3 rfl) ?_)
       refine V.go (V.call 37 #[] #[.pointer (some ⟨t, 0, none⟩), .int .u64 (o.draw : Int)] evf (args2 (o2 rfl (at_same hz175.p2 rfl _)) (at_same hz175.p4 rfl _)) (Go.Proofs.enters_of Try.func37 (by kernel_rfl) rfl) (hD_13.rdT (fun Hq hq hqb => pick_any w12 Hq (b3 :: av) t (T) hq hqb o.draw hd)) ?_)
       rintro _ w205 ⟨rfl, hF204⟩
       refine ⟨_, rfl, ?_⟩
       have hsw205 := hF204.size
       have hD_206 := hD_13.fr0 hF204
       have hFP_207 := hFP_14.tr0 hF204
       have hB5_208 := hB5_15.fr0 hF204
       refine V.go (V.mv (v := (.tuple #[.string ((pickT (⟨#[]⟩, (0 : Int)) T o.draw).1.1), .int .i64 ((pickT (⟨#[]⟩, (0 : Int)) T o.draw).1.2), .bool ((pickT (⟨#[]⟩, (0 : Int)) T o.draw).2)])) (at_same hz175.p4.p1 rfl _) ?_)
       refine V.go (V.pv [(101, .tuple #[.string ((pickT (⟨#[]⟩, (0 : Int)) T o.draw).1.1), .int .i64 ((pickT (⟨#[]⟩, (0 : Int)) T o.draw).1.2), .bool ((pickT (⟨#[]⟩, (0 : Int)) T o.draw).2)])] ⟨(at_same hz175.p4.p2 rfl _), trivial⟩ (by kernel_rfl) (.string ((pickT (⟨#[]⟩, (0 : Int)) T o.draw).1.1)) (by kernel_rfl) ?_)
       refine V.go (V.pv [(101, .tuple #[.string ((pickT (⟨#[]⟩, (0 : Int)) T o.draw).1.1), .int .i64 ((pickT (⟨#[]⟩, (0 : Int)) T o.draw).1.2), .bool ((pickT (⟨#[]⟩, (0 : Int)) T o.draw).2)])] ⟨(o1 rfl (at_same hz175.p4.p2 rfl _)), trivial⟩ (by kernel_rfl) (.int .i64 ((pickT (⟨#[]⟩, (0 : Int)) T o.draw).1.2)) (by kernel_rfl) ?_)
       refine V.go (V.pv [(101, .tuple #[.string ((pickT (⟨#[]⟩, (0 : Int)) T o.draw).1.1), .int .i64 ((pickT (⟨#[]⟩, (0 : Int)) T o.draw).1.2), .bool ((pickT (⟨#[]⟩, (0 : Int)) T o.draw).2)])] ⟨(o2 rfl (at_same hz175.p4.p2 rfl _)), trivial⟩ (by kernel_rfl) (.bool ((pickT (⟨#[]⟩, (0 : Int)) T o.draw).2)) (by kernel_rfl) ?_)
       refine V.go (V.asg (o2 rfl (at_same hz175.p4.p2.p1 rfl _)) ?_)
       refine V.go (V.asg (o2 rfl (at_same hz175.p8 rfl _)) ?_)
       refine V.go (V.asg (o2 rfl (at_same hz175.p8.p1 rfl _)) ?_)
       refine V.nil ?_
       refine V.then_n (hK203 _ _ ?_)
       refine V.flushW hz175.p8.p4.p1 (fun a209 hz210 up211 => ?_)
       have s1_212 := up211 1 _ (o8 rfl (o4 rfl (o1 rfl s1_178)))
       have s5_213 := up211 5 _ (o8 rfl (o4 rfl (o1 rfl s5_179)))
       have s16_214 := up211 16 _ (o2 rfl (at_same hz175.p8.p2 rfl _))
       have s17_215 := up211 17 _ (o1 rfl (at_same hz175.p8.p2.p1 rfl _))
       have s18_216 := up211 18 _ (at_same hz175.p8.p4 rfl _)
       clear up211
       refine V.seq (fun K217 hK218 => ?_)
       refine V.region (by kernel_rfl) ?_
       refine V.go (V.mv (s1_212) ?_)
       refine V.go (V.pv [(5, .pointer (some ⟨b3, 0, none⟩))] ⟨(o1 rfl s5_213), trivial⟩ (by kernel_rfl) (.pointer (some ⟨b3, 3, none⟩)) (by kernel_rfl) ?_)
       refine V.go (V.ld ⟨b3, 3, none⟩ (.int .u64 (o.draw : Int)) (at_same hz210.p1 rfl _) (by kernel_rfl) (hB5_208.at 3 rfl) ?_)
       refine V.go (V.call 50 #[] #[.pointer (some ⟨r, 0, none⟩), .int .u64 (o.draw : Int)] evf (args2 (o2 rfl (at_same hz210 rfl _)) (at_same hz210.p2 rfl _)) (Go.Proofs.enters_of Try.func50 (by kernel_rfl) rfl) (hD_206.rdU (fun Hq hq hqb => rpick_any w205 Hq (b3 :: av) r (U) hq hqb o.draw hd)) ?_)
       rintro _ w220 ⟨rfl, hF219⟩
       refine ⟨_, rfl, ?_⟩
       have hsw220 := hF219.size
       have hD_221 := hD_206.fr0 hF219
       have hFP_222 := hFP_207.tr0 hF219
       have hB5_223 := hB5_208.fr0 hF219
       refine V.go (V.mv (v := (.tuple #[.agg #[.string ((pickT (⟨#[]⟩, (0 : Int)) U o.draw).1.1), .int .i64 ((pickT (⟨#[]⟩, (0 : Int)) U o.draw).1.2)], .bool ((pickT (⟨#[]⟩, (0 : Int)) U o.draw).2)])) (at_same hz210.p2.p1 rfl _) ?_)
       refine V.go (V.pv [(109, .tuple #[.agg #[.string ((pickT (⟨#[]⟩, (0 : Int)) U o.draw).1.1), .int .i64 ((pickT (⟨#[]⟩, (0 : Int)) U o.draw).1.2)], .bool ((pickT (⟨#[]⟩, (0 : Int)) U o.draw).2)])] ⟨(at_same hz210.p4 rfl _), trivial⟩ (by kernel_rfl) (.agg #[.string ((pickT (⟨#[]⟩, (0 : Int)) U o.draw).1.1), .int .i64 ((pickT (⟨#[]⟩, (0 : Int)) U o.draw).1.2)]) (by kernel_rfl) ?_)
       refine V.go (V.pv [(109, .tuple #[.agg #[.string ((pickT (⟨#[]⟩, (0 : Int)) U o.draw).1.1), .int .i64 ((pickT (⟨#[]⟩, (0 : Int)) U o.draw).1.2)], .bool ((pickT (⟨#[]⟩, (0 : Int)) U o.draw).2)])] ⟨(o1 rfl (at_same hz210.p4 rfl _)), trivial⟩ (by kernel_rfl) (.bool ((pickT (⟨#[]⟩, (0 : Int)) U o.draw).2)) (by kernel_rfl) ?_)
       refine V.go (V.mk [] trivial (by kernel_rfl) [.string ⟨#[]⟩, .int .i64 0] 60 (fun b => .pointer (some ⟨b, 0, none⟩)) (by kernel_rfl) ?_)
       intro w225 b224 heb224 hB226 hF227 hsb224
       have hD_228 := hD_221.alloc hF227 heb224 (by omega)
       have hFP_229 := hFP_222.tr0 hF227
       have hB5_230 := hB5_223.fr0 hF227
       refine V.go (V.stn b224 0 (.agg #[.string ((pickT (⟨#[]⟩, (0 : Int)) U o.draw).1.1), .int .i64 ((pickT (⟨#[]⟩, (0 : Int)) U o.draw).1.2)]) [.string ((pickT (⟨#[]⟩, (0 : Int)) U o.draw).1.1), .int .i64 ((pickT (⟨#[]⟩, (0 : Int)) U o.draw).1.2)] (at_same hz210.p4.p2.p1 rfl _) (o2 rfl (at_same hz210.p4.p1 rfl _)) rfl rfl (by kernel_rfl) hB226 (by simp) [.string ((pickT (⟨#[]⟩, (0 : Int)) U o.draw).1.1), .int .i64 ((pickT (⟨#[]⟩, (0 : Int)) U o.draw).1.2)] rfl ?_)
       intro w231 hB232 hF233 hsw231
       have hD_234 := hD_228.fr hF233 (by intro k hk; simp only [List.mem_singleton] at hk; subst hk; first | exact .inl (by simp) | exact .inr (by omega))
       have hFP_235 := hFP_229.tr hF233 (by intro k hk; simp only [List.mem_singleton] at hk; subst hk; first | exact .inl (by assumption) | exact .inr (by omega) | exact .inl (.inl rfl))
       have hB5_236 := hB5_230.fr1 hF233 (by omega)
       refine V.go (V.asg (o1 rfl (at_same hz210.p4.p2 rfl _)) ?_)
       refine V.nil ?_
       refine V.then_n (hK218 _ _ ?_)
       refine V.flushW hz210.p8.p1 (fun a237 hz238 up239 => ?_)
       have s16_240 := up239 16 _ (o8 rfl (o1 rfl s16_214))
       have s17_241 := up239 17 _ (o8 rfl (o1 rfl s17_215))
       have s18_242 := up239 18 _ (o8 rfl (o1 rfl s18_216))
       have s19_243 := up239 19 _ (o1 rfl (at_same hz210.p4.p2.p1 rfl _))
       have s20_244 := up239 20 _ (at_same hz210.p8 rfl _)
       clear up239
       refine V.seq (fun K245 hK246 => ?_)
       refine V.region (by kernel_rfl) ?_
       refine V.go (V.mv (s16_240) ?_)
       refine V.go (V.pv [(19, .pointer (some ⟨b224, 0, none⟩))] ⟨(o1 rfl s19_243), trivial⟩ (by kernel_rfl) (.pointer (some ⟨b224, 0, none⟩)) (by kernel_rfl) ?_)
       refine V.go (V.ld ⟨b224, 0, none⟩ (.string ((pickT (⟨#[]⟩, (0 : Int)) U o.draw).1.1)) (at_same hz238.p1 rfl _) (by kernel_rfl) (hB232.at 0 rfl) ?_)
       refine V.go (V.pvw [(116, .string ((pickT (⟨#[]⟩, (0 : Int)) T o.draw).1.1)), (118, .string ((pickT (⟨#[]⟩, (0 : Int)) U o.draw).1.1))] ⟨(o2 rfl (at_same hz238 rfl _)), (at_same hz238.p2 rfl _), trivial⟩ (by kernel_rfl) (.bool ((((pickT (⟨#[]⟩, (0 : Int)) T o.draw).1.1).toList == ((pickT (⟨#[]⟩, (0 : Int)) U o.draw).1.1).toList))) (.bool (decide (((pickT (⟨#[]⟩, (0 : Int)) T o.draw).1.1) = ((pickT (⟨#[]⟩, (0 : Int)) U o.draw).1.1)))) (by kernel_rfl) V.t_seql ?_)
       refine V.go (V.mv (at_same hz238.p2.p1 rfl _) ?_)
       by_cases hg247 : ((pickT (⟨#[]⟩, (0 : Int)) T o.draw).1.1) = ((pickT (⟨#[]⟩, (0 : Int)) U o.draw).1.1)
       ·
        refine V.go_on 120 (by kernel_rfl) (((at_same hz238.p4 rfl _ : Act.eval _ _ = (.bool (decide (((pickT (⟨#[]⟩, (0 : Int)) T o.draw).1.1) = ((pickT (⟨#[]⟩, (0 : Int)) U o.draw).1.1)))))).trans (dt hg247)) (V.mv (o4 rfl (o1 rfl s17_241)) ?_)
        refine V.go_on 120 (by kernel_rfl) (((o1 rfl (at_same hz238.p4 rfl _) : Act.eval _ _ = (.bool (decide (((pickT (⟨#[]⟩, (0 : Int)) T o.draw).1.1) = ((pickT (⟨#[]⟩, (0 : Int)) U o.draw).1.1)))))).trans (dt hg247)) (V.pv [(19, .pointer (some ⟨b224, 0, none⟩))] ⟨(o4 rfl (o2 rfl s19_243)), trivial⟩ (by kernel_rfl) (.pointer (some ⟨b224, 1, none⟩)) (by kernel_rfl) ?_)
        refine V.go_on 120 (by kernel_rfl) (((o2 rfl (at_same hz238.p4 rfl _) : Act.eval _ _ = (.bool (decide (((pickT (⟨#[]⟩, (0 : Int)) T o.draw).1.1) = ((pickT (⟨#[]⟩, (0 : Int)) U o.draw).1.1)))))).trans (dt hg247)) (V.ld ⟨b224, 1, none⟩ (.int .i64 ((pickT (⟨#[]⟩, (0 : Int)) U o.draw).1.2)) (at_same hz238.p4.p2 rfl _) (by kernel_rfl) (hB232.at 1 rfl) ?_)
        refine V.go_on 120 (by kernel_rfl) (((o2 rfl (o1 rfl (at_same hz238.p4 rfl _)) : Act.eval _ _ = (.bool (decide (((pickT (⟨#[]⟩, (0 : Int)) T o.draw).1.1) = ((pickT (⟨#[]⟩, (0 : Int)) U o.draw).1.1)))))).trans (dt hg247)) (V.pvw [(121, .int .i64 ((pickT (⟨#[]⟩, (0 : Int)) T o.draw).1.2)), (123, .int .i64 ((pickT (⟨#[]⟩, (0 : Int)) U o.draw).1.2))] ⟨(o2 rfl (at_same hz238.p4.p1 rfl _)), (at_same hz238.p4.p2.p1 rfl _), trivial⟩ (by kernel_rfl) (.bool (((pickT (⟨#[]⟩, (0 : Int)) T o.draw).1.2) == ((pickT (⟨#[]⟩, (0 : Int)) U o.draw).1.2))) (.bool (decide (((pickT (⟨#[]⟩, (0 : Int)) T o.draw).1.2) = ((pickT (⟨#[]⟩, (0 : Int)) U o.draw).1.2)))) (by kernel_rfl) V.t_eql ?_)
        refine V.go (V.pk_t (((o4 rfl (at_same hz238.p4 rfl _) : Act.eval _ _ = (.bool (decide (((pickT (⟨#[]⟩, (0 : Int)) T o.draw).1.1) = ((pickT (⟨#[]⟩, (0 : Int)) U o.draw).1.1)))))).trans (dt hg247)) (v := (.bool (decide (((pickT (⟨#[]⟩, (0 : Int)) T o.draw).1.2) = ((pickT (⟨#[]⟩, (0 : Int)) U o.draw).1.2))))) (at_same hz238.p8 rfl _) ?_)
        refine V.go (V.mv (at_same hz238.p8.p1 rfl _) ?_)
        by_cases hg248 : ((pickT (⟨#[]⟩, (0 : Int)) T o.draw).1.2) = ((pickT (⟨#[]⟩, (0 : Int)) U o.draw).1.2)
        ·
         refine V.go_on 126 (by kernel_rfl) (((at_same hz238.p8.p2 rfl _ : Act.eval _ _ = (.bool (decide (((pickT (⟨#[]⟩, (0 : Int)) T o.draw).1.2) = ((pickT (⟨#[]⟩, (0 : Int)) U o.draw).1.2)))))).trans (dt hg248)) (V.mv (o8 rfl (o2 rfl (o1 rfl s18_242))) ?_)
         refine V.go_on 126 (by kernel_rfl) (((o1 rfl (at_same hz238.p8.p2 rfl _) : Act.eval _ _ = (.bool (decide (((pickT (⟨#[]⟩, (0 : Int)) T o.draw).1.2) = ((pickT (⟨#[]⟩, (0 : Int)) U o.draw).1.2)))))).trans (dt hg248)) (V.mv (o8 rfl (o4 rfl s20_244)) ?_)
         refine V.go_on 126 (by kernel_rfl) (((o2 rfl (at_same hz238.p8.p2 rfl _) : Act.eval _ _ = (.bool (decide (((pickT (⟨#[]⟩, (0 : Int)) T o.draw).1.2) = ((pickT (⟨#[]⟩, (0 : Int)) U o.draw).1.2)))))).trans (dt hg248)) (V.pvw [(127, .bool ((pickT (⟨#[]⟩, (0 : Int)) T o.draw).2)), (128, .bool ((pickT (⟨#[]⟩, (0 : Int)) U o.draw).2))] ⟨(o1 rfl (at_same hz238.p8.p2.p1 rfl _)), (at_same hz238.p8.p4 rfl _), trivial⟩ (by kernel_rfl) (.bool (((pickT (⟨#[]⟩, (0 : Int)) T o.draw).2) == ((pickT (⟨#[]⟩, (0 : Int)) U o.draw).2))) (.bool (decide (((pickT (⟨#[]⟩, (0 : Int)) T o.draw).2) = ((pickT (⟨#[]⟩, (0 : Int)) U o.draw).2)))) (by kernel_rfl) V.t_beql ?_)
         refine V.go (V.pk_t (((o2 rfl (o1 rfl (at_same hz238.p8.p2 rfl _)) : Act.eval _ _ = (.bool (decide (((pickT (⟨#[]⟩, (0 : Int)) T o.draw).1.2) = ((pickT (⟨#[]⟩, (0 : Int)) U o.draw).1.2)))))).trans (dt hg248)) (v := (.bool (decide (((pickT (⟨#[]⟩, (0 : Int)) T o.draw).2) = ((pickT (⟨#[]⟩, (0 : Int)) U o.draw).2))))) (at_same hz238.p8.p4.p1 rfl _) ?_)
         refine V.go (V.asg (at_same hz238.p8.p4.p2 rfl _) ?_)
         refine V.nil ?_
         refine V.then_n (hK246 _ _ ?_)
         refine V.flushW hz238.p16 (fun a249 hz250 up251 => ?_)
         have s6_252 := up251 6 _ (at_same hz238.p8.p4.p2.p1 rfl _)
         clear up251
         refine V.ret ?_
         refine V.blk_r ?_
         refine V.then_r ?_
         refine V.ret1 hz250 rfl (s6_252) ?_
         rw [act0 (T := T) ht38 ht62 ht113 ht182, act0 (T := U) ht38 ht62 ht113 ht182]
         exact ⟨_, rfl, fun h => decide_eq_true (by rw [h]), hD_234.sub (by intro k hk; simp [hk]), hFP_235⟩
        ·
         refine V.go_off 126 (by kernel_rfl) (((at_same hz238.p8.p2 rfl _ : Act.eval _ _ = (.bool (decide (((pickT (⟨#[]⟩, (0 : Int)) T o.draw).1.2) = ((pickT (⟨#[]⟩, (0 : Int)) U o.draw).1.2)))))).trans (df hg248)) (by kernel_rfl) ?_
         refine V.go_off 126 (by kernel_rfl) (((o1 rfl (at_same hz238.p8.p2 rfl _) : Act.eval _ _ = (.bool (decide (((pickT (⟨#[]⟩, (0 : Int)) T o.draw).1.2) = ((pickT (⟨#[]⟩, (0 : Int)) U o.draw).1.2)))))).trans (df hg248)) (by kernel_rfl) ?_
         refine V.go_off 126 (by kernel_rfl) (((o2 rfl (at_same hz238.p8.p2 rfl _) : Act.eval _ _ = (.bool (decide (((pickT (⟨#[]⟩, (0 : Int)) T o.draw).1.2) = ((pickT (⟨#[]⟩, (0 : Int)) U o.draw).1.2)))))).trans (df hg248)) (by kernel_rfl) ?_
         refine V.go (V.pk_f (((o2 rfl (o1 rfl (at_same hz238.p8.p2 rfl _)) : Act.eval _ _ = (.bool (decide (((pickT (⟨#[]⟩, (0 : Int)) T o.draw).1.2) = ((pickT (⟨#[]⟩, (0 : Int)) U o.draw).1.2)))))).trans (df hg248)) (v := (.bool false)) evc ?_)
         refine V.go (V.asg (at_same hz238.p8.p4.p2 rfl _) ?_)
         refine V.nil ?_
         refine V.then_n (hK246 _ _ ?_)
         refine V.flushW hz238.p16 (fun a253 hz254 up255 => ?_)
         have s6_256 := up255 6 _ (at_same hz238.p8.p4.p2.p1 rfl _)
         clear up255
         refine V.ret ?_
         refine V.blk_r ?_
         refine V.then_r ?_
         refine V.ret1 hz254 rfl (s6_256) ?_
         rw [act0 (T := T) ht38 ht62 ht113 ht182, act0 (T := U) ht38 ht62 ht113 ht182]
         exact ⟨_, rfl, fun h => absurd (by rw [h]) hg248, hD_234.sub (by intro k hk; simp [hk]), hFP_235⟩
       ·
        refine V.go_off 120 (by kernel_rfl) (((at_same hz238.p4 rfl _ : Act.eval _ _ = (.bool (decide (((pickT (⟨#[]⟩, (0 : Int)) T o.draw).1.1) = ((pickT (⟨#[]⟩, (0 : Int)) U o.draw).1.1)))))).trans (df hg247)) (by kernel_rfl) ?_
        refine V.go_off 120 (by kernel_rfl) (((o1 rfl (at_same hz238.p4 rfl _) : Act.eval _ _ = (.bool (decide (((pickT (⟨#[]⟩, (0 : Int)) T o.draw).1.1) = ((pickT (⟨#[]⟩, (0 : Int)) U o.draw).1.1)))))).trans (df hg247)) (by kernel_rfl) ?_
        refine V.go_off 120 (by kernel_rfl) (((o2 rfl (at_same hz238.p4 rfl _) : Act.eval _ _ = (.bool (decide (((pickT (⟨#[]⟩, (0 : Int)) T o.draw).1.1) = ((pickT (⟨#[]⟩, (0 : Int)) U o.draw).1.1)))))).trans (df hg247)) (by kernel_rfl) ?_
        refine V.go_off 120 (by kernel_rfl) (((o2 rfl (o1 rfl (at_same hz238.p4 rfl _)) : Act.eval _ _ = (.bool (decide (((pickT (⟨#[]⟩, (0 : Int)) T o.draw).1.1) = ((pickT (⟨#[]⟩, (0 : Int)) U o.draw).1.1)))))).trans (df hg247)) (by kernel_rfl) ?_
        refine V.go (V.pk_f (((o4 rfl (at_same hz238.p4 rfl _) : Act.eval _ _ = (.bool (decide (((pickT (⟨#[]⟩, (0 : Int)) T o.draw).1.1) = ((pickT (⟨#[]⟩, (0 : Int)) U o.draw).1.1)))))).trans (df hg247)) (v := (.bool false)) evc ?_)
        refine V.go (V.mv (at_same hz238.p8.p1 rfl _) ?_)
        refine V.go_off 126 (by kernel_rfl) (at_same hz238.p8.p2 rfl _) (by kernel_rfl) ?_
        refine V.go_off 126 (by kernel_rfl) (o1 rfl (at_same hz238.p8.p2 rfl _)) (by kernel_rfl) ?_
        refine V.go_off 126 (by kernel_rfl) (o2 rfl (at_same hz238.p8.p2 rfl _)) (by kernel_rfl) ?_
        refine V.go (V.pk_f (o2 rfl (o1 rfl (at_same hz238.p8.p2 rfl _))) (v := (.bool false)) evc ?_)
        refine V.go (V.asg (at_same hz238.p8.p4.p2 rfl _) ?_)
        refine V.nil ?_
        refine V.then_n (hK246 _ _ ?_)
        refine V.flushW hz238.p16 (fun a257 hz258 up259 => ?_)
        have s6_260 := up259 6 _ (at_same hz238.p8.p4.p2.p1 rfl _)
        clear up259
        refine V.ret ?_
        refine V.blk_r ?_
        refine V.then_r ?_
        refine V.ret1 hz258 rfl (s6_260) ?_
        rw [act0 (T := T) ht38 ht62 ht113 ht182, act0 (T := U) ht38 ht62 ht113 ht182]
        exact ⟨_, rfl, fun h => absurd (by rw [h]) hg247, hD_234.sub (by intro k hk; simp [hk]), hFP_235⟩
      ·
       refine V.skip ?_
       refine V.blk_n ?_
       refine V.then_n (hK24 _ _ ?_)
       refine V.seq (fun K261 hK262 => ?_)
       refine V.region (by kernel_rfl) ?_
       refine V.go (V.asg evc ?_)
       refine V.nil ?_
       refine V.then_n (hK262 _ _ ?_)
       refine V.ret ?_
       refine V.ret1 hz175.p2.p1 rfl (at_same hz175.p2 rfl _) ?_
       rw [act0 (T := T) ht38 ht62 ht113 ht182, act0 (T := U) ht38 ht62 ht113 ht182]
       exact ⟨_, rfl, fun _ => rfl, hD_13.sub (by intro k hk; simp [hk]), hFP_14⟩
end Go.Proofs.Ytalhmegjomfbaaa
