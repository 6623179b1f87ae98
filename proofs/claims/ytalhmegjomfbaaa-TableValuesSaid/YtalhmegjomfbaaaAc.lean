/- Walks: an act on both. -/
import Derived.Test.YtalhmegjomfbaaaProg
import Derived.Test.YtalhmegjomfbaaaRf
namespace Go.Proofs.Ytalhmegjomfbaaa
open Go.V Go.Base
open Go.RowKit (Below)
attribute [local irreducible] Act.put Act.eval
set_option linter.unusedVariables false
set_option linter.unusedSimpArgs false
/-- An act, as data. -/
structure OpD where
  kind : Int
  key : ByteArray
  v : Int
  draw : Nat
def OpD.ok (o : OpD) : Prop := (-9223372036854775808 ≤ o.kind ∧ o.kind ≤ 9223372036854775807) ∧ o.key.size ≤ 9223372036854775807 ∧ (-9223372036854775808 ≤ o.v ∧ o.v ≤ 9223372036854775807) ∧ o.draw < 18446744073709551616
def actT (T : Tb Int) (o : OpD) : Tb Int :=
  if o.kind = 1 then putT T (keyS o.key) o.v else if o.kind = 2 then tbStep T else if o.kind = 3 then delT T (keyS o.key) else if o.kind = 5 then tbStep T else T
theorem act1 {T : Tb Int} {o : OpD} (h : o.kind = 1) : actT T o = putT T (keyS o.key) o.v := by unfold actT; rw [if_pos h]
theorem act2 {T : Tb Int} {o : OpD} (h : o.kind = 2) : actT T o = tbStep T := by unfold actT; rw [if_neg (by omega), if_pos h]
theorem act3 {T : Tb Int} {o : OpD} (h : o.kind = 3) : actT T o = delT T (keyS o.key) := by unfold actT; rw [if_neg (by omega), if_neg (by omega), if_pos h]
theorem act5 {T : Tb Int} {o : OpD} (h : o.kind = 5) : actT T o = tbStep T := by unfold actT; rw [if_neg (by omega), if_neg (by omega), if_neg (by omega), if_pos h]
theorem act0 {T : Tb Int} {o : OpD} (h1 : ¬ o.kind = 1) (h2 : ¬ o.kind = 2) (h3 : ¬ o.kind = 3) (h5 : ¬ o.kind = 5) : actT T o = T := by unfold actT; rw [if_neg h1, if_neg h2, if_neg h3, if_neg h5]
/-- What holds of a table behind N acts. -/
structure Gd (T : Tb Int) (N : Nat) : Prop where
  ok : T.Ok
  mv : T.Mv
  pw : T.Pw N
  nn : T.n ≤ N
theorem Gd.new {seed : Nat} (h : seed < 18446744073709551616) : Gd (newT seed) 0 := ⟨(newT_ok h).1, (newT_ok h).2, newT_pw seed, Nat.le_refl _⟩
theorem Gd.raise {T : Tb Int} {N M : Nat} (h : Gd T N) (hm : N ≤ M) : Gd T M := ⟨h.ok, h.mv, h.pw.mono hm, by have := h.nn; omega⟩
theorem key_le (s : ByteArray) : (keyS s).size ≤ 9223372036854775807 := by have := keyS_le s; omega
theorem Gd.step {T : Tb Int} {N : Nat} (h : Gd T N) : Gd (tbStep T) N := ⟨(tbStep_ok h.ok h.mv).1, (tbStep_ok h.ok h.mv).2, tbStep_pw h.pw h.nn, by rw [tbStep_n']; exact h.nn⟩
theorem Gd.put {T : Tb Int} {N : Nat} (h : Gd T N) (hN : N < 1000000) {k : ByteArray} (hk : k.size ≤ 9223372036854775807) (v : Int) : Gd (putT T k v) (N + 1) := by
  have hn := h.nn
  have h1 := putT_ok h.ok h.mv (by omega) k hk v
  exact ⟨h1.1, h1.2, putT_pw (h.pw.mono (Nat.le_succ N)) (by omega) _ _, by have := putT_n T k v; omega⟩
theorem Gd.del {T : Tb Int} {N : Nat} (h : Gd T N) (k : ByteArray) : Gd (delT T k) N := by
  have h1 := delT_ok h.ok h.mv k
  exact ⟨h1.1, h1.2, delT_pw h.pw h.nn _, by have := delT_n T k; have := h.nn; omega⟩
theorem Gd.act {T : Tb Int} {N : Nat} (h : Gd T N) (hN : N < 1000000) (o : OpD) : Gd (actT T o) (N + 1) := by
  unfold actT
  split
  · exact h.put hN (key_le _) _
  · split
    · exact h.step.raise (Nat.le_succ N)
    · split
      · exact (h.del _).raise (Nat.le_succ N)
      · split
        · exact h.step.raise (Nat.le_succ N)
        · exact h.raise (Nat.le_succ N)
theorem Gd.p8 {T : Tb Int} {N : Nat} (h : Gd T N) : 4 < (tbStep T).a.length → (tbStep T).a.length % 8 = 0 := fun h4 => (h.step.pw.pa.half h4).2.2
/-- Blocks made since w0, but for some. -/
def zn (w0 : World) (av : List Nat) : Nat → Prop := fun k => w0.heap.size ≤ k ∧ k ∉ av
/-- Two tables apart from each other: the program's, the reference's. -/
def D2 (w0 w : World) (av : List Nat) (t : Nat) (T : Tb Int) (r : Nat) (U : Tb Int) : Prop :=
  ∃ Ht Hr : Nat → Prop, TabX 67 87 86 itI w Ht av t T ∧ TabX 40 42 60 itI w Hr av r U ∧ (∀ k, Ht k → w0.heap.size ≤ k ∧ k < w.heap.size ∧ ¬ Hr k) ∧ ∀ k, Hr k → w0.heap.size ≤ k ∧ k < w.heap.size
section
variable {w0 w w1 : World} {av av' : List Nat} {t r : Nat} {T U T' : Tb Int}
theorem D2.turnT (h : D2 w0 w av t T r U) : ∃ H, TabX 67 87 86 itI w H av t T ∧ (∀ k, H k → k < w.heap.size) ∧ ∀ w1 T', TabX 67 87 86 itI w1 (gr H w w1) av t T' → FrP (gp H av) w w1 → D2 w0 w1 av t T' r U ∧ FrP (zn w0 av) w w1 := by
  obtain ⟨Ht, Hr, h1, h2, h3, h4⟩ := h
  refine ⟨Ht, h1, fun k hk => (h3 k hk).2.1, fun w1 T' h5 f => ?_⟩
  have hs := f.size
  have hlt := h2.lt
  exact ⟨⟨_, Hr, h5, h2.frP f fun k hk => .inr (h3 k hk.1).2.2, fun k hk => by
    rcases hk with hk | hk
    · exact ⟨(h3 k hk).1, by have := (h3 k hk).2.1; omega, (h3 k hk).2.2⟩
    · have h0 := h4 r h2.pt.1
      exact ⟨by omega, hk.2, fun hr => by have := (h4 k hr).2; omega⟩, fun k hk => ⟨(h4 k hk).1, by have := (h4 k hk).2; omega⟩⟩, f.mono fun k hk => ⟨(h3 k hk.1).1, hk.2⟩⟩
theorem D2.turnU (h : D2 w0 w av t T r U) : ∃ H, TabX 40 42 60 itI w H av r U ∧ (∀ k, H k → k < w.heap.size) ∧ ∀ w1 U', TabX 40 42 60 itI w1 (gr H w w1) av r U' → FrP (gp H av) w w1 → D2 w0 w1 av t T r U' ∧ FrP (zn w0 av) w w1 := by
  obtain ⟨Ht, Hr, h1, h2, h3, h4⟩ := h
  refine ⟨Hr, h2, fun k hk => (h4 k hk).2, fun w1 U' h5 f => ?_⟩
  have hs := f.size
  have hlt := h1.lt
  exact ⟨⟨Ht, _, h1.frP f fun k hk => .inr fun ht => (h3 k ht).2.2 hk.1, h5, fun k hk => ⟨(h3 k hk).1, by have := (h3 k hk).2.1; omega, fun hr => by
    rcases hr with hr | hr
    · exact (h3 k hk).2.2 hr
    · have := (h3 k hk).2.1; omega⟩, fun k hk => by
    rcases hk with hk | hk
    · exact ⟨(h4 k hk).1, by have := (h4 k hk).2; omega⟩
    · have h0 := h3 t h1.pt.1
      exact ⟨by omega, hk.2⟩⟩, f.mono fun k hk => ⟨(h4 k hk.1).1, hk.2⟩⟩
theorem D2.fr (h : D2 w0 w av t T r U) {l : List Nat} (f : Fr l w w1) (hl : ∀ k ∈ l, k ∈ av ∨ k < w0.heap.size) : D2 w0 w1 av t T r U := by
  obtain ⟨Ht, Hr, h1, h2, h3, h4⟩ := h
  have hs := f.size
  exact ⟨Ht, Hr, h1.fr f fun k hk => (hl k hk).imp id fun q hq => by have := (h3 k hq).1; omega, h2.fr f fun k hk => (hl k hk).imp id fun q hq => by have := (h4 k hq).1; omega, fun k hk => ⟨(h3 k hk).1, by have := (h3 k hk).2.1; omega, (h3 k hk).2.2⟩, fun k hk => ⟨(h4 k hk).1, by have := (h4 k hk).2; omega⟩⟩
theorem D2.fr0 (h : D2 w0 w av t T r U) (f : Fr [] w w1) : D2 w0 w1 av t T r U := h.fr f fun k hk => by cases hk
theorem D2.alloc (h : D2 w0 w av t T r U) (f : Fr [] w w1) {b : Nat} (hb : b = w.heap.size) (hlt : b < w1.heap.size) : D2 w0 w1 (b :: av) t T r U := by
  obtain ⟨Ht, Hr, h1, h2, h3, h4⟩ := h
  have hs := f.size
  exact ⟨Ht, Hr, h1.alloc f hb hlt, h2.alloc f hb hlt, fun k hk => ⟨(h3 k hk).1, by have := (h3 k hk).2.1; omega, (h3 k hk).2.2⟩, fun k hk => ⟨(h4 k hk).1, by have := (h4 k hk).2; omega⟩⟩
theorem D2.sub (h : D2 w0 w av t T r U) (hs : ∀ k ∈ av', k ∈ av) : D2 w0 w av' t T r U := by
  obtain ⟨Ht, Hr, h1, h2, h3, h4⟩ := h
  exact ⟨Ht, Hr, h1.sub hs fun _ _ q => q, h2.sub hs fun _ _ q => q, h3, h4⟩
end
section
variable {P : Program} {w0 w : World} {av : List Nat} {t r : Nat} {T U T' : Tb Int} {f : FuncId} {args : Array Value} {e0 : Ending}
theorem D2.wrT (h : D2 w0 w av t T r U) (hc : ∀ H, TabX 67 87 86 itI w H av t T → (∀ k, H k → k < w.heap.size) → Calls P f args w (fun e w' => e = e0 ∧ TabX 67 87 86 itI w' (gr H w w') av t T' ∧ FrP (gp H av) w w')) :
    Calls P f args w (fun e w' => e = e0 ∧ D2 w0 w' av t T' r U ∧ FrP (zn w0 av) w w') := by
  obtain ⟨H, hq, hqb, hqk⟩ := h.turnT
  exact (hc H hq hqb).mono fun e w1 q => ⟨q.1, hqk _ _ q.2.1 q.2.2⟩
theorem D2.wrU (h : D2 w0 w av t T r U) (hc : ∀ H, TabX 40 42 60 itI w H av r U → (∀ k, H k → k < w.heap.size) → Calls P f args w (fun e w' => e = e0 ∧ TabX 40 42 60 itI w' (gr H w w') av r T' ∧ FrP (gp H av) w w')) :
    Calls P f args w (fun e w' => e = e0 ∧ D2 w0 w' av t T r T' ∧ FrP (zn w0 av) w w') := by
  obtain ⟨H, hq, hqb, hqk⟩ := h.turnU
  exact (hc H hq hqb).mono fun e w1 q => ⟨q.1, hqk _ _ q.2.1 q.2.2⟩
theorem D2.rdT {R : Ending → World → Prop} (h : D2 w0 w av t T r U) (hc : ∀ H, TabX 67 87 86 itI w H av t T → (∀ k, H k → k < w.heap.size) → Calls P f args w R) : Calls P f args w R := by
  obtain ⟨H, hq, hqb, hqk⟩ := h.turnT
  exact hc H hq hqb
theorem D2.rdU {R : Ending → World → Prop} (h : D2 w0 w av t T r U) (hc : ∀ H, TabX 40 42 60 itI w H av r U → (∀ k, H k → k < w.heap.size) → Calls P f args w R) : Calls P f args w R := by
  obtain ⟨H, hq, hqb, hqk⟩ := h.turnU
  exact hc H hq hqb
end
set_option maxHeartbeats 4000000 in
set_option maxRecDepth 20000 in
theorem act_any (w : World) (w0 : World) (av : List Nat) (t r : Nat) (T U : Tb Int) (N : Nat) (o : OpD) (hD : D2 w0 w av t T r U) (hgT : Gd T N) (hgU : Gd U N) (hN : N < 1000000) (ho : o.ok) (hw : w0.heap.size ≤ w.heap.size) : Calls Try.prog 16 #[.pointer (some ⟨t, 0, none⟩), .pointer (some ⟨r, 0, none⟩), .agg #[.int .i64 o.kind, .string o.key, .int .i64 o.v, .int .u64 (o.draw : Int)]] w (fun e w' => ∃ b, e = .returned (.bool b) ∧ (T = U → b = true) ∧ D2 w0 w' av t (actT T o) r (actT U o) ∧ FrP (zn w0 av) w w') := by
 have hFP := FrP.refl (zn w0 av) w
 obtain ⟨hkk, hks, hv, hd⟩ := ho
 refine V.enter 131 Try.func16 rfl rfl ?_
 intro a hz ha
 have s0 : a.eval (.tmp 0) = (.pointer (some ⟨t, 0, none⟩)) := ha 0 _ rfl
 have s1 : a.eval (.tmp 1) = (.pointer (some ⟨r, 0, none⟩)) := ha 1 _ rfl
 have s2 : a.eval (.tmp 2) = (.agg #[.int .i64 o.kind, .string o.key, .int .i64 o.v, .int .u64 (o.draw : Int)]) := ha 2 _ rfl
 clear ha
 refine V.seq (fun K1 hK2 => ?_)
 refine V.rg ?_
 refine V.go (V.mk [(2, .agg #[.int .i64 o.kind, .string o.key, .int .i64 o.v, .int .u64 (o.draw : Int)])] ⟨(s2), trivial⟩ (by kernel_rfl) [.int .i64 o.kind, .string o.key, .int .i64 o.v, .int .u64 (o.draw : Int)] 34 (fun b => .pointer (some ⟨b, 0, none⟩)) (by kernel_rfl) ?_)
 intro w4 b3 heb3 hB5 hF6 hsb3
 have hD_7 := hD.alloc hF6 heb3 (by omega)
 have hFP_8 := hFP.tr0 hF6
 refine V.ga evc ?_
 refine V.nil ?_
 refine V.then_n (hK2 _ _ ?_)
 refine V.seq (fun K9 hK10 => ?_)
 refine V.rg ?_
 refine V.ge_ [(5, .pointer (some ⟨b3, 0, none⟩))] ⟨(o1 rfl (sm hz rfl)), trivial⟩ (.pointer (some ⟨b3, 1, none⟩)) ?_
 refine V.go (V.ld ⟨b3, 1, none⟩ (.string o.key) (sm hz.p2 rfl) (by kernel_rfl) (hB5.at 1 rfl) ?_)
 refine V.go (V.call 10 #[] #[.string o.key] evf (args1 (sm hz.p2.p1 rfl)) (Go.Proofs.enters_of Try.func10 (by kernel_rfl) rfl) (key_any w4 o.key) ?_)
 rintro _ w12 ⟨rfl, hF11⟩
 refine ⟨_, rfl, ?_⟩
 have hsw12 := hF11.size
 have hD_13 := hD_7.fr0 hF11
 have hFP_14 := hFP_8.tr0 hF11
 have hB5_15 := hB5.fr0 hF11
 have hkey11 := keyS_le o.key
 refine V.ga (v := (.string (keyS o.key))) (sm hz.p4 rfl) ?_
 refine V.nil ?_
 refine V.then_n (hK10 _ _ ?_)
 refine V.flushW hz.p4.p2 (fun a16 hz17 up18 => ?_)
 have s0_19 := up18 0 _ (o4 rfl (o2 rfl s0))
 have s1_20 := up18 1 _ (o4 rfl (o2 rfl s1))
 have s5_21 := up18 5 _ (o4 rfl (o1 rfl (sm hz rfl)))
 have s7_22 : a16.eval (.tmp 7) = (.string (keyS o.key)) := up18 _ _ (sm hz.p4.p1 rfl)
 clear up18
 refine V.seq (fun K23 hK24 => ?_)
 refine V.seq (fun K25 hK26 => ?_)
 refine V.rg ?_
 refine V.ge_ [(5, .pointer (some ⟨b3, 0, none⟩))] ⟨(s5_21), trivial⟩ (.pointer (some ⟨b3, 0, none⟩)) ?_
 refine V.go (V.ld ⟨b3, 0, none⟩ (.int .i64 o.kind) (sm hz17 rfl) (by kernel_rfl) (hB5_15.at 0 rfl) ?_)
 refine V.nil ?_
 refine V.then_n (hK26 _ _ ?_)
 refine V.block ?_
 refine V.seq (fun K27 hK28 => ?_)
 refine V.rg ?_
 refine V.gf_ [(25, .int .i64 o.kind)] ⟨(sm hz17.p1 rfl), trivial⟩ (.bool (o.kind == 1)) (.bool (decide (o.kind = 1))) V.t_eql ?_
 refine V.ga (sm hz17.p2 rfl) ?_
 refine V.nil ?_
 refine V.then_n (hK28 _ _ ?_)
 refine V.flushW hz17.p4 (fun a29 hz30 up31 => ?_)
 have s0_32 := up31 0 _ (o4 rfl s0_19)
 have s1_33 := up31 1 _ (o4 rfl s1_20)
 have s5_34 := up31 5 _ (o4 rfl s5_21)
 have s7_35 : a29.eval (.tmp 7) = (.string (keyS o.key)) := up31 _ _ (o4 rfl s7_22)
 have s25_36 := up31 25 _ (o2 rfl (sm hz17.p1 rfl))
 have s26_37 := up31 26 _ (sm hz17.p2.p1 rfl)
 clear up31
 refine V.condP (p := o.kind = 1) (s26_37) (fun ht38 => ?_) (fun ht38 => ?_)
 ·
  refine V.seq (fun K39 hK40 => ?_)
  refine V.plan [[], [], [], [2], [0, 1, 2, 3], [], [], [], [7], [0, 1, 2, 3, 4, 5, 6, 7, 8], [0, 1, 2, 3, 4, 5, 6, 7, 8, 9], [0, 1, 2, 3, 4, 5, 6, 7, 8, 9, 10]] [([0, 1, 2, 3, 5, 6, 7, 8], some (4, [8])), ([], some (9, [])), ([10, 11], none)] (by kernel_rfl) (by kernel_rfl) (by exact fun _ _ _ _ h => h) ?_
  simp only [Plan.wpSegs, Plan.pickAll, Plan.nth, V.L_eq]
  obtain ⟨w41, hF42e⟩ : ∃ w1, w1 = w12.drew := ⟨_, rfl⟩
  rw [← hF42e]
  have hF42 : Fr [] w12 w41 := by rw [hF42e]; exact Fr.drew _ _
  have hsw41 : w41.heap.size = w12.heap.size := by rw [hF42e]; rfl
  clear hF42e
  have hD_43 := hD_13.fr0 hF42
  have hFP_44 := hFP_14.tr0 hF42
  have hB5_45 := hB5_15.fr0 hF42
  refine V.gm (s0_32) ?_
  refine V.gm (v := (.string (keyS o.key))) (o1 rfl s7_35) ?_
  refine V.ge_ [(5, .pointer (some ⟨b3, 0, none⟩))] ⟨(o2 rfl s5_34), trivial⟩ (.pointer (some ⟨b3, 2, none⟩)) ?_
  refine V.go (V.ld ⟨b3, 2, none⟩ (.int .i64 o.v) (sm hz30.p2 rfl) (by kernel_rfl) (hB5_45.at 2 rfl) ?_)
  refine V.gm (o4 rfl s1_33) ?_
  refine V.gm (v := (.string (keyS o.key))) (o4 rfl (o1 rfl s7_35)) ?_
  refine V.ge_ [(5, .pointer (some ⟨b3, 0, none⟩))] ⟨(o4 rfl (o2 rfl s5_34)), trivial⟩ (.pointer (some ⟨b3, 2, none⟩)) ?_
  refine V.go (V.ld ⟨b3, 2, none⟩ (.int .i64 o.v) (sm hz30.p4.p2 rfl) (by kernel_rfl) (hB5_45.at 2 rfl) ?_)
  refine V.nil ?_
  refine ⟨chk [] trivial (by kernel_rfl), ?_⟩
  refine V.go (V.call 38 #[] #[.pointer (some ⟨t, 0, none⟩), .string (keyS o.key), .int .i64 o.v] evf (args3 (o4 rfl (o2 rfl (o1 rfl (sm hz30 rfl)))) (o4 rfl (o2 rfl (sm hz30.p1 rfl))) (o4 rfl (sm hz30.p2.p1 rfl))) (Go.Proofs.enters_of Try.func38 (by kernel_rfl) rfl) (hD_43.wrT (fun Hq hq hqb => put_any w41 Hq (b3 :: av) t (T) hq hgT.mv (keyS o.key) (by first | exact key_le _ | omega) o.v hv (by have := hgT.nn; omega))) ?_)
  rintro _ w48 ⟨rfl, hD46, hfp47⟩
  refine ⟨_, rfl, ?_⟩
  have hsw48 := hfp47.size
  have hFP_49 := hFP_44.trP hfp47 (fun k hk => .inl ⟨hk.1, fun hm => hk.2 (by simp [hm])⟩)
  have hB5_50 := hB5_45.frP hfp47 (by exact fun hp => hp.2 (by simp))
  refine V.nil ?_
  refine ⟨(fun _ => held_blk (n := 1) (hx := (o1 rfl (sm hz30.p4.p2 rfl))) hB5_45 hB5_50 (by kernel_rfl) rfl (by simp only [List.length]; omega)), ?_⟩
  refine V.nil ?_
  refine ⟨chk [] trivial (by kernel_rfl), ?_⟩
  refine V.go (V.call 45 #[] #[.pointer (some ⟨r, 0, none⟩), .string (keyS o.key), .int .i64 o.v] evf (args3 (o4 rfl (sm hz30.p4 rfl)) (o2 rfl (o1 rfl (sm hz30.p4.p1 rfl))) (o1 rfl (sm hz30.p4.p2.p1 rfl))) (Go.Proofs.enters_of Try.func45 (by kernel_rfl) rfl) (hD46.wrU (fun Hq hq hqb => rput_any w48 Hq (b3 :: av) r (U) hq hgU.mv (keyS o.key) (by first | exact key_le _ | omega) o.v hv (by have := hgU.nn; omega))) ?_)
  rintro _ w53 ⟨rfl, hD51, hfp52⟩
  refine ⟨_, rfl, ?_⟩
  have hsw53 := hfp52.size
  have hFP_54 := hFP_49.trP hfp52 (fun k hk => .inl ⟨hk.1, fun hm => hk.2 (by simp [hm])⟩)
  have hB5_55 := hB5_50.frP hfp52 (by exact fun hp => hp.2 (by simp))
  refine V.nil ?_
  refine ⟨trivial, ?_⟩
  refine V.gf_ [(32, .bool ((findT (tbStep T) (keyS o.key)).2)), (37, .bool ((findT (tbStep U) (keyS o.key)).2))] ⟨(o1 rfl (sm hz30.p8 rfl)), (sm hz30.p8.p1 rfl), trivial⟩ (.bool (((findT (tbStep T) (keyS o.key)).2) == ((findT (tbStep U) (keyS o.key)).2))) (.bool (decide (((findT (tbStep T) (keyS o.key)).2) = ((findT (tbStep U) (keyS o.key)).2)))) V.t_beql ?_
  refine V.ga (sm hz30.p8.p2 rfl) ?_
  refine V.nil ?_
  refine ⟨chk [(32, .bool ((findT (tbStep T) (keyS o.key)).2)), (37, .bool ((findT (tbStep U) (keyS o.key)).2))] ⟨(o2 rfl (o1 rfl (sm hz30.p8 rfl))), (o2 rfl (sm hz30.p8.p1 rfl)), trivial⟩ (by kernel_rfl), ?_⟩
  refine V.then_n (hK40 _ _ ?_)
  refine V.flushW hz30.p8.p4 (fun a56 hz57 up58 => ?_)
  have s6_59 := up58 6 _ (sm hz30.p8.p2.p1 rfl)
  clear up58
  refine V.ret ?_
  refine V.blk_r ?_
  refine V.then_r ?_
  refine V.ret1 hz57 rfl (s6_59) ?_
  rw [act1 (T := T) ht38, act1 (T := U) ht38]
  exact ⟨_, rfl, fun h => decide_eq_true (by rw [h]), hD51.sub (by intro k hk; simp [hk]), hFP_54⟩
 ·
  refine V.seq (fun K60 hK61 => ?_)
  refine V.rg ?_
  refine V.gf_ [(25, .int .i64 o.kind)] ⟨(s25_36), trivial⟩ (.bool (o.kind == 2)) (.bool (decide (o.kind = 2))) V.t_eql ?_
  refine V.ga (sm hz30 rfl) ?_
  refine V.nil ?_
  refine V.then_n (hK61 _ _ ?_)
  refine V.condP (p := o.kind = 2) (sm hz30.p1 rfl) (fun ht62 => ?_) (fun ht62 => ?_)
  ·
   refine V.seq (fun K63 hK64 => ?_)
   refine V.rg ?_
   refine V.gm (o2 rfl s0_32) ?_
   refine V.gm (v := (.string (keyS o.key))) (o2 rfl (o1 rfl s7_35)) ?_
   refine V.go (V.call 36 #[] #[.pointer (some ⟨t, 0, none⟩), .string (keyS o.key)] evf (args2 (o1 rfl (sm hz30.p2 rfl)) (sm hz30.p2.p1 rfl)) (Go.Proofs.enters_of Try.func36 (by kernel_rfl) rfl) (hD_13.wrT (fun Hq hq hqb => get_any w12 Hq (b3 :: av) t (T) hq hgT.mv (keyS o.key) (by first | exact key_le _ | omega))) ?_)
   rintro _ w67 ⟨rfl, hD65, hfp66⟩
   refine ⟨_, rfl, ?_⟩
   have hsw67 := hfp66.size
   have hFP_68 := hFP_14.trP hfp66 (fun k hk => .inl ⟨hk.1, fun hm => hk.2 (by simp [hm])⟩)
   have hB5_69 := hB5_15.frP hfp66 (by exact fun hp => hp.2 (by simp))
   refine V.gm (v := (.tuple #[.int .i64 ((lookT 0 (tbStep T) (keyS o.key)).1), .bool ((lookT 0 (tbStep T) (keyS o.key)).2)])) (sm hz30.p4 rfl) ?_
   refine V.ge_ [(41, .tuple #[.int .i64 ((lookT 0 (tbStep T) (keyS o.key)).1), .bool ((lookT 0 (tbStep T) (keyS o.key)).2)])] ⟨(sm hz30.p4.p1 rfl), trivial⟩ (.int .i64 ((lookT 0 (tbStep T) (keyS o.key)).1)) ?_
   refine V.ge_ [(41, .tuple #[.int .i64 ((lookT 0 (tbStep T) (keyS o.key)).1), .bool ((lookT 0 (tbStep T) (keyS o.key)).2)])] ⟨(o1 rfl (sm hz30.p4.p1 rfl)), trivial⟩ (.bool ((lookT 0 (tbStep T) (keyS o.key)).2)) ?_
   refine V.ga (o1 rfl (sm hz30.p4.p2 rfl)) ?_
   refine V.ga (o1 rfl (sm hz30.p4.p2.p1 rfl)) ?_
   refine V.nil ?_
   refine V.then_n (hK64 _ _ ?_)
   refine V.flushW hz30.p8.p2 (fun a70 hz71 up72 => ?_)
   have s1_73 := up72 1 _ (o8 rfl (o2 rfl s1_33))
   have s7_74 : a70.eval (.tmp 7) = (.string (keyS o.key)) := up72 _ _ (o8 rfl (o2 rfl s7_35))
   have s8_75 := up72 8 _ (o1 rfl (sm hz30.p8 rfl))
   have s9_76 := up72 9 _ (sm hz30.p8.p1 rfl)
   clear up72
   refine V.seq (fun K77 hK78 => ?_)
   refine V.rg ?_
   refine V.gm (s1_73) ?_
   refine V.gm (v := (.string (keyS o.key))) (o1 rfl s7_74) ?_
   refine V.go (V.call 46 #[] #[.pointer (some ⟨r, 0, none⟩), .string (keyS o.key)] evf (args2 (o1 rfl (sm hz71 rfl)) (sm hz71.p1 rfl)) (Go.Proofs.enters_of Try.func46 (by kernel_rfl) rfl) (hD65.wrU (fun Hq hq hqb => rget_any w67 Hq (b3 :: av) r (U) hq hgU.mv (keyS o.key) (by first | exact key_le _ | omega))) ?_)
   rintro _ w81 ⟨rfl, hD79, hfp80⟩
   refine ⟨_, rfl, ?_⟩
   have hsw81 := hfp80.size
   have hFP_82 := hFP_68.trP hfp80 (fun k hk => .inl ⟨hk.1, fun hm => hk.2 (by simp [hm])⟩)
   have hB5_83 := hB5_69.frP hfp80 (by exact fun hp => hp.2 (by simp))
   refine V.gm (v := (.tuple #[.int .i64 ((lookT 0 (tbStep U) (keyS o.key)).1), .bool ((lookT 0 (tbStep U) (keyS o.key)).2)])) (sm hz71.p2 rfl) ?_
   refine V.ge_ [(47, .tuple #[.int .i64 ((lookT 0 (tbStep U) (keyS o.key)).1), .bool ((lookT 0 (tbStep U) (keyS o.key)).2)])] ⟨(sm hz71.p2.p1 rfl), trivial⟩ (.int .i64 ((lookT 0 (tbStep U) (keyS o.key)).1)) ?_
   refine V.ge_ [(47, .tuple #[.int .i64 ((lookT 0 (tbStep U) (keyS o.key)).1), .bool ((lookT 0 (tbStep U) (keyS o.key)).2)])] ⟨(o1 rfl (sm hz71.p2.p1 rfl)), trivial⟩ (.bool ((lookT 0 (tbStep U) (keyS o.key)).2)) ?_
   refine V.ga (o1 rfl (sm hz71.p4 rfl)) ?_
   refine V.ga (o1 rfl (sm hz71.p4.p1 rfl)) ?_
   refine V.nil ?_
   refine V.then_n (hK78 _ _ ?_)
   refine V.flushW hz71.p8 (fun a84 hz85 up86 => ?_)
   have s8_87 := up86 8 _ (o8 rfl s8_75)
   have s9_88 := up86 9 _ (o8 rfl s9_76)
   have s10_89 := up86 10 _ (o1 rfl (sm hz71.p4.p2 rfl))
   have s11_90 := up86 11 _ (sm hz71.p4.p2.p1 rfl)
   clear up86
   refine V.seq (fun K91 hK92 => ?_)
   refine V.rg ?_
   refine V.gm (s8_87) ?_
   refine V.gm (o1 rfl s10_89) ?_
   refine V.gf_ [(53, .int .i64 ((lookT 0 (tbStep T) (keyS o.key)).1)), (54, .int .i64 ((lookT 0 (tbStep U) (keyS o.key)).1))] ⟨(o1 rfl (sm hz85 rfl)), (sm hz85.p1 rfl), trivial⟩ (.bool (((lookT 0 (tbStep T) (keyS o.key)).1) == ((lookT 0 (tbStep U) (keyS o.key)).1))) (.bool (decide (((lookT 0 (tbStep T) (keyS o.key)).1) = ((lookT 0 (tbStep U) (keyS o.key)).1)))) V.t_eql ?_
   refine V.gm (sm hz85.p2 rfl) ?_
   by_cases hg93 : ((lookT 0 (tbStep T) (keyS o.key)).1) = ((lookT 0 (tbStep U) (keyS o.key)).1)
   ·
    refine V.flushL hz85.p4 (fun a94 hz95 up96 => ?_)
    have s9_97 := up96 9 _ (o4 rfl s9_88)
    have s11_98 := up96 11 _ (o4 rfl s11_90)
    have s56_99 := up96 56 _ (sm hz85.p2.p1 rfl)
    clear up96
    have s56_100 := ((s56_99).trans (dt hg93))
    refine V.go_on 56 (by kernel_rfl) (s56_100) (V.mv (s9_97) ?_)
    refine V.go_on 56 (by kernel_rfl) (o1 rfl s56_100) (V.mv (o1 rfl s11_98) ?_)
    refine V.go_on 56 (by kernel_rfl) (o2 rfl s56_100) (V.pvw [(57, .bool ((lookT 0 (tbStep T) (keyS o.key)).2)), (58, .bool ((lookT 0 (tbStep U) (keyS o.key)).2))] ⟨(o1 rfl (sm hz95 rfl)), (sm hz95.p1 rfl), trivial⟩ (by kernel_rfl) (.bool (((lookT 0 (tbStep T) (keyS o.key)).2) == ((lookT 0 (tbStep U) (keyS o.key)).2))) (.bool (decide (((lookT 0 (tbStep T) (keyS o.key)).2) = ((lookT 0 (tbStep U) (keyS o.key)).2)))) (by kernel_rfl) V.t_beql ?_)
    refine V.go (V.pk_t (o2 rfl (o1 rfl s56_100)) (v := (.bool (decide (((lookT 0 (tbStep T) (keyS o.key)).2) = ((lookT 0 (tbStep U) (keyS o.key)).2))))) (sm hz95.p2 rfl) ?_)
    refine V.ga (sm hz95.p2.p1 rfl) ?_
    refine V.nil ?_
    refine V.then_n (hK92 _ _ ?_)
    refine V.flushW hz95.p4.p1 (fun a101 hz102 up103 => ?_)
    have s6_104 := up103 6 _ (sm hz95.p4 rfl)
    clear up103
    refine V.ret ?_
    refine V.blk_r ?_
    refine V.then_r ?_
    refine V.ret1 hz102 rfl (s6_104) ?_
    rw [act2 (T := T) ht62, act2 (T := U) ht62]
    exact ⟨_, rfl, fun h => decide_eq_true (by rw [h]), hD79.sub (by intro k hk; simp [hk]), hFP_82⟩
   ·
    refine V.flushL hz85.p4 (fun a105 hz106 up107 => ?_)
    have s9_108 := up107 9 _ (o4 rfl s9_88)
    have s11_109 := up107 11 _ (o4 rfl s11_90)
    have s56_110 := up107 56 _ (sm hz85.p2.p1 rfl)
    clear up107
    have s56_111 := ((s56_110).trans (df hg93))
    refine V.go_off 56 (by kernel_rfl) (s56_111) (by kernel_rfl) ?_
    refine V.go_off 56 (by kernel_rfl) (o1 rfl s56_111) (by kernel_rfl) ?_
    refine V.go_off 56 (by kernel_rfl) (o2 rfl s56_111) (by kernel_rfl) ?_
    refine V.go (V.pk_f (o2 rfl (o1 rfl s56_111)) (v := (.bool false)) evc ?_)
    refine V.ga (sm hz106.p2.p1 rfl) ?_
    refine V.nil ?_
    refine V.then_n (hK92 _ _ ?_)
    refine V.flushW hz106.p4.p1 (fun a112 hz113 up114 => ?_)
    have s6_115 := up114 6 _ (sm hz106.p4 rfl)
    clear up114
    refine V.ret ?_
    refine V.blk_r ?_
    refine V.then_r ?_
    refine V.ret1 hz113 rfl (s6_115) ?_
    rw [act2 (T := T) ht62, act2 (T := U) ht62]
    exact ⟨_, rfl, fun h => absurd (by rw [h]) hg93, hD79.sub (by intro k hk; simp [hk]), hFP_82⟩
  ·
   refine V.seq (fun K116 hK117 => ?_)
   refine V.rg ?_
   refine V.gf_ [(25, .int .i64 o.kind)] ⟨(o2 rfl s25_36), trivial⟩ (.bool (o.kind == 3)) (.bool (decide (o.kind = 3))) V.t_eql ?_
   refine V.ga (sm hz30.p2 rfl) ?_
   refine V.nil ?_
   refine V.then_n (hK117 _ _ ?_)
   refine V.flushW hz30.p4 (fun a118 hz119 up120 => ?_)
   have s0_121 := up120 0 _ (o4 rfl s0_32)
   have s1_122 := up120 1 _ (o4 rfl s1_33)
   have s5_123 := up120 5 _ (o4 rfl s5_34)
   have s7_124 : a118.eval (.tmp 7) = (.string (keyS o.key)) := up120 _ _ (o4 rfl s7_35)
   have s25_125 := up120 25 _ (o4 rfl s25_36)
   have s61_126 := up120 61 _ (sm hz30.p2.p1 rfl)
   clear up120
   refine V.condP (p := o.kind = 3) (s61_126) (fun ht127 => ?_) (fun ht127 => ?_)
   ·
    refine V.seq (fun K128 hK129 => ?_)
    refine V.rg ?_
    refine V.gm (s0_121) ?_
    refine V.gm (v := (.string (keyS o.key))) (o1 rfl s7_124) ?_
    refine V.go (V.call 39 #[] #[.pointer (some ⟨t, 0, none⟩), .string (keyS o.key)] evf (args2 (o1 rfl (sm hz119 rfl)) (sm hz119.p1 rfl)) (Go.Proofs.enters_of Try.func39 (by kernel_rfl) rfl) (hD_13.wrT (fun Hq hq hqb => del_any w12 Hq (b3 :: av) t (T) hq hgT.mv (keyS o.key) (by first | exact key_le _ | omega))) ?_)
    rintro _ w132 ⟨rfl, hD130, hfp131⟩
    refine ⟨_, rfl, ?_⟩
    have hsw132 := hfp131.size
    have hFP_133 := hFP_14.trP hfp131 (fun k hk => .inl ⟨hk.1, fun hm => hk.2 (by simp [hm])⟩)
    have hB5_134 := hB5_15.frP hfp131 (by exact fun hp => hp.2 (by simp))
    refine V.gm (o2 rfl (o1 rfl s1_122)) ?_
    refine V.gm (v := (.string (keyS o.key))) (o4 rfl s7_124) ?_
    refine V.go (V.call 47 #[] #[.pointer (some ⟨r, 0, none⟩), .string (keyS o.key)] evf (args2 (o1 rfl (sm hz119.p2.p1 rfl)) (sm hz119.p4 rfl)) (Go.Proofs.enters_of Try.func47 (by kernel_rfl) rfl) (hD130.wrU (fun Hq hq hqb => rdel_any w132 Hq (b3 :: av) r (U) hq hgU.mv (keyS o.key) (by first | exact key_le _ | omega) hgU.p8)) ?_)
    rintro _ w137 ⟨rfl, hD135, hfp136⟩
    refine ⟨_, rfl, ?_⟩
    have hsw137 := hfp136.size
    have hFP_138 := hFP_133.trP hfp136 (fun k hk => .inl ⟨hk.1, fun hm => hk.2 (by simp [hm])⟩)
    have hB5_139 := hB5_134.frP hfp136 (by exact fun hp => hp.2 (by simp))
    refine V.gf_ [(65, .bool ((findT (tbStep T) (keyS o.key)).2)), (68, .bool ((findT (tbStep U) (keyS o.key)).2))] ⟨(o2 rfl (o1 rfl (sm hz119.p2 rfl))), (sm hz119.p4.p1 rfl), trivial⟩ (.bool (((findT (tbStep T) (keyS o.key)).2) == ((findT (tbStep U) (keyS o.key)).2))) (.bool (decide (((findT (tbStep T) (keyS o.key)).2) = ((findT (tbStep U) (keyS o.key)).2)))) V.t_beql ?_
    refine V.ga (sm hz119.p4.p2 rfl) ?_
    refine V.nil ?_
    refine V.then_n (hK129 _ _ ?_)
    refine V.flushW hz119.p8 (fun a140 hz141 up142 => ?_)
    have s6_143 := up142 6 _ (sm hz119.p4.p2.p1 rfl)
    clear up142
    refine V.ret ?_
    refine V.blk_r ?_
    refine V.then_r ?_
    refine V.ret1 hz141 rfl (s6_143) ?_
    rw [act3 (T := T) ht127, act3 (T := U) ht127]
    exact ⟨_, rfl, fun h => decide_eq_true (by rw [h]), hD135.sub (by intro k hk; simp [hk]), hFP_138⟩
   ·
    refine V.seq (fun K144 hK145 => ?_)
    refine V.rg ?_
    refine V.gf_ [(25, .int .i64 o.kind)] ⟨(s25_125), trivial⟩ (.bool (o.kind == 4)) (.bool (decide (o.kind = 4))) V.t_eql ?_
    refine V.ga (sm hz119 rfl) ?_
    refine V.nil ?_
    refine V.then_n (hK145 _ _ ?_)
    refine V.condP (p := o.kind = 4) (sm hz119.p1 rfl) (fun ht146 => ?_) (fun ht146 => ?_)
    ·
     refine V.seq (fun K147 hK148 => ?_)
     refine V.rg ?_
     refine V.gm (o2 rfl s0_121) ?_
     refine V.gm (v := (.string (keyS o.key))) (o2 rfl (o1 rfl s7_124)) ?_
     refine V.go (V.call 22 #[] #[.pointer (some ⟨t, 0, none⟩), .string (keyS o.key)] evf (args2 (o1 rfl (sm hz119.p2 rfl)) (sm hz119.p2.p1 rfl)) (Go.Proofs.enters_of Try.func22 (by kernel_rfl) rfl) (hD_13.rdT (fun Hq hq hqb => look_any w12 Hq (b3 :: av) t (T) hq (keyS o.key) (by first | exact key_le _ | omega))) ?_)
     rintro _ w150 ⟨rfl, hF149⟩
     refine ⟨_, rfl, ?_⟩
     have hsw150 := hF149.size
     have hD_151 := hD_13.fr0 hF149
     have hFP_152 := hFP_14.tr0 hF149
     have hB5_153 := hB5_15.fr0 hF149
     refine V.gm (v := (.tuple #[.int .i64 ((lookT 0 T (keyS o.key)).1), .bool ((lookT 0 T (keyS o.key)).2)])) (sm hz119.p4 rfl) ?_
     refine V.ge_ [(72, .tuple #[.int .i64 ((lookT 0 T (keyS o.key)).1), .bool ((lookT 0 T (keyS o.key)).2)])] ⟨(sm hz119.p4.p1 rfl), trivial⟩ (.int .i64 ((lookT 0 T (keyS o.key)).1)) ?_
     refine V.ge_ [(72, .tuple #[.int .i64 ((lookT 0 T (keyS o.key)).1), .bool ((lookT 0 T (keyS o.key)).2)])] ⟨(o1 rfl (sm hz119.p4.p1 rfl)), trivial⟩ (.bool ((lookT 0 T (keyS o.key)).2)) ?_
     refine V.ga (o1 rfl (sm hz119.p4.p2 rfl)) ?_
     refine V.ga (o1 rfl (sm hz119.p4.p2.p1 rfl)) ?_
     refine V.nil ?_
     refine V.then_n (hK148 _ _ ?_)
     refine V.flushW hz119.p8.p2 (fun a154 hz155 up156 => ?_)
     have s1_157 := up156 1 _ (o8 rfl (o2 rfl s1_122))
     have s7_158 : a154.eval (.tmp 7) = (.string (keyS o.key)) := up156 _ _ (o8 rfl (o2 rfl s7_124))
     have s12_159 := up156 12 _ (o1 rfl (sm hz119.p8 rfl))
     have s13_160 := up156 13 _ (sm hz119.p8.p1 rfl)
     clear up156
     refine V.seq (fun K161 hK162 => ?_)
     refine V.rg ?_
     refine V.gm (s1_157) ?_
     refine V.gm (v := (.string (keyS o.key))) (o1 rfl s7_158) ?_
     refine V.go (V.call 48 #[] #[.pointer (some ⟨r, 0, none⟩), .string (keyS o.key)] evf (args2 (o1 rfl (sm hz155 rfl)) (sm hz155.p1 rfl)) (Go.Proofs.enters_of Try.func48 (by kernel_rfl) rfl) (hD_151.rdU (fun Hq hq hqb => rlook_any w150 Hq (b3 :: av) r (U) hq (keyS o.key) (by first | exact key_le _ | omega))) ?_)
     rintro _ w164 ⟨rfl, hF163⟩
     refine ⟨_, rfl, ?_⟩
     have hsw164 := hF163.size
     have hD_165 := hD_151.fr0 hF163
     have hFP_166 := hFP_152.tr0 hF163
     have hB5_167 := hB5_153.fr0 hF163
     refine V.gm (v := (.tuple #[.int .i64 ((lookT 0 U (keyS o.key)).1), .bool ((lookT 0 U (keyS o.key)).2)])) (sm hz155.p2 rfl) ?_
     refine V.ge_ [(78, .tuple #[.int .i64 ((lookT 0 U (keyS o.key)).1), .bool ((lookT 0 U (keyS o.key)).2)])] ⟨(sm hz155.p2.p1 rfl), trivial⟩ (.int .i64 ((lookT 0 U (keyS o.key)).1)) ?_
     refine V.ge_ [(78, .tuple #[.int .i64 ((lookT 0 U (keyS o.key)).1), .bool ((lookT 0 U (keyS o.key)).2)])] ⟨(o1 rfl (sm hz155.p2.p1 rfl)), trivial⟩ (.bool ((lookT 0 U (keyS o.key)).2)) ?_
     refine V.ga (o1 rfl (sm hz155.p4 rfl)) ?_
     refine V.ga (o1 rfl (sm hz155.p4.p1 rfl)) ?_
     refine V.nil ?_
     refine V.then_n (hK162 _ _ ?_)
     refine V.flushW hz155.p8 (fun a168 hz169 up170 => ?_)
     have s12_171 := up170 12 _ (o8 rfl s12_159)
     have s13_172 := up170 13 _ (o8 rfl s13_160)
     have s14_173 := up170 14 _ (o1 rfl (sm hz155.p4.p2 rfl))
     have s15_174 := up170 15 _ (sm hz155.p4.p2.p1 rfl)
     clear up170
     refine V.seq (fun K175 hK176 => ?_)
     refine V.rg ?_
     refine V.gm (s12_171) ?_
     refine V.gm (o1 rfl s14_173) ?_
     refine V.gf_ [(84, .int .i64 ((lookT 0 T (keyS o.key)).1)), (85, .int .i64 ((lookT 0 U (keyS o.key)).1))] ⟨(o1 rfl (sm hz169 rfl)), (sm hz169.p1 rfl), trivial⟩ (.bool (((lookT 0 T (keyS o.key)).1) == ((lookT 0 U (keyS o.key)).1))) (.bool (decide (((lookT 0 T (keyS o.key)).1) = ((lookT 0 U (keyS o.key)).1)))) V.t_eql ?_
     refine V.gm (sm hz169.p2 rfl) ?_
     by_cases hg177 : ((lookT 0 T (keyS o.key)).1) = ((lookT 0 U (keyS o.key)).1)
     ·
      refine V.flushL hz169.p4 (fun a178 hz179 up180 => ?_)
      have s13_181 := up180 13 _ (o4 rfl s13_172)
      have s15_182 := up180 15 _ (o4 rfl s15_174)
      have s87_183 := up180 87 _ (sm hz169.p2.p1 rfl)
      clear up180
      have s87_184 := ((s87_183).trans (dt hg177))
      refine V.go_on 87 (by kernel_rfl) (s87_184) (V.mv (s13_181) ?_)
      refine V.go_on 87 (by kernel_rfl) (o1 rfl s87_184) (V.mv (o1 rfl s15_182) ?_)
      refine V.go_on 87 (by kernel_rfl) (o2 rfl s87_184) (V.pvw [(88, .bool ((lookT 0 T (keyS o.key)).2)), (89, .bool ((lookT 0 U (keyS o.key)).2))] ⟨(o1 rfl (sm hz179 rfl)), (sm hz179.p1 rfl), trivial⟩ (by kernel_rfl) (.bool (((lookT 0 T (keyS o.key)).2) == ((lookT 0 U (keyS o.key)).2))) (.bool (decide (((lookT 0 T (keyS o.key)).2) = ((lookT 0 U (keyS o.key)).2)))) (by kernel_rfl) V.t_beql ?_)
      refine V.go (V.pk_t (o2 rfl (o1 rfl s87_184)) (v := (.bool (decide (((lookT 0 T (keyS o.key)).2) = ((lookT 0 U (keyS o.key)).2))))) (sm hz179.p2 rfl) ?_)
      refine V.ga (sm hz179.p2.p1 rfl) ?_
      refine V.nil ?_
      refine V.then_n (hK176 _ _ ?_)
      refine V.flushW hz179.p4.p1 (fun a185 hz186 up187 => ?_)
      have s6_188 := up187 6 _ (sm hz179.p4 rfl)
      clear up187
      refine V.ret ?_
      refine V.blk_r ?_
      refine V.then_r ?_
      refine V.ret1 hz186 rfl (s6_188) ?_
      rw [act0 (T := T) ht38 ht62 ht127 (by omega), act0 (T := U) ht38 ht62 ht127 (by omega)]
      exact ⟨_, rfl, fun h => decide_eq_true (by rw [h]), hD_165.sub (by intro k hk; simp [hk]), hFP_166⟩
     ·
      refine V.flushL hz169.p4 (fun a189 hz190 up191 => ?_)
      have s13_192 := up191 13 _ (o4 rfl s13_172)
      have s15_193 := up191 15 _ (o4 rfl s15_174)
      have s87_194 := up191 87 _ (sm hz169.p2.p1 rfl)
      clear up191
      have s87_195 := ((s87_194).trans (df hg177))
      refine V.go_off 87 (by kernel_rfl) (s87_195) (by kernel_rfl) ?_
      refine V.go_off 87 (by kernel_rfl) (o1 rfl s87_195) (by kernel_rfl) ?_
      refine V.go_off 87 (by kernel_rfl) (o2 rfl s87_195) (by kernel_rfl) ?_
      refine V.go (V.pk_f (o2 rfl (o1 rfl s87_195)) (v := (.bool false)) evc ?_)
      refine V.ga (sm hz190.p2.p1 rfl) ?_
      refine V.nil ?_
      refine V.then_n (hK176 _ _ ?_)
      refine V.flushW hz190.p4.p1 (fun a196 hz197 up198 => ?_)
      have s6_199 := up198 6 _ (sm hz190.p4 rfl)
      clear up198
      refine V.ret ?_
      refine V.blk_r ?_
      refine V.then_r ?_
      refine V.ret1 hz197 rfl (s6_199) ?_
      rw [act0 (T := T) ht38 ht62 ht127 (by omega), act0 (T := U) ht38 ht62 ht127 (by omega)]
      exact ⟨_, rfl, fun h => absurd (by rw [h]) hg177, hD_165.sub (by intro k hk; simp [hk]), hFP_166⟩
    ·
     refine V.seq (fun K200 hK201 => ?_)
     refine V.rg ?_
     refine V.gf_ [(25, .int .i64 o.kind)] ⟨(o2 rfl s25_125), trivial⟩ (.bool (o.kind == 5)) (.bool (decide (o.kind = 5))) V.t_eql ?_
     refine V.ga (sm hz119.p2 rfl) ?_
     refine V.nil ?_
     refine V.then_n (hK201 _ _ ?_)
     refine V.flushW hz119.p4 (fun a202 hz203 up204 => ?_)
     have s0_205 := up204 0 _ (o4 rfl s0_121)
     have s1_206 := up204 1 _ (o4 rfl s1_122)
     have s5_207 := up204 5 _ (o4 rfl s5_123)
     have s25_208 := up204 25 _ (o4 rfl s25_125)
     have s92_209 := up204 92 _ (sm hz119.p2.p1 rfl)
     clear up204
     refine V.condP (p := o.kind = 5) (s92_209) (fun ht210 => ?_) (fun ht210 => ?_)
     ·
      refine V.seq (fun K211 hK212 => ?_)
      refine V.rg ?_
      refine V.gm (s0_205) ?_
      refine V.go (V.call 40 #[] #[.pointer (some ⟨t, 0, none⟩)] evf (args1 (sm hz203 rfl)) (Go.Proofs.enters_of Try.func40 (by kernel_rfl) rfl) (hD_13.wrT (fun Hq hq hqb => stepx_any w12 Hq (b3 :: av) t (T) hq hgT.mv)) ?_)
      rintro _ w215 ⟨rfl, hD213, hfp214⟩
      refine ⟨_, rfl, ?_⟩
      have hsw215 := hfp214.size
      have hFP_216 := hFP_14.trP hfp214 (fun k hk => .inl ⟨hk.1, fun hm => hk.2 (by simp [hm])⟩)
      have hB5_217 := hB5_15.frP hfp214 (by exact fun hp => hp.2 (by simp))
      refine V.gm (o2 rfl s1_206) ?_
      refine V.go (V.call 49 #[] #[.pointer (some ⟨r, 0, none⟩)] evf (args1 (sm hz203.p2 rfl)) (Go.Proofs.enters_of Try.func49 (by kernel_rfl) rfl) (hD213.wrU (fun Hq hq hqb => rstep_any w215 Hq (b3 :: av) r (U) hq hgU.mv)) ?_)
      rintro _ w220 ⟨rfl, hD218, hfp219⟩
      refine ⟨_, rfl, ?_⟩
      have hsw220 := hfp219.size
      have hFP_221 := hFP_216.trP hfp219 (fun k hk => .inl ⟨hk.1, fun hm => hk.2 (by simp [hm])⟩)
      have hB5_222 := hB5_217.frP hfp219 (by exact fun hp => hp.2 (by simp))
      refine V.gf_ [(95, .bool (decide ((tbStep T).b.length ≠ 0))), (97, .bool (decide ((tbStep U).b.length ≠ 0)))] ⟨(o2 rfl (sm hz203.p1 rfl)), (sm hz203.p2.p1 rfl), trivial⟩ (.bool ((decide ((tbStep T).b.length ≠ 0)) == (decide ((tbStep U).b.length ≠ 0)))) (.bool (decide ((decide ((tbStep T).b.length ≠ 0)) = (decide ((tbStep U).b.length ≠ 0))))) V.t_beql ?_
      refine V.ga (sm hz203.p4 rfl) ?_
      refine V.nil ?_
      refine V.then_n (hK212 _ _ ?_)
      refine V.flushW hz203.p4.p2 (fun a223 hz224 up225 => ?_)
      have s6_226 := up225 6 _ (sm hz203.p4.p1 rfl)
      clear up225
      refine V.ret ?_
      refine V.blk_r ?_
      refine V.then_r ?_
      refine V.ret1 hz224 rfl (s6_226) ?_
      rw [act5 (T := T) ht210, act5 (T := U) ht210]
      exact ⟨_, rfl, fun h => decide_eq_true (by rw [h]), hD218.sub (by intro k hk; simp [hk]), hFP_221⟩
     ·
      refine V.seq (fun K227 hK228 => ?_)
      refine V.rg ?_
      refine V.gf_ [(25, .int .i64 o.kind)] ⟨(s25_208), trivial⟩ (.bool (o.kind == 6)) (.bool (decide (o.kind = 6))) V.t_eql ?_
      refine V.ga (sm hz203 rfl) ?_
      refine V.nil ?_
      refine V.then_n (hK228 _ _ ?_)
      refine V.condP (p := o.kind = 6) (sm hz203.p1 rfl) (fun ht229 => ?_) (fun ht229 => ?_)
      ·
       refine V.seq (fun K230 hK231 => ?_)
       refine V.rg ?_
       refine V.gm (o2 rfl s0_205) ?_
       refine V.ge_ [(5, .pointer (some ⟨b3, 0, none⟩))] ⟨(o2 rfl (o1 rfl s5_207)), trivial⟩ (.pointer (some ⟨b3, 3, none⟩)) ?_
       refine V.go (V.ld ⟨b3, 3, none⟩ (.int .u64 (o.draw : Int)) (sm hz203.p2.p1 rfl) (by kernel_rfl) (hB5_15.at 3 rfl) ?_)
       refine V.go (V.call 37 #[] #[.pointer (some ⟨t, 0, none⟩), .int .u64 (o.draw : Int)] evf (args2 (o2 rfl (sm hz203.p2 rfl)) (sm hz203.p4 rfl)) (Go.Proofs.enters_of Try.func37 (by kernel_rfl) rfl) (hD_13.rdT (fun Hq hq hqb => pick_any w12 Hq (b3 :: av) t (T) hq hqb o.draw hd)) ?_)
       rintro _ w233 ⟨rfl, hF232⟩
       refine ⟨_, rfl, ?_⟩
       have hsw233 := hF232.size
       have hD_234 := hD_13.fr0 hF232
       have hFP_235 := hFP_14.tr0 hF232
       have hB5_236 := hB5_15.fr0 hF232
       refine V.gm (v := (.tuple #[.string ((pickT (⟨#[]⟩, (0 : Int)) T o.draw).1.1), .int .i64 ((pickT (⟨#[]⟩, (0 : Int)) T o.draw).1.2), .bool ((pickT (⟨#[]⟩, (0 : Int)) T o.draw).2)])) (sm hz203.p4.p1 rfl) ?_
       refine V.ge_ [(101, .tuple #[.string ((pickT (⟨#[]⟩, (0 : Int)) T o.draw).1.1), .int .i64 ((pickT (⟨#[]⟩, (0 : Int)) T o.draw).1.2), .bool ((pickT (⟨#[]⟩, (0 : Int)) T o.draw).2)])] ⟨(sm hz203.p4.p2 rfl), trivial⟩ (.string ((pickT (⟨#[]⟩, (0 : Int)) T o.draw).1.1)) ?_
       refine V.ge_ [(101, .tuple #[.string ((pickT (⟨#[]⟩, (0 : Int)) T o.draw).1.1), .int .i64 ((pickT (⟨#[]⟩, (0 : Int)) T o.draw).1.2), .bool ((pickT (⟨#[]⟩, (0 : Int)) T o.draw).2)])] ⟨(o1 rfl (sm hz203.p4.p2 rfl)), trivial⟩ (.int .i64 ((pickT (⟨#[]⟩, (0 : Int)) T o.draw).1.2)) ?_
       refine V.ge_ [(101, .tuple #[.string ((pickT (⟨#[]⟩, (0 : Int)) T o.draw).1.1), .int .i64 ((pickT (⟨#[]⟩, (0 : Int)) T o.draw).1.2), .bool ((pickT (⟨#[]⟩, (0 : Int)) T o.draw).2)])] ⟨(o2 rfl (sm hz203.p4.p2 rfl)), trivial⟩ (.bool ((pickT (⟨#[]⟩, (0 : Int)) T o.draw).2)) ?_
       refine V.ga (o2 rfl (sm hz203.p4.p2.p1 rfl)) ?_
       refine V.ga (o2 rfl (sm hz203.p8 rfl)) ?_
       refine V.ga (o2 rfl (sm hz203.p8.p1 rfl)) ?_
       refine V.nil ?_
       refine V.then_n (hK231 _ _ ?_)
       refine V.flushW hz203.p8.p4.p1 (fun a237 hz238 up239 => ?_)
       have s1_240 := up239 1 _ (o8 rfl (o4 rfl (o1 rfl s1_206)))
       have s5_241 := up239 5 _ (o8 rfl (o4 rfl (o1 rfl s5_207)))
       have s16_242 := up239 16 _ (o2 rfl (sm hz203.p8.p2 rfl))
       have s17_243 := up239 17 _ (o1 rfl (sm hz203.p8.p2.p1 rfl))
       have s18_244 := up239 18 _ (sm hz203.p8.p4 rfl)
       clear up239
       refine V.seq (fun K245 hK246 => ?_)
       refine V.rg ?_
       refine V.gm (s1_240) ?_
       refine V.ge_ [(5, .pointer (some ⟨b3, 0, none⟩))] ⟨(o1 rfl s5_241), trivial⟩ (.pointer (some ⟨b3, 3, none⟩)) ?_
       refine V.go (V.ld ⟨b3, 3, none⟩ (.int .u64 (o.draw : Int)) (sm hz238.p1 rfl) (by kernel_rfl) (hB5_236.at 3 rfl) ?_)
       refine V.go (V.call 50 #[] #[.pointer (some ⟨r, 0, none⟩), .int .u64 (o.draw : Int)] evf (args2 (o2 rfl (sm hz238 rfl)) (sm hz238.p2 rfl)) (Go.Proofs.enters_of Try.func50 (by kernel_rfl) rfl) (hD_234.rdU (fun Hq hq hqb => rpick_any w233 Hq (b3 :: av) r (U) hq hqb o.draw hd)) ?_)
       rintro _ w248 ⟨rfl, hF247⟩
       refine ⟨_, rfl, ?_⟩
       have hsw248 := hF247.size
       have hD_249 := hD_234.fr0 hF247
       have hFP_250 := hFP_235.tr0 hF247
       have hB5_251 := hB5_236.fr0 hF247
       refine V.gm (v := (.tuple #[.agg #[.string ((pickT (⟨#[]⟩, (0 : Int)) U o.draw).1.1), .int .i64 ((pickT (⟨#[]⟩, (0 : Int)) U o.draw).1.2)], .bool ((pickT (⟨#[]⟩, (0 : Int)) U o.draw).2)])) (sm hz238.p2.p1 rfl) ?_
       refine V.ge_ [(109, .tuple #[.agg #[.string ((pickT (⟨#[]⟩, (0 : Int)) U o.draw).1.1), .int .i64 ((pickT (⟨#[]⟩, (0 : Int)) U o.draw).1.2)], .bool ((pickT (⟨#[]⟩, (0 : Int)) U o.draw).2)])] ⟨(sm hz238.p4 rfl), trivial⟩ (.agg #[.string ((pickT (⟨#[]⟩, (0 : Int)) U o.draw).1.1), .int .i64 ((pickT (⟨#[]⟩, (0 : Int)) U o.draw).1.2)]) ?_
       refine V.ge_ [(109, .tuple #[.agg #[.string ((pickT (⟨#[]⟩, (0 : Int)) U o.draw).1.1), .int .i64 ((pickT (⟨#[]⟩, (0 : Int)) U o.draw).1.2)], .bool ((pickT (⟨#[]⟩, (0 : Int)) U o.draw).2)])] ⟨(o1 rfl (sm hz238.p4 rfl)), trivial⟩ (.bool ((pickT (⟨#[]⟩, (0 : Int)) U o.draw).2)) ?_
       refine V.go (V.mk [] trivial (by kernel_rfl) [.string ⟨#[]⟩, .int .i64 0] 60 (fun b => .pointer (some ⟨b, 0, none⟩)) (by kernel_rfl) ?_)
       intro w253 b252 heb252 hB254 hF255 hsb252
       have hD_256 := hD_249.alloc hF255 heb252 (by omega)
       have hFP_257 := hFP_250.tr0 hF255
       have hB5_258 := hB5_251.fr0 hF255
       refine V.go (V.stn b252 0 (.agg #[.string ((pickT (⟨#[]⟩, (0 : Int)) U o.draw).1.1), .int .i64 ((pickT (⟨#[]⟩, (0 : Int)) U o.draw).1.2)]) [.string ((pickT (⟨#[]⟩, (0 : Int)) U o.draw).1.1), .int .i64 ((pickT (⟨#[]⟩, (0 : Int)) U o.draw).1.2)] (sm hz238.p4.p2.p1 rfl) (o2 rfl (sm hz238.p4.p1 rfl)) rfl rfl (by kernel_rfl) hB254 (by simp) [.string ((pickT (⟨#[]⟩, (0 : Int)) U o.draw).1.1), .int .i64 ((pickT (⟨#[]⟩, (0 : Int)) U o.draw).1.2)] rfl ?_)
       intro w259 hB260 hF261 hsw259
       have hD_262 := hD_256.fr hF261 (by intro k hk; simp only [List.mem_singleton] at hk; subst hk; first | exact .inl (by simp) | exact .inr (by omega))
       have hFP_263 := hFP_257.tr1 hF261 (by first | exact .inl (by assumption) | exact .inr (by omega) | exact .inl (.inl rfl))
       have hB5_264 := hB5_258.fr1 hF261 (by omega)
       refine V.ga (o1 rfl (sm hz238.p4.p2 rfl)) ?_
       refine V.nil ?_
       refine V.then_n (hK246 _ _ ?_)
       refine V.flushW hz238.p8.p1 (fun a265 hz266 up267 => ?_)
       have s16_268 := up267 16 _ (o8 rfl (o1 rfl s16_242))
       have s17_269 := up267 17 _ (o8 rfl (o1 rfl s17_243))
       have s18_270 := up267 18 _ (o8 rfl (o1 rfl s18_244))
       have s19_271 := up267 19 _ (o1 rfl (sm hz238.p4.p2.p1 rfl))
       have s20_272 := up267 20 _ (sm hz238.p8 rfl)
       clear up267
       refine V.seq (fun K273 hK274 => ?_)
       refine V.rg ?_
       refine V.gm (s16_268) ?_
       refine V.ge_ [(19, .pointer (some ⟨b252, 0, none⟩))] ⟨(o1 rfl s19_271), trivial⟩ (.pointer (some ⟨b252, 0, none⟩)) ?_
       refine V.go (V.ld ⟨b252, 0, none⟩ (.string ((pickT (⟨#[]⟩, (0 : Int)) U o.draw).1.1)) (sm hz266.p1 rfl) (by kernel_rfl) (hB260.at 0 rfl) ?_)
       refine V.gf_ [(116, .string ((pickT (⟨#[]⟩, (0 : Int)) T o.draw).1.1)), (118, .string ((pickT (⟨#[]⟩, (0 : Int)) U o.draw).1.1))] ⟨(o2 rfl (sm hz266 rfl)), (sm hz266.p2 rfl), trivial⟩ (.bool ((((pickT (⟨#[]⟩, (0 : Int)) T o.draw).1.1).toList == ((pickT (⟨#[]⟩, (0 : Int)) U o.draw).1.1).toList))) (.bool (decide (((pickT (⟨#[]⟩, (0 : Int)) T o.draw).1.1) = ((pickT (⟨#[]⟩, (0 : Int)) U o.draw).1.1)))) V.t_seql ?_
       refine V.gm (sm hz266.p2.p1 rfl) ?_
       by_cases hg275 : ((pickT (⟨#[]⟩, (0 : Int)) T o.draw).1.1) = ((pickT (⟨#[]⟩, (0 : Int)) U o.draw).1.1)
       ·
        refine V.flushL hz266.p4.p1 (fun a276 hz277 up278 => ?_)
        have s17_279 := up278 17 _ (o4 rfl (o1 rfl s17_269))
        have s18_280 := up278 18 _ (o4 rfl (o1 rfl s18_270))
        have s19_281 := up278 19 _ (o4 rfl (o1 rfl s19_271))
        have s20_282 := up278 20 _ (o4 rfl (o1 rfl s20_272))
        have s120_283 := up278 120 _ (sm hz266.p4 rfl)
        clear up278
        have s120_284 := ((s120_283).trans (dt hg275))
        refine V.go_on 120 (by kernel_rfl) (s120_284) (V.mv (s17_279) ?_)
        refine V.go_on 120 (by kernel_rfl) (o1 rfl s120_284) (V.pv [(19, .pointer (some ⟨b252, 0, none⟩))] ⟨(o1 rfl s19_281), trivial⟩ (by kernel_rfl) (.pointer (some ⟨b252, 1, none⟩)) (by kernel_rfl) ?_)
        refine V.go_on 120 (by kernel_rfl) (o2 rfl s120_284) (V.ld ⟨b252, 1, none⟩ (.int .i64 ((pickT (⟨#[]⟩, (0 : Int)) U o.draw).1.2)) (sm hz277.p1 rfl) (by kernel_rfl) (hB260.at 1 rfl) ?_)
        refine V.go_on 120 (by kernel_rfl) (o2 rfl (o1 rfl s120_284)) (V.pvw [(121, .int .i64 ((pickT (⟨#[]⟩, (0 : Int)) T o.draw).1.2)), (123, .int .i64 ((pickT (⟨#[]⟩, (0 : Int)) U o.draw).1.2))] ⟨(o2 rfl (sm hz277 rfl)), (sm hz277.p2 rfl), trivial⟩ (by kernel_rfl) (.bool (((pickT (⟨#[]⟩, (0 : Int)) T o.draw).1.2) == ((pickT (⟨#[]⟩, (0 : Int)) U o.draw).1.2))) (.bool (decide (((pickT (⟨#[]⟩, (0 : Int)) T o.draw).1.2) = ((pickT (⟨#[]⟩, (0 : Int)) U o.draw).1.2)))) (by kernel_rfl) V.t_eql ?_)
        refine V.go (V.pk_t (o4 rfl s120_284) (v := (.bool (decide (((pickT (⟨#[]⟩, (0 : Int)) T o.draw).1.2) = ((pickT (⟨#[]⟩, (0 : Int)) U o.draw).1.2))))) (sm hz277.p2.p1 rfl) ?_)
        refine V.gm (sm hz277.p4 rfl) ?_
        by_cases hg285 : ((pickT (⟨#[]⟩, (0 : Int)) T o.draw).1.2) = ((pickT (⟨#[]⟩, (0 : Int)) U o.draw).1.2)
        ·
         refine V.flushL hz277.p4.p2 (fun a286 hz287 up288 => ?_)
         have s18_289 := up288 18 _ (o4 rfl (o2 rfl s18_280))
         have s20_290 := up288 20 _ (o4 rfl (o2 rfl s20_282))
         have s126_291 := up288 126 _ (sm hz277.p4.p1 rfl)
         clear up288
         have s126_292 := ((s126_291).trans (dt hg285))
         refine V.go_on 126 (by kernel_rfl) (s126_292) (V.mv (s18_289) ?_)
         refine V.go_on 126 (by kernel_rfl) (o1 rfl s126_292) (V.mv (o1 rfl s20_290) ?_)
         refine V.go_on 126 (by kernel_rfl) (o2 rfl s126_292) (V.pvw [(127, .bool ((pickT (⟨#[]⟩, (0 : Int)) T o.draw).2)), (128, .bool ((pickT (⟨#[]⟩, (0 : Int)) U o.draw).2))] ⟨(o1 rfl (sm hz287 rfl)), (sm hz287.p1 rfl), trivial⟩ (by kernel_rfl) (.bool (((pickT (⟨#[]⟩, (0 : Int)) T o.draw).2) == ((pickT (⟨#[]⟩, (0 : Int)) U o.draw).2))) (.bool (decide (((pickT (⟨#[]⟩, (0 : Int)) T o.draw).2) = ((pickT (⟨#[]⟩, (0 : Int)) U o.draw).2)))) (by kernel_rfl) V.t_beql ?_)
         refine V.go (V.pk_t (o2 rfl (o1 rfl s126_292)) (v := (.bool (decide (((pickT (⟨#[]⟩, (0 : Int)) T o.draw).2) = ((pickT (⟨#[]⟩, (0 : Int)) U o.draw).2))))) (sm hz287.p2 rfl) ?_)
         refine V.ga (sm hz287.p2.p1 rfl) ?_
         refine V.nil ?_
         refine V.then_n (hK274 _ _ ?_)
         refine V.flushW hz287.p4.p1 (fun a293 hz294 up295 => ?_)
         have s6_296 := up295 6 _ (sm hz287.p4 rfl)
         clear up295
         refine V.ret ?_
         refine V.blk_r ?_
         refine V.then_r ?_
         refine V.ret1 hz294 rfl (s6_296) ?_
         rw [act0 (T := T) ht38 ht62 ht127 ht210, act0 (T := U) ht38 ht62 ht127 ht210]
         exact ⟨_, rfl, fun h => decide_eq_true (by rw [h]), hD_262.sub (by intro k hk; simp [hk]), hFP_263⟩
        ·
         refine V.flushL hz277.p4.p2 (fun a297 hz298 up299 => ?_)
         have s18_300 := up299 18 _ (o4 rfl (o2 rfl s18_280))
         have s20_301 := up299 20 _ (o4 rfl (o2 rfl s20_282))
         have s126_302 := up299 126 _ (sm hz277.p4.p1 rfl)
         clear up299
         have s126_303 := ((s126_302).trans (df hg285))
         refine V.go_off 126 (by kernel_rfl) (s126_303) (by kernel_rfl) ?_
         refine V.go_off 126 (by kernel_rfl) (o1 rfl s126_303) (by kernel_rfl) ?_
         refine V.go_off 126 (by kernel_rfl) (o2 rfl s126_303) (by kernel_rfl) ?_
         refine V.go (V.pk_f (o2 rfl (o1 rfl s126_303)) (v := (.bool false)) evc ?_)
         refine V.ga (sm hz298.p2.p1 rfl) ?_
         refine V.nil ?_
         refine V.then_n (hK274 _ _ ?_)
         refine V.flushW hz298.p4.p1 (fun a304 hz305 up306 => ?_)
         have s6_307 := up306 6 _ (sm hz298.p4 rfl)
         clear up306
         refine V.ret ?_
         refine V.blk_r ?_
         refine V.then_r ?_
         refine V.ret1 hz305 rfl (s6_307) ?_
         rw [act0 (T := T) ht38 ht62 ht127 ht210, act0 (T := U) ht38 ht62 ht127 ht210]
         exact ⟨_, rfl, fun h => absurd (by rw [h]) hg285, hD_262.sub (by intro k hk; simp [hk]), hFP_263⟩
       ·
        refine V.flushL hz266.p4.p1 (fun a308 hz309 up310 => ?_)
        have s17_311 := up310 17 _ (o4 rfl (o1 rfl s17_269))
        have s18_312 := up310 18 _ (o4 rfl (o1 rfl s18_270))
        have s19_313 := up310 19 _ (o4 rfl (o1 rfl s19_271))
        have s20_314 := up310 20 _ (o4 rfl (o1 rfl s20_272))
        have s120_315 := up310 120 _ (sm hz266.p4 rfl)
        clear up310
        have s120_316 := ((s120_315).trans (df hg275))
        refine V.go_off 120 (by kernel_rfl) (s120_316) (by kernel_rfl) ?_
        refine V.go_off 120 (by kernel_rfl) (o1 rfl s120_316) (by kernel_rfl) ?_
        refine V.go_off 120 (by kernel_rfl) (o2 rfl s120_316) (by kernel_rfl) ?_
        refine V.go_off 120 (by kernel_rfl) (o2 rfl (o1 rfl s120_316)) (by kernel_rfl) ?_
        refine V.go (V.pk_f (o4 rfl s120_316) (v := (.bool false)) evc ?_)
        refine V.gm (sm hz309.p4 rfl) ?_
        refine V.go_off 126 (by kernel_rfl) (sm hz309.p4.p1 rfl) (by kernel_rfl) ?_
        refine V.go_off 126 (by kernel_rfl) (o1 rfl (sm hz309.p4.p1 rfl)) (by kernel_rfl) ?_
        refine V.go_off 126 (by kernel_rfl) (o2 rfl (sm hz309.p4.p1 rfl)) (by kernel_rfl) ?_
        refine V.go (V.pk_f (o2 rfl (o1 rfl (sm hz309.p4.p1 rfl))) (v := (.bool false)) evc ?_)
        refine V.ga (sm hz309.p8.p1 rfl) ?_
        refine V.nil ?_
        refine V.then_n (hK274 _ _ ?_)
        refine V.flushW hz309.p8.p2.p1 (fun a317 hz318 up319 => ?_)
        have s6_320 := up319 6 _ (sm hz309.p8.p2 rfl)
        clear up319
        refine V.ret ?_
        refine V.blk_r ?_
        refine V.then_r ?_
        refine V.ret1 hz318 rfl (s6_320) ?_
        rw [act0 (T := T) ht38 ht62 ht127 ht210, act0 (T := U) ht38 ht62 ht127 ht210]
        exact ⟨_, rfl, fun h => absurd (by rw [h]) hg275, hD_262.sub (by intro k hk; simp [hk]), hFP_263⟩
      ·
       refine V.skip ?_
       refine V.blk_n ?_
       refine V.then_n (hK24 _ _ ?_)
       refine V.seq (fun K321 hK322 => ?_)
       refine V.rg ?_
       refine V.ga evc ?_
       refine V.nil ?_
       refine V.then_n (hK322 _ _ ?_)
       refine V.ret ?_
       refine V.ret1 hz203.p2.p1 rfl (sm hz203.p2 rfl) ?_
       rw [act0 (T := T) ht38 ht62 ht127 ht210, act0 (T := U) ht38 ht62 ht127 ht210]
       exact ⟨_, rfl, fun _ => rfl, hD_13.sub (by intro k hk; simp [hk]), hFP_14⟩
end Go.Proofs.Ytalhmegjomfbaaa
