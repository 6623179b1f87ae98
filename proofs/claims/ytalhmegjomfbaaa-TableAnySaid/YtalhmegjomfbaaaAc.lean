/- Walks: an act on both. -/
import Derived.Test.YtalhmegjomfbaaaProg
import Derived.Test.YtalhmegjomfbaaaRf
namespace Go.Proofs.Ytalhmegjomfbaaa
open Go.V Go.Base
open Go.RowKit (Below)
attribute [local irreducible] Act.put Act.eval
set_option linter.unusedVariables false
set_option linter.unusedSimpArgs false
/-- An act, as data. -/
structure OpD where
  kind : Int
  key : ByteArray
  v : Int
  draw : Nat
def OpD.ok (o : OpD) : Prop := (-9223372036854775808 ≤ o.kind ∧ o.kind ≤ 9223372036854775807) ∧ o.key.size ≤ 9223372036854775807 ∧ (-9223372036854775808 ≤ o.v ∧ o.v ≤ 9223372036854775807) ∧ o.draw < 18446744073709551616
def actT (T : Tb Int) (o : OpD) : Tb Int :=
  if o.kind = 1 then putT T (keyS o.key) o.v else if o.kind = 2 then tbStep T else if o.kind = 3 then delT T (keyS o.key) else if o.kind = 5 then tbStep T else T
theorem act1 {T : Tb Int} {o : OpD} (h : o.kind = 1) : actT T o = putT T (keyS o.key) o.v := by unfold actT; rw [if_pos h]
theorem act2 {T : Tb Int} {o : OpD} (h : o.kind = 2) : actT T o = tbStep T := by unfold actT; rw [if_neg (by omega), if_pos h]
theorem act3 {T : Tb Int} {o : OpD} (h : o.kind = 3) : actT T o = delT T (keyS o.key) := by unfold actT; rw [if_neg (by omega), if_neg (by omega), if_pos h]
theorem act5 {T : Tb Int} {o : OpD} (h : o.kind = 5) : actT T o = tbStep T := by unfold actT; rw [if_neg (by omega), if_neg (by omega), if_neg (by omega), if_pos h]
theorem act0 {T : Tb Int} {o : OpD} (h1 : ¬ o.kind = 1) (h2 : ¬ o.kind = 2) (h3 : ¬ o.kind = 3) (h5 : ¬ o.kind = 5) : actT T o = T := by unfold actT; rw [if_neg h1, if_neg h2, if_neg h3, if_neg h5]
/-- What holds of a table behind N acts. -/
structure Gd {α : Type} (T : Tb α) (N : Nat) : Prop where
  ok : T.Ok
  mv : T.Mv
  pw : T.Pw N
  nn : T.n ≤ N
theorem Gd.new {α : Type} {seed : Nat} (h : seed < 18446744073709551616) : Gd (newT seed : Tb α) 0 := ⟨(newT_ok h).1, (newT_ok h).2, newT_pw seed, Nat.le_refl _⟩
theorem Gd.raise {α : Type} {T : Tb α} {N M : Nat} (h : Gd T N) (hm : N ≤ M) : Gd T M := ⟨h.ok, h.mv, h.pw.mono hm, by have := h.nn; omega⟩
theorem key_le (s : ByteArray) : (keyS s).size ≤ 9223372036854775807 := by have := keyS_le s; omega
theorem Gd.step {α : Type} {T : Tb α} {N : Nat} (h : Gd T N) : Gd (tbStep T) N := ⟨(tbStep_ok h.ok h.mv).1, (tbStep_ok h.ok h.mv).2, tbStep_pw h.pw h.nn, by rw [tbStep_n']; exact h.nn⟩
theorem Gd.put {α : Type} {T : Tb α} {N : Nat} (h : Gd T N) (hN : N < 1000000) {k : ByteArray} (hk : k.size ≤ 9223372036854775807) (v : α) : Gd (putT T k v) (N + 1) := by
  have hn := h.nn
  have h1 := putT_ok h.ok h.mv (by omega) k hk v
  exact ⟨h1.1, h1.2, putT_pw (h.pw.mono (Nat.le_succ N)) (by omega) _ _, by have := putT_n T k v; omega⟩
theorem Gd.del {α : Type} {T : Tb α} {N : Nat} (h : Gd T N) (k : ByteArray) : Gd (delT T k) N := by
  have h1 := delT_ok h.ok h.mv k
  exact ⟨h1.1, h1.2, delT_pw h.pw h.nn _, by have := delT_n T k; have := h.nn; omega⟩
theorem Gd.act {T : Tb Int} {N : Nat} (h : Gd T N) (hN : N < 1000000) (o : OpD) : Gd (actT T o) (N + 1) := by
  unfold actT
  split
  · exact h.put hN (key_le _) _
  · split
    · exact h.step.raise (Nat.le_succ N)
    · split
      · exact (h.del _).raise (Nat.le_succ N)
      · split
        · exact h.step.raise (Nat.le_succ N)
        · exact h.raise (Nat.le_succ N)
theorem Gd.p8 {α : Type} {T : Tb α} {N : Nat} (h : Gd T N) : 4 < (tbStep T).a.length → (tbStep T).a.length % 8 = 0 := fun h4 => (h.step.pw.pa.half h4).2.2
/-- Blocks of a zone, but for some. -/
def zn (Z : Nat → Prop) (av : List Nat) : Nat → Prop := fun k => Z k ∧ k ∉ av
/-- Two tables apart from each other: the program's, the reference's; all their blocks lie in a zone. -/
def D2 (Z : Nat → Prop) (w : World) (av : List Nat) (t : Nat) (T : Tb Int) (r : Nat) (U : Tb Int) : Prop :=
  ∃ Ht Hr : Nat → Prop, TabX 67 87 86 itI w Ht av t T ∧ TabX 40 42 60 itI w Hr av r U ∧ (∀ k, Ht k → Z k ∧ k < w.heap.size ∧ ¬ Hr k) ∧ ∀ k, Hr k → Z k ∧ k < w.heap.size
section
variable {Z : Nat → Prop} {w w1 : World} {av av' : List Nat} {t r : Nat} {T U T' : Tb Int}
theorem D2.turnT (h : D2 Z w av t T r U) (hz : ∀ k, w.heap.size ≤ k → Z k) : ∃ H, TabX 67 87 86 itI w H av t T ∧ (∀ k, H k → k < w.heap.size) ∧ ∀ w1 T', TabX 67 87 86 itI w1 (gr H w w1) av t T' → FrP (gp H av) w w1 → D2 Z w1 av t T' r U ∧ FrP (zn Z av) w w1 := by
  obtain ⟨Ht, Hr, h1, h2, h3, h4⟩ := h
  refine ⟨Ht, h1, fun k hk => (h3 k hk).2.1, fun w1 T' h5 f => ?_⟩
  have hs := f.size
  have hlt := h2.lt
  exact ⟨⟨_, Hr, h5, h2.frP f fun k hk => .inr (h3 k hk.1).2.2, fun k hk => by
    rcases hk with hk | hk
    · exact ⟨(h3 k hk).1, by have := (h3 k hk).2.1; omega, (h3 k hk).2.2⟩
    · have h0 := h4 r h2.pt.1
      exact ⟨hz k hk.1, hk.2, fun hr => by have := (h4 k hr).2; omega⟩, fun k hk => ⟨(h4 k hk).1, by have := (h4 k hk).2; omega⟩⟩, f.mono fun k hk => ⟨(h3 k hk.1).1, hk.2⟩⟩
theorem D2.turnU (h : D2 Z w av t T r U) (hz : ∀ k, w.heap.size ≤ k → Z k) : ∃ H, TabX 40 42 60 itI w H av r U ∧ (∀ k, H k → k < w.heap.size) ∧ ∀ w1 U', TabX 40 42 60 itI w1 (gr H w w1) av r U' → FrP (gp H av) w w1 → D2 Z w1 av t T r U' ∧ FrP (zn Z av) w w1 := by
  obtain ⟨Ht, Hr, h1, h2, h3, h4⟩ := h
  refine ⟨Hr, h2, fun k hk => (h4 k hk).2, fun w1 U' h5 f => ?_⟩
  have hs := f.size
  have hlt := h1.lt
  exact ⟨⟨Ht, _, h1.frP f fun k hk => .inr fun ht => (h3 k ht).2.2 hk.1, h5, fun k hk => ⟨(h3 k hk).1, by have := (h3 k hk).2.1; omega, fun hr => by
    rcases hr with hr | hr
    · exact (h3 k hk).2.2 hr
    · have := (h3 k hk).2.1; omega⟩, fun k hk => by
    rcases hk with hk | hk
    · exact ⟨(h4 k hk).1, by have := (h4 k hk).2; omega⟩
    · have h0 := h3 t h1.pt.1
      exact ⟨hz k hk.1, hk.2⟩⟩, f.mono fun k hk => ⟨(h4 k hk.1).1, hk.2⟩⟩
theorem D2.fr (h : D2 Z w av t T r U) {l : List Nat} (f : Fr l w w1) (hl : ∀ k ∈ l, k ∈ av ∨ ¬ Z k) : D2 Z w1 av t T r U := by
  obtain ⟨Ht, Hr, h1, h2, h3, h4⟩ := h
  have hs := f.size
  exact ⟨Ht, Hr, h1.fr f fun k hk => (hl k hk).imp id fun q hq => q (h3 k hq).1, h2.fr f fun k hk => (hl k hk).imp id fun q hq => q (h4 k hq).1, fun k hk => ⟨(h3 k hk).1, by have := (h3 k hk).2.1; omega, (h3 k hk).2.2⟩, fun k hk => ⟨(h4 k hk).1, by have := (h4 k hk).2; omega⟩⟩
theorem D2.fr0 (h : D2 Z w av t T r U) (f : Fr [] w w1) : D2 Z w1 av t T r U := h.fr f fun k hk => by cases hk
theorem D2.alloc (h : D2 Z w av t T r U) (f : Fr [] w w1) {b : Nat} (hb : b = w.heap.size) (hlt : b < w1.heap.size) : D2 Z w1 (b :: av) t T r U := by
  obtain ⟨Ht, Hr, h1, h2, h3, h4⟩ := h
  have hs := f.size
  exact ⟨Ht, Hr, h1.alloc f hb hlt, h2.alloc f hb hlt, fun k hk => ⟨(h3 k hk).1, by have := (h3 k hk).2.1; omega, (h3 k hk).2.2⟩, fun k hk => ⟨(h4 k hk).1, by have := (h4 k hk).2; omega⟩⟩
theorem D2.sub (h : D2 Z w av t T r U) (hs : ∀ k ∈ av', k ∈ av) : D2 Z w av' t T r U := by
  obtain ⟨Ht, Hr, h1, h2, h3, h4⟩ := h
  exact ⟨Ht, Hr, h1.sub hs fun _ _ q => q, h2.sub hs fun _ _ q => q, h3, h4⟩
end
section
variable {P : Program} {Z : Nat → Prop} {w : World} {av : List Nat} {t r : Nat} {T U T' : Tb Int} {f : FuncId} {args : Array Value} {e0 : Ending}
theorem D2.wrT (h : D2 Z w av t T r U) (hz : ∀ k, w.heap.size ≤ k → Z k) (hc : ∀ H, TabX 67 87 86 itI w H av t T → (∀ k, H k → k < w.heap.size) → Calls P f args w (fun e w' => e = e0 ∧ TabX 67 87 86 itI w' (gr H w w') av t T' ∧ FrP (gp H av) w w')) :
    Calls P f args w (fun e w' => e = e0 ∧ D2 Z w' av t T' r U ∧ FrP (zn Z av) w w') := by
  obtain ⟨H, hq, hqb, hqk⟩ := h.turnT hz
  exact (hc H hq hqb).mono fun e w1 q => ⟨q.1, hqk _ _ q.2.1 q.2.2⟩
theorem D2.wrU (h : D2 Z w av t T r U) (hz : ∀ k, w.heap.size ≤ k → Z k) (hc : ∀ H, TabX 40 42 60 itI w H av r U → (∀ k, H k → k < w.heap.size) → Calls P f args w (fun e w' => e = e0 ∧ TabX 40 42 60 itI w' (gr H w w') av r T' ∧ FrP (gp H av) w w')) :
    Calls P f args w (fun e w' => e = e0 ∧ D2 Z w' av t T r T' ∧ FrP (zn Z av) w w') := by
  obtain ⟨H, hq, hqb, hqk⟩ := h.turnU hz
  exact (hc H hq hqb).mono fun e w1 q => ⟨q.1, hqk _ _ q.2.1 q.2.2⟩
theorem D2.rdT {R : Ending → World → Prop} (h : D2 Z w av t T r U) (hc : ∀ H, TabX 67 87 86 itI w H av t T → (∀ k, H k → k < w.heap.size) → Calls P f args w R) : Calls P f args w R := by
  obtain ⟨Ht, Hr, h1, h2, h3, h4⟩ := h
  exact hc Ht h1 fun k hk => (h3 k hk).2.1
theorem D2.rdU {R : Ending → World → Prop} (h : D2 Z w av t T r U) (hc : ∀ H, TabX 40 42 60 itI w H av r U → (∀ k, H k → k < w.heap.size) → Calls P f args w R) : Calls P f args w R := by
  obtain ⟨Ht, Hr, h1, h2, h3, h4⟩ := h
  exact hc Hr h2 fun k hk => (h4 k hk).2
end
set_option maxHeartbeats 4000000 in
set_option maxRecDepth 20000 in
theorem act_any (w : World) (Z : Nat → Prop) (av : List Nat) (t r : Nat) (T U : Tb Int) (N : Nat) (o : OpD) (hD : D2 Z w av t T r U) (hgT : Gd T N) (hgU : Gd U N) (hN : N < 1000000) (ho : o.ok) (hz : ∀ k, w.heap.size ≤ k → Z k) : Calls Try.prog 16 #[.pointer (some ⟨t, 0, none⟩), .pointer (some ⟨r, 0, none⟩), .agg #[.int .i64 o.kind, .string o.key, .int .i64 o.v, .int .u64 (o.draw : Int)]] w (fun e w' => ∃ b, e = .returned (.bool b) ∧ (T = U → b = true) ∧ D2 Z w' av t (actT T o) r (actT U o) ∧ FrP (zn Z av) w w') := by
 have hFP := FrP.refl (zn Z av) w
 obtain ⟨hkk, hks, hv, hd⟩ := ho
 refine V.en 131 Try.func16 fun a h1 => ?_
 refine V.sg fun K2 k3 => ?_
 refine V.go (V.mk [(2, .agg #[.int .i64 o.kind, .string o.key, .int .i64 o.v, .int .u64 (o.draw : Int)])] ⟨h1.e, trivial⟩ (by kernel_rfl) [.int .i64 o.kind, .string o.key, .int .i64 o.v, .int .u64 (o.draw : Int)] 34 (fun b => .pointer (some ⟨b, 0, none⟩)) (by kernel_rfl) ?_)
 intro w5 b4 heb4 hB6 hF7 hsb4
 have hD_8 := hD.alloc hF7 heb4 (by omega)
 have hFP_9 := hFP.tr0 hF7
 refine V.pt h1 fun a h10 => ?_
 refine V.re h10 [] 6 6 [] fun a h11 => k3 _ _ ?_
 refine V.sg fun K12 k13 => ?_
 refine V.run h11 [(1, .b hB6 1)] 2 21 21 [(22, .string o.key)] fun a h14 => ?_
 refine V.cl h14 (Go.Proofs.enters_of Try.func10 (by kernel_rfl) rfl) (key_any w5 o.key) ?_
 rintro _ w16 ⟨rfl, hF15⟩
 refine ⟨_, rfl, fun a h17 => ?_⟩
 have hsw16 := hF15.size
 have hD_18 := hD_8.fr0 hF15
 have hFP_19 := hFP_9.tr0 hF15
 have hB6_20 := hB6.fr0 hF15
 have hkey15 := keyS_le o.key
 refine V.re h17 [] 1 0 [(7, .string (keyS o.key))] fun a h21 => k13 _ _ ?_
 refine V.seq fun K22 k23 => ?_
 refine V.sr h21 [(1, .b hB6_20 0)] 24 24 [(25, .int .i64 o.kind)] fun a h26 => ?_
 refine V.block ?_
 refine V.sr h26 [(0, .eq o.kind 1)] 27 27 [(26, .bool (decide (o.kind = 1)))] fun a h29 => ?_
 refine V.cp h29 (o.kind = 1) (fun ht30 => ?_) (fun ht30 => ?_)
 ·
  refine V.seq fun K31 k32 => ?_
  refine V.pl [([0,1,2,3,5,6,7,8],some (4,[8])),([],some (9,[])),([10,11],none)] fun w33 hF34 hsw33 => ?_
  have hD_35 := hD_18.fr0 hF34
  have hFP_36 := hFP_19.tr0 hF34
  have hB6_37 := hB6_20.fr0 hF34
  refine V.pe h29 [(3, .b hB6_37 2), (3, .b hB6_37 2)] 30 30 [(28, .pointer (some ⟨t, 0, none⟩)), (29, .string (keyS o.key)), (31, .int .i64 o.v), (33, .pointer (some ⟨r, 0, none⟩)), (34, .string (keyS o.key)), (35, .pointer (some ⟨b4, 2, none⟩)), (36, .int .i64 o.v)] fun a h38 => ?_
  refine V.cl h38 (Go.Proofs.enters_of Try.func38 (by kernel_rfl) rfl) (hD_35.wrT (fun k hk => hz k (by omega)) (fun Hq hq hqb => put_any w33 Hq (b4 :: av) t (T) hq hgT.mv (keyS o.key) (by first | exact key_le _ | omega) o.v hv (by have := hgT.nn; omega))) ?_
  rintro _ w41 ⟨rfl, hD39, hfp40⟩
  refine ⟨_, rfl, fun a h42 => ?_⟩
  have hsw41 := hfp40.size
  have hFP_43 := hFP_36.trP hfp40 (fun k hk => .inl ⟨hk.1, fun hm => hk.2 (by simp [hm])⟩)
  have hB6_44 := hB6_37.frP hfp40 (by exact fun hp => hp.2 (by simp))
  refine V.eh (fun _ => held_blk (n := 1) (hx := (h38.e (v := (.pointer (some ⟨b4, 2, none⟩))))) hB6_37 hB6_44 (by kernel_rfl) rfl (by simp only [List.length]; omega)) ?_
  refine V.pe h42 [] 1 0 [] fun a h45 => ?_
  refine V.cl h45 (Go.Proofs.enters_of Try.func45 (by kernel_rfl) rfl) (hD39.wrU (fun k hk => hz k (by omega)) (fun Hq hq hqb => rput_any w41 Hq (b4 :: av) r (U) hq hgU.mv (keyS o.key) (by first | exact key_le _ | omega) o.v hv (by have := hgU.nn; omega))) ?_
  rintro _ w48 ⟨rfl, hD46, hfp47⟩
  refine ⟨_, rfl, fun a h49 => ?_⟩
  have hsw48 := hfp47.size
  have hFP_50 := hFP_43.trP hfp47 (fun k hk => .inl ⟨hk.1, fun hm => hk.2 (by simp [hm])⟩)
  have hB6_51 := hB6_44.frP hfp47 (by exact fun hp => hp.2 (by simp))
  refine V.eh trivial ?_
  refine V.pz h49 [(0, .q (.bool (decide (((findT (tbStep T) (keyS o.key)).2) = ((findT (tbStep U) (keyS o.key)).2)))) V.t_beql)] 38 38 [(6, .bool (decide (((findT (tbStep T) (keyS o.key)).2) = ((findT (tbStep U) (keyS o.key)).2))))] fun a h52 => k32 _ _ ?_
  refine V.ret ?_
  refine V.blk_r ?_
  refine V.then_r ?_
  refine V.r1 h52 (.bool (decide (((findT (tbStep T) (keyS o.key)).2) = ((findT (tbStep U) (keyS o.key)).2)))) ?_
  rw [act1 (T := T) ht30, act1 (T := U) ht30]
  exact ⟨_, rfl, fun h => decide_eq_true (by rw [h]), hD46.sub (by intro k hk; simp [hk]), hFP_50⟩
 ·
  refine V.sr h29 [(0, .eq o.kind 2)] 40 40 [(39, .bool (decide (o.kind = 2)))] fun a h55 => ?_
  refine V.cp h55 (o.kind = 2) (fun ht56 => ?_) (fun ht56 => ?_)
  ·
   refine V.sg fun K57 k58 => ?_
   refine V.run h55 [] 2 1 0 [(42, .pointer (some ⟨t, 0, none⟩)), (43, .string (keyS o.key))] fun a h59 => ?_
   refine V.cl h59 (Go.Proofs.enters_of Try.func36 (by kernel_rfl) rfl) (hD_18.wrT (fun k hk => hz k (by omega)) (fun Hq hq hqb => get_any w16 Hq (b4 :: av) t (T) hq hgT.mv (keyS o.key) (by first | exact key_le _ | omega))) ?_
   rintro _ w62 ⟨rfl, hD60, hfp61⟩
   refine ⟨_, rfl, fun a h63 => ?_⟩
   have hsw62 := hfp61.size
   have hFP_64 := hFP_19.trP hfp61 (fun k hk => .inl ⟨hk.1, fun hm => hk.2 (by simp [hm])⟩)
   have hB6_65 := hB6_20.frP hfp61 (by exact fun hp => hp.2 (by simp))
   refine V.re h63 [] 41 46 [(8, .int .i64 ((lookT 0 (tbStep T) (keyS o.key)).1)), (9, .bool ((lookT 0 (tbStep T) (keyS o.key)).2))] fun a h66 => k58 _ _ ?_
   refine V.sg fun K67 k68 => ?_
   refine V.run h66 [] 2 1 0 [(48, .pointer (some ⟨r, 0, none⟩)), (49, .string (keyS o.key))] fun a h69 => ?_
   refine V.cl h69 (Go.Proofs.enters_of Try.func46 (by kernel_rfl) rfl) (hD60.wrU (fun k hk => hz k (by omega)) (fun Hq hq hqb => rget_any w62 Hq (b4 :: av) r (U) hq hgU.mv (keyS o.key) (by first | exact key_le _ | omega))) ?_
   rintro _ w72 ⟨rfl, hD70, hfp71⟩
   refine ⟨_, rfl, fun a h73 => ?_⟩
   have hsw72 := hfp71.size
   have hFP_74 := hFP_64.trP hfp71 (fun k hk => .inl ⟨hk.1, fun hm => hk.2 (by simp [hm])⟩)
   have hB6_75 := hB6_65.frP hfp71 (by exact fun hp => hp.2 (by simp))
   refine V.re h73 [] 47 52 [(10, .int .i64 ((lookT 0 (tbStep U) (keyS o.key)).1)), (11, .bool ((lookT 0 (tbStep U) (keyS o.key)).2))] fun a h76 => k68 _ _ ?_
   refine V.sg fun K77 k78 => ?_
   refine V.run h76 [(2, .eq ((lookT 0 (tbStep T) (keyS o.key)).1) ((lookT 0 (tbStep U) (keyS o.key)).1))] 4 53 55 [(56, .bool (decide (((lookT 0 (tbStep T) (keyS o.key)).1) = ((lookT 0 (tbStep U) (keyS o.key)).1))))] fun a h79 => ?_
   by_cases hg80 : ((lookT 0 (tbStep T) (keyS o.key)).1) = ((lookT 0 (tbStep U) (keyS o.key)).1)
   ·
    have h81 := h79.kt 56 hg80
    refine V.re h81 [(2, .q (.bool (decide (((lookT 0 (tbStep T) (keyS o.key)).2) = ((lookT 0 (tbStep U) (keyS o.key)).2)))) V.t_beql)] 57 60 [(6, .bool (decide (((lookT 0 (tbStep T) (keyS o.key)).2) = ((lookT 0 (tbStep U) (keyS o.key)).2))))] fun a h82 => k78 _ _ ?_
    refine V.ret ?_
    refine V.blk_r ?_
    refine V.then_r ?_
    refine V.r1 h82 (.bool (decide (((lookT 0 (tbStep T) (keyS o.key)).2) = ((lookT 0 (tbStep U) (keyS o.key)).2)))) ?_
    rw [act2 (T := T) ht56, act2 (T := U) ht56]
    exact ⟨_, rfl, fun h => decide_eq_true (by rw [h]), hD70.sub (by intro k hk; simp [hk]), hFP_74⟩
   ·
    have h83 := h79.kf 56 hg80
    refine V.re h83 [] 57 60 [(6, .bool false)] fun a h84 => k78 _ _ ?_
    refine V.ret ?_
    refine V.blk_r ?_
    refine V.then_r ?_
    refine V.r1 h84 (.bool false) ?_
    rw [act2 (T := T) ht56, act2 (T := U) ht56]
    exact ⟨_, rfl, fun h => absurd (by rw [h]) hg80, hD70.sub (by intro k hk; simp [hk]), hFP_74⟩
  ·
   refine V.sr h55 [(0, .eq o.kind 3)] 62 62 [(61, .bool (decide (o.kind = 3)))] fun a h87 => ?_
   refine V.cp h87 (o.kind = 3) (fun ht88 => ?_) (fun ht88 => ?_)
   ·
    refine V.sg fun K89 k90 => ?_
    refine V.run h87 [] 2 1 0 [(63, .pointer (some ⟨t, 0, none⟩)), (64, .string (keyS o.key))] fun a h91 => ?_
    refine V.cl h91 (Go.Proofs.enters_of Try.func39 (by kernel_rfl) rfl) (hD_18.wrT (fun k hk => hz k (by omega)) (fun Hq hq hqb => del_any w16 Hq (b4 :: av) t (T) hq hgT.mv (keyS o.key) (by first | exact key_le _ | omega))) ?_
    rintro _ w94 ⟨rfl, hD92, hfp93⟩
    refine ⟨_, rfl, fun a h95 => ?_⟩
    have hsw94 := hfp93.size
    have hFP_96 := hFP_19.trP hfp93 (fun k hk => .inl ⟨hk.1, fun hm => hk.2 (by simp [hm])⟩)
    have hB6_97 := hB6_20.frP hfp93 (by exact fun hp => hp.2 (by simp))
    refine V.run h95 [] 2 1 0 [(66, .pointer (some ⟨r, 0, none⟩)), (67, .string (keyS o.key))] fun a h98 => ?_
    refine V.cl h98 (Go.Proofs.enters_of Try.func47 (by kernel_rfl) rfl) (hD92.wrU (fun k hk => hz k (by omega)) (fun Hq hq hqb => rdel_any w94 Hq (b4 :: av) r (U) hq hgU.mv (keyS o.key) (by first | exact key_le _ | omega) hgU.p8)) ?_
    rintro _ w101 ⟨rfl, hD99, hfp100⟩
    refine ⟨_, rfl, fun a h102 => ?_⟩
    have hsw101 := hfp100.size
    have hFP_103 := hFP_96.trP hfp100 (fun k hk => .inl ⟨hk.1, fun hm => hk.2 (by simp [hm])⟩)
    have hB6_104 := hB6_97.frP hfp100 (by exact fun hp => hp.2 (by simp))
    refine V.re h102 [(0, .q (.bool (decide (((findT (tbStep T) (keyS o.key)).2) = ((findT (tbStep U) (keyS o.key)).2)))) V.t_beql)] 69 69 [(6, .bool (decide (((findT (tbStep T) (keyS o.key)).2) = ((findT (tbStep U) (keyS o.key)).2))))] fun a h105 => k90 _ _ ?_
    refine V.ret ?_
    refine V.blk_r ?_
    refine V.then_r ?_
    refine V.r1 h105 (.bool (decide (((findT (tbStep T) (keyS o.key)).2) = ((findT (tbStep U) (keyS o.key)).2)))) ?_
    rw [act3 (T := T) ht88, act3 (T := U) ht88]
    exact ⟨_, rfl, fun h => decide_eq_true (by rw [h]), hD99.sub (by intro k hk; simp [hk]), hFP_103⟩
   ·
    refine V.sr h87 [(0, .eq o.kind 4)] 71 71 [(70, .bool (decide (o.kind = 4)))] fun a h108 => ?_
    refine V.cp h108 (o.kind = 4) (fun ht109 => ?_) (fun ht109 => ?_)
    ·
     refine V.sg fun K110 k111 => ?_
     refine V.run h108 [] 2 1 0 [(73, .pointer (some ⟨t, 0, none⟩)), (74, .string (keyS o.key))] fun a h112 => ?_
     refine V.cl h112 (Go.Proofs.enters_of Try.func22 (by kernel_rfl) rfl) (hD_18.rdT (fun Hq hq hqb => look_any w16 Hq (b4 :: av) t (T) hq (keyS o.key) (by first | exact key_le _ | omega))) ?_
     rintro _ w114 ⟨rfl, hF113⟩
     refine ⟨_, rfl, fun a h115 => ?_⟩
     have hsw114 := hF113.size
     have hD_116 := hD_18.fr0 hF113
     have hFP_117 := hFP_19.tr0 hF113
     have hB6_118 := hB6_20.fr0 hF113
     refine V.re h115 [] 72 77 [(12, .int .i64 ((lookT 0 T (keyS o.key)).1)), (13, .bool ((lookT 0 T (keyS o.key)).2))] fun a h119 => k111 _ _ ?_
     refine V.sg fun K120 k121 => ?_
     refine V.run h119 [] 2 1 0 [(79, .pointer (some ⟨r, 0, none⟩)), (80, .string (keyS o.key))] fun a h122 => ?_
     refine V.cl h122 (Go.Proofs.enters_of Try.func48 (by kernel_rfl) rfl) (hD_116.rdU (fun Hq hq hqb => rlook_any w114 Hq (b4 :: av) r (U) hq (keyS o.key) (by first | exact key_le _ | omega))) ?_
     rintro _ w124 ⟨rfl, hF123⟩
     refine ⟨_, rfl, fun a h125 => ?_⟩
     have hsw124 := hF123.size
     have hD_126 := hD_116.fr0 hF123
     have hFP_127 := hFP_117.tr0 hF123
     have hB6_128 := hB6_118.fr0 hF123
     refine V.re h125 [] 78 83 [(14, .int .i64 ((lookT 0 U (keyS o.key)).1)), (15, .bool ((lookT 0 U (keyS o.key)).2))] fun a h129 => k121 _ _ ?_
     refine V.sg fun K130 k131 => ?_
     refine V.run h129 [(2, .eq ((lookT 0 T (keyS o.key)).1) ((lookT 0 U (keyS o.key)).1))] 4 84 86 [(87, .bool (decide (((lookT 0 T (keyS o.key)).1) = ((lookT 0 U (keyS o.key)).1))))] fun a h132 => ?_
     by_cases hg133 : ((lookT 0 T (keyS o.key)).1) = ((lookT 0 U (keyS o.key)).1)
     ·
      have h134 := h132.kt 87 hg133
      refine V.re h134 [(2, .q (.bool (decide (((lookT 0 T (keyS o.key)).2) = ((lookT 0 U (keyS o.key)).2)))) V.t_beql)] 88 91 [(6, .bool (decide (((lookT 0 T (keyS o.key)).2) = ((lookT 0 U (keyS o.key)).2))))] fun a h135 => k131 _ _ ?_
      have h136 := h135.only [(6, .bool (decide (((lookT 0 T (keyS o.key)).2) = ((lookT 0 U (keyS o.key)).2))))]
      refine V.ret ?_
      refine V.blk_r ?_
      refine V.then_r ?_
      refine V.r1 h136 (.bool (decide (((lookT 0 T (keyS o.key)).2) = ((lookT 0 U (keyS o.key)).2)))) ?_
      rw [act0 (T := T) ht30 ht56 ht88 (by omega), act0 (T := U) ht30 ht56 ht88 (by omega)]
      exact ⟨_, rfl, fun h => decide_eq_true (by rw [h]), hD_126.sub (by intro k hk; simp [hk]), hFP_127⟩
     ·
      have h137 := h132.kf 87 hg133
      refine V.re h137 [] 88 91 [(6, .bool false)] fun a h138 => k131 _ _ ?_
      have h139 := h138.only [(6, .bool false)]
      refine V.ret ?_
      refine V.blk_r ?_
      refine V.then_r ?_
      refine V.r1 h139 (.bool false) ?_
      rw [act0 (T := T) ht30 ht56 ht88 (by omega), act0 (T := U) ht30 ht56 ht88 (by omega)]
      exact ⟨_, rfl, fun h => absurd (by rw [h]) hg133, hD_126.sub (by intro k hk; simp [hk]), hFP_127⟩
    ·
     refine V.sr h108 [(0, .eq o.kind 5)] 93 93 [(92, .bool (decide (o.kind = 5)))] fun a h142 => ?_
     refine V.cp h142 (o.kind = 5) (fun ht143 => ?_) (fun ht143 => ?_)
     ·
      refine V.sg fun K144 k145 => ?_
      refine V.run h142 [] 1 1 0 [(94, .pointer (some ⟨t, 0, none⟩))] fun a h146 => ?_
      refine V.cl h146 (Go.Proofs.enters_of Try.func40 (by kernel_rfl) rfl) (hD_18.wrT (fun k hk => hz k (by omega)) (fun Hq hq hqb => stepx_any w16 Hq (b4 :: av) t (T) hq hgT.mv)) ?_
      rintro _ w149 ⟨rfl, hD147, hfp148⟩
      refine ⟨_, rfl, fun a h150 => ?_⟩
      have hsw149 := hfp148.size
      have hFP_151 := hFP_19.trP hfp148 (fun k hk => .inl ⟨hk.1, fun hm => hk.2 (by simp [hm])⟩)
      have hB6_152 := hB6_20.frP hfp148 (by exact fun hp => hp.2 (by simp))
      refine V.run h150 [] 1 1 0 [(96, .pointer (some ⟨r, 0, none⟩))] fun a h153 => ?_
      refine V.cl h153 (Go.Proofs.enters_of Try.func49 (by kernel_rfl) rfl) (hD147.wrU (fun k hk => hz k (by omega)) (fun Hq hq hqb => rstep_any w149 Hq (b4 :: av) r (U) hq hgU.mv)) ?_
      rintro _ w156 ⟨rfl, hD154, hfp155⟩
      refine ⟨_, rfl, fun a h157 => ?_⟩
      have hsw156 := hfp155.size
      have hFP_158 := hFP_151.trP hfp155 (fun k hk => .inl ⟨hk.1, fun hm => hk.2 (by simp [hm])⟩)
      have hB6_159 := hB6_152.frP hfp155 (by exact fun hp => hp.2 (by simp))
      refine V.re h157 [(0, .q (.bool (decide ((decide ((tbStep T).b.length ≠ 0)) = (decide ((tbStep U).b.length ≠ 0))))) V.t_beql)] 98 98 [(6, .bool (decide ((decide ((tbStep T).b.length ≠ 0)) = (decide ((tbStep U).b.length ≠ 0)))))] fun a h160 => k145 _ _ ?_
      refine V.ret ?_
      refine V.blk_r ?_
      refine V.then_r ?_
      refine V.r1 h160 (.bool (decide ((decide ((tbStep T).b.length ≠ 0)) = (decide ((tbStep U).b.length ≠ 0))))) ?_
      rw [act5 (T := T) ht143, act5 (T := U) ht143]
      exact ⟨_, rfl, fun h => decide_eq_true (by rw [h]), hD154.sub (by intro k hk; simp [hk]), hFP_158⟩
     ·
      refine V.sr h142 [(0, .eq o.kind 6)] 100 100 [(99, .bool (decide (o.kind = 6)))] fun a h163 => ?_
      refine V.cp h163 (o.kind = 6) (fun ht164 => ?_) (fun ht164 => ?_)
      ·
       refine V.sg fun K165 k166 => ?_
       refine V.run h163 [(2, .b hB6_20 3)] 3 103 103 [(102, .pointer (some ⟨t, 0, none⟩)), (104, .int .u64 (o.draw : Int))] fun a h167 => ?_
       refine V.cl h167 (Go.Proofs.enters_of Try.func37 (by kernel_rfl) rfl) (hD_18.rdT (fun Hq hq hqb => pick_any w16 Hq (b4 :: av) t (T) hq hqb o.draw hd)) ?_
       rintro _ w169 ⟨rfl, hF168⟩
       refine ⟨_, rfl, fun a h170 => ?_⟩
       have hsw169 := hF168.size
       have hD_171 := hD_18.fr0 hF168
       have hFP_172 := hFP_19.tr0 hF168
       have hB6_173 := hB6_20.fr0 hF168
       refine V.re h170 [] 101 108 [(16, .string ((pickT (⟨#[]⟩, (0 : Int)) T o.draw).1.1)), (17, .int .i64 ((pickT (⟨#[]⟩, (0 : Int)) T o.draw).1.2)), (18, .bool ((pickT (⟨#[]⟩, (0 : Int)) T o.draw).2))] fun a h174 => k166 _ _ ?_
       refine V.sg fun K175 k176 => ?_
       refine V.run h174 [(2, .b hB6_173 3)] 3 111 111 [(110, .pointer (some ⟨r, 0, none⟩)), (112, .int .u64 (o.draw : Int))] fun a h177 => ?_
       refine V.cl h177 (Go.Proofs.enters_of Try.func50 (by kernel_rfl) rfl) (hD_171.rdU (fun Hq hq hqb => rpick_any w169 Hq (b4 :: av) r (U) hq hqb o.draw hd)) ?_
       rintro _ w179 ⟨rfl, hF178⟩
       refine ⟨_, rfl, fun a h180 => ?_⟩
       have hsw179 := hF178.size
       have hD_181 := hD_171.fr0 hF178
       have hFP_182 := hFP_172.tr0 hF178
       have hB6_183 := hB6_173.fr0 hF178
       refine V.run h180 [] 3 109 109 [(114, .agg #[.string ((pickT (⟨#[]⟩, (0 : Int)) U o.draw).1.1), .int .i64 ((pickT (⟨#[]⟩, (0 : Int)) U o.draw).1.2)]), (115, .bool ((pickT (⟨#[]⟩, (0 : Int)) U o.draw).2))] fun a h188 => ?_
       refine V.go (V.mk [] trivial (by kernel_rfl) [.string ⟨#[]⟩, .int .i64 0] 60 (fun b => .pointer (some ⟨b, 0, none⟩)) (by kernel_rfl) ?_)
       intro w185 b184 heb184 hB186 hF187 hsb184
       have hD_189 := hD_181.alloc hF187 heb184 (by omega)
       have hFP_190 := hFP_182.tr0 hF187
       have hB6_191 := hB6_183.fr0 hF187
       refine V.pt h188 fun a h192 => ?_
       refine V.go (V.stn b184 0 (.agg #[.string ((pickT (⟨#[]⟩, (0 : Int)) U o.draw).1.1), .int .i64 ((pickT (⟨#[]⟩, (0 : Int)) U o.draw).1.2)]) [.string ((pickT (⟨#[]⟩, (0 : Int)) U o.draw).1.1), .int .i64 ((pickT (⟨#[]⟩, (0 : Int)) U o.draw).1.2)] h192.e h192.e rfl rfl (by kernel_rfl) hB186 (by simp) [.string ((pickT (⟨#[]⟩, (0 : Int)) U o.draw).1.1), .int .i64 ((pickT (⟨#[]⟩, (0 : Int)) U o.draw).1.2)] rfl ?_)
       intro w193 hB194 hF195 hsw193
       have hD_196 := hD_189.fr hF195 (by intro k hk; simp only [List.mem_singleton] at hk; subst hk; first | exact .inl (by simp) | exact .inr (fun hq => by (try dsimp only at hq); omega))
       have hFP_197 := hFP_190.tr1 hF195 (by first | exact .inl (by assumption) | exact .inr (by omega) | exact .inl (.inl rfl))
       have hB6_198 := hB6_191.fr1 hF195 (by omega)
       refine V.re h192 [] 1 0 [(20, .bool ((pickT (⟨#[]⟩, (0 : Int)) U o.draw).2))] fun a h199 => k176 _ _ ?_
       refine V.sg fun K200 k201 => ?_
       refine V.run h199 [(2, .b hB194 0), (0, .seq ((pickT (⟨#[]⟩, (0 : Int)) T o.draw).1.1) ((pickT (⟨#[]⟩, (0 : Int)) U o.draw).1.1))] 5 116 119 [(120, .bool (decide (((pickT (⟨#[]⟩, (0 : Int)) T o.draw).1.1) = ((pickT (⟨#[]⟩, (0 : Int)) U o.draw).1.1))))] fun a h202 => ?_
       by_cases hg203 : ((pickT (⟨#[]⟩, (0 : Int)) T o.draw).1.1) = ((pickT (⟨#[]⟩, (0 : Int)) U o.draw).1.1)
       ·
        have h204 := h202.kt 120 hg203
        refine V.run h204 [(2, .b hB194 1), (0, .eq ((pickT (⟨#[]⟩, (0 : Int)) T o.draw).1.2) ((pickT (⟨#[]⟩, (0 : Int)) U o.draw).1.2))] 6 121 125 [(126, .bool (decide (((pickT (⟨#[]⟩, (0 : Int)) T o.draw).1.2) = ((pickT (⟨#[]⟩, (0 : Int)) U o.draw).1.2))))] fun a h205 => ?_
        by_cases hg206 : ((pickT (⟨#[]⟩, (0 : Int)) T o.draw).1.2) = ((pickT (⟨#[]⟩, (0 : Int)) U o.draw).1.2)
        ·
         have h207 := h205.kt 126 hg206
         refine V.re h207 [(2, .q (.bool (decide (((pickT (⟨#[]⟩, (0 : Int)) T o.draw).2) = ((pickT (⟨#[]⟩, (0 : Int)) U o.draw).2)))) V.t_beql)] 127 130 [(6, .bool (decide (((pickT (⟨#[]⟩, (0 : Int)) T o.draw).2) = ((pickT (⟨#[]⟩, (0 : Int)) U o.draw).2))))] fun a h208 => k201 _ _ ?_
         have h209 := h208.only [(6, .bool (decide (((pickT (⟨#[]⟩, (0 : Int)) T o.draw).2) = ((pickT (⟨#[]⟩, (0 : Int)) U o.draw).2))))]
         refine V.ret ?_
         refine V.blk_r ?_
         refine V.then_r ?_
         refine V.r1 h209 (.bool (decide (((pickT (⟨#[]⟩, (0 : Int)) T o.draw).2) = ((pickT (⟨#[]⟩, (0 : Int)) U o.draw).2)))) ?_
         rw [act0 (T := T) ht30 ht56 ht88 ht143, act0 (T := U) ht30 ht56 ht88 ht143]
         exact ⟨_, rfl, fun h => decide_eq_true (by rw [h]), hD_196.sub (by intro k hk; simp [hk]), hFP_197⟩
        ·
         have h210 := h205.kf 126 hg206
         refine V.re h210 [] 127 130 [(6, .bool false)] fun a h211 => k201 _ _ ?_
         have h212 := h211.only [(6, .bool false)]
         refine V.ret ?_
         refine V.blk_r ?_
         refine V.then_r ?_
         refine V.r1 h212 (.bool false) ?_
         rw [act0 (T := T) ht30 ht56 ht88 ht143, act0 (T := U) ht30 ht56 ht88 ht143]
         exact ⟨_, rfl, fun h => absurd (by rw [h]) hg206, hD_196.sub (by intro k hk; simp [hk]), hFP_197⟩
       ·
        have h213 := h202.kf 120 hg203
        refine V.re h213 [] 121 130 [(6, .bool false)] fun a h214 => k201 _ _ ?_
        have h215 := h214.only [(6, .bool false)]
        refine V.ret ?_
        refine V.blk_r ?_
        refine V.then_r ?_
        refine V.r1 h215 (.bool false) ?_
        rw [act0 (T := T) ht30 ht56 ht88 ht143, act0 (T := U) ht30 ht56 ht88 ht143]
        exact ⟨_, rfl, fun h => absurd (by rw [h]) hg203, hD_196.sub (by intro k hk; simp [hk]), hFP_197⟩
      ·
       refine V.skip ?_
       refine V.blk_n ?_
       refine V.then_n (k23 _ _ ?_)
       refine V.sr h163 [] 1 0 [(6, .bool true)] fun a h218 => ?_
       refine V.ret ?_
       refine V.r1 h218 (.bool true) ?_
       rw [act0 (T := T) ht30 ht56 ht88 ht143, act0 (T := U) ht30 ht56 ht88 ht143]
       exact ⟨_, rfl, fun _ => rfl, hD_18.sub (by intro k hk; simp [hk]), hFP_19⟩
end Go.Proofs.Ytalhmegjomfbaaa
