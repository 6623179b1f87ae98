/- Walks: TableAny. -/
import Derived.Test.YtalhmegjomfbaaaProg
import Derived.Test.YtalhmegjomfbaaaLo
import Derived.Test.YtalhmegjomfbaaaSTf
import Derived.Test.YtalhmegjomfbaaaSTj
import Derived.Test.YtalhmegjomfbaaaTabK
namespace Go.Proofs.Ytalhmegjomfbaaa
open Go.V Go.Base
open Go.RowKit (Below)
attribute [local irreducible] Act.put Act.eval
set_option linter.unusedVariables false
set_option linter.unusedSimpArgs false
/-- Tables of their own: the program's of numbers, one of texts. -/
def Zx (w0 : World) (H : Nat → Prop) : Nat → Prop := fun k => w0.heap.size ≤ k ∧ ¬ H k
def A3 (w0 w : World) (av : List Nat) (t : Nat) (T : Tb Int) (u : Nat) (U : Tb ByteArray) : Prop :=
  ∃ Hu : Nat → Prop, D1 (Zx w0 Hu) w av t T ∧ TabX 91 94 93 S.itI w Hu av u U ∧ ∀ k, Hu k → w0.heap.size ≤ k ∧ k < w.heap.size
def B3 (w0 w : World) (av : List Nat) (t : Nat) (T : Tb Int) (r : Nat) (R : Tb Int) (u : Nat) (U : Tb ByteArray) : Prop :=
  ∃ Hu : Nat → Prop, D2 (Zx w0 Hu) w av t T r R ∧ TabX 91 94 93 S.itI w Hu av u U ∧ ∀ k, Hu k → w0.heap.size ≤ k ∧ k < w.heap.size
section
variable {w0 w w1 w2 : World} {av av' : List Nat} {t r u : Nat} {T R : Tb Int} {U U' : Tb ByteArray}
theorem A3.mk (h : D1 (fun k => w0.heap.size ≤ k) w1 av t T) (h1 : D1 (fun k => w0.heap.size ≤ k) w av t T) (hw : w0.heap.size ≤ w.heap.size) (f : Fr [] w w1) (h2 : TabX 91 94 93 S.itI w1 (gr (fun _ => False) w w1) av u U) : A3 w0 w1 av t T u U := by
  have hs := f.size
  refine ⟨_, ?_, h2, fun k hk => ?_⟩
  · refine (h1.mono (Z' := Zx w0 (gr (fun _ => False) w w1)) fun k hk hz => ⟨hz, fun hq => ?_⟩).fr0 f
    rcases hq with hq | hq
    · exact hq
    · omega
  · rcases hk with hk | hk
    · exact hk.elim
    · exact ⟨by omega, hk.2⟩
theorem A3.fr (h : A3 w0 w av t T u U) {l : List Nat} (f : Fr l w w1) (hl : ∀ k ∈ l, k ∈ av ∨ ¬ w0.heap.size ≤ k) : A3 w0 w1 av t T u U := by
  obtain ⟨Hu, h1, h2, h3⟩ := h
  have hs := f.size
  exact ⟨Hu, h1.fr f fun k hk => (hl k hk).imp id fun q hq => q hq.1, h2.fr f fun k hk => (hl k hk).imp id fun q hq => q (h3 k hq).1, fun k hk => ⟨(h3 k hk).1, by have := (h3 k hk).2; omega⟩⟩
theorem A3.fr0 (h : A3 w0 w av t T u U) (f : Fr [] w w1) : A3 w0 w1 av t T u U := h.fr f fun k hk => by cases hk
theorem A3.alloc (h : A3 w0 w av t T u U) (f : Fr [] w w1) {b : Nat} (hb : b = w.heap.size) (hlt : b < w1.heap.size) : A3 w0 w1 (b :: av) t T u U := by
  obtain ⟨Hu, h1, h2, h3⟩ := h
  have hs := f.size
  exact ⟨Hu, h1.alloc f hb hlt, h2.alloc f hb hlt, fun k hk => ⟨(h3 k hk).1, by have := (h3 k hk).2; omega⟩⟩
theorem A3.sub (h : A3 w0 w av t T u U) (hs : ∀ k ∈ av', k ∈ av) : A3 w0 w av' t T u U := by
  obtain ⟨Hu, h1, h2, h3⟩ := h
  exact ⟨Hu, h1.sub hs, h2.sub hs fun _ _ q => q, h3⟩
theorem A3.avh (h : A3 w0 w av t T u U) : ∀ k ∈ av, k < w.heap.size := by
  obtain ⟨Hu, h1, h2, h3⟩ := h
  exact Go.Proofs.Ytalhmegjomfbaaa.avh h1
theorem A3.two (h : A3 w0 w av t T u U) (f : Fr [] w w1) (h2 : TabX 40 42 60 itI w1 (gr (fun _ => False) w w1) av r R) (hw : w0.heap.size ≤ w.heap.size) : B3 w0 w1 av t T r R u U := by
  obtain ⟨Hu, h1, h3, h4⟩ := h
  have hs := f.size
  exact ⟨Hu, (h1.fr0 f).two f h2 h1 (fun k hk => ⟨by omega, fun hq => by have := (h4 k hq).2; omega⟩), h3.fr0 f, fun k hk => ⟨(h4 k hk).1, by have := (h4 k hk).2; omega⟩⟩
theorem B3.act (h : B3 w0 w av t T r R u U) (N : Nat) (o : OpD) (hgT : Gd T N) (hgU : Gd R 0) (hN : N < 1000000) (ho : o.ok) (hw : w0.heap.size ≤ w.heap.size) :
    Calls Try.prog 16 #[.pointer (some ⟨t, 0, none⟩), .pointer (some ⟨r, 0, none⟩), .agg #[.int .i64 o.kind, .string o.key, .int .i64 o.v, .int .u64 (o.draw : Int)]] w (fun e w' => (∃ b, e = .returned (.bool b)) ∧ A3 w0 w' av t (actT T o) u U ∧ FrP (zn (fun k => w0.heap.size ≤ k) av) w w') := by
  obtain ⟨Hu, h1, h2, h3⟩ := h
  refine (act_new w _ av t r T R N o h1 hgT hgU hN ho fun k hk => ⟨by omega, fun hq => by have := (h3 k hq).2; omega⟩).mono fun e w1 ⟨hb, q1, q2⟩ => ?_
  have hs := q2.size
  exact ⟨hb, ⟨Hu, q1, h2.frP q2 fun k hk => .inr hk.1.2, fun k hk => ⟨(h3 k hk).1, by have := (h3 k hk).2; omega⟩⟩, q2.mono fun k hk => ⟨hk.1.1, hk.2⟩⟩
variable {P : Program} {f : FuncId} {args : Array Value} {e0 : Ending}
theorem A3.wr (h : A3 w0 w av t T u U) (hw : w0.heap.size ≤ w.heap.size) (hc : ∀ H, TabX 91 94 93 S.itI w H av u U → (∀ k, H k → k < w.heap.size) → Calls P f args w (fun e w' => e = e0 ∧ TabX 91 94 93 S.itI w' (gr H w w') av u U' ∧ FrP (gp H av) w w')) :
    Calls P f args w (fun e w' => e = e0 ∧ A3 w0 w' av t T u U' ∧ FrP (zn (fun k => w0.heap.size ≤ k) av) w w') := by
  obtain ⟨Hu, h1, h2, h3⟩ := h
  refine (hc Hu h2 fun k hk => (h3 k hk).2).mono fun e w1 ⟨he, q1, q2⟩ => ?_
  have hs := q2.size
  have h4 : D1 (fun k => Zx w0 Hu k ∧ k < w.heap.size) w av t T := h1.mono fun k hk hz => ⟨hz, hk⟩
  refine ⟨he, ⟨_, (h4.frP q2 fun k hk => .inr fun hz => hz.1.2 hk.1).mono (Z' := Zx w0 (gr Hu w w1)) ?_, q1, ?_⟩, q2.mono fun k hk => ⟨(h3 k hk.1).1, hk.2⟩⟩
  · rintro k hk ⟨hz, hlt⟩
    refine ⟨hz.1, fun hq => ?_⟩
    rcases hq with hq | hq
    · exact hz.2 hq
    · omega
  · intro k hk
    rcases hk with hk | hk
    · exact ⟨(h3 k hk).1, by have := (h3 k hk).2; omega⟩
    · exact ⟨by omega, hk.2⟩
theorem A3.rd {R : Ending → World → Prop} (h : A3 w0 w av t T u U) (hc : ∀ H, TabX 67 87 86 itI w H av t T → (∀ k, H k → k < w.heap.size) → Calls P f args w R) : Calls P f args w R := by
  obtain ⟨Hu, h1, h2, h3⟩ := h
  exact h1.rd hc
theorem A3.rdU {R : Ending → World → Prop} (h : A3 w0 w av t T u U) (hc : ∀ H, TabX 91 94 93 S.itI w H av u U → (∀ k, H k → k < w.heap.size) → Calls P f args w R) : Calls P f args w R := by
  obtain ⟨Hu, h1, h2, h3⟩ := h
  exact hc Hu h2 fun k hk => (h3 k hk).2
end
/-- An act on a table of texts. -/
def actS (U : Tb ByteArray) (o : OpD) : Tb ByteArray :=
  if o.kind = 1 then putT U (keyS o.key) o.key else if o.kind = 2 then tbStep U else if o.kind = 3 then delT U (keyS o.key) else if o.kind = 5 then tbStep U else U
theorem acts1 {U : Tb ByteArray} {o : OpD} (h : o.kind = 1) : actS U o = putT U (keyS o.key) o.key := by unfold actS; rw [if_pos h]
theorem acts2 {U : Tb ByteArray} {o : OpD} (h : o.kind = 2) : actS U o = tbStep U := by unfold actS; rw [if_neg (by omega), if_pos h]
theorem acts3 {U : Tb ByteArray} {o : OpD} (h : o.kind = 3) : actS U o = delT U (keyS o.key) := by unfold actS; rw [if_neg (by omega), if_neg (by omega), if_pos h]
theorem acts5 {U : Tb ByteArray} {o : OpD} (h : o.kind = 5) : actS U o = tbStep U := by unfold actS; rw [if_neg (by omega), if_neg (by omega), if_neg (by omega), if_pos h]
theorem acts0 {U : Tb ByteArray} {o : OpD} (h1 : ¬ o.kind = 1) (h2 : ¬ o.kind = 2) (h3 : ¬ o.kind = 3) (h5 : ¬ o.kind = 5) : actS U o = U := by unfold actS; rw [if_neg h1, if_neg h2, if_neg h3, if_neg h5]
theorem act_ks {T : Tb Int} {U : Tb ByteArray} (h : T.ks = U.ks) (o : OpD) : (actT T o).ks = (actS U o).ks := by
  unfold actT actS
  split
  · exact ks_put2 h _ _ _
  · split
    · exact ks_step2 h
    · split
      · exact ks_del2 h _
      · split
        · exact ks_step2 h
        · exact h
theorem Gd.acts {U : Tb ByteArray} {N : Nat} (h : Gd U N) (hN : N < 1000000) (o : OpD) : Gd (actS U o) (N + 1) := by
  unfold actS
  split
  · exact h.put hN (key_le _) _
  · split
    · exact h.step.raise (Nat.le_succ N)
    · split
      · exact (h.del _).raise (Nat.le_succ N)
      · split
        · exact h.step.raise (Nat.le_succ N)
        · exact h.raise (Nat.le_succ N)
/-- What is known behind so many items told. -/
def anyI (rb nb : Nat) (w0 : World) (n : Nat) (pre : List (ByteArray × ByteArray)) (W : World) : Prop :=
  w0.heap.size ≤ n ∧ n ≤ W.heap.size ∧ Blk W rb [.bool true] 4 ∧ Blk W nb [.int .i64 (pre.length : Int)] 3 ∧ Fr [rb, nb] w0 W
set_option maxHeartbeats 4000000 in
set_option maxRecDepth 20000 in
theorem any1_any (w : World) (rb nb wb g1 g2 : Nat) (A : Option Addr) (c i : Nat) (l : List (ByteArray × Int)) (hR : Blk w rb [.bool true] 4) (hN : Blk w nb [.int .i64 (i : Int)] 3) (hW : Blk w wb [.slice A l.length c] 42) (hS : SlR itI (fun k => g1 ≤ k ∧ k < g2) w (.slice A l.length c) l) (hi : i < l.length) (hl : l.length ≤ 1000000) (hrg : ¬ (g1 ≤ rb ∧ rb < g2)) (hng : ¬ (g1 ≤ nb ∧ nb < g2)) (hrn : rb ≠ nb) (hrw : rb ≠ wb) (hnw : nb ≠ wb) (v : ByteArray) : Calls Try.prog 30 #[.string ((at_ itI l (i : Int)).1), .string v, .pointer (some ⟨rb, 0, none⟩), .pointer (some ⟨nb, 0, none⟩), .pointer (some ⟨wb, 0, none⟩)] w (fun e w' => e = .returned (.bool true) ∧ Blk w' rb [.bool true] 4 ∧ Blk w' nb [.int .i64 ((i : Int) + 1)] 3 ∧ Fr [rb, nb] w w') := by
 have hF := Fr.refl [rb, nb] w
 refine V.en 27 Try.func30 fun a h1 => ?_
 refine V.sr h1 [] 7 7 [] fun a h4 => ?_
 refine V.sg fun K5 k6 => ?_
 refine V.run h4 [(0, .b hR 0), (1, .b hN 0), (0, .b hW 0)] 8 8 14 [(15, .bool (decide ((i : Int) < ((l.length : Nat) : Int))))] fun a h7 => ?_
 by_cases hg8 : (i : Int) < ((l.length : Nat) : Int)
 ·
  have h9 := h7.kt 15 hg8
  obtain ⟨g10, o11, hA12, hA12l, hA12z⟩ := hS.addr (by omega)
  obtain ⟨cs13, hok14, hE15⟩ := hS.els hA12 (i : Int) (by omega) (by omega)
  refine V.run h9 [(0, .b hW 0), (0, .b hN 0), (0, .ix g10 o11 l.length c .i64 (i : Int) 2 hA12)] 4 16 18 [(19, .pointer (some ⟨g10, o11 + (i : Int).toNat * 2, none⟩))] fun a h16 => ?_
  obtain rfl : cs13 = [.string (at_ itI l (i : Int)).1, .int .i64 (at_ itI l (i : Int)).2] := hok14
  refine V.run h16 [(0, .l ⟨g10, o11 + (i : Int).toNat * 2, none⟩ (.string ((at_ itI l (i : Int)).1)) (hE15.at 0 rfl)), (1, .q (.bool true) (V.t_ssame ((at_ itI l (i : Int)).1)))] 4 20 22 [(23, .bool true)] fun a h20 => ?_
  refine V.go (V.stn rb 0 (.bool true) [.bool true] h20.e h20.e rfl rfl (by kernel_rfl) hR (by simp) [.bool true] rfl ?_)
  intro w17 hB18 hF19 hsw17
  have hF_21 := hF.trans hF19 (by simp <;> omega)
  have hN_22 := hN.fr1 hF19 (by omega)
  have hW_23 := hW.fr1 hF19 (by omega)
  have hS_24 := hS.fr hF19 (by simp <;> omega)
  have hE15_25 := hE15.fr hF19 (by simp <;> omega)
  refine V.nt (k6 _ _ ?_)
  refine V.sg fun K26 k27 => ?_
  refine V.run h20 [(0, .b hN_22 0), (0, .i ((i : Int) + 1))] 2 24 24 [(25, .int .i64 ((i : Int) + 1))] fun a h31 => ?_
  refine V.go (V.stn nb 0 (.int .i64 ((i : Int) + 1)) [.int .i64 ((i : Int) + 1)] h31.e h31.e rfl rfl (by kernel_rfl) hN_22 (by simp) [.int .i64 ((i : Int) + 1)] rfl ?_)
  intro w28 hB29 hF30 hsw28
  have hF_32 := hF_21.trans hF30 (by simp <;> omega)
  have hW_33 := hW_23.fr1 hF30 (by omega)
  have hS_34 := hS_24.fr hF30 (by simp <;> omega)
  have hE15_35 := hE15_25.fr hF30 (by simp <;> omega)
  have hB18_36 := hB18.fr1 hF30 (by omega)
  refine V.nt (k27 _ _ ?_)
  refine V.sr h31 [(0, .b hB18_36 0)] 26 26 [(7, .bool true)] fun a h39 => ?_
  refine V.ret ?_
  refine V.r1 h39 (.bool true) ?_
  exact ⟨rfl, hB18_36, hB29, hF_32⟩
 ·
  have h40 := h7.kf 15 hg8
  refine V.run h40 [] 8 16 22 [(23, .bool false)] fun a h44 => ?_
  refine V.go (V.stn rb 0 (.bool false) [.bool false] h44.e h44.e rfl rfl (by kernel_rfl) hR (by simp) [.bool false] rfl ?_)
  intro w41 hB42 hF43 hsw41
  have hF_45 := hF.trans hF43 (by simp <;> omega)
  have hN_46 := hN.fr1 hF43 (by omega)
  have hW_47 := hW.fr1 hF43 (by omega)
  have hS_48 := hS.fr hF43 (by simp <;> omega)
  refine V.nt (k6 _ _ ?_)
  refine V.sg fun K49 k50 => ?_
  refine V.run h44 [(0, .b hN_46 0), (0, .i ((i : Int) + 1))] 2 24 24 [(25, .int .i64 ((i : Int) + 1))] fun a h54 => ?_
  refine V.go (V.stn nb 0 (.int .i64 ((i : Int) + 1)) [.int .i64 ((i : Int) + 1)] h54.e h54.e rfl rfl (by kernel_rfl) hN_46 (by simp) [.int .i64 ((i : Int) + 1)] rfl ?_)
  intro w51 hB52 hF53 hsw51
  have hF_55 := hF_45.trans hF53 (by simp <;> omega)
  have hW_56 := hW_47.fr1 hF53 (by omega)
  have hS_57 := hS_48.fr hF53 (by simp <;> omega)
  have hB42_58 := hB42.fr1 hF53 (by omega)
  refine V.nt (k50 _ _ ?_)
  refine V.sr h54 [(0, .b hB42_58 0)] 26 26 [(7, .bool false)] fun a h61 => ?_
  refine V.ret ?_
  refine V.r1 h61 (.bool false) ?_
  exfalso; omega
theorem any_run (w : World) (H : Nat → Prop) (av : List Nat) (u : Nat) (U : Tb ByteArray) (hU : TabX 91 94 93 S.itI w H av u U) (hHb : ∀ k, H k → k < w.heap.size) (b : Nat) (hB : Blk w b [.pointer (some ⟨u, 0, none⟩)] 50) (rb nb wb : Nat) (A : Option Addr) (c : Nat)
    (hR : Blk w rb [.bool true] 4) (hN : Blk w nb [.int .i64 0] 3) (g1 g2 : Nat) (T : Tb Int) (hW : Blk w wb [.slice A T.n c] 42) (hok : T.Ok) (hkk : T.ks = U.ks) (hS : SlR itI (fun k => g1 ≤ k ∧ k < g2) w (.slice A T.n c) (T.a ++ T.b).flatten) (hl : T.n ≤ 1000000)
    (hrg : ¬ (g1 ≤ rb ∧ rb < g2) ∧ ¬ (g1 ≤ nb ∧ nb < g2)) (hne : rb ≠ nb ∧ rb ≠ wb ∧ nb ≠ wb) :
    Calls Try.prog 62 #[.func (.func 30) #[] #[.pointer (some ⟨rb, 0, none⟩), .pointer (some ⟨nb, 0, none⟩), .pointer (some ⟨wb, 0, none⟩)], .pointer (some ⟨b, 0, none⟩)] w (fun e w' => (∃ v, e = .returned v) ∧ Blk w' rb [.bool true] 4 ∧ Blk w' nb [.int .i64 (T.n : Int)] 3 ∧ Fr [rb, nb] w w') := by
  have hr := hR.lt
  have hn := hN.lt
  have hcT := hok.cn
  have hcU := hU.1.cn
  have hsz := ks_sizes hkk
  refine (S.all1_any w H av u U hU hHb b hB _ (anyI rb nb w) (fun _ _ _ => False) ?_ ?_ ?_).mono ?_
  · rintro n pre W W' ⟨h1, h2, h3, h4, h5⟩ f
    exact ⟨h1, Nat.le_trans h2 f.size, h3.fr0 f, h4.fr0 f, h5.trans f (by simp)⟩
  · intro W1 f
    exact ⟨f.size, Nat.le_refl _, hR.fr0 f, hN.fr0 f, f.mono (by simp)⟩
  · rintro n pre x W hn1 hnl ⟨h1, h2, h3, h4, h5⟩ ⟨rest, hrest⟩
    have hi : pre.length < T.n := by
      have := congrArg List.length hrest
      rw [hcU, ← hsz.2.2.2] at this; simp at this; omega
    have hx : (at_ itI (T.a ++ T.b).flatten (pre.length : Int)).1 = x.1 := by
      have h6 : (U.a ++ U.b).flatten[pre.length]? = some x := by rw [← hrest]; simp
      have h7 := keys_at h6
      rw [← keys2 hkk] at h7
      have h8 := keys_at (at_some itI (xs := (T.a ++ T.b).flatten) (i := (pre.length : Int)) (by omega) (by omega))
      rw [Int.toNat_natCast, h7] at h8
      injection h8 with h8
      exact h8.symm
    have hSW : SlR itI (fun k => g1 ≤ k ∧ k < g2) W (.slice A (T.a ++ T.b).flatten.length c) (T.a ++ T.b).flatten := by
      rw [hcT]
      exact hS.fr h5 (by
        intro k hk hz
        simp only [List.mem_cons, List.not_mem_nil, or_false] at hk
        rcases hk with rfl | rfl
        · exact hrg.1 hz
        · exact hrg.2 hz)
    have hWW : Blk W wb [.slice A (T.a ++ T.b).flatten.length c] 42 := by
      rw [hcT]
      exact hW.fr h5 (by simp [hne.2.1.symm, hne.2.2.symm])
    have hcall := any1_any W rb nb wb g1 g2 A c pre.length (T.a ++ T.b).flatten h3 h4 hWW hSW (by omega) (by omega) hrg.1 hrg.2 hne.1 hne.2.1 hne.2.2 x.2
    rw [hx] at hcall
    refine .inr ⟨30, _, rfl, Go.Proofs.enters_of Try.func30 (by kernel_rfl) rfl, hcall.mono ?_⟩
    rintro e W' ⟨he, q1, q2, q3⟩
    refine .inl ⟨he, ⟨h1, Nat.le_trans h2 q3.size, q1, by simpa using q2, h5.trans q3 (by simp)⟩, q3.size, fun k hk hK => q3.block k hk ?_⟩
    intro hm
    simp only [List.mem_cons, List.not_mem_nil, or_false] at hm
    rcases hm with rfl | rfl <;> omega
  · rintro e w' ⟨he, ⟨n, hn, h1, h2, h3, h4, h5⟩ | ⟨_, _, _, _, h⟩⟩
    · rw [hcU, ← hsz.2.2.2] at h4
      exact ⟨he, h3, h4, h5⟩
    · exact h.elim
set_option maxHeartbeats 4000000 in
set_option maxRecDepth 20000 in
theorem tableAny_any (w : World) (seed : Nat) (hsd : seed < 18446744073709551616) (A0 : Option Addr) (c0 : Nat) (l : List OpD) (hS : SlR opR (fun k => k < w.heap.size) w (.slice A0 l.length c0) l) : Calls Try.prog 7 #[.int .u64 (seed : Int), .slice A0 l.length c0] w (fun e w' => e = .returned (.bool true) ∧ Fr [] w w') := by
 have hF := Fr.refl [] w
 refine V.en 123 Try.func7 fun a h1 => ?_
 refine V.sr h1 [] 4 4 [] fun a h4 => ?_
 refine V.sg fun K5 k6 => ?_
 refine V.run h4 [] 1 1 0 [(19, .int .u64 (seed : Int))] fun a h7 => ?_
 refine V.cl h7 (Go.Proofs.enters_of Try.func14 (by kernel_rfl) rfl) (new_any w [] (by simp) seed hsd) ?_
 rintro _ w12 ⟨t8, rfl, hT9, hF10⟩
 refine ⟨_, rfl, fun a h13 => ?_⟩
 have hsw12 := hF10.size
 have hF_14 := hF.new hF10
 have hS_15 := hS.fr0 hF10
 have hD11 := D1.new (Z := fun k => w.heap.size ≤ k) hT9 (fun k hk => by omega)
 refine V.run h13 [] 1 1 0 [(21, .int .u64 (seed : Int))] fun a h16 => ?_
 refine V.cl h16 (Go.Proofs.enters_of Try.func24 (by kernel_rfl) rfl) (S.new_any w12 [] (by simp) seed hsd) ?_
 rintro _ w21 ⟨u17, rfl, hU18, hF19⟩
 refine ⟨_, rfl, fun a h22 => ?_⟩
 have hsw21 := hF19.size
 have hF_23 := hF_14.new hF19
 have hS_24 := hS_15.fr0 hF19
 have hD11_25 := hD11.fr0 hF19
 have hD20 := A3.mk hD11_25 hD11 (by omega) hF19 hU18
 refine V.re h22 [] 1 0 [(5, .pointer (some ⟨t8, 0, none⟩)), (6, .pointer (some ⟨u17, 0, none⟩))] fun a h26 => k6 _ _ ?_
 refine V.seq fun K27 k28 => ?_
 refine V.sr h26 [] 23 27 [(28, .bool false)] fun a h31 => ?_
 refine V.cf h31 ?_
 refine V.skip ?_
 refine V.then_n (k28 _ _ ?_)
 refine V.seq fun K32 k33 => ?_
 refine V.sr h31 [] 1 0 [(7, .int .i64 0)] fun a h36 => ?_
 refine V.block ?_
 refine V.loop3 (fun (i : Nat) (T : Tb Int) (U : Tb ByteArray) a_ w_ => En 123 [] a_ [(0, .int .u64 (seed : Int)), (1, .slice A0 l.length c0), (5, .pointer (some ⟨t8, 0, none⟩)), (6, .pointer (some ⟨u17, 0, none⟩)), (7, .int .i64 (i : Int))] ∧ A3 w w_ ([]) t8 T u17 U ∧ Fr [] w w_ ∧ SlR opR (fun k => k < w.heap.size) w_ (.slice A0 l.length c0) l ∧ (i ≤ l.length ∧ i ≤ 200) ∧ (Gd T i) ∧ (Gd U i) ∧ (T.ks = U.ks)) (fun (i : Nat) (T : Tb Int) (U : Tb ByteArray) => l.length - i) 0 (newT seed) (newT seed) ?_ ?_
 ·
  refine ⟨(h36.eq 7 (v := (.int .i64 0)) (u := (.int .i64 (0 : Int))) (V.int_eq (by omega))).only _, hD20, hF_23, hS_24, (by omega), (Gd.new hsd), (Gd.new hsd), (by rw [ks_new, ks_new])⟩
 ·
  rintro i T U a37 w38 ⟨h39, hD_40, hF_41, hS_42, hi, hgT, hgU, hkk⟩
  have hfs43 := hF_41.size
  have hlen0 := hS.len_le
  refine V.seq fun K44 k45 => ?_
  refine V.sg fun K46 k47 => ?_
  refine V.run h39 [] 5 29 32 [(33, .bool (decide ((i : Int) < ((l.length : Nat) : Int))))] fun a h48 => ?_
  by_cases hg49 : (i : Int) < ((l.length : Nat) : Int)
  ·
   have h50 := h48.kt 33 hg49
   refine V.re h50 [] 34 35 [(36, .bool (decide ((i : Int) < 200)))] fun a h51 => k47 _ _ ?_
   refine V.cp h51 ((i : Int) < 200) (fun ht52 => ?_) (fun ht52 => ?_)
   ·
    refine V.skip ?_
    refine V.then_n (k45 _ _ ?_)
    refine V.seq fun K53 k54 => ?_
    refine V.block ?_
    obtain ⟨g57, o58, hA59, hA59l, hA59z⟩ := hS_42.addr (by omega)
    obtain ⟨cs60, hok61, hE62⟩ := hS_42.els hA59 (i : Int) (by omega) (by omega)
    refine V.sg fun K55 k56 => ?_
    refine V.run h51 [(2, .ix g57 o58 l.length c0 .i64 (i : Int) 4 hA59)] 3 39 40 [(41, .pointer (some ⟨g57, o58 + (i : Int).toNat * 4, none⟩))] fun a h64 => ?_
    obtain ⟨rfl, hoo63⟩ := hok61
    refine V.run h64 [(0, .ls ⟨g57, o58 + (i : Int).toNat * 4, none⟩ [.int .i64 ((at_ opR l (i : Int)).kind), .string ((at_ opR l (i : Int)).key), .int .i64 ((at_ opR l (i : Int)).v), .int .u64 ((at_ opR l (i : Int)).draw : Int)] (hE62.cells 0 _ rfl))] 1 1 0 [(42, .agg #[.int .i64 ((at_ opR l (i : Int)).kind), .string ((at_ opR l (i : Int)).key), .int .i64 ((at_ opR l (i : Int)).v), .int .u64 ((at_ opR l (i : Int)).draw : Int)])] fun a h69 => ?_
    refine V.go (V.mk [] trivial (by kernel_rfl) [.int .i64 0, .string ⟨#[]⟩, .int .i64 0, .int .u64 0] 34 (fun b => .pointer (some ⟨b, 0, none⟩)) (by kernel_rfl) ?_)
    intro w66 b65 heb65 hB67 hF68 hsb65
    have hD_70 := hD_40.alloc hF68 heb65 (by omega)
    have hF_71 := hF_41.new hF68
    have hS_72 := hS_42.fr0 hF68
    have hE62_73 := hE62.fr0 hF68
    refine V.pt h69 fun a h74 => ?_
    refine V.go (V.stn b65 0 (.agg #[.int .i64 ((at_ opR l (i : Int)).kind), .string ((at_ opR l (i : Int)).key), .int .i64 ((at_ opR l (i : Int)).v), .int .u64 ((at_ opR l (i : Int)).draw : Int)]) [.int .i64 ((at_ opR l (i : Int)).kind), .string ((at_ opR l (i : Int)).key), .int .i64 ((at_ opR l (i : Int)).v), .int .u64 ((at_ opR l (i : Int)).draw : Int)] h74.e h74.e rfl rfl (by kernel_rfl) hB67 (by simp) [.int .i64 ((at_ opR l (i : Int)).kind), .string ((at_ opR l (i : Int)).key), .int .i64 ((at_ opR l (i : Int)).v), .int .u64 ((at_ opR l (i : Int)).draw : Int)] rfl ?_)
    intro w75 hB76 hF77 hsw75
    have hD_78 := hD_70.fr hF77 (by intro k hk; simp only [List.mem_singleton] at hk; subst hk; first | exact .inl (by simp) | exact .inr (fun hq => by (try dsimp only at hq); omega))
    have hF_79 := hF_71.own hF77 (by simp <;> omega)
    have hS_80 := hS_72.fr hF77 (by simp <;> omega)
    have hE62_81 := hE62_73.fr hF77 (by simp <;> omega)
    refine V.nt (k56 _ _ ?_)
    refine V.seq fun K82 k83 => ?_
    refine V.pl [([0,1,3],some (2,[3])),([],some (4,[])),([],none)] fun w84 hF85 hsw84 => ?_
    have hD_86 := hD_78.fr0 hF85
    have hF_87 := hF_79.new hF85
    have hS_88 := hS_80.fr0 hF85
    have hE62_89 := hE62_81.fr0 hF85
    have hB76_90 := hB76.fr0 hF85
    refine V.pe h74 [(2, .bs hB76_90 0 [.int .i64 ((at_ opR l (i : Int)).kind), .string ((at_ opR l (i : Int)).key), .int .i64 ((at_ opR l (i : Int)).v), .int .u64 ((at_ opR l (i : Int)).draw : Int)])] 1 0 [(43, .pointer (some ⟨t8, 0, none⟩)), (44, .int .u64 (seed : Int)), (46, .agg #[.int .i64 ((at_ opR l (i : Int)).kind), .string ((at_ opR l (i : Int)).key), .int .i64 ((at_ opR l (i : Int)).v), .int .u64 ((at_ opR l (i : Int)).draw : Int)])] fun a h91 => ?_
    refine V.cl h91 (Go.Proofs.enters_of Try.func15 (by kernel_rfl) rfl) (rnew_any w84 (b65 :: []) (hD_86.avh) seed hsd) ?_
    rintro _ w96 ⟨r92, rfl, hU93, hF94⟩
    refine ⟨_, rfl, fun a h97 => ?_⟩
    have hsw96 := hF94.size
    have hD_98 := hD_86.fr0 hF94
    have hF_99 := hF_87.new hF94
    have hS_100 := hS_88.fr0 hF94
    have hE62_101 := hE62_89.fr0 hF94
    have hB76_102 := hB76_90.fr0 hF94
    have hD95 := hD_86.two hF94 hU93 (by omega)
    refine V.eh (fun _ => held_blk (n := 4) (hx := (h91.e (v := (.pointer (some ⟨b65, 0, none⟩))))) hB76_90 hB76_102 (by kernel_rfl) rfl (by simp only [List.length]; omega)) ?_
    refine V.pe h97 [] 1 0 [] fun a h103 => ?_
    refine V.cl h103 (Go.Proofs.enters_of Try.func16 (by kernel_rfl) rfl) (hD95.act i (at_ opR l (i : Int)) hgT (Gd.new hsd) (by omega) hoo63 (by omega)) ?_
    rintro _ w107 ⟨⟨bb106, rfl⟩, hD104, hfp105⟩
    refine ⟨_, rfl, fun a h108 => ?_⟩
    have hsw107 := hfp105.size
    have hF_109 := hF_99.trP hfp105 (fun k hk => .inr hk.1)
    have hS_110 := hS_100.frP hfp105 (fun k hz hp => by have h1 := hp.1; (try dsimp only at hz h1); omega)
    have hB76_111 := hB76_102.frP hfp105 (by exact fun hp => hp.2 (by simp))
    refine V.eh trivial ?_
    refine V.pz h108 [] 1 0 [] fun a h112 => k83 _ _ ?_
    refine V.sr h112 [(1, .b hB76_111 0)] 48 48 [(49, .int .i64 ((at_ opR l (i : Int)).kind))] fun a h115 => ?_
    refine V.block ?_
    refine V.sr h115 [(0, .eq ((at_ opR l (i : Int)).kind) 1)] 51 51 [(50, .bool (decide (((at_ opR l (i : Int)).kind) = 1)))] fun a h118 => ?_
    refine V.cp h118 (((at_ opR l (i : Int)).kind) = 1) (fun ht119 => ?_) (fun ht119 => ?_)
    ·
     refine V.pl [([0,1,2,4,5],some (3,[5])),([],some (6,[])),([],none)] fun w120 hF121 hsw120 => ?_
     have hF_122 := hF_109.new hF121
     have hS_123 := hS_110.fr0 hF121
     have hB76_124 := hB76_111.fr0 hF121
     have hD104_125 := hD104.fr0 hF121
     refine V.pe h118 [(2, .b hB76_124 1), (1, .b hB76_124 1)] 53 53 [(52, .pointer (some ⟨u17, 0, none⟩)), (54, .string ((at_ opR l (i : Int)).key)), (56, .pointer (some ⟨b65, 1, none⟩)), (57, .string ((at_ opR l (i : Int)).key))] fun a h126 => ?_
     refine V.cl h126 (Go.Proofs.enters_of Try.func10 (by kernel_rfl) rfl) (key_any w120 ((at_ opR l (i : Int)).key)) ?_
     rintro _ w128 ⟨rfl, hF127⟩
     refine ⟨_, rfl, fun a h129 => ?_⟩
     have hsw128 := hF127.size
     have hF_130 := hF_122.new hF127
     have hS_131 := hS_123.fr0 hF127
     have hB76_132 := hB76_124.fr0 hF127
     have hD104_133 := hD104_125.fr0 hF127
     have hkey127 := keyS_le ((at_ opR l (i : Int)).key)
     refine V.eh (fun _ => held_blk (n := 1) (hx := (h126.e (v := (.pointer (some ⟨b65, 1, none⟩))))) hB76_124 hB76_132 (by kernel_rfl) rfl (by simp only [List.length]; omega)) ?_
     refine V.pe h129 [] 1 0 [] fun a h134 => ?_
     refine V.cl h134 (Go.Proofs.enters_of Try.func25 (by kernel_rfl) rfl) (hD104_133.wr (by omega) (fun Hq hq hqb => S.put_any w128 Hq (b65 :: []) u17 (U) hq hgU.mv (keyS ((at_ opR l (i : Int)).key)) (by first | exact key_le _ | omega) ((at_ opR l (i : Int)).key) (by have := hgU.nn; omega))) ?_
     rintro _ w137 ⟨rfl, hD135, hfp136⟩
     refine ⟨_, rfl, fun a h138 => ?_⟩
     have hsw137 := hfp136.size
     have hF_139 := hF_130.trP hfp136 (fun k hk => .inr hk.1)
     have hS_140 := hS_131.frP hfp136 (fun k hz hp => by have h1 := hp.1; (try dsimp only at hz h1); omega)
     have hB76_141 := hB76_132.frP hfp136 (by exact fun hp => hp.2 (by simp))
     refine V.eh trivial ?_
     refine V.pz h138 [] 1 0 [] fun a h142 => ?_
     refine V.blk_n ?_
     refine V.blk_n ?_
     refine V.then_n (k54 _ _ ?_)
     refine V.rr h142 [(1, .i ((i : Int) + 1))] 37 38 [(7, .int .i64 ((i : Int) + 1))] fun a h143 => ?_
     refine V.then_n ?_
     have hup : A3 w w137 [] t8 (actT T (at_ opR l (i : Int))) u17 (actS U (at_ opR l (i : Int))) := by (rw [acts1 ht119]; exact hD135.sub (fun k hk => by cases hk))
     refine ⟨i + 1, actT T (at_ opR l (i : Int)), actS U (at_ opR l (i : Int)), by omega, ?_⟩
     refine ⟨(h143.eq 7 (v := (.int .i64 ((i : Int) + 1))) (u := (.int .i64 ((i + 1) : Int))) (V.int_eq (by omega))).only _, hup, hF_139, hS_140, (by omega), (hgT.act (by omega) _), (hgU.acts (by omega) _), (act_ks hkk _)⟩
    ·
     refine V.sr h118 [(0, .eq ((at_ opR l (i : Int)).kind) 2)] 60 60 [(59, .bool (decide (((at_ opR l (i : Int)).kind) = 2)))] fun a h146 => ?_
     refine V.cp h146 (((at_ opR l (i : Int)).kind) = 2) (fun ht147 => ?_) (fun ht147 => ?_)
     ·
      refine V.rg ?_
      refine V.run h146 [(2, .b hB76_111 1)] 3 62 62 [(61, .pointer (some ⟨u17, 0, none⟩)), (63, .string ((at_ opR l (i : Int)).key))] fun a h148 => ?_
      refine V.cl h148 (Go.Proofs.enters_of Try.func10 (by kernel_rfl) rfl) (key_any w107 ((at_ opR l (i : Int)).key)) ?_
      rintro _ w150 ⟨rfl, hF149⟩
      refine ⟨_, rfl, fun a h151 => ?_⟩
      have hsw150 := hF149.size
      have hF_152 := hF_109.new hF149
      have hS_153 := hS_110.fr0 hF149
      have hB76_154 := hB76_111.fr0 hF149
      have hD104_155 := hD104.fr0 hF149
      have hkey149 := keyS_le ((at_ opR l (i : Int)).key)
      refine V.cl h151 (Go.Proofs.enters_of Try.func26 (by kernel_rfl) rfl) (hD104_155.wr (by omega) (fun Hq hq hqb => S.get_any w150 Hq (b65 :: []) u17 (U) hq hgU.mv (keyS ((at_ opR l (i : Int)).key)) (by first | exact key_le _ | omega))) ?_
      rintro _ w158 ⟨rfl, hD156, hfp157⟩
      refine ⟨_, rfl, fun a h159 => ?_⟩
      have hsw158 := hfp157.size
      have hF_160 := hF_152.trP hfp157 (fun k hk => .inr hk.1)
      have hS_161 := hS_153.frP hfp157 (fun k hz hp => by have h1 := hp.1; (try dsimp only at hz h1); omega)
      have hB76_162 := hB76_154.frP hfp157 (by exact fun hp => hp.2 (by simp))
      refine V.nil ?_
      refine V.blk_n ?_
      refine V.blk_n ?_
      refine V.then_n (k54 _ _ ?_)
      refine V.rr h159 [(1, .i ((i : Int) + 1))] 37 38 [(7, .int .i64 ((i : Int) + 1))] fun a h163 => ?_
      refine V.then_n ?_
      have hup : A3 w w158 [] t8 (actT T (at_ opR l (i : Int))) u17 (actS U (at_ opR l (i : Int))) := by (rw [acts2 ht147]; exact hD156.sub (fun k hk => by cases hk))
      refine ⟨i + 1, actT T (at_ opR l (i : Int)), actS U (at_ opR l (i : Int)), by omega, ?_⟩
      refine ⟨(h163.eq 7 (v := (.int .i64 ((i : Int) + 1))) (u := (.int .i64 ((i + 1) : Int))) (V.int_eq (by omega))).only _, hup, hF_160, hS_161, (by omega), (hgT.act (by omega) _), (hgU.acts (by omega) _), (act_ks hkk _)⟩
     ·
      refine V.sr h146 [(0, .eq ((at_ opR l (i : Int)).kind) 3)] 67 67 [(66, .bool (decide (((at_ opR l (i : Int)).kind) = 3)))] fun a h166 => ?_
      refine V.cp h166 (((at_ opR l (i : Int)).kind) = 3) (fun ht167 => ?_) (fun ht167 => ?_)
      ·
       refine V.rg ?_
       refine V.run h166 [(2, .b hB76_111 1)] 3 69 69 [(68, .pointer (some ⟨u17, 0, none⟩)), (70, .string ((at_ opR l (i : Int)).key))] fun a h168 => ?_
       refine V.cl h168 (Go.Proofs.enters_of Try.func10 (by kernel_rfl) rfl) (key_any w107 ((at_ opR l (i : Int)).key)) ?_
       rintro _ w170 ⟨rfl, hF169⟩
       refine ⟨_, rfl, fun a h171 => ?_⟩
       have hsw170 := hF169.size
       have hF_172 := hF_109.new hF169
       have hS_173 := hS_110.fr0 hF169
       have hB76_174 := hB76_111.fr0 hF169
       have hD104_175 := hD104.fr0 hF169
       have hkey169 := keyS_le ((at_ opR l (i : Int)).key)
       refine V.cl h171 (Go.Proofs.enters_of Try.func27 (by kernel_rfl) rfl) (hD104_175.wr (by omega) (fun Hq hq hqb => S.del_any w170 Hq (b65 :: []) u17 (U) hq hgU.mv (keyS ((at_ opR l (i : Int)).key)) (by first | exact key_le _ | omega))) ?_
       rintro _ w178 ⟨rfl, hD176, hfp177⟩
       refine ⟨_, rfl, fun a h179 => ?_⟩
       have hsw178 := hfp177.size
       have hF_180 := hF_172.trP hfp177 (fun k hk => .inr hk.1)
       have hS_181 := hS_173.frP hfp177 (fun k hz hp => by have h1 := hp.1; (try dsimp only at hz h1); omega)
       have hB76_182 := hB76_174.frP hfp177 (by exact fun hp => hp.2 (by simp))
       refine V.nil ?_
       refine V.blk_n ?_
       refine V.blk_n ?_
       refine V.then_n (k54 _ _ ?_)
       refine V.rr h179 [(1, .i ((i : Int) + 1))] 37 38 [(7, .int .i64 ((i : Int) + 1))] fun a h183 => ?_
       refine V.then_n ?_
       have hup : A3 w w178 [] t8 (actT T (at_ opR l (i : Int))) u17 (actS U (at_ opR l (i : Int))) := by (rw [acts3 ht167]; exact hD176.sub (fun k hk => by cases hk))
       refine ⟨i + 1, actT T (at_ opR l (i : Int)), actS U (at_ opR l (i : Int)), by omega, ?_⟩
       refine ⟨(h183.eq 7 (v := (.int .i64 ((i : Int) + 1))) (u := (.int .i64 ((i + 1) : Int))) (V.int_eq (by omega))).only _, hup, hF_180, hS_181, (by omega), (hgT.act (by omega) _), (hgU.acts (by omega) _), (act_ks hkk _)⟩
      ·
       refine V.sr h166 [(0, .eq ((at_ opR l (i : Int)).kind) 5)] 74 74 [(73, .bool (decide (((at_ opR l (i : Int)).kind) = 5)))] fun a h186 => ?_
       refine V.cp h186 (((at_ opR l (i : Int)).kind) = 5) (fun ht187 => ?_) (fun ht187 => ?_)
       ·
        refine V.rg ?_
        refine V.run h186 [] 1 1 0 [(75, .pointer (some ⟨u17, 0, none⟩))] fun a h188 => ?_
        refine V.cl h188 (Go.Proofs.enters_of Try.func28 (by kernel_rfl) rfl) (hD104.wr (by omega) (fun Hq hq hqb => S.stepx_any w107 Hq (b65 :: []) u17 (U) hq hgU.mv )) ?_
        rintro _ w191 ⟨rfl, hD189, hfp190⟩
        refine ⟨_, rfl, fun a h192 => ?_⟩
        have hsw191 := hfp190.size
        have hF_193 := hF_109.trP hfp190 (fun k hk => .inr hk.1)
        have hS_194 := hS_110.frP hfp190 (fun k hz hp => by have h1 := hp.1; (try dsimp only at hz h1); omega)
        have hB76_195 := hB76_111.frP hfp190 (by exact fun hp => hp.2 (by simp))
        refine V.nil ?_
        refine V.blk_n ?_
        refine V.blk_n ?_
        refine V.then_n (k54 _ _ ?_)
        refine V.rr h192 [(1, .i ((i : Int) + 1))] 37 38 [(7, .int .i64 ((i : Int) + 1))] fun a h196 => ?_
        refine V.then_n ?_
        have hup : A3 w w191 [] t8 (actT T (at_ opR l (i : Int))) u17 (actS U (at_ opR l (i : Int))) := by (rw [acts5 ht187]; exact hD189.sub (fun k hk => by cases hk))
        refine ⟨i + 1, actT T (at_ opR l (i : Int)), actS U (at_ opR l (i : Int)), by omega, ?_⟩
        refine ⟨(h196.eq 7 (v := (.int .i64 ((i : Int) + 1))) (u := (.int .i64 ((i + 1) : Int))) (V.int_eq (by omega))).only _, hup, hF_193, hS_194, (by omega), (hgT.act (by omega) _), (hgU.acts (by omega) _), (act_ks hkk _)⟩
       ·
        refine V.skip ?_
        refine V.blk_n ?_
        refine V.blk_n ?_
        refine V.then_n (k54 _ _ ?_)
        refine V.rr h186 [(1, .i ((i : Int) + 1))] 37 38 [(7, .int .i64 ((i : Int) + 1))] fun a h197 => ?_
        refine V.then_n ?_
        have hup : A3 w w107 [] t8 (actT T (at_ opR l (i : Int))) u17 (actS U (at_ opR l (i : Int))) := by (rw [acts0 ht119 ht147 ht167 ht187]; exact hD104.sub (fun k hk => by cases hk))
        refine ⟨i + 1, actT T (at_ opR l (i : Int)), actS U (at_ opR l (i : Int)), by omega, ?_⟩
        refine ⟨(h197.eq 7 (v := (.int .i64 ((i : Int) + 1))) (u := (.int .i64 ((i + 1) : Int))) (V.int_eq (by omega))).only _, hup, hF_109, hS_110, (by omega), (hgT.act (by omega) _), (hgU.acts (by omega) _), (act_ks hkk _)⟩
   ·
    refine V.exit ?_
    refine V.then_e ?_
    refine V.then_e ?_
    refine V.blk_hit ?_
    refine V.then_n (k33 _ _ ?_)
    refine V.sg fun K198 k199 => ?_
    refine V.run h51 [] 1 1 0 [(77, .pointer (some ⟨t8, 0, none⟩))] fun a h200 => ?_
    have hnn5 := hgT.nn
    refine V.cl h200 (Go.Proofs.enters_of Try.func20 (by kernel_rfl) rfl) (hD_40.rd (fun Hq hq hqb => litems_any w38 Hq ([]) t8 (T) hq hqb (by omega))) ?_
    rintro _ w206 ⟨A202, c203, rfl, hO204, hF201⟩
    refine ⟨_, rfl, fun a h207 => ?_⟩
    have hsw206 := hF201.size
    have hD_208 := hD_40.fr0 hF201
    have hF_209 := hF_41.new hF201
    have hS_210 := hS_42.fr0 hF201
    obtain ⟨nW, hnW⟩ : ∃ n, n = w206.heap.size := ⟨_, rfl⟩
    have hS205 := hO204.read (Z' := fun k => w38.heap.size ≤ k ∧ k < nW) (fun _ _ h => h.elim) (fun b hb hl => ⟨hb, by omega⟩)
    refine V.go (V.mk [] trivial (by kernel_rfl) [.slice none 0 0] 42 (fun b => .pointer (some ⟨b, 0, none⟩)) (by kernel_rfl) ?_)
    intro w212 b211 heb211 hB213 hF214 hsb211
    have hD_215 := hD_208.alloc hF214 heb211 (by omega)
    have hF_216 := hF_209.new hF214
    have hS_217 := hS_210.fr0 hF214
    have hS205_218 := hS205.fr0 hF214
    refine V.pt h207 fun a h219 => ?_
    refine V.go (V.stn b211 0 (.slice A202 T.n c203) [.slice A202 T.n c203] h219.e h219.e rfl rfl (by kernel_rfl) hB213 (by simp) [.slice A202 T.n c203] rfl ?_)
    intro w220 hB221 hF222 hsw220
    have hD_223 := hD_215.fr hF222 (by intro k hk; simp only [List.mem_singleton] at hk; subst hk; first | exact .inl (by simp) | exact .inr (fun hq => by (try dsimp only at hq); omega))
    have hF_224 := hF_216.own hF222 (by simp <;> omega)
    have hS_225 := hS_217.fr hF222 (by simp <;> omega)
    have hS205_226 := hS205_218.fr hF222 (by simp <;> omega)
    refine V.nt (k199 _ _ ?_)
    refine V.sg fun K227 k228 => ?_
    refine V.go (V.mk [] trivial (by kernel_rfl) [.int .i64 0] 3 (fun b => .pointer (some ⟨b, 0, none⟩)) (by kernel_rfl) ?_)
    intro w230 b229 heb229 hB231 hF232 hsb229
    have hD_233 := hD_223.alloc hF232 heb229 (by omega)
    have hF_234 := hF_224.new hF232
    have hS_235 := hS_225.fr0 hF232
    have hS205_236 := hS205_226.fr0 hF232
    have hB221_237 := hB221.fr0 hF232
    refine V.pt h219 fun a h238 => ?_
    refine V.go (V.mk [] trivial (by kernel_rfl) [.bool false] 4 (fun b => .pointer (some ⟨b, 0, none⟩)) (by kernel_rfl) ?_)
    intro w240 b239 heb239 hB241 hF242 hsb239
    have hD_243 := hD_233.alloc hF242 heb239 (by omega)
    have hF_244 := hF_234.new hF242
    have hS_245 := hS_235.fr0 hF242
    have hS205_246 := hS205_236.fr0 hF242
    have hB221_247 := hB221_237.fr0 hF242
    have hB231_248 := hB231.fr0 hF242
    refine V.pt h238 fun a h249 => ?_
    refine V.go (V.stn b229 0 (.int .i64 0) [.int .i64 0] h249.e evc rfl rfl (by kernel_rfl) hB231_248 (by simp) [.int .i64 0] rfl ?_)
    intro w250 hB251 hF252 hsw250
    have hD_253 := hD_243.fr hF252 (by intro k hk; simp only [List.mem_singleton] at hk; subst hk; first | exact .inl (by simp) | exact .inr (fun hq => by (try dsimp only at hq); omega))
    have hF_254 := hF_244.own hF252 (by simp <;> omega)
    have hS_255 := hS_245.fr hF252 (by simp <;> omega)
    have hS205_256 := hS205_246.fr hF252 (by simp <;> omega)
    have hB221_257 := hB221_247.fr1 hF252 (by omega)
    have hB241_258 := hB241.fr1 hF252 (by omega)
    refine V.go (V.stn b239 0 (.bool true) [.bool true] h249.e evc rfl rfl (by kernel_rfl) hB241_258 (by simp) [.bool true] rfl ?_)
    intro w259 hB260 hF261 hsw259
    have hD_262 := hD_253.fr hF261 (by intro k hk; simp only [List.mem_singleton] at hk; subst hk; first | exact .inl (by simp) | exact .inr (fun hq => by (try dsimp only at hq); omega))
    have hF_263 := hF_254.own hF261 (by simp <;> omega)
    have hS_264 := hS_255.fr hF261 (by simp <;> omega)
    have hS205_265 := hS205_256.fr hF261 (by simp <;> omega)
    have hB221_266 := hB221_257.fr1 hF261 (by omega)
    have hB251_267 := hB251.fr1 hF261 (by omega)
    refine V.nt (k228 _ _ ?_)
    refine V.sg fun K268 k269 => ?_
    refine V.run h249 [] 1 1 0 [(79, .pointer (some ⟨u17, 0, none⟩))] fun a h270 => ?_
    refine V.cl h270 (Go.Proofs.enters_of Try.func29 (by kernel_rfl) rfl) (S.all_any w259 (some ⟨u17, 0, none⟩)) ?_
    rintro _ w274 ⟨b273, rfl, hB272, hleb273, hF271⟩
    refine ⟨_, rfl, fun a h275 => ?_⟩
    have hsw274 := hF271.size
    have hD_276 := hD_262.fr0 hF271
    have hF_277 := hF_263.new hF271
    have hS_278 := hS_264.fr0 hF271
    have hS205_279 := hS205_265.fr0 hF271
    have hB221_280 := hB221_266.fr0 hF271
    have hB251_281 := hB251_267.fr0 hF271
    have hB260_282 := hB260.fr0 hF271
    have hlthB272 := hB272.lt
    refine V.re h275 [] 1 0 [(12, .func (.func 62) #[] #[.pointer (some ⟨b273, 0, none⟩)])] fun a h283 => k269 _ _ ?_
    refine V.seq fun K284 k285 => ?_
    refine V.sr h283 [] 81 81 [(82, .bool false)] fun a h288 => ?_
    refine V.cf h288 ?_
    refine V.skip ?_
    refine V.then_n (k285 _ _ ?_)
    refine V.seq fun K289 k290 => ?_
    have hsz := ks_sizes hkk
    refine V.rg ?_
    refine V.run h288 [] 2 1 0 [(83, .func (.func 62) #[] #[.pointer (some ⟨b273, 0, none⟩)]), (84, .func (.func 30) #[] #[.pointer (some ⟨b239, 0, none⟩), .pointer (some ⟨b229, 0, none⟩), .pointer (some ⟨b211, 0, none⟩)])] fun a h291 => ?_
    have hlt296 := hB260_282.lt
    have hlt297 := hB251_281.lt
    have hlt298 := hB221_280.lt
    refine V.cl h291 (Go.Proofs.enters_of Try.func62 (by kernel_rfl) rfl) (hD_276.rdU (fun Hq hq hqb => any_run w274 Hq (b239 :: b229 :: b211 :: []) u17 (U) hq hqb b273 hB272 b239 b229 b211 A202 c203 hB260_282 hB251_281 w38.heap.size nW (T) hB221_280 hgT.ok hkk hS205_279 (by have := hgT.nn; omega) (by omega) (by omega))) ?_
    rintro _ w299 ⟨⟨v295, rfl⟩, hB292, hB293, hF294⟩
    refine ⟨_, rfl, fun a h300 => ?_⟩
    have hsw299 := hF294.size
    have hD_301 := hD_276.fr hF294 (by intro k hk; simp only [List.mem_cons, List.not_mem_nil, or_false] at hk; rcases hk with hk | hk <;> subst hk <;> first | exact .inl (by simp) | exact .inr (fun hq => by (try dsimp only at hq); omega))
    have hF_302 := hF_277.own hF294 (by simp <;> omega)
    have hS_303 := hS_278.fr hF294 (by simp <;> omega)
    have hS205_304 := hS205_279.fr hF294 (by simp <;> omega)
    have hB221_305 := hB221_280.fr hF294 (by simp <;> omega)
    have hB272_306 := hB272.fr hF294 (by simp <;> omega)
    refine V.nt (k290 _ _ ?_)
    refine V.sg fun K307 k308 => ?_
    refine V.run h300 [] 1 1 0 [(87, .pointer (some ⟨t8, 0, none⟩))] fun a h309 => ?_
    refine V.cl h309 (Go.Proofs.enters_of Try.func17 (by kernel_rfl) rfl) (hD_301.rd (fun Hq hq hqb => sizes_any w299 Hq (b239 :: b229 :: b211 :: []) t8 (T) hq )) ?_
    rintro _ w315 ⟨rfl, hF310⟩
    refine ⟨_, rfl, fun a h316 => ?_⟩
    have hsw315 := hF310.size
    have hD_317 := hD_301.fr0 hF310
    have hF_318 := hF_302.new hF310
    have hS_319 := hS_303.fr0 hF310
    have hS205_320 := hS205_304.fr0 hF310
    have hB221_321 := hB221_305.fr0 hF310
    have hB272_322 := hB272_306.fr0 hF310
    have hB292_323 := hB292.fr0 hF310
    have hB293_324 := hB293.fr0 hF310
    refine V.re h316 [] 86 91 [(13, .int .i64 ((T.a.length : Nat) : Int)), (14, .int .i64 ((T.b.length : Nat) : Int)), (15, .int .i64 ((T.moved : Nat) : Int))] fun a h325 => k308 _ _ ?_
    refine V.sg fun K326 k327 => ?_
    refine V.run h325 [] 1 1 0 [(93, .pointer (some ⟨u17, 0, none⟩))] fun a h328 => ?_
    refine V.cl (av := #[.pointer (some ⟨u17, 0, none⟩)]) h328 (Go.Proofs.enters_of Try.func31 (by kernel_rfl) rfl) (by (have h := hD_317.rdU (fun Hq hq hqb => S.sizes_any w315 Hq (b239 :: b229 :: b211 :: []) u17 (U) hq); rw [← hsz.1, ← hsz.2.1, ← hsz.2.2.1] at h; exact h)) ?_
    rintro _ w330 ⟨rfl, hF329⟩
    refine ⟨_, rfl, fun a h331 => ?_⟩
    have hsw330 := hF329.size
    have hD_332 := hD_317.fr0 hF329
    have hF_333 := hF_318.new hF329
    have hS_334 := hS_319.fr0 hF329
    have hS205_335 := hS205_320.fr0 hF329
    have hB221_336 := hB221_321.fr0 hF329
    have hB272_337 := hB272_322.fr0 hF329
    have hB292_338 := hB292_323.fr0 hF329
    have hB293_339 := hB293_324.fr0 hF329
    refine V.re h331 [] 92 97 [(16, .int .i64 ((T.a.length : Nat) : Int)), (17, .int .i64 ((T.b.length : Nat) : Int)), (18, .int .i64 ((T.moved : Nat) : Int))] fun a h340 => k327 _ _ ?_
    refine V.sg fun K341 k342 => ?_
    refine V.run h340 [(0, .b hB292_338 0), (1, .b hB293_339 0), (0, .b hB221_336 0), (1, .q (.bool true) (V.t_same ((T.n : Nat) : Int))), (4, .q (.bool true) (V.t_same ((T.a.length : Nat) : Int))), (4, .q (.bool true) (V.t_same ((T.b.length : Nat) : Int))), (4, .q (.bool true) (V.t_same ((T.moved : Nat) : Int)))] 23 98 119 [(120, .bool true)] fun a h343 => ?_
    refine V.clg h343 (Go.Proofs.enters_of Try.func13 (by kernel_rfl) rfl) (alive_any w330) ?_
    rintro _ w345 ⟨rfl, hF344⟩
    refine ⟨_, rfl, fun a h346 => ?_⟩
    have hsw345 := hF344.size
    have hD_347 := hD_332.fr0 hF344
    have hF_348 := hF_333.new hF344
    have hS_349 := hS_334.fr0 hF344
    have hS205_350 := hS205_335.fr0 hF344
    have hB221_351 := hB221_336.fr0 hF344
    have hB272_352 := hB272_337.fr0 hF344
    have hB292_353 := hB292_338.fr0 hF344
    have hB293_354 := hB293_339.fr0 hF344
    refine V.re h346 [] 122 122 [(4, .bool true)] fun a h355 => k342 _ _ ?_
    have h356 := h355.only [(4, .bool true)]
    refine V.ret ?_
    refine V.r1 h356 (.bool true) ?_
    exact ⟨rfl, hF_348⟩
  ·
   have h357 := h48.kf 33 hg49
   refine V.re h357 [] 34 35 [(36, .bool false)] fun a h358 => k47 _ _ ?_
   refine V.cf h358 ?_
   refine V.exit ?_
   refine V.then_e ?_
   refine V.then_e ?_
   refine V.blk_hit ?_
   refine V.then_n (k33 _ _ ?_)
   refine V.sg fun K359 k360 => ?_
   refine V.run h358 [] 1 1 0 [(77, .pointer (some ⟨t8, 0, none⟩))] fun a h361 => ?_
   have hnn5 := hgT.nn
   refine V.cl h361 (Go.Proofs.enters_of Try.func20 (by kernel_rfl) rfl) (hD_40.rd (fun Hq hq hqb => litems_any w38 Hq ([]) t8 (T) hq hqb (by omega))) ?_
   rintro _ w367 ⟨A363, c364, rfl, hO365, hF362⟩
   refine ⟨_, rfl, fun a h368 => ?_⟩
   have hsw367 := hF362.size
   have hD_369 := hD_40.fr0 hF362
   have hF_370 := hF_41.new hF362
   have hS_371 := hS_42.fr0 hF362
   obtain ⟨nW, hnW⟩ : ∃ n, n = w367.heap.size := ⟨_, rfl⟩
   have hS366 := hO365.read (Z' := fun k => w38.heap.size ≤ k ∧ k < nW) (fun _ _ h => h.elim) (fun b hb hl => ⟨hb, by omega⟩)
   refine V.go (V.mk [] trivial (by kernel_rfl) [.slice none 0 0] 42 (fun b => .pointer (some ⟨b, 0, none⟩)) (by kernel_rfl) ?_)
   intro w373 b372 heb372 hB374 hF375 hsb372
   have hD_376 := hD_369.alloc hF375 heb372 (by omega)
   have hF_377 := hF_370.new hF375
   have hS_378 := hS_371.fr0 hF375
   have hS366_379 := hS366.fr0 hF375
   refine V.pt h368 fun a h380 => ?_
   refine V.go (V.stn b372 0 (.slice A363 T.n c364) [.slice A363 T.n c364] h380.e h380.e rfl rfl (by kernel_rfl) hB374 (by simp) [.slice A363 T.n c364] rfl ?_)
   intro w381 hB382 hF383 hsw381
   have hD_384 := hD_376.fr hF383 (by intro k hk; simp only [List.mem_singleton] at hk; subst hk; first | exact .inl (by simp) | exact .inr (fun hq => by (try dsimp only at hq); omega))
   have hF_385 := hF_377.own hF383 (by simp <;> omega)
   have hS_386 := hS_378.fr hF383 (by simp <;> omega)
   have hS366_387 := hS366_379.fr hF383 (by simp <;> omega)
   refine V.nt (k360 _ _ ?_)
   refine V.sg fun K388 k389 => ?_
   refine V.go (V.mk [] trivial (by kernel_rfl) [.int .i64 0] 3 (fun b => .pointer (some ⟨b, 0, none⟩)) (by kernel_rfl) ?_)
   intro w391 b390 heb390 hB392 hF393 hsb390
   have hD_394 := hD_384.alloc hF393 heb390 (by omega)
   have hF_395 := hF_385.new hF393
   have hS_396 := hS_386.fr0 hF393
   have hS366_397 := hS366_387.fr0 hF393
   have hB382_398 := hB382.fr0 hF393
   refine V.pt h380 fun a h399 => ?_
   refine V.go (V.mk [] trivial (by kernel_rfl) [.bool false] 4 (fun b => .pointer (some ⟨b, 0, none⟩)) (by kernel_rfl) ?_)
   intro w401 b400 heb400 hB402 hF403 hsb400
   have hD_404 := hD_394.alloc hF403 heb400 (by omega)
   have hF_405 := hF_395.new hF403
   have hS_406 := hS_396.fr0 hF403
   have hS366_407 := hS366_397.fr0 hF403
   have hB382_408 := hB382_398.fr0 hF403
   have hB392_409 := hB392.fr0 hF403
   refine V.pt h399 fun a h410 => ?_
   refine V.go (V.stn b390 0 (.int .i64 0) [.int .i64 0] h410.e evc rfl rfl (by kernel_rfl) hB392_409 (by simp) [.int .i64 0] rfl ?_)
   intro w411 hB412 hF413 hsw411
   have hD_414 := hD_404.fr hF413 (by intro k hk; simp only [List.mem_singleton] at hk; subst hk; first | exact .inl (by simp) | exact .inr (fun hq => by (try dsimp only at hq); omega))
   have hF_415 := hF_405.own hF413 (by simp <;> omega)
   have hS_416 := hS_406.fr hF413 (by simp <;> omega)
   have hS366_417 := hS366_407.fr hF413 (by simp <;> omega)
   have hB382_418 := hB382_408.fr1 hF413 (by omega)
   have hB402_419 := hB402.fr1 hF413 (by omega)
   refine V.go (V.stn b400 0 (.bool true) [.bool true] h410.e evc rfl rfl (by kernel_rfl) hB402_419 (by simp) [.bool true] rfl ?_)
   intro w420 hB421 hF422 hsw420
   have hD_423 := hD_414.fr hF422 (by intro k hk; simp only [List.mem_singleton] at hk; subst hk; first | exact .inl (by simp) | exact .inr (fun hq => by (try dsimp only at hq); omega))
   have hF_424 := hF_415.own hF422 (by simp <;> omega)
   have hS_425 := hS_416.fr hF422 (by simp <;> omega)
   have hS366_426 := hS366_417.fr hF422 (by simp <;> omega)
   have hB382_427 := hB382_418.fr1 hF422 (by omega)
   have hB412_428 := hB412.fr1 hF422 (by omega)
   refine V.nt (k389 _ _ ?_)
   refine V.sg fun K429 k430 => ?_
   refine V.run h410 [] 1 1 0 [(79, .pointer (some ⟨u17, 0, none⟩))] fun a h431 => ?_
   refine V.cl h431 (Go.Proofs.enters_of Try.func29 (by kernel_rfl) rfl) (S.all_any w420 (some ⟨u17, 0, none⟩)) ?_
   rintro _ w435 ⟨b434, rfl, hB433, hleb434, hF432⟩
   refine ⟨_, rfl, fun a h436 => ?_⟩
   have hsw435 := hF432.size
   have hD_437 := hD_423.fr0 hF432
   have hF_438 := hF_424.new hF432
   have hS_439 := hS_425.fr0 hF432
   have hS366_440 := hS366_426.fr0 hF432
   have hB382_441 := hB382_427.fr0 hF432
   have hB412_442 := hB412_428.fr0 hF432
   have hB421_443 := hB421.fr0 hF432
   have hlthB433 := hB433.lt
   refine V.re h436 [] 1 0 [(12, .func (.func 62) #[] #[.pointer (some ⟨b434, 0, none⟩)])] fun a h444 => k430 _ _ ?_
   refine V.seq fun K445 k446 => ?_
   refine V.sr h444 [] 81 81 [(82, .bool false)] fun a h449 => ?_
   refine V.cf h449 ?_
   refine V.skip ?_
   refine V.then_n (k446 _ _ ?_)
   refine V.seq fun K450 k451 => ?_
   have hsz := ks_sizes hkk
   refine V.rg ?_
   refine V.run h449 [] 2 1 0 [(83, .func (.func 62) #[] #[.pointer (some ⟨b434, 0, none⟩)]), (84, .func (.func 30) #[] #[.pointer (some ⟨b400, 0, none⟩), .pointer (some ⟨b390, 0, none⟩), .pointer (some ⟨b372, 0, none⟩)])] fun a h452 => ?_
   have hlt457 := hB421_443.lt
   have hlt458 := hB412_442.lt
   have hlt459 := hB382_441.lt
   refine V.cl h452 (Go.Proofs.enters_of Try.func62 (by kernel_rfl) rfl) (hD_437.rdU (fun Hq hq hqb => any_run w435 Hq (b400 :: b390 :: b372 :: []) u17 (U) hq hqb b434 hB433 b400 b390 b372 A363 c364 hB421_443 hB412_442 w38.heap.size nW (T) hB382_441 hgT.ok hkk hS366_440 (by have := hgT.nn; omega) (by omega) (by omega))) ?_
   rintro _ w460 ⟨⟨v456, rfl⟩, hB453, hB454, hF455⟩
   refine ⟨_, rfl, fun a h461 => ?_⟩
   have hsw460 := hF455.size
   have hD_462 := hD_437.fr hF455 (by intro k hk; simp only [List.mem_cons, List.not_mem_nil, or_false] at hk; rcases hk with hk | hk <;> subst hk <;> first | exact .inl (by simp) | exact .inr (fun hq => by (try dsimp only at hq); omega))
   have hF_463 := hF_438.own hF455 (by simp <;> omega)
   have hS_464 := hS_439.fr hF455 (by simp <;> omega)
   have hS366_465 := hS366_440.fr hF455 (by simp <;> omega)
   have hB382_466 := hB382_441.fr hF455 (by simp <;> omega)
   have hB433_467 := hB433.fr hF455 (by simp <;> omega)
   refine V.nt (k451 _ _ ?_)
   refine V.sg fun K468 k469 => ?_
   refine V.run h461 [] 1 1 0 [(87, .pointer (some ⟨t8, 0, none⟩))] fun a h470 => ?_
   refine V.cl h470 (Go.Proofs.enters_of Try.func17 (by kernel_rfl) rfl) (hD_462.rd (fun Hq hq hqb => sizes_any w460 Hq (b400 :: b390 :: b372 :: []) t8 (T) hq )) ?_
   rintro _ w476 ⟨rfl, hF471⟩
   refine ⟨_, rfl, fun a h477 => ?_⟩
   have hsw476 := hF471.size
   have hD_478 := hD_462.fr0 hF471
   have hF_479 := hF_463.new hF471
   have hS_480 := hS_464.fr0 hF471
   have hS366_481 := hS366_465.fr0 hF471
   have hB382_482 := hB382_466.fr0 hF471
   have hB433_483 := hB433_467.fr0 hF471
   have hB453_484 := hB453.fr0 hF471
   have hB454_485 := hB454.fr0 hF471
   refine V.re h477 [] 86 91 [(13, .int .i64 ((T.a.length : Nat) : Int)), (14, .int .i64 ((T.b.length : Nat) : Int)), (15, .int .i64 ((T.moved : Nat) : Int))] fun a h486 => k469 _ _ ?_
   refine V.sg fun K487 k488 => ?_
   refine V.run h486 [] 1 1 0 [(93, .pointer (some ⟨u17, 0, none⟩))] fun a h489 => ?_
   refine V.cl (av := #[.pointer (some ⟨u17, 0, none⟩)]) h489 (Go.Proofs.enters_of Try.func31 (by kernel_rfl) rfl) (by (have h := hD_478.rdU (fun Hq hq hqb => S.sizes_any w476 Hq (b400 :: b390 :: b372 :: []) u17 (U) hq); rw [← hsz.1, ← hsz.2.1, ← hsz.2.2.1] at h; exact h)) ?_
   rintro _ w491 ⟨rfl, hF490⟩
   refine ⟨_, rfl, fun a h492 => ?_⟩
   have hsw491 := hF490.size
   have hD_493 := hD_478.fr0 hF490
   have hF_494 := hF_479.new hF490
   have hS_495 := hS_480.fr0 hF490
   have hS366_496 := hS366_481.fr0 hF490
   have hB382_497 := hB382_482.fr0 hF490
   have hB433_498 := hB433_483.fr0 hF490
   have hB453_499 := hB453_484.fr0 hF490
   have hB454_500 := hB454_485.fr0 hF490
   refine V.re h492 [] 92 97 [(16, .int .i64 ((T.a.length : Nat) : Int)), (17, .int .i64 ((T.b.length : Nat) : Int)), (18, .int .i64 ((T.moved : Nat) : Int))] fun a h501 => k488 _ _ ?_
   refine V.sg fun K502 k503 => ?_
   refine V.run h501 [(0, .b hB453_499 0), (1, .b hB454_500 0), (0, .b hB382_497 0), (1, .q (.bool true) (V.t_same ((T.n : Nat) : Int))), (4, .q (.bool true) (V.t_same ((T.a.length : Nat) : Int))), (4, .q (.bool true) (V.t_same ((T.b.length : Nat) : Int))), (4, .q (.bool true) (V.t_same ((T.moved : Nat) : Int)))] 23 98 119 [(120, .bool true)] fun a h504 => ?_
   refine V.clg h504 (Go.Proofs.enters_of Try.func13 (by kernel_rfl) rfl) (alive_any w491) ?_
   rintro _ w506 ⟨rfl, hF505⟩
   refine ⟨_, rfl, fun a h507 => ?_⟩
   have hsw506 := hF505.size
   have hD_508 := hD_493.fr0 hF505
   have hF_509 := hF_494.new hF505
   have hS_510 := hS_495.fr0 hF505
   have hS366_511 := hS366_496.fr0 hF505
   have hB382_512 := hB382_497.fr0 hF505
   have hB433_513 := hB433_498.fr0 hF505
   have hB453_514 := hB453_499.fr0 hF505
   have hB454_515 := hB454_500.fr0 hF505
   refine V.re h507 [] 122 122 [(4, .bool true)] fun a h516 => k503 _ _ ?_
   have h517 := h516.only [(4, .bool true)]
   refine V.ret ?_
   refine V.r1 h517 (.bool true) ?_
   exact ⟨rfl, hF_509⟩
end Go.Proofs.Ytalhmegjomfbaaa
