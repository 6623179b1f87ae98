/- What the laws know of the tables. -/
import Derived.Test.YtalhmegjomfbaaaProg
import Derived.Test.YtalhmegjomfbaaaAc
import Derived.Test.YtalhmegjomfbaaaTh
namespace Go.Proofs.Ytalhmegjomfbaaa
open Go.V Go.Base
open Go.RowKit (Below)
attribute [local irreducible] Act.put Act.eval
set_option linter.unusedVariables false
set_option linter.unusedSimpArgs false
/-- An act as it lies in cells. -/
def opR : Rp OpD where
  dflt := ⟨0, ⟨#[]⟩, 0, 0⟩
  sz := 4
  ok := fun _ _ x cs => cs = [.int .i64 x.kind, .string x.key, .int .i64 x.v, .int .u64 (x.draw : Int)] ∧ x.ok
  len := by rintro _ _ x cs ⟨rfl, _⟩; rfl
  one := by rintro _ _ x cs ⟨rfl, _⟩ u hu; simp at hu; rcases hu with rfl | rfl | rfl | rfl <;> rfl
  mono := by rintro _ _ _ _ x cs _ _ h; exact h
/-- The program's table alone. -/
def D1 (Z : Nat → Prop) (w : World) (av : List Nat) (t : Nat) (T : Tb Int) : Prop := ∃ Ht : Nat → Prop, TabX 67 87 86 itI w Ht av t T ∧ ∀ k, Ht k → Z k ∧ k < w.heap.size
section
variable {Z Z' : Nat → Prop} {w w1 w2 : World} {av av' : List Nat} {t r : Nat} {T U : Tb Int}
theorem D1.new (h1 : TabX 67 87 86 itI w1 (gr (fun _ => False) w w1) av t T) (hz : ∀ k, w.heap.size ≤ k → Z k) : D1 Z w1 av t T :=
  ⟨_, h1, fun k hk => by
    rcases hk with hk | hk
    · exact hk.elim
    · exact ⟨hz k hk.1, hk.2⟩⟩
theorem D1.two (h1 : D1 Z w1 av t T) (f : Fr [] w w1) (h2 : TabX 40 42 60 itI w1 (gr (fun _ => False) w w1) av r U) (h0 : D1 Z w av t T) (hz : ∀ k, w.heap.size ≤ k → Z k) : D2 Z w1 av t T r U := by
  obtain ⟨Ht, h3, h4⟩ := h0
  have hs := f.size
  exact ⟨Ht, _, h3.fr0 f, h2, fun k hk => ⟨(h4 k hk).1, by have := (h4 k hk).2; omega, fun hr => by
    rcases hr with hr | hr
    · exact hr
    · have := (h4 k hk).2; omega⟩, fun k hk => by
    rcases hk with hk | hk
    · exact hk.elim
    · exact ⟨hz k hk.1, hk.2⟩⟩
theorem D2.one (h : D2 Z w av t T r U) : D1 Z w av t T := by
  obtain ⟨Ht, Hr, h1, h2, h3, h4⟩ := h
  exact ⟨Ht, h1, fun k hk => ⟨(h3 k hk).1, (h3 k hk).2.1⟩⟩
theorem D1.frP (h : D1 Z w av t T) {p : Nat → Prop} (f : FrP p w w1) (hl : ∀ k, p k → k ∈ av ∨ ¬ Z k) : D1 Z w1 av t T := by
  obtain ⟨Ht, h1, h3⟩ := h
  have hs := f.size
  exact ⟨Ht, h1.frP f fun k hk => (hl k hk).imp id fun q hq => q (h3 k hq).1, fun k hk => ⟨(h3 k hk).1, by have := (h3 k hk).2; omega⟩⟩
theorem D1.fr (h : D1 Z w av t T) {l : List Nat} (f : Fr l w w1) (hl : ∀ k ∈ l, k ∈ av ∨ ¬ Z k) : D1 Z w1 av t T := h.frP (FrP.of f) hl
theorem D1.fr0 (h : D1 Z w av t T) (f : Fr [] w w1) : D1 Z w1 av t T := h.fr f fun k hk => by cases hk
theorem D1.alloc (h : D1 Z w av t T) (f : Fr [] w w1) {b : Nat} (hb : b = w.heap.size) (hlt : b < w1.heap.size) : D1 Z w1 (b :: av) t T := by
  obtain ⟨Ht, h1, h3⟩ := h
  have hs := f.size
  exact ⟨Ht, h1.alloc f hb hlt, fun k hk => ⟨(h3 k hk).1, by have := (h3 k hk).2; omega⟩⟩
theorem D1.sub (h : D1 Z w av t T) (hs : ∀ k ∈ av', k ∈ av) : D1 Z w av' t T := by
  obtain ⟨Ht, h1, h3⟩ := h
  exact ⟨Ht, h1.sub hs fun _ _ q => q, h3⟩
theorem D1.mono (h : D1 Z w av t T) (hz : ∀ k, k < w.heap.size → Z k → Z' k) : D1 Z' w av t T := by
  obtain ⟨Ht, h1, h3⟩ := h
  exact ⟨Ht, h1, fun k hk => ⟨hz k (h3 k hk).2 (h3 k hk).1, (h3 k hk).2⟩⟩
theorem D1.rd {P : Program} {f : FuncId} {args : Array Value} {R : Ending → World → Prop} (h : D1 Z w av t T) (hc : ∀ H, TabX 67 87 86 itI w H av t T → (∀ k, H k → k < w.heap.size) → Calls P f args w R) : Calls P f args w R := by
  obtain ⟨H, hq, hqb⟩ := h
  exact hc H hq fun k hk => (hqb k hk).2
theorem D2.blkU (h : D2 Z w av t T r U) : ∃ v0 A c B d, Blk w r [v0, .slice A U.a.length c, .slice B U.b.length d, .int .i64 (U.moved : Int), .int .i64 (U.n : Int)] 40 := by
  obtain ⟨Ht, Hr, h1, h2, h3, h4⟩ := h
  rcases h2.2 with ⟨hb, gA, vsA, h⟩ | ⟨hb, gA, gB, vsA, vsB, h⟩
  · have hq := h.blk
    have h0 : U.b.length = 0 := by rw [hb]; rfl
    exact ⟨.int .u64 (U.seed : Int), some ⟨gA, 0, none⟩, U.a.length, none, 0, by rw [h0]; exact hq⟩
  · exact ⟨_, _, _, _, _, h.blk⟩
theorem act_same (w : World) (Z : Nat → Prop) (av : List Nat) (t r : Nat) (T : Tb Int) (N : Nat) (o : OpD) (hD : D2 Z w av t T r T) (hgT : Gd T N) (hN : N < 1000000) (ho : o.ok) (hz : ∀ k, w.heap.size ≤ k → Z k) :
    Calls Try.prog 16 #[.pointer (some ⟨t, 0, none⟩), .pointer (some ⟨r, 0, none⟩), .agg #[.int .i64 o.kind, .string o.key, .int .i64 o.v, .int .u64 (o.draw : Int)]] w (fun e w' => e = .returned (.bool true) ∧ D2 Z w' av t (actT T o) r (actT T o) ∧ FrP (zn Z av) w w') :=
  (act_any w Z av t r T T N o hD hgT hgT hN ho hz).mono fun e w' ⟨b, he, hb, q⟩ => ⟨by rw [he, hb rfl], q⟩
theorem act_new (w : World) (Z : Nat → Prop) (av : List Nat) (t r : Nat) (T U : Tb Int) (N : Nat) (o : OpD) (hD : D2 Z w av t T r U) (hgT : Gd T N) (hgU : Gd U 0) (hN : N < 1000000) (ho : o.ok) (hz : ∀ k, w.heap.size ≤ k → Z k) :
    Calls Try.prog 16 #[.pointer (some ⟨t, 0, none⟩), .pointer (some ⟨r, 0, none⟩), .agg #[.int .i64 o.kind, .string o.key, .int .i64 o.v, .int .u64 (o.draw : Int)]] w (fun e w' => (∃ b, e = .returned (.bool b)) ∧ D1 Z w' av t (actT T o) ∧ FrP (zn Z av) w w') :=
  (act_any w Z av t r T U N o hD hgT (hgU.raise (Nat.zero_le _)) hN ho hz).mono fun e w' ⟨b, he, _, q1, q2⟩ => ⟨⟨b, he⟩, q1.one, q2⟩
theorem avh (h : D1 Z w av t T) : ∀ k ∈ av, k < w.heap.size := by
  obtain ⟨Ht, h1, _⟩ := h
  rcases h1.2 with ⟨_, gA, vsA, h⟩ | ⟨_, gA, gB, vsA, vsB, h⟩
  · exact fun k hk => h.bk.avl k (by simp [hk])
  · exact fun k hk => h.bk.avl k (by simp [hk])
end
end Go.Proofs.Ytalhmegjomfbaaa
