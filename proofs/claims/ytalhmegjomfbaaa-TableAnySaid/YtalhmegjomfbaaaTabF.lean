/- A table, put together again. -/
import Derived.Test.YtalhmegjomfbaaaTabP
import Derived.Test.YtalhmegjomfbaaaBksW
namespace Go.V
open Go.Base Go.RowKit
set_option linter.unusedVariables false
/-- A table's blocks, and those that are new. -/
def gr (H : Nat → Prop) (w w1 : World) : Nat → Prop := fun k => H k ∨ (w.heap.size ≤ k ∧ k < w1.heap.size)
def gh (H : Nat → Prop) (w : World) : Nat → Prop := fun k => H k ∨ w.heap.size ≤ k
def gp (H : Nat → Prop) (av : List Nat) : Nat → Prop := fun k => H k ∧ k ∉ av
theorem mem3 {t g : Nat} {av l : List Nat} (h1 : t ∈ l) (h2 : g ∈ l) (h3 : ∀ k ∈ av, k ∈ l) : ∀ k ∈ t :: g :: av, k ∈ l := by
  intro k hk
  rcases List.mem_cons.1 hk with rfl | hk
  · exact h1
  · rcases List.mem_cons.1 hk with rfl | hk
    · exact h2
    · exact h3 k hk
theorem mem4 {t g g' : Nat} {av l : List Nat} (h1 : t ∈ l) (h2 : g ∈ l) (h4 : g' ∈ l) (h3 : ∀ k ∈ av, k ∈ l) : ∀ k ∈ t :: g :: g' :: av, k ∈ l := by
  intro k hk
  rcases List.mem_cons.1 hk with rfl | hk
  · exact h1
  · exact mem3 h2 h4 h3 k hk
section
variable {α : Type} {tt te e : TypeId} {R : Rp (ByteArray × α)} {w w1 w2 : World} {H : Nat → Prop} {av av' : List Nat} {t gA gB na nb sd : Nat} {mv nn : Int} {vsA vsB : List Value} {T : Tb α} {xa xb : List (List (ByteArray × α))}
theorem gr_of {k : Nat} (h : gh H w k) (hk : k < w1.heap.size) : gr H w w1 k := h.imp id fun q => ⟨q, hk⟩
theorem Bks.toH {vs : List Value} {β : Type} {R : Rp β} {xs : List (List β)} (h : Bks R w e H av vs xs) : Bks R w e (gh H w) av vs xs := h.sub (fun _ q => q) (fun k _ _ q => .inl q)
theorem TabN.fin (hok : T.Ok) (hb : T.b = []) (blk : Blk w1 t [.int .u64 (sd : Int), .slice (some ⟨gA, 0, none⟩) na na, .slice none 0 0, .int .i64 mv, .int .i64 nn] tt) (ra : Row idV w1 gA vsA te) (bk : Bks R w1 e (gh H w) av' vsA xa) (hs : ∀ k ∈ t :: gA :: av, k ∈ av') (ne : t ≠ gA) (pt : H t ∧ t ∉ av) (pg : gh H w gA ∧ gA ∉ av)
    (e1 : sd = T.seed) (e2 : na = T.a.length) (e3 : mv = (T.moved : Int)) (e4 : nn = (T.n : Int)) (e5 : xa = T.a) : TabX tt te e R w1 (gr H w w1) av t T := by
  subst e1; subst e2; subst e3; subst e4; subst e5
  refine ⟨hok, .inl ⟨hb, gA, vsA, blk, ra, bk.len, ?_, ne, ⟨.inl pt.1, pt.2⟩, ⟨gr_of pg.1 ra.lt, pg.2⟩⟩⟩
  rw [List.append_nil, List.append_nil]
  exact bk.sub hs fun k hk _ q => gr_of q hk
theorem TabM.fin (hok : T.Ok) (hb : T.b ≠ []) (blk : Blk w1 t [.int .u64 (sd : Int), .slice (some ⟨gA, 0, none⟩) na na, .slice (some ⟨gB, 0, none⟩) nb nb, .int .i64 mv, .int .i64 nn] tt) (ra : Row idV w1 gA vsA te) (rb : Row idV w1 gB vsB te) (la : vsA.length = xa.length) (bk : Bks R w1 e (gh H w) av' (vsA ++ vsB) (xa ++ xb)) (hs : ∀ k ∈ t :: gA :: gB :: av, k ∈ av') (ne : t ≠ gA) (ne2 : t ≠ gB) (ne3 : gA ≠ gB) (pt : H t ∧ t ∉ av) (pg : gh H w gA ∧ gA ∉ av) (ph : gh H w gB ∧ gB ∉ av)
    (e1 : sd = T.seed) (e2 : na = T.a.length) (e3 : mv = (T.moved : Int)) (e4 : nn = (T.n : Int)) (e5 : xa = T.a) (e6 : xb = T.b) (e7 : nb = T.b.length) : TabX tt te e R w1 (gr H w w1) av t T := by
  subst e1; subst e2; subst e3; subst e4; subst e5; subst e6; subst e7
  refine ⟨hok, .inr ⟨hb, gA, gB, vsA, vsB, blk, ra, rb, la, ?_, bk.sub hs fun k hk _ q => gr_of q hk, ne, ne2, ne3, ⟨.inl pt.1, pt.2⟩, ⟨gr_of pg.1 ra.lt, pg.2⟩, ⟨gr_of ph.1 rb.lt, ph.2⟩⟩⟩
  have := bk.len
  simp at this
  omega
theorem TabN.mk2 {H : Nat → Prop} (blk : Blk w1 t [.int .u64 (sd : Int), .slice (some ⟨gA, 0, none⟩) na na, .slice none 0 0, .int .i64 mv, .int .i64 nn] tt) (ra : Row idV w1 gA vsA te) (bk : Bks R w1 e H av' vsA xa) (hs : ∀ k ∈ t :: gA :: av, k ∈ av') (ne : t ≠ gA) (pt : H t ∧ t ∉ av) (pg : H gA ∧ gA ∉ av)
    (e1 : sd = T.seed) (e2 : na = T.a.length) (e3 : mv = (T.moved : Int)) (e4 : nn = (T.n : Int)) (e5 : xa = T.a) : TabN tt te e R w1 H av t gA vsA T := by
  subst e1; subst e2; subst e3; subst e4; subst e5
  refine ⟨blk, ra, bk.len, ?_, ne, pt, pg⟩
  rw [List.append_nil, List.append_nil]
  exact bk.sub hs fun k hk _ q => q
theorem TabX.gr2 (h : TabX tt te e R w2 (gr (gh H w) w1 w2) av t T) (hw : w.heap.size ≤ w1.heap.size) : TabX tt te e R w2 (gr H w w2) av t T :=
  h.sub (fun _ q => q) fun k hk q => by
    rcases q with q | q
    · exact gr_of q hk
    · exact .inr ⟨by omega, hk⟩
theorem TabX.gr3 (h : TabX tt te e R w2 (gr (gr H w w1) w1 w2) av t T) (hw : w.heap.size ≤ w1.heap.size) : TabX tt te e R w2 (gr H w w2) av t T :=
  h.sub (fun _ q => q) fun k hk q => by
    rcases q with q | q
    · rcases q with q | q
      · exact .inl q
      · exact .inr ⟨q.1, hk⟩
    · exact .inr ⟨by omega, hk⟩
theorem TabX.grm (h : TabX tt te e R w2 (gr H w1 w2) av t T) (hw : w.heap.size ≤ w1.heap.size) : TabX tt te e R w2 (gr H w w2) av t T :=
  h.sub (fun _ q => q) fun k hk q => q.imp id fun q => ⟨by omega, q.2⟩
theorem TabX.gr1 (h : TabX tt te e R w1 H av t T) : TabX tt te e R w1 (gr H w w1) av t T := h.sub (fun _ q => q) fun k hk q => .inl q
theorem FrP.gr {w w1 w2 : World} (h : FrP (gp H av) w w1) (f : FrP (gp (gr H w w1) av) w1 w2) : FrP (gp H av) w w2 :=
  h.trP f fun k hk => hk.1.elim (fun q => .inl ⟨q, hk.2⟩) fun q => .inr q.1
theorem Bks.takeA {vsA vsB : List Value} {β : Type} {R : Rp β} {xa xb : List (List β)} {i : Nat} {d v : Value} (h : Bks R w e H av (vsA ++ vsB) (xa ++ xb)) (hl : vsA.length = xa.length) (hi : i < xa.length) (hv : vsA.getD i d = v) :
    Bks R w e H (v.ownBlock.toList ++ av) (vsA.set i nilS ++ vsB) (xa.set i [] ++ xb) ∧ SlR R (fun k => k ∈ v.ownBlock.toList) w v (xa.getD i []) ∧ (∀ k ∈ v.ownBlock.toList, k ∉ av ∧ k < w.heap.size) := by
  have hat := h.atA hl hi hv
  have h1 := h.take (i := i) (by simp; omega) hat
  rw [List.set_append_left _ _ (by omega), List.set_append_left _ _ hi] at h1
  have h2 := h.slO (i := i) (by simp; omega) hat
  rw [appA_get hi] at h2
  exact ⟨h1, h2, fun k hk => ⟨(h.home hat k hk).1, h1.avl k (List.mem_append_left _ hk)⟩⟩
end
end Go.V
