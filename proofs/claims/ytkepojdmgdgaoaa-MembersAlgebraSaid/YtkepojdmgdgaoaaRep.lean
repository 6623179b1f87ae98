/- What a slice's elements say: a record a kind; slices that are read; slices of one's own. -/
import Derived.Test.YtkepojdmgdgaoaaV
namespace Go.V
open Go.Base Go.RowKit
set_option linter.unusedVariables false
set_option linter.unusedSimpArgs false

/-- How a datum lies in cells. Z: the blocks that it may lead to. -/
structure Rp (α : Type) where
  dflt : α
  sz : Nat
  ok : (Nat → Prop) → World → α → List Value → Prop
  len : ∀ {Z w x cs}, ok Z w x cs → cs.length = sz
  one : ∀ {Z w x cs}, ok Z w x cs → ∀ u ∈ cs, u.oneCell' = true
  mono : ∀ {Z Z' : Nat → Prop} {w w' x cs}, (∀ b, b < w.heap.size → Z b → Z' b ∧ w'.heap[b]? = w.heap[b]?) → w.heap.size ≤ w'.heap.size → ok Z w x cs → ok Z' w' x cs
def Rp.flat {α : Type} (d : α) (n : Nat) (enc : α → List Value) (hl : ∀ x, (enc x).length = n) (h1 : ∀ x, ∀ u ∈ enc x, u.oneCell' = true) : Rp α where
  dflt := d
  sz := n
  ok := fun _ _ x cs => cs = enc x
  len := by rintro _ _ x cs rfl; exact hl x
  one := by rintro _ _ x cs rfl; exact h1 x
  mono := by rintro _ _ _ _ x cs _ _ rfl; rfl
def Rp.int (k : IntKind) : Rp Int := Rp.flat 0 1 (fun x => [.int k x]) (fun _ => rfl) (fun x u hu => by simp at hu; subst hu; rfl)
def Rp.u8 : Rp UInt8 := Rp.flat 0 1 (fun x => [.int .u8 (x.toNat : Int)]) (fun _ => rfl) (fun x u hu => by simp at hu; subst hu; rfl)
def Rp.bool : Rp Bool := Rp.flat false 1 (fun x => [.bool x]) (fun _ => rfl) (fun x u hu => by simp at hu; subst hu; rfl)
def Rp.str : Rp ByteArray := Rp.flat ⟨#[]⟩ 1 (fun x => [.string x]) (fun _ => rfl) (fun x u hu => by simp at hu; subst hu; rfl)
section
variable {α : Type} {R : Rp α} {Z Z' : Nat → Prop} {w w' : World} {v : Value} {xs : List α}
/-- A slice that is read. -/
def SlR (R : Rp α) (Z : Nat → Prop) (w : World) (v : Value) (xs : List α) : Prop :=
  ∃ A c, v = .slice A xs.length c ∧ xs.length ≤ c ∧ xs.length ≤ 9223372036854775807 ∧
    ∀ i x, xs[i]? = some x → ∃ g o cs, A = some ⟨g, o, none⟩ ∧ Z g ∧ g < w.heap.size ∧ R.ok Z w x cs ∧ ∀ j u, cs[j]? = some u → w.cell? ⟨g, o + i * R.sz + j, none⟩ = some u
theorem SlR.mono (h : SlR R Z w v xs) (hm : ∀ b, b < w.heap.size → Z b → Z' b ∧ w'.heap[b]? = w.heap[b]?) (hs : w.heap.size ≤ w'.heap.size) : SlR R Z' w' v xs := by
  obtain ⟨A, c, e, h1, h2, h3⟩ := h
  refine ⟨A, c, e, h1, h2, fun i x hi => ?_⟩
  obtain ⟨g, o, cs, hA, hZ, hg, hok, hc⟩ := h3 i x hi
  exact ⟨g, o, cs, hA, (hm g hg hZ).1, Nat.lt_of_lt_of_le hg hs, R.mono hm hs hok, fun j u hj => (World.cell?_of_block (w := w) (hm g hg hZ).2).trans (hc j u hj)⟩
theorem SlR.fr (h : SlR R Z w v xs) {l : List Nat} (f : Fr l w w') (hl : ∀ b ∈ l, ¬ Z b) : SlR R Z w' v xs :=
  h.mono (fun b hb hz => ⟨hz, f.block b hb fun hm => hl b hm hz⟩) f.size
theorem SlR.fr0 (h : SlR R Z w v xs) (f : Fr [] w w') : SlR R Z w' v xs := h.fr f fun b hb => by cases hb
theorem SlR.zone (h : SlR R Z w v xs) (hz : ∀ b, b < w.heap.size → Z b → Z' b) : SlR R Z' w v xs := h.mono (fun b hb h => ⟨hz b hb h, rfl⟩) (Nat.le_refl _)
theorem SlR.nil (R : Rp α) (Z : Nat → Prop) (w : World) : SlR R Z w (.slice none 0 0) [] := ⟨none, 0, rfl, by simp, by simp, fun i x h => by simp at h⟩
theorem SlR.len_le (h : SlR R Z w v xs) : xs.length ≤ 9223372036854775807 := by obtain ⟨A, c, e, h1, h2, h3⟩ := h; exact h2
def at_ (R : Rp α) (xs : List α) (i : Int) : α := xs.getD i.toNat R.dflt
theorem at_some (R : Rp α) {xs : List α} {i : Int} (h0 : 0 ≤ i) (h1 : i < xs.length) : xs[i.toNat]? = some (at_ R xs i) := by
  unfold at_
  have : i.toNat < xs.length := by omega
  rw [List.getD_eq_getElem?_getD, List.getElem?_eq_getElem this]; rfl
/-- An element's cells. -/
theorem SlR.elem {A : Option Addr} {n c : Nat} (h : SlR R Z w (.slice A n c) xs) (i : Int) (h0 : 0 ≤ i) (h1 : i < xs.length) :
    ∃ g o cs, A = some ⟨g, o, none⟩ ∧ Z g ∧ R.ok Z w (at_ R xs i) cs ∧ ∀ j u, cs[j]? = some u → w.cell? ⟨g, o + i.toNat * R.sz + j, none⟩ = some u := by
  obtain ⟨A', c', e, _, _, h3⟩ := h
  injection e with e1 e2 e3
  subst e1
  obtain ⟨g, o, cs, hA, hZ, hg, hok, hc⟩ := h3 i.toNat _ (at_some R h0 h1)
  exact ⟨g, o, cs, hA, hZ, hok, hc⟩
theorem SlR.slice (h : SlR R Z w v xs) : ∃ A c, v = .slice A xs.length c ∧ xs.length ≤ c := by obtain ⟨A, c, e, h1, _⟩ := h; exact ⟨A, c, e, h1⟩
end
/-- Slices as elements. -/
def Rp.slice {α : Type} (R : Rp α) : Rp (List α) where
  dflt := []
  sz := 1
  ok := fun Z w xs cs => ∃ v, cs = [v] ∧ SlR R Z w v xs
  len := by rintro _ _ x cs ⟨v, rfl, _⟩; rfl
  one := by rintro _ _ x cs ⟨v, rfl, h⟩ u hu; obtain ⟨A, c, rfl, _⟩ := h; simp at hu; subst hu; rfl
  mono := by rintro Z Z' w w' x cs hm hs ⟨v, rfl, h⟩; exact ⟨v, rfl, h.mono hm hs⟩

/-! ### A slice of one's own: may be appended to, written -/
section
variable {α : Type} {R : Rp α} {Z Z' : Nat → Prop} {w w' : World} {v : Value} {xs : List α} {base : Nat} {e : TypeId}
/-- The cells of a row of data. -/
def Cells (R : Rp α) (Z : Nat → Prop) (w : World) : List α → List Value → Prop
  | [], cs => cs = []
  | x :: xs, cs => ∃ c r, cs = c ++ r ∧ R.ok Z w x c ∧ Cells R Z w xs r
theorem Cells.length : ∀ {xs : List α} {cs : List Value}, Cells R Z w xs cs → cs.length = xs.length * R.sz
  | [], cs, h => by have h' : cs = [] := h; subst h'; simp
  | x :: xs, cs, ⟨c, r, e, h1, h2⟩ => by subst e; rw [List.length_append, R.len h1, h2.length, List.length_cons, Nat.add_mul, Nat.one_mul, Nat.add_comm]
theorem Cells.one : ∀ {xs : List α} {cs : List Value}, Cells R Z w xs cs → ∀ u ∈ cs, u.oneCell' = true
  | [], cs, h, u, hu => by have h' : cs = [] := h; subst h'; cases hu
  | x :: xs, cs, ⟨c, r, e, h1, h2⟩, u, hu => by
    subst e
    rcases List.mem_append.1 hu with hu | hu
    · exact R.one h1 u hu
    · exact h2.one u hu
theorem Cells.mono (hm : ∀ b, b < w.heap.size → Z b → Z' b ∧ w'.heap[b]? = w.heap[b]?) (hs : w.heap.size ≤ w'.heap.size) : ∀ {xs : List α} {cs : List Value}, Cells R Z w xs cs → Cells R Z' w' xs cs
  | [], cs, h => h
  | x :: xs, cs, ⟨c, r, e, h1, h2⟩ => ⟨c, r, e, R.mono hm hs h1, Cells.mono hm hs h2⟩
theorem Cells.append : ∀ {xs ys : List α} {cs ds : List Value}, Cells R Z w xs cs → Cells R Z w ys ds → Cells R Z w (xs ++ ys) (cs ++ ds)
  | [], ys, cs, ds, h, k => by have h' : cs = [] := h; subst h'; simpa using k
  | x :: xs, ys, cs, ds, ⟨c, r, e, h1, h2⟩, k => ⟨c, r ++ ds, by rw [e, List.append_assoc], h1, h2.append k⟩
theorem Cells.snoc {xs : List α} {cs : List Value} {x : α} {c : List Value} (h : Cells R Z w xs cs) (k : R.ok Z w x c) : Cells R Z w (xs ++ [x]) (cs ++ c) := h.append ⟨c, [], by simp, k, rfl⟩
theorem Cells.get : ∀ {xs : List α} {cs : List Value}, Cells R Z w xs cs → ∀ i x, xs[i]? = some x → ∃ c, R.ok Z w x c ∧ ∀ j u, c[j]? = some u → cs[i * R.sz + j]? = some u
  | [], cs, _, i, x, hi => by simp at hi
  | y :: xs, cs, ⟨c, r, e, h1, h2⟩, 0, x, hi => by
    simp at hi; subst hi; subst e
    refine ⟨c, h1, fun j u hj => ?_⟩
    rw [Nat.zero_mul, Nat.zero_add, List.getElem?_append_left (List.getElem?_eq_some_iff.1 hj).1]; exact hj
  | y :: xs, cs, ⟨c, r, e, h1, h2⟩, i + 1, x, hi => by
    obtain ⟨c', h3, h4⟩ := h2.get i x (by simpa using hi)
    subst e
    refine ⟨c', h3, fun j u hj => ?_⟩
    have hl := R.len h1
    rw [List.getElem?_append_right (by rw [hl, Nat.add_mul]; omega)]
    have : (i + 1) * R.sz + j - c.length = i * R.sz + j := by rw [hl, Nat.add_mul]; omega
    rw [this]; exact h4 j u hj
def OwR (R : Rp α) (Z : Nat → Prop) (w : World) (base : Nat) (e : TypeId) (v : Value) (xs : List α) : Prop :=
  ∃ cs, w.ownsRow base e R.sz v xs.length cs ∧ Cells R Z w xs cs ∧ ∀ b, v.ownBlock = some b → ¬ Z b
theorem OwR.nil (R : Rp α) (Z : Nat → Prop) (w : World) (base : Nat) (e : TypeId) : OwR R Z w base e (.slice none 0 0) [] := ⟨[], World.ownsRow_nil .., rfl, fun b h => by simp [Value.ownBlock] at h⟩
theorem OwR.fr (h : OwR R Z w base e v xs) {l : List Nat} (f : Fr l w w') (hl : ∀ b ∈ l, ¬ Z b) (hv : ∀ b, v.ownBlock = some b → b ∉ l) : OwR R Z w' base e v xs := by
  obtain ⟨cs, h1, h2, h3⟩ := h
  exact ⟨cs, own_fr h1 f hv, h2.mono (fun b hb hz => ⟨hz, f.block b hb fun hm => hl b hm hz⟩) f.size, h3⟩
theorem OwR.fr0 (h : OwR R Z w base e v xs) (f : Fr [] w w') : OwR R Z w' base e v xs := h.fr f (fun b hb => by cases hb) fun b _ hm => by cases hm
theorem OwR.zone (h : OwR R Z w base e v xs) (hz : ∀ b, b < w.heap.size → Z b → Z' b) (hv : ∀ b, v.ownBlock = some b → ¬ Z' b) : OwR R Z' w base e v xs := by
  obtain ⟨cs, h1, h2, h3⟩ := h
  exact ⟨cs, h1, h2.mono (fun b hb h => ⟨hz b hb h, rfl⟩) (Nat.le_refl _), hv⟩
theorem OwR.lt (h : OwR R Z w base e v xs) : ∀ b, v.ownBlock = some b → base ≤ b ∧ b < w.heap.size := by obtain ⟨cs, h1, _⟩ := h; exact h1.lt
theorem OwR.fr1 (h : OwR R Z w base e v xs) {b : Nat} (f : Fr [b] w w') (hl : ¬ Z b) (hb : b < base) : OwR R Z w' base e v xs :=
  h.fr f (fun i hi => by simp at hi; subst hi; exact hl) fun i hi hm => by have := (h.lt i hi).1; simp at hm; omega
theorem OwR.len_le (h : OwR R Z w base e v xs) : xs.length ≤ 9223372036854775807 := by
  obtain ⟨cs, h1, _⟩ := h
  rcases h1.2 with ⟨_, h⟩ | ⟨g, cap, cur, _, _, _, h4, h5, _⟩
  · omega
  · unfold maxLen at h5; omega
theorem OwR.cap {A : Option Addr} {n c : Nat} (h : OwR R Z w base e (.slice A n c) xs) : xs.length ≤ c := by
  obtain ⟨cs, h1, _⟩ := h
  rcases h1.2 with ⟨_, h⟩ | ⟨g, cap, cur, e, _, _, h3, h4, _⟩
  · omega
  · injection e with e1 e2 e3; omega
theorem OwR.slice (h : OwR R Z w base e v xs) : ∃ A c, v = .slice A xs.length c := by
  obtain ⟨cs, h1, _⟩ := h
  rcases h1.2 with ⟨rfl, h⟩ | ⟨g, cap, cur, rfl, _⟩
  · exact ⟨none, 0, by rw [h]⟩
  · exact ⟨_, cap, rfl⟩
/-- One's own may be read. -/
theorem OwR.read (h : OwR R Z w base e v xs) (hz : ∀ b, b < w.heap.size → Z b → Z' b) (hv : ∀ b, base ≤ b → b < w.heap.size → Z' b) : SlR R Z' w v xs := by
  have hlen := h.len_le
  obtain ⟨cs, h1, h2, h3⟩ := h
  rcases h1.2 with ⟨rfl, hn⟩ | ⟨g, cap, cur, rfl, hg, hh, hnc, _⟩
  · obtain rfl : xs = [] := List.eq_nil_of_length_eq_zero hn
    exact SlR.nil _ _ _
  · refine ⟨_, cap, rfl, hnc, hlen, fun i x hi => ?_⟩
    obtain ⟨c, hok, hc⟩ := h2.get i x hi
    refine ⟨g, 0, c, rfl, hv g hg (lt_of_block hh), lt_of_block hh, R.mono (fun b hb hZ => ⟨hz b hb hZ, rfl⟩) (Nat.le_refl _) hok, fun j u hj => ?_⟩
    have := h1.cells (g := g) rfl (i * R.sz + j) u (hc j u hj)
    rw [Base.add_plain] at this
    rw [Nat.zero_add]; exact this
section
variable {ro : Option Nat} {P : Program} {Q : Exit → Act → World → Prop} {a : Act} {ops : Array Oper} {rest : List Oper} {d : Option Tmp} {ty : TypeId} {pos : String} {aft : Array Edge} {g : Option (Nat × Bool)}
/-- append(v, y1 .. ym): the new ones' cells lie at an address. -/
theorem app {t : TypeId} {s x : Operand} {z : Value} {bytes : Nat} (hs : a.eval s = v) (ad : Addr) (m c : Nat) (hx : a.eval x = .slice (some ad) m c) (ht : P.underlying t = some (.slice e))
    (hinfo : (P.info? e).map (fun i => (i.zero, i.size, i.bytes)) = some (some z, R.sz, bytes)) (hzs : z.cells.size = R.sz) (hsz : 0 < R.sz) (hown : OwR R Z w base e v xs) {ys : List α} {news : List Value} (hm : ys.length = m) (hys : Cells R Z w ys news)
    (hnews : ∀ j u, news[j]? = some u → w.cell? (ad.add j) = some u) (hbytes : (xs.length + m) * bytes ≤ 140737488355328) (hb0 : 0 < bytes) (hbase : base ≤ w.heap.size)
    (k : ∀ A' c' w1, OwR R (fun b => Z b ∧ b < w.heap.size) w1 base e (.slice A' (xs.length + m) c') (xs ++ ys) → Fr (v.ownBlock.toList) w w1 → ((Value.slice A' (xs.length + m) c').ownBlock = v.ownBlock ∨ (Value.slice A' (xs.length + m) c').ownBlock = some w.heap.size) →
      L ro P ops Q rest (a.put d (.slice A' (xs.length + m) c')) w1) : St ro P ops Q rest ⟨d, .call ⟨.builtin .append, #[s, x], #[t, t]⟩, ty, pos, aft, g⟩ a w := by
  obtain ⟨cs, h1, h2, h3⟩ := hown
  obtain ⟨i, hi, hzz⟩ := Option.map_eq_some_iff.1 hinfo
  simp only [Prod.mk.injEq] at hzz
  obtain ⟨hz0, hz1, hz2⟩ := hzz
  have hle : xs.length + m ≤ 140737488355328 := Nat.le_trans (Nat.le_mul_of_pos_right _ hb0) hbytes
  obtain ⟨v', w1, hr, h4, h5, h6, h7⟩ := run_append_own_at (P := P) w base t ty e i z R.sz bytes ht hi hz0 hz1 hz2 hzs hsz v xs.length cs h1 ad m c news (by rw [hys.length, hm]) hnews hys.one (by unfold maxLen; omega) hbytes hbase
  have hf : Fr (v.ownBlock.toList) w w1 := Fr.of_grown h5 (fun b hb => by rw [hb]; simp)
  have hnot : ∀ b, Z b → b ∉ v.ownBlock.toList := fun b hz hm => by
    cases ho : v.ownBlock with
    | none => rw [ho] at hm; simp at hm
    | some q => rw [ho] at hm; simp at hm; subst hm; exact h3 b ho hz
  obtain ⟨A', c', rfl⟩ : ∃ A' c', v' = .slice A' (xs.length + m) c' := by
    rcases h4.2 with ⟨rfl, h⟩ | ⟨g, cap, cur, rfl, _⟩
    · exact ⟨none, 0, by rw [h]⟩
    · exact ⟨_, cap, rfl⟩
  have hrun : (execOp a.eval ⟨d, .call ⟨.builtin .append, #[s, x], #[t, t]⟩, ty, pos, aft, g⟩).run P w = .ok (.value (.slice A' (xs.length + m) c')) w1 := by
    simp only [execOp, resolve, invoke, builtin, Sem.run_bind, Sem.run_pure, Result.andThen_ok, List.map_toArray, List.map_cons, List.map_nil, hs, hx, hr]
  refine St.val hrun (k A' c' w1 ⟨cs ++ news, ?_, ?_, ?_⟩ hf h7)
  · rw [List.length_append, hm]; exact h4
  · refine (h2.append hys).mono (fun b hb hz => ⟨⟨hz, hb⟩, hf.block b hb (hnot b hz)⟩) hf.size
  · rintro b hb ⟨hz, hlt⟩
    rcases h7 with h7 | h7
    · rw [h7] at hb; exact h3 b hb hz
    · rw [h7] at hb; injection hb with hb; omega
end
end
def NoZ : Nat → Prop := fun _ => False
theorem own_notin {α : Type} {R : Rp α} {Z : Nat → Prop} {w : World} {base b : Nat} {e : TypeId} {v : Value} {xs : List α} (h : OwR R Z w base e v xs) (hb : b < base) : b ∉ v.ownBlock.toList := by
  intro hm
  cases ho : v.ownBlock with
  | none => rw [ho] at hm; simp at hm
  | some q => rw [ho] at hm; simp at hm; subst hm; have := (h.lt b ho).1; omega
theorem own_ge {α : Type} {R : Rp α} {Z : Nat → Prop} {w : World} {base B : Nat} {e : TypeId} {v : Value} {xs : List α} (h : OwR R Z w base e v xs) (hB : B ≤ base) : ∀ i ∈ v.ownBlock.toList, B ≤ i := by
  intro i hm
  cases ho : v.ownBlock with
  | none => rw [ho] at hm; simp at hm
  | some q => rw [ho] at hm; simp at hm; subst hm; have := (h.lt i ho).1; omega
/-- The blocks that one's own things may lead to: new ones, up to a bound, the own one not. -/
def Zi (base n : Nat) (v : Value) : Nat → Prop := fun b => base ≤ b ∧ b < n ∧ v.ownBlock ≠ some b
section
variable {α β : Type} {R : Rp α} {R' : Rp β} {Z : Nat → Prop} {w w0 w1 : World} {base n m : Nat} {e e' : TypeId} {v v' u : Value} {xs : List α} {ys : List β}
theorem OwR.raise (h : OwR R (Zi base n v) w base e v xs) (hn : n ≤ m) : OwR R (Zi base m v) w base e v xs :=
  h.zone (fun b _ hz => ⟨hz.1, by have := hz.2.1; omega, hz.2.2⟩) (fun b hb hz => hz.2.2 hb)
theorem OwR.zi (h : OwR R (fun b => Zi base n v b ∧ b < n) w1 base e v' xs) (hat : v'.ownBlock = v.ownBlock ∨ v'.ownBlock = some n) : OwR R (Zi base n v') w1 base e v' xs :=
  h.zone (fun b _ hz => ⟨hz.1.1, hz.2, fun e => by
    rcases hat with h1 | h1
    · exact hz.1.2.2 (h1 ▸ e)
    · rw [h1] at e; injection e with e; have := hz.2; omega⟩) (fun b hb hz => hz.2.2 hb)
theorem OwR.readi (h : OwR R (Zi base n v) w base e v xs) : SlR R (fun b => base ≤ b) w v xs := h.read (fun b _ hz => hz.1) (fun b hb _ => hb)
/-- What a call made anew lies outside of one's own row. -/
theorem SlR.zi (h : SlR R (fun b => n ≤ b) w v xs) (hO : OwR R' Z w0 base e u ys) (h0 : w0.heap.size ≤ n) (hb : base ≤ n) : SlR R (Zi base w.heap.size u) w v xs :=
  h.zone fun b hlt hz => ⟨by omega, hlt, fun e => by have := (hO.lt _ e).2; omega⟩
theorem SlR.frz (h : SlR R (Zi base n u) w v xs) {b : Nat} (f : Fr [b] w w1) (hb : n ≤ b) : SlR R (Zi base n u) w1 v xs := h.fr f fun i hi hz => by simp at hi; have := hz.2.1; omega
theorem SlR.zraise (h : SlR R (Zi base n u) w v xs) (hn : n ≤ m) : SlR R (Zi base m u) w v xs := h.zone fun b _ hz => ⟨hz.1, by have := hz.2.1; omega, hz.2.2⟩
end
section
variable {α : Type} {R : Rp α} {Z Z0 : Nat → Prop} {w w' w0 : World} {base b : Nat} {e : TypeId} {v : Value} {xs ys : List α}
theorem OwR.frn (h : OwR R Z w base e v xs) (f : Fr [b] w w') (hl : ¬ Z b) (hb : v.ownBlock ≠ some b) : OwR R Z w' base e v xs :=
  h.fr f (fun i hi => by simp at hi; subst hi; exact hl) fun i hi hm => by simp at hm; subst hm; exact hb hi
theorem own_ne (h : OwR R Z w base e v xs) (hb : b < base) : v.ownBlock ≠ some b := fun e => by have := (h.lt _ e).1; omega
theorem own_ne2 (h : OwR R Z0 w0 base e v ys) (hb : w0.heap.size ≤ b) : v.ownBlock ≠ some b := fun e => by have := (h.lt _ e).2; omega
theorem own_notin2 (h : OwR R Z0 w0 base e v ys) (hb : w0.heap.size ≤ b) : b ∉ v.ownBlock.toList := fun hm => own_ne2 h hb (by
  cases ho : v.ownBlock with
  | none => rw [ho] at hm; simp at hm
  | some q => rw [ho] at hm; simp at hm; subst hm; rfl)
end
/-! ### An element that is read -/
structure Els (w : World) (g off : Nat) (cs : List Value) : Prop where
  lt : g < w.heap.size
  cell : ∀ j u, cs[j]? = some u → w.cell? ⟨g, off + j, none⟩ = some u
section
variable {α : Type} {R : Rp α} {Z : Nat → Prop} {w w' : World} {g off : Nat} {cs : List Value} {xs : List α} {A : Option Addr} {n c : Nat}
theorem Els.fr (h : Els w g off cs) {l : List Nat} (f : Fr l w w') (hl : g ∉ l) : Els w' g off cs :=
  ⟨Nat.lt_of_lt_of_le h.lt f.size, fun j u hj => (World.cell?_of_block (w := w) (f.block g h.lt hl)).trans (h.cell j u hj)⟩
theorem Els.fr0 (h : Els w g off cs) (f : Fr [] w w') : Els w' g off cs := h.fr f (by simp)
theorem Els.at (h : Els w g off cs) (j : Nat) {u : Value} (hj : cs[j]? = some u) : w.cell? ⟨g, off + j, none⟩ = some u := h.cell j u hj
theorem Els.cells (h : Els w g off cs) (o : Nat) (ds : List Value) (hd : (cs.drop o).take ds.length = ds) : ∀ j u, ds[j]? = some u → w.cell? ((⟨g, off + o, none⟩ : Addr).add j) = some u := by
  intro j u hj
  have ha : (⟨g, off + o, none⟩ : Addr).add j = ⟨g, off + o + j, none⟩ := by unfold Addr.add; split <;> simp_all
  rw [ha, Nat.add_assoc]
  refine h.cell (o + j) u ?_
  have hlt : j < ds.length := (List.getElem?_eq_some_iff.1 hj).1
  rw [← hd] at hj
  rw [List.getElem?_take_of_lt hlt, List.getElem?_drop] at hj
  exact hj
theorem SlR.addr (h : SlR R Z w (.slice A n c) xs) (hne : 0 < xs.length) : ∃ g o, A = some ⟨g, o, none⟩ ∧ g < w.heap.size ∧ Z g := by
  obtain ⟨A', c', e, _, _, h3⟩ := h
  injection e with e1 e2 e3
  subst e1
  obtain ⟨g, o, cs, hA, hZ, hg, _⟩ := h3 0 _ (List.getElem?_eq_getElem hne)
  exact ⟨g, o, hA, hg, hZ⟩
theorem SlR.els {g o : Nat} (h : SlR R Z w (.slice A n c) xs) (hA : A = some ⟨g, o, none⟩) (i : Int) (h0 : 0 ≤ i) (h1 : i < xs.length) : ∃ cs, R.ok Z w (at_ R xs i) cs ∧ Els w g (o + i.toNat * R.sz) cs := by
  obtain ⟨A', c', e, _, _, h3⟩ := h
  injection e with e1 e2 e3
  subst e1
  obtain ⟨g', o', cs, hA', hZ, hg, hok, hc⟩ := h3 i.toNat _ (at_some R h0 h1)
  rw [hA] at hA'
  injection hA' with hA'
  injection hA' with e4 e5
  subst e4; subst e5
  exact ⟨cs, hok, hg, hc⟩
theorem held_els {P : Program} {a : Act} {t : TypeId} {x : Operand} {f : Nat} (hx : a.eval x = .pointer (some ⟨g, off + f, none⟩)) (h : Els w g off cs) (h' : Els w' g off cs) {m : Nat}
    (hn : (P.info? t).map (fun i => max 1 i.size) = some m) (hl : f + m ≤ cs.length) : Plan.CellsKept P t (a.eval x) w w' := by
  rw [hx]
  unfold Plan.CellsKept
  intro i hi k hk
  obtain ⟨i', hi', rfl⟩ := Option.map_eq_some_iff.1 hn
  rw [hi] at hi'; injection hi' with hi'; subst hi'
  have ha : (⟨g, off + f, none⟩ : Addr).add k = ⟨g, off + f + k, none⟩ := by unfold Addr.add; split <;> simp_all
  rw [ha, Nat.add_assoc]
  exact ⟨_, h.at (f + k) (List.getElem?_eq_getElem (by omega)), h'.at (f + k) (List.getElem?_eq_getElem (by omega))⟩
end
end Go.V
