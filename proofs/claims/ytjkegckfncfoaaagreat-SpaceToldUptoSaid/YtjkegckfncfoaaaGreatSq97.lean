/- Joined texts: Uk, Va, VL, Vb, Df, Vc, Vd, Opn, Hn, Hp, Hq. -/
import Derived.Test.YtjkegckfncfoaaaGreatProg
import Derived.Test.YtjkegckfncfoaaaGreatRows
import Derived.Deep.Slices
import Derived.Lib.SmallJoins
import Derived.ProofKit
import Derived.ChangeSame
import Derived.Test.YtjkegckfncfoaaaGreatSq96
section
namespace Go.Proofs.YtjkegckfncfoaaaGreat
open Go.V Go.Base
open Go.RowKit (Below)
attribute [local irreducible] Act.put Act.eval
set_option linter.unusedVariables false
set_option linter.unusedSimpArgs false
set_option maxHeartbeats 4000000
set_option maxRecDepth 20000
/-! ### What is told, while it grows -/
/-- Headers in a row v of one's own lead to rows [DEL, key] that lie in [b0, n1), outside S. -/
def TolB (S : Nat → Prop) (b0 n1 : Nat) (w : World) (v : Value) (rs : List SlV) (l : List ByteArray) : Prop :=
  (∃ Z, AllT Z w rs l ∧ ∀ k, Z k → b0 ≤ k ∧ k < n1 ∧ ¬ S k ∧ v.ownBlock ≠ some k) ∧ ∀ k, v.ownBlock = some k → ¬ S k
section
variable {S S' : Nat → Prop} {b0 n1 n2 : Nat} {w w1 : World} {v v1 : Value} {rs : List SlV} {l : List ByteArray}
theorem TolB.nil : TolB S b0 n1 w (.slice none 0 0) [] [] := ⟨⟨fun _ => False, trivial, fun k h => h.elim⟩, fun k h => by simp [Value.ownBlock] at h⟩
theorem TolB.len (h : TolB S b0 n1 w v rs l) : rs.length = l.length := by obtain ⟨⟨Z, h1, _⟩, _⟩ := h; exact All2.len h1
theorem TolB.fr {q : List Nat} (h : TolB S b0 n1 w v rs l) (f : Fr q w w1) (hq : ∀ k ∈ q, k < b0 ∨ n1 ≤ k ∨ v.ownBlock = some k) : TolB S b0 n1 w1 v rs l := by
  obtain ⟨⟨Z, h1, h2⟩, h3⟩ := h
  exact ⟨⟨Z, h1.fr f fun k hk hz => by have := h2 k hz; rcases hq k hk with q | q | q; omega; omega; exact this.2.2.2 q, h2⟩, h3⟩
theorem TolB.fr0 (h : TolB S b0 n1 w v rs l) (f : Fr [] w w1) : TolB S b0 n1 w1 v rs l := h.fr f fun k hk => by cases hk
theorem TolB.raise (h : TolB S b0 n1 w v rs l) (hn : n1 ≤ n2) : TolB S b0 n2 w v rs l := by
  obtain ⟨⟨Z, h1, h2⟩, h3⟩ := h
  exact ⟨⟨Z, h1, fun k hk => by have := h2 k hk; exact ⟨this.1, by omega, this.2.2⟩⟩, h3⟩
theorem TolB.del (h : TolB S b0 n1 w v rs l) (hv : ∀ k, v.ownBlock = some k → k < w.heap.size) (f : FrP S w w1) (g : GrS S w S') (hn : n1 ≤ w.heap.size) : TolB S' b0 n1 w1 v rs l := by
  obtain ⟨⟨Z, h1, h2⟩, h3⟩ := h
  refine ⟨⟨Z, h1.frP f fun k hz => (h2 k hz).2.2.1, fun k hk => ?_⟩, fun k hk hq => ?_⟩
  · have := h2 k hk
    exact ⟨this.1, this.2.1, fun hq => by rcases g k hq with q | q; exact this.2.2.1 q; omega, this.2.2.2⟩
  · rcases g k hq with q | q
    · exact h3 k hk q
    · have := hv k hk; omega
theorem TolB.app {wa : World} {b : Nat} {k : ByteArray} {e : TypeId} (h : TolB S b0 n1 wa v rs l) (f : Fr v.ownBlock.toList wa w1) (hB : Blk w1 b [.string delB, .string k] e) (hba : b0 ≤ b ∧ b < wa.heap.size ∧ n1 ≤ wa.heap.size) (hv1 : ∀ j, v1.ownBlock = some j → v.ownBlock = some j ∨ j = wa.heap.size) (hS : ∀ j, S j → j < b) (hvb : ∀ j, v.ownBlock = some j → j < b) :
    TolB S b0 w1.heap.size w1 v1 (rs ++ [⟨some ⟨b, 0, none⟩, 2, 2⟩]) (l ++ [k]) := by
  have hs := f.size
  obtain ⟨⟨Z, h1, h2⟩, h3⟩ := h
  refine ⟨⟨fun j => Z j ∨ j = b, (h1.fr f fun k hk hz => (h2 k hz).2.2.2 (by simpa using hk)).snoc hB, fun j hj => ?_⟩, fun j hj hq => ?_⟩
  · rcases hj with hj | rfl
    · have := h2 j hj
      exact ⟨this.1, by omega, this.2.2.1, fun q => by rcases hv1 j q with q | q; exact this.2.2.2 q; omega⟩
    · exact ⟨hba.1, by omega, fun q => by have := hS _ q; omega, fun q => by rcases hv1 _ q with q | q; have := hvb _ q; omega; omega⟩
  · rcases hv1 j hj with q | q
    · exact h3 j q hq
    · have := hS j hq; omega
theorem TolB.row {A : Option Addr} {c base : Nat} {e : TypeId} (h : TolB S b0 n1 w (.slice A rs.length c) rs l) (hO : OwR slvR NoZ w base e (.slice A rs.length c) rs) (hb : b0 ≤ base) (hn : n1 ≤ w.heap.size) :
    ∃ Z, SlR (Rp.slice Rp.str) Z w (.slice A (l.map rowT).length c) (l.map rowT) ∧ ∀ k, Z k → b0 ≤ k ∧ k < w.heap.size ∧ ¬ S k := by
  obtain ⟨⟨Z, h1, h2⟩, h3⟩ := h
  refine ⟨fun k => Z k ∨ (Value.slice A rs.length c).ownBlock = some k, AllT.row (own_zone hO (fun _ _ _ _ q => q) fun _ q => q) h1 (fun _ q => .inl q) (fun _ q => .inr q), fun k hk => ?_⟩
  rcases hk with hk | hk
  · have := h2 k hk; exact ⟨this.1, by omega, this.2.2.1⟩
  · have := hO.lt k hk; exact ⟨by omega, this.2, h3 k hk⟩
theorem at_take {xs : List ByteArray} {m j : Nat} (hj : j < m) (hm : m ≤ xs.length) : ∃ h : j < xs.length, at_ Rp.str (xs.take m) (j : Int) = xs[j] := by
  refine ⟨by omega, ?_⟩
  unfold at_
  rw [Int.toNat_natCast, List.getD_eq_getElem?_getD, List.getElem?_take, if_pos hj, List.getElem?_eq_getElem (by omega)]
  rfl
end
theorem info25 : (Tryz.prog.info? 25).map (fun i => (i.zero, i.size, i.bytes)) = some (some (.slice none 0 0), 1, 24) := by kernel_rfl
theorem expire_any (w : World) (S : Nat → Prop) (sp n : Nat) (D : ByteArray → Option EnD) (hY : SpY w S sp n D) (now most : Int) : Calls Tryz.prog 16 #[.pointer (some ⟨sp, 0, none⟩), .int .i64 now, .int .i64 most] w (fun e w' => ∃ A c TL S' Z, e = .returned (.slice A (TL.map rowT).length c) ∧ SlR (Rp.slice Rp.str) Z w' (.slice A (TL.map rowT).length c) (TL.map rowT) ∧ TolK D TL ∧ SpY w' S' sp (n - TL.length) (delsD D TL) ∧ GrS S w S' ∧ FrP S w w' ∧ ∀ k, Z k → w.heap.size ≤ k ∧ k < w'.heap.size ∧ ¬ S' k) := by
 obtain ⟨H, Vb, t, T, hq, rfl, hS1, hS2⟩ := id hY
 have hX := hq
 have hB := hq.hB
 have hspl := hB.lt
 have hP := FrP.refl S w
 have hX0 := hq.lt
 have hcn := hq.hT.1.cn
 have hM := hq.hM
 refine V.en 42 Tryz.func16 fun a h1 => ?_
 refine V.sg fun K2 k3 => ?_
 refine V.go (V.mk [(0, .pointer (some ⟨sp, 0, none⟩))] ⟨h1.e, trivial⟩ (by kernel_rfl) [.pointer (some ⟨sp, 0, none⟩)] 29 (fun b => .pointer (some ⟨b, 0, none⟩)) (by kernel_rfl) ?_)
 intro w5 b4 heb4 hB6 hF7 hsb4
 have hX_8 := hX.fr0 hF7
 have hP_10 := hP.tr0 hF7
 refine V.pt h1 fun a h11 => ?_
 refine V.go (V.mk [(1, .int .i64 now)] ⟨h11.e, trivial⟩ (by kernel_rfl) [.int .i64 now] 3 (fun b => .pointer (some ⟨b, 0, none⟩)) (by kernel_rfl) ?_)
 intro w13 b12 heb12 hB14 hF15 hsb12
 have hX_16 := hX_8.fr0 hF15
 have hP_18 := hP_10.tr0 hF15
 have hB6_19 := hB6.fr0 hF15
 refine V.pt h11 fun a h20 => ?_
 refine V.re h20 [] 6 6 [] fun a h21 => k3 _ _ ?_
 refine V.sg fun K22 k23 => ?_
 refine V.run h21 [(0, .b hB6_19 0)] 2 1 0 [(11, .pointer (some ⟨sp, 0, none⟩)), (12, .func (.func 47) #[] #[.pointer (some ⟨b12, 0, none⟩)])] fun a h24 => ?_
 refine V.cl h24 (Go.Proofs.enters_of Tryz.func34 (by kernel_rfl) rfl) (sorted1_any w13 H Vb sp t T D hX_16 47 ⟨b12, 0, none⟩ (enters_of Tryz.func47 (by kernel_rfl) rfl) (fun t => decide (ovrD t now)) (fun W v f => exp1_any W now b12 (hB14.fr0 f) v)) ?_
 rintro _ w30 ⟨A25, c26, rfl, hO27, hF28⟩
 refine ⟨_, rfl, fun a h31 => ?_⟩
 have hsw30 := hF28.size
 have hX_32 := hX_16.fr0 hF28
 have hP_34 := hP_18.tr0 hF28
 have hB6_35 := hB6_19.fr0 hF28
 have hk29 := keys_of hX_16 (fun t => decide (ovrD t now))
 refine V.re h31 [] 1 0 [(7, .slice A25 ((srtK (keysP (fun t => decide (ovrD t now)) (T.a ++ T.b).flatten)).length) c26)] fun a h37 => k23 _ _ ?_
 refine V.sg fun K38 k39 => ?_
 refine V.run h37 [] 2 1 0 [(14, .slice A25 ((srtK (keysP (fun t => decide (ovrD t now)) (T.a ++ T.b).flatten)).length) c26), (15, .func (.func 50) #[] #[.pointer (some ⟨b4, 0, none⟩)])] fun a h40 => ?_
 refine V.cl h40 (Go.Proofs.enters_of Tryz.func49 (by kernel_rfl) rfl) (sstX_any w30 hX_32 b4 hB6_35 w13.heap.size (fun k hk => by have := hX0 k hk; omega) (by omega) A25 c26 (srtK (keysP (fun t => decide (ovrD t now)) (T.a ++ T.b).flatten)) hO27 hk29 (by have := keysP_le (fun t => decide (ovrD t now)) (T.a ++ T.b).flatten; rw [srtK_len]; omega)) ?_
 rintro _ w47 ⟨rfl, xs41, hx42, hO43, hX44, hB45, hF46⟩
 refine ⟨_, rfl, fun a h48 => ?_⟩
 have hsw47 := hF46.size
 have hP_50 := hP_34.trP hF46 (fun k hp => .inr (by have := (hO27.lt _ hp).1; omega))
 refine V.nt (k39 _ _ ?_)
 refine V.seq fun K52 k53 => ?_
 have hcp := hO43.cap
 have hTK := hk29.tol hx42
 have hxl := hx42.length_eq
 have hkz : ∀ x ∈ xs41, x.size ≤ 65536 := fun x hx => key_sz2 hq hk29 (hx42.mem_iff.1 hx)
 have hSx := hO43.read (Z' := fun k => w.heap.size ≤ k ∧ k < w47.heap.size) (fun _ _ h => h.elim) (fun b h1 h2 => ⟨by omega, h2⟩)
 refine V.rr h48 [] 1 0 [(8, .slice none 0 0)] fun a h54 => ?_
 refine V.then_n (k53 _ _ ?_)
 refine V.seq fun K55 k56 => ?_
 refine V.seq fun K57 k58 => ?_
 obtain ⟨m, hm, hml⟩ : ∃ m : Nat, max (0 : Int) (min most ((((srtK (keysP (fun t => decide (ovrD t now)) (T.a ++ T.b).flatten)).length : Nat) : Int))) = (m : Int) ∧ m ≤ xs41.length := ⟨(max (0 : Int) (min most ((((srtK (keysP (fun t => decide (ovrD t now)) (T.a ++ T.b).flatten)).length : Nat) : Int)))).toNat, by omega, by omega⟩
 have htm : (xs41.take m).length = m := by rw [List.length_take]; omega
 have hxb : xs41.length ≤ 65536 := by have := keysP_le (fun t => decide (ovrD t now)) (T.a ++ T.b).flatten; rw [hxl, srtK_len]; omega
 have hS59 := hSx.tk (i := m) (by omega)
 refine V.rr h54 [(4, .q (.int .i64 (min most (((srtK (keysP (fun t => decide (ovrD t now)) (T.a ++ T.b).flatten)).length : Nat) : Int))) V.min_int), (0, .q (.int .i64 ((m : Nat) : Int)) (V.max_int.trans (V.int_eq (by omega)))), (0, .cut0 A25 ((srtK (keysP (fun t => decide (ovrD t now)) (T.a ++ T.b).flatten)).length) c26 ((m : Nat) : Int) m 1)] 17 22 [(23, .slice A25 m c26), (24, .int .i64 ((m : Nat) : Int)), (25, .int .i64 0)] fun a h60 => ?_
 refine V.then_n (k58 _ _ ?_)
 refine V.block ?_
 refine V.loop5 (fun (j : Nat) (S9 : Nat → Prop) (A9 : Option Addr) (c9 : Nat) (rs : List SlV) a_ w_ => En 42 [] a_ [(3, .pointer (some ⟨b4, 0, none⟩)), (8, .slice A9 rs.length c9), (23, .slice A25 m c26), (24, .int .i64 ((m : Nat) : Int)), (25, .int .i64 ((j : Nat) : Int))] ∧ SpY w_ S9 sp (T.n - j) (delsD D (xs41.take j)) ∧ OwR slvR NoZ w_ w47.heap.size 25 (.slice A9 rs.length c9) rs ∧ TolB S9 w47.heap.size w_.heap.size w_ (.slice A9 rs.length c9) rs (xs41.take j) ∧ w47.heap.size ≤ w_.heap.size ∧ FrP S w w_ ∧ Blk w_ b4 [.pointer (some ⟨sp, 0, none⟩)] 29 ∧ SlR Rp.str (fun k => w.heap.size ≤ k ∧ k < w47.heap.size) w_ (.slice A25 m c26) (xs41.take m) ∧ (j ≤ m) ∧ (∀ k, S9 k → S k ∨ w47.heap.size ≤ k)) (fun (j : Nat) (S9 : Nat → Prop) (A9 : Option Addr) (c9 : Nat) (rs : List SlV) => m - j) 0 (fun k => H k ∨ Vb k ∨ k = sp) none 0 ([] : List SlV) ?_ ?_
 ·
  refine ⟨((h60.eq 8 (v := (.slice none 0 0)) (u := (.slice none ([] : List SlV).length 0)) (V.sl_eq (by simp))).eq 25 (v := (.int .i64 0)) (u := (.int .i64 ((0 : Nat) : Int))) (V.int_eq (by omega))).only _, hX44.y0, (OwR.nil ..), TolB.nil, (Nat.le_refl _), hP_50, hB45, hS59, (by omega), (fun k hk => .inl (hS1 k hk))⟩
 ·
  rintro j S9 A9 c9 rs a61 w62 ⟨h63, hY_64, hO9_65, hTB_66, hsz_67, hP_68, hB45_69, hS59_70, hj, hG⟩
  have hfs71 := hP_68.size
  have hlt72 := hB45_69.lt
  have htj : (xs41.take j).length = j := by rw [List.length_take]; omega
  have hrl := hTB_66.len
  obtain ⟨H9, Vb9, t9, T9, hq9, hn9, hS9, hl9⟩ := id hY_64
  have hB9 := hq9.hB
  have hltB9 := hB9.lt
  refine V.sr h63 [] 1 0 [(26, .bool (decide (((j : Nat) : Int) < ((m : Nat) : Int))))] fun a h75 => ?_
  refine V.seq fun K76 k77 => ?_
  refine V.cp h75 (((j : Nat) : Int) < ((m : Nat) : Int)) (fun ht78 => ?_) (fun ht78 => ?_)
  ·
   refine V.skip ?_
   refine V.then_n (k77 _ _ ?_)
   refine V.seq fun K79 k80 => ?_
   refine V.block ?_
   refine V.seq fun K81 k82 => ?_
   obtain ⟨hjx, hkx⟩ := at_take (xs := xs41) (m := m) (j := j) (by omega) hml
   obtain ⟨g83, o84, hA85, hA85l, hA85z⟩ := hS59_70.addr (by omega)
   try dsimp only at hA85z
   obtain ⟨cs86, hok87, hE88⟩ := hS59_70.els hA85 ((j : Nat) : Int) (by omega) (by omega)
   obtain rfl : cs86 = [.string (at_ Rp.str (xs41.take m) ((j : Nat) : Int))] := hok87
   refine V.rr h75 [(0, .ix g83 o84 m c26 .i64 ((j : Nat) : Int) 1 hA85), (0, .l ⟨g83, o84 + ((j : Nat) : Int).toNat * 1, none⟩ (.string (at_ Rp.str (xs41.take m) ((j : Nat) : Int))) (hE88.at 0 rfl))] 27 28 [(10, .string (at_ Rp.str (xs41.take m) ((j : Nat) : Int)))] fun a h89 => ?_
   refine V.then_n (k82 _ _ ?_)
   refine V.sg fun K90 k91 => ?_
   refine V.run h89 [(0, .b hB45_69 0), (2, .b hB9 0)] 5 29 31 [(32, .pointer (some ⟨t9, 0, none⟩)), (33, .string (at_ Rp.str (xs41.take m) ((j : Nat) : Int)))] fun a h92 => ?_
   refine V.cl h92 (Go.Proofs.enters_of Tryz.func52 (by kernel_rfl) rfl) (tdel_sp w62 hq9 hn9 hS9 (at_ Rp.str (xs41.take m) ((j : Nat) : Int)) (by have := hkz _ (List.getElem_mem hjx); rw [hkx]; omega) (by rw [hkx]; exact hTK.at hjx)) ?_
   rintro _ w98 ⟨f93, S94, rfl, hY95, hg96, hF97⟩
   refine ⟨_, rfl, fun a h99 => ?_⟩
   have hsw98 := hF97.size
   have hO9_100 := hO9_65.frP hF97 (fun b hb hp => by have h1 := (hO9_65.lt b hb).1; exact hTB_66.2 b hb hp)
   have hsz_101 := Nat.le_trans hsz_67 hF97.size
   have hP_102 := hP_68.trP hF97 (fun k hk => by rcases hG k hk with q | q; exact .inl q; exact .inr (by omega))
   have hB45_103 := hB45_69.frP hF97 (by exact fun hp => by rcases hG _ hp with q | q; (have := hS2 _ q; omega); omega)
   have hS59_104 := hS59_70.frP hF97 (fun k hz hp => by (try dsimp only at hz); rcases hG k hp with q | q; (have := hS2 k q; omega); omega)
   have hT1 := hTB_66.del (fun k hk => (hO9_65.lt k hk).2) hF97 hg96 (by omega)
   have hsl1 := hY95.lt.2
   have hG1 : ∀ k, S94 k → S k ∨ w47.heap.size ≤ k := fun k hk => by rcases hg96 k hk with q | q; exact hG k q; exact .inr (by omega)
   refine V.nt (k91 _ _ ?_)
   refine V.rg ?_
   refine V.run h99 [] 2 1 0 [(35, .slice A9 rs.length c9), (36, .string (at_ Rp.str (xs41.take m) ((j : Nat) : Int)))] fun a h105 => ?_
   refine V.go (V.mk [(36, .string (at_ Rp.str (xs41.take m) ((j : Nat) : Int)))] ⟨h105.e, trivial⟩ (by kernel_rfl) [.string ⟨#[68, 69, 76]⟩, .string (at_ Rp.str (xs41.take m) ((j : Nat) : Int))] 9 (fun b => .slice (some ⟨b, 0, none⟩) 2 2) (by kernel_rfl) ?_)
   intro w107 b106 heb106 hB108 hF109 hsb106
   have hO9_110 := hO9_100.fr0 hF109
   have hsz_111 := Nat.le_trans hsz_101 hF109.size
   have hP_112 := hP_102.tr0 hF109
   have hB45_113 := hB45_103.fr0 hF109
   have hS59_114 := hS59_104.fr0 hF109
   have hY95_115 := hY95.fr0 hF109
   have hT1_116 := hT1.fr0 hF109
   refine V.pt h105 fun a h117 => ?_
   refine V.go (V.mk [(37, .slice (some ⟨b106, 0, none⟩) 2 2)] ⟨h117.e, trivial⟩ (by kernel_rfl) [.slice (some ⟨b106, 0, none⟩) 2 2] 25 (fun b => .slice (some ⟨b, 0, none⟩) 1 1) (by kernel_rfl) ?_)
   intro w119 b118 heb118 hB120 hF121 hsb118
   have hO9_122 := hO9_110.fr0 hF121
   have hsz_123 := Nat.le_trans hsz_111 hF121.size
   have hP_124 := hP_112.tr0 hF121
   have hB45_125 := hB45_113.fr0 hF121
   have hS59_126 := hS59_114.fr0 hF121
   have hY95_127 := hY95_115.fr0 hF121
   have hT1_128 := hT1_116.fr0 hF121
   have hB108_129 := hB108.fr0 hF121
   refine V.pt h117 fun a h130 => ?_
   refine V.go (V.app (R := slvR) (ys := ([⟨(some ⟨b106, 0, none⟩), 2, 2⟩])) (news := [.slice (some ⟨b106, 0, none⟩) 2 2]) (h130.e (v := (.slice A9 rs.length c9))) ⟨b118, 0, none⟩ 1 1 (h130.e (v := (.slice (some ⟨b118, 0, none⟩) 1 1))) (by kernel_rfl) (info25) (by kernel_rfl) (by decide) hO9_122 rfl ⟨_, [], rfl, rfl, rfl⟩ (blk_cells hB120 0 _ rfl) (by first | omega | (simp; omega)) (by decide) (by omega) ?_)
   intro A131 c132 w133 hO134z hF135 hatw133
   have hsw133 := hF135.size
   have hsz_136 := Nat.le_trans hsz_123 hF135.size
   have hP_137 := hP_124.tr hF135 (fun k hk => .inr (by have := own_ge hO9_122 (Nat.le_refl _) k hk; omega))
   have hB45_138 := hB45_125.fr hF135 (by first | exact own_notin hO9_122 (by omega) | exact own_notin2 hO9_65 (by omega))
   have hS59_139 := hS59_126.fr hF135 (by intro b hb hz; have := own_ge hO9_122 (Nat.le_refl _) b hb; (try dsimp only at hz); omega)
   have hY95_140 := hY95_127.frl hF135 (fun k hk hs => hT1_128.2 k (by simpa using hk) hs)
   have hB108_141 := hB108_129.fr hF135 (by first | exact own_notin hO9_122 (by omega) | exact own_notin2 hO9_65 (by omega))
   have hO134 := hO134z.zone (Z' := NoZ) (fun _ _ q => q.1) (fun _ _ q => q)
   refine V.pt h130 fun a h142 => ?_
   refine V.re h142 [] 1 0 [(8, .slice A131 ((rs.length) + 1) c132)] fun a h143 => ?_
   refine V.blk_n ?_
   refine V.then_n (k80 _ _ ?_)
   refine V.rr h143 [(0, .i (((j : Nat) : Int) + 1))] 40 40 [(25, .int .i64 (((j : Nat) : Int) + 1))] fun a h144 => ?_
   refine V.then_n ?_
   have hv1 : ∀ k, (Value.slice A131 ((rs.length) + 1) c132).ownBlock = some k → (Value.slice A9 rs.length c9).ownBlock = some k ∨ k = w119.heap.size := fun k hk => by rcases hatw133 with q | q; exact .inl (q ▸ hk); (rw [q] at hk; injection hk with hk; exact .inr hk.symm)
   have hadd := hT1_128.app (v1 := .slice A131 ((rs.length) + 1) c132) hF135 hB108_141 ⟨by omega, by omega, by omega⟩ hv1 (fun j hj => by have := hsl1 j hj; omega) (fun j hj => by have := (hO9_65.lt j hj).2; omega)
   refine ⟨j + 1, S94, A131, c132, rs ++ [(⟨some ⟨b106, 0, none⟩, 2, 2⟩ : SlV)], by omega, ?_⟩
   refine ⟨((h144.eq 8 (v := (.slice A131 ((rs.length) + 1) c132)) (u := (.slice A131 (rs ++ [(⟨some ⟨b106, 0, none⟩, 2, 2⟩ : SlV)]).length c132)) (V.sl_eq (by simp))).eq 25 (v := (.int .i64 (((j : Nat) : Int) + 1))) (u := (.int .i64 (((j + 1) : Nat) : Int))) (V.int_eq (by omega))).only _, (by rw [delsD_take hjx, ← hkx]; exact hY95_140), (by rw [List.length_append]; exact hO134), (by rw [List.length_append, List.take_succ_eq_append_getElem hjx, ← hkx]; exact hadd), hsz_136, hP_137, hB45_138, hS59_139, (by omega), hG1⟩
  ·
   refine V.exit (V.then_e (V.then_e (V.blk_hit ?_)))
   refine V.then_n (k56 _ _ ?_)
   refine V.sr h75 [] 41 41 [(6, .slice A9 rs.length c9)] fun a h147 => ?_
   refine V.ret ?_
   refine V.r1 h147 (.slice A9 rs.length c9) ?_
   obtain rfl : j = m := by omega
   have hrl9 := hTB_66.len
   have htl : (xs41.take j).length = j := by rw [List.length_take]; omega
   obtain ⟨Z, hz1, hz2⟩ := hTB_66.row hO9_65 (by omega) (by omega)
   exact ⟨A9, c9, xs41.take j, S9, Z, by rw [List.length_map, ← hrl9], hz1, hTK.take j, by rw [htl]; exact hY_64, fun k hk => (hG k hk).imp id fun q => by omega, hP_68, fun k hk => by have := hz2 k hk; exact ⟨by omega, this.2⟩⟩
theorem info9c : (Tryz.prog.info? 9).map (fun i => (i.zero, i.size)) = some (some (.string ⟨#[]⟩), Rp.str.sz) := by kernel_rfl
theorem sdelg_any (w : World) (base g c i : Nat) (xs : List ByteArray) (hO : OwR Rp.str NoZ w base 9 (.slice (some ⟨g, 0, none⟩) xs.length c) xs) (hi : i < xs.length) (hc : xs.length ≤ c) (hl : xs.length ≤ 1099511627776) : Calls Tryz.prog 38 #[.slice (some ⟨g, 0, none⟩) xs.length c, .int .i64 (i : Int), .int .i64 ((i : Int) + 1)] w (fun e w' => e = .returned (.slice (some ⟨g, 0, none⟩) (xs.length - 1) c) ∧ OwR Rp.str NoZ w' base 9 (.slice (some ⟨g, 0, none⟩) (xs.length - 1) c) (xs.eraseIdx i) ∧ Fr [g] w w') := by
 have hF := Fr.refl [g] w
 have herl : i + (xs.length - (i + 1)) = (xs.eraseIdx i).length := by rw [List.length_eraseIdx_of_lt hi]; omega
 refine V.en 33 Tryz.func38 fun a h1 => ?_
 refine V.sr h1 [] 6 6 [] fun a h4 => ?_
 refine V.sg fun K5 k6 => ?_
 refine V.run h4 [] 5 11 11 [(8, .slice (some ⟨g, 0, none⟩) xs.length c), (9, .int .i64 (i : Int)), (10, .int .i64 ((i : Int) + 1)), (12, .int .i64 ((xs.length : Nat) : Int))] fun a h7 => ?_
 refine V.go (V.slc (e := 9) (sz := 1) g 0 xs.length c i (i + 1) xs.length (h7.e (v := (.slice (some ⟨g, 0, none⟩) xs.length c))) ⟨_, ((h7.e (v := (.int .i64 (i : Int))))).trans (V.int_eq (by omega))⟩ ⟨_, ((h7.e (v := (.int .i64 ((i : Int) + 1))))).trans (V.int_eq (by omega))⟩ ⟨_, ((h7.e (v := (.int .i64 ((xs.length : Nat) : Int))))).trans (V.int_eq (by omega))⟩ (by omega) (by omega) (by omega) (by kernel_rfl) (by kernel_rfl) ?_)
 intro ad8 had9 hae10
 refine V.pt h7 fun a h11 => ?_
 refine V.nt (k6 _ _ ?_)
 refine V.seq fun K12 k13 => ?_
 refine V.sr h11 [(2, .eq (i : Int) ((i : Int) + 1))] 14 15 [(16, .bool (decide ((i : Int) = ((i : Int) + 1))))] fun a h16 => ?_
 refine V.cp h16 ((i : Int) = ((i : Int) + 1)) (fun ht17 => ?_) (fun ht17 => ?_)
 ·
  refine V.sr h16 [] 17 17 [(6, .slice (some ⟨g, 0, none⟩) xs.length c)] fun a h20 => ?_
  refine V.ret (V.then_r ?_)
  refine V.r1 h20 (.slice (some ⟨g, 0, none⟩) xs.length c) ?_
  exact absurd ht17 (by omega)
 ·
  refine V.skip ?_
  refine V.then_n (k13 _ _ ?_)
  refine V.sr h16 [] 18 19 [(7, .int .i64 ((xs.length : Nat) : Int))] fun a h23 => ?_
  refine V.seq fun K24 k25 => ?_
  refine V.pl [([0,1,2,3,4,5],some (6,[])),([7],none)] fun w26 hF27 hsw26 => ?_
  have hF_28 := hF.trans hF27 (by simp <;> omega)
  have hO_29 := hO.fr0 hF27
  refine V.pe0 ?_
  refine V.run h23 [] 2 1 0 [(20, .slice (some ⟨g, 0, none⟩) xs.length c), (21, .int .i64 (i : Int))] fun a h30 => ?_
  refine V.go (V.slc (e := 9) (sz := 1) g 0 xs.length c 0 i c (h30.e (v := (.slice (some ⟨g, 0, none⟩) xs.length c))) rfl ⟨_, ((h30.e (v := (.int .i64 (i : Int))))).trans (V.int_eq (by omega))⟩ rfl (by omega) (by omega) (by omega) (by kernel_rfl) (by kernel_rfl) ?_)
  intro ad31 had32 hae33
  obtain rfl := hae33 rfl
  refine V.pt h30 fun a h34 => ?_
  refine V.run h34 [] 2 1 0 [(23, .slice (some ⟨g, 0, none⟩) xs.length c), (24, .int .i64 ((i : Int) + 1))] fun a h35 => ?_
  refine V.go (V.slc (e := 9) (sz := 1) g 0 xs.length c (i + 1) xs.length c (h35.e (v := (.slice (some ⟨g, 0, none⟩) xs.length c))) ⟨_, ((h35.e (v := (.int .i64 ((i : Int) + 1))))).trans (V.int_eq (by omega))⟩ ⟨rfl, rfl⟩ rfl (by omega) (by omega) (by omega) (by kernel_rfl) (by kernel_rfl) ?_)
  intro ad36 had37 hae38
  refine V.pt h35 fun a h39 => ?_
  refine V.se h39 [] 1 0 [] fun a h40 => ?_
  refine V.go (V.appIn (R := Rp.str) (i := i) (m := xs.length - (i + 1)) hO_29 rfl hi rfl ad36 (fun hq => by rw [had37 (by omega)]; exact congrArg (fun o => (⟨g, o, none⟩ : Addr)) (Nat.zero_add _)) (h40.e (v := (.slice (some ⟨g, 0, none⟩) (i - 0) (c - 0)))) (h40.e (v := (.slice (some ad36) (xs.length - (i + 1)) (c - (i + 1))))) (by kernel_rfl) (by kernel_rfl) ?_)
  intro w41 cur46 hO42 hF43 hB44 hcl45
  have hsw41 := hF43.size
  have hF_47 := hF_28.trans hF43 (by simp <;> omega)
  refine V.pt h40 fun a h48 => ?_
  refine V.eh trivial ?_
  refine V.pz h48 [] 1 0 [(0, .slice (some ⟨g, 0, none⟩) (i + (xs.length - (i + 1))) c)] fun a h49 => k25 _ _ ?_
  refine V.sg fun K50 k51 => ?_
  refine V.run h49 [] 4 28 28 [(27, .slice (some ⟨g, 0, none⟩) (i + (xs.length - (i + 1))) c), (29, .int .i64 (((i + (xs.length - (i + 1))) : Nat) : Int)), (30, .int .i64 ((xs.length : Nat) : Int))] fun a h52 => ?_
  refine V.go (V.slc (e := 9) (sz := 1) g 0 (i + (xs.length - (i + 1))) c (i + (xs.length - (i + 1))) xs.length c (h52.e (v := (.slice (some ⟨g, 0, none⟩) (i + (xs.length - (i + 1))) c))) ⟨_, ((h52.e (v := (.int .i64 (((i + (xs.length - (i + 1))) : Nat) : Int))))).trans (V.int_eq (by omega))⟩ ⟨_, ((h52.e (v := (.int .i64 ((xs.length : Nat) : Int))))).trans (V.int_eq (by omega))⟩ rfl (by omega) (by omega) (by omega) (by kernel_rfl) (by kernel_rfl) ?_)
  intro ad53 had54 hae55
  obtain rfl := had54 (by omega)
  refine V.pt h52 fun a h56 => ?_
  refine V.go (V.clr1 (R := Rp.str) (n := i + (xs.length - (i + 1))) hO42 herl hB44 hcl45 (by omega) ((h56.e (v := (.slice (some ⟨g, 0 + (i + (xs.length - (i + 1))) * 1, none⟩) (xs.length - (i + (xs.length - (i + 1)))) (c - (i + (xs.length - (i + 1))))))).trans (V.sl_eq (by omega))) (by kernel_rfl) (info9c) rfl rfl ?_)
  intro w57 hO58 hF59 hsw57
  have hF_60 := hF_47.trans hF59 (by simp <;> omega)
  refine V.nt (k51 _ _ ?_)
  refine V.sr h56 [] 32 32 [(6, .slice (some ⟨g, 0, none⟩) (i + (xs.length - (i + 1))) c)] fun a h63 => ?_
  refine V.ret ?_
  refine V.r1 h63 (.slice (some ⟨g, 0, none⟩) (i + (xs.length - (i + 1))) c) ?_
  have hq1 : i + (xs.length - (i + 1)) = xs.length - 1 := by omega
  rw [hq1] at hO58 ⊢
  exact ⟨rfl, hO58, hF_60⟩
theorem sdel_any (w : World) (base : Nat) (A : Option Addr) (c i : Nat) (xs : List ByteArray) (hO : OwR Rp.str NoZ w base 9 (.slice A xs.length c) xs) (hi : i < xs.length) (hl : xs.length ≤ 1099511627776) :
    Calls Tryz.prog 38 #[.slice A xs.length c, .int .i64 (i : Int), .int .i64 ((i : Int) + 1)] w (fun e w' => e = .returned (.slice A (xs.length - 1) c) ∧ OwR Rp.str NoZ w' base 9 (.slice A (xs.eraseIdx i).length c) (xs.eraseIdx i) ∧ Fr (Value.slice A xs.length c).ownBlock.toList w w') := by
  rcases hO.caseS with ⟨he1, rfl⟩ | ⟨g, c', he1⟩
  · simp at hi
  · injection he1 with e1 e2 e3
    subst e1; subst e3
    refine (sdelg_any w base g c i xs hO hi hO.cap hl).mono fun e w' ⟨h1, h2, h3⟩ => ⟨h1, ?_, h3.mono (by simp [Value.ownBlock])⟩
    rw [List.length_eraseIdx_of_lt hi]; exact h2
theorem keys_erase {D : ByteArray → Option EnD} {p : Int → Bool} {l : List ByteArray} (h : KeysOf D p l) {i : Nat} (hi : i < l.length) : KeysOf (updD D l[i] none) p (l.eraseIdx i) := by
  have hn := h.1.nodup
  refine ⟨List.Pairwise.sublist (List.eraseIdx_sublist ..) h.1, fun k => ?_⟩
  rw [List.mem_eraseIdx_iff_getElem]
  constructor
  · rintro ⟨j, hj, hne, rfl⟩
    have hk : l[j] ≠ l[i] := fun e => hne (nodup_inj hn hj hi e)
    rw [updD_other hk]
    exact (h.2 _).1 (List.getElem_mem hj)
  · rintro ⟨x, hx, hp⟩
    by_cases hk : k = l[i]
    · subst hk; rw [updD_same] at hx; cases hx
    · rw [updD_other hk] at hx
      obtain ⟨j, hj, e⟩ := List.mem_iff_getElem.1 ((h.2 k).2 ⟨x, hx, hp⟩)
      exact ⟨j, hj, fun e2 => hk (by subst e2; exact e.symm), e⟩
/-! ### Draws -/
def nxt (d : Nat) : Nat := (d * 6364136223846793005 + 1442695040888963407) % 18446744073709551616
theorem nxt_lt (d : Nat) : nxt d < 18446744073709551616 := Nat.mod_lt _ (by decide)
theorem w_nxt (d : Nat) : Value.int .u64 (IntKind.u64.wrap (IntKind.u64.wrap ((d : Int) * 6364136223846793005) + 1442695040888963407)) = .int .u64 ((nxt d : Nat) : Int) := by
  have h : ∀ z : Int, IntKind.u64.wrap z = z % 18446744073709551616 := fun z => rfl
  have h2 : ∀ (x y : Nat) (m : Int), ((x : Int) * (y : Int) % m + 1442695040888963407) % m = ((x * y : Nat) + (1442695040888963407 : Nat) : Int) % m := fun x y m => by rw [Int.emod_add_emod, Int.natCast_mul]; rfl
  rw [h, h]
  have h3 := h2 d 6364136223846793005 18446744073709551616
  refine congrArg (Value.int .u64) (h3.trans ?_)
  unfold nxt
  rw [Int.natCast_emod, Int.natCast_add]
  rfl
/-- What a primary picks by draws: of keys l, the ones that are told as they are taken out, and the one that is seen. -/
inductive PickP (now : Int) : (ByteArray → Option EnD) → List ByteArray → Nat → List ByteArray → Option ByteArray → Prop
  | nil (D : ByteArray → Option EnD) (d : Nat) : PickP now D [] d [] none
  | hit {D : ByteArray → Option EnD} {l : List ByteArray} {d : Nat} : 0 < l.length → SeenK D 1 now (at_ Rp.str l ((d % l.length : Nat) : Int)) → PickP now D l d [] (some (at_ Rp.str l ((d % l.length : Nat) : Int)))
  | miss {D : ByteArray → Option EnD} {l : List ByteArray} {d : Nat} {TL : List ByteArray} {r : Option ByteArray} : 0 < l.length → ¬ SeenK D 1 now (at_ Rp.str l ((d % l.length : Nat) : Int)) →
      PickP now (updD D (at_ Rp.str l ((d % l.length : Nat) : Int)) none) (l.eraseIdx (d % l.length)) (nxt d) TL r → PickP now D l d (at_ Rp.str l ((d % l.length : Nat) : Int) :: TL) r
end Go.Proofs.YtjkegckfncfoaaaGreat
end
section
namespace Go.V
open Go.Base
set_option linter.unusedVariables false
section
variable {ro : Option Nat} {P : Program} {Q : Exit → Act → World → Prop} {a : Act} {w : World} {c : Code}
theorem loop6 {α β γ δ ε ζ : Type} (I : α → β → γ → δ → ε → ζ → Act → World → Prop) (m : α → β → γ → δ → ε → ζ → Nat) (x : α) (y : β) (z : γ) (u : δ) (v : ε) (s : ζ) (h0 : I x y z u v s a w) (hr : ∀ x y z u v s a w, I x y z u v s a w → Wp ro P c (Exit.then (fun a' w' => ∃ x' y' z' u' v' s', m x' y' z' u' v' s' < m x y z u v s ∧ I x' y' z' u' v' s' a' w') Q) a w) : Wp ro P (.loop c) Q a w :=
  loop5 (fun (p : α × β) => I p.1 p.2) (fun p => m p.1 p.2) (x, y) z u v s h0 fun p z u v s a w h => mono (hr p.1 p.2 z u v s a w h) fun e a w q => by cases e <;> first | (obtain ⟨x', y', z', u', v', s', q⟩ := q; exact ⟨(x', y'), z', u', v', s', q⟩) | exact q
theorem loop7 {α β γ δ ε ζ η : Type} (I : α → β → γ → δ → ε → ζ → η → Act → World → Prop) (m : α → β → γ → δ → ε → ζ → η → Nat) (x : α) (y : β) (z : γ) (u : δ) (v : ε) (s : ζ) (t : η) (h0 : I x y z u v s t a w) (hr : ∀ x y z u v s t a w, I x y z u v s t a w → Wp ro P c (Exit.then (fun a' w' => ∃ x' y' z' u' v' s' t', m x' y' z' u' v' s' t' < m x y z u v s t ∧ I x' y' z' u' v' s' t' a' w') Q) a w) : Wp ro P (.loop c) Q a w :=
  loop6 (fun (p : α × β) => I p.1 p.2) (fun p => m p.1 p.2) (x, y) z u v s t h0 fun p z u v s t a w h => mono (hr p.1 p.2 z u v s t a w h) fun e a w q => by cases e <;> first | (obtain ⟨x', y', z', u', v', s', t', q⟩ := q; exact ⟨(x', y'), z', u', v', s', t', q⟩) | exact q
end
end Go.V
end
section
namespace Go.Proofs.YtjkegckfncfoaaaGreat
open Go.V Go.Base
open Go.RowKit (Below)
attribute [local irreducible] Act.put Act.eval
set_option linter.unusedVariables false
set_option linter.unusedSimpArgs false
set_option maxHeartbeats 4000000
set_option maxRecDepth 20000
theorem own_n (A : Option Addr) (c n m : Nat) : (Value.slice A n c).ownBlock = (Value.slice A m c).ownBlock := by cases A <;> rfl
theorem keys_there {D : ByteArray → Option EnD} {p : Int → Bool} {l : List ByteArray} (h : KeysOf D p l) {i : Nat} (hi : i < l.length) : D (at_ Rp.str l (i : Int)) ≠ none := by
  obtain ⟨x, hx, _⟩ := (h.2 _).1 (show at_ Rp.str l (i : Int) ∈ l by rw [at_str hi]; exact List.getElem_mem hi)
  rw [hx]; simp
/-- gone, of a primary: the key is taken out and told. -/
theorem gone1_any (w : World) (S : Nat → Prop) (sp n : Nat) (D : ByteArray → Option EnD) (hY : SpY w S sp n D) (now dr : Int) (Aa : Option Addr) (na ca : Nat) (key : ByteArray) (hkz : key.size ≤ 9223372036854775807) (hD : D key ≠ none) :
    Calls Tryz.prog 32 #[.pointer (some ⟨sp, 0, none⟩), .agg #[.int .i64 now, .int .u64 dr, .int .i64 1, .slice Aa na ca], .string key] w (fun e w' => ∃ b1 b2 S' m, e = .returned (.slice (some ⟨b2, 0, none⟩) 1 1) ∧ Blk w' b1 [.string ⟨#[68, 69, 76]⟩, .string key] 9 ∧ Blk w' b2 [.slice (some ⟨b1, 0, none⟩) 2 2] 25 ∧ SpY w' S' sp (n - 1) (updD D key none) ∧ GrS S w S' ∧ FrP S w w' ∧ (∀ k, S' k → k < m) ∧ w.heap.size ≤ m ∧ m ≤ b1 ∧ m ≤ b2) :=
  (gone_any w S sp n D hY now dr 1 Aa na ca key hkz).mono fun e w' ⟨vt, S', m, he, ht, hy, hg, hf, hm, hw⟩ => by
    unfold goneT goneN goneD delN at *
    rw [if_pos rfl] at ht hy
    rw [if_pos rfl, if_neg hD] at hy
    rcases ht with ⟨h, _⟩ | ⟨b1, b2, x, y, h, rfl, hB1, hB2, q1, q2⟩
    · cases h
    · injection h with h _
      injection h with h1 h2
      injection h2 with h2 _
      subst h1; subst h2
      exact ⟨b1, b2, S', m, he, hB1, hB2, hy, hg, hf, hm, hw, q1, q2⟩
theorem next_any (w : World) (d : Nat) : Calls Tryz.prog 36 #[.int .u64 ((d : Nat) : Int)] w (fun e w' => e = .returned (.int .u64 ((nxt d : Nat) : Int)) ∧ Fr [] w w') := by
 have hF := Fr.refl [] w
 refine V.en 6 Tryz.func36 fun a h1 => ?_
 refine V.sr h1 [] 2 2 [] fun a h4 => ?_
 refine V.sr h4 [] 3 5 [(2, .int .u64 (IntKind.u64.wrap ((IntKind.u64.wrap (((d : Nat) : Int) * 6364136223846793005)) + 1442695040888963407)))] fun a h7 => ?_
 refine V.ret ?_
 refine V.r1 h7 (.int .u64 (IntKind.u64.wrap ((IntKind.u64.wrap (((d : Nat) : Int) * 6364136223846793005)) + 1442695040888963407))) ?_
 exact ⟨congrArg Ending.returned (w_nxt d), hF⟩
theorem pickp_any (w : World) (S : Nat → Prop) (sp n : Nat) (D : ByteArray → Option EnD) (hY : SpY w S sp n D) (now : Int) (dr : Nat) (Aa : Option Addr) (na ca : Nat) (hdr : dr < 18446744073709551616) : Calls Tryz.prog 11 #[.pointer (some ⟨sp, 0, none⟩), .agg #[.int .i64 now, .int .u64 ((dr : Nat) : Int), .int .i64 1, .slice Aa na ca]] w (fun e w' => ∃ l TL r k f A c S' Z, e = .returned (.tuple #[.string k, .bool f, .slice A (TL.map rowT).length c]) ∧ KeysOf D (fun _ => true) l ∧ PickP now D l dr TL r ∧ ((r = some k ∧ f = true) ∨ (r = none ∧ k = ⟨#[]⟩ ∧ f = false)) ∧ SlR (Rp.slice Rp.str) Z w' (.slice A (TL.map rowT).length c) (TL.map rowT) ∧ TolK D TL ∧ SpY w' S' sp (n - TL.length) (delsD D TL) ∧ GrS S w S' ∧ FrP S w w' ∧ ∀ k, Z k → w.heap.size ≤ k ∧ k < w'.heap.size ∧ ¬ S' k) := by
 obtain ⟨H, Vb, t, T, hq, rfl, hS1, hS2⟩ := id hY
 have hX := hq
 have hB := hq.hB
 have hspl := hB.lt
 have hP := FrP.refl S w
 have hX0 := hq.lt
 refine V.en 79 Tryz.func11 fun a h1 => ?_
 refine V.sg fun K2 k3 => ?_
 refine V.go (V.mk [(1, .agg #[.int .i64 now, .int .u64 ((dr : Nat) : Int), .int .i64 1, .slice Aa na ca])] ⟨h1.e, trivial⟩ (by kernel_rfl) [.int .i64 now, .int .u64 ((dr : Nat) : Int), .int .i64 1, .slice Aa na ca] 27 (fun b => .pointer (some ⟨b, 0, none⟩)) (by kernel_rfl) ?_)
 intro w5 b4 heb4 hB6 hF7 hsb4
 have hX_8 := hX.fr0 hF7
 have hP_10 := hP.tr0 hF7
 refine V.pt h1 fun a h11 => ?_
 refine V.re h11 [] 4 6 [] fun a h12 => k3 _ _ ?_
 refine V.sg fun K13 k14 => ?_
 refine V.run h12 [] 1 1 0 [(13, .pointer (some ⟨sp, 0, none⟩))] fun a h15 => ?_
 refine V.cl h15 (Go.Proofs.enters_of Tryz.func34 (by kernel_rfl) rfl) (skeys0_any w5 hX_8) ?_
 rintro _ w23 ⟨A16, c17, l18, rfl, hO19, hk20, hn22, hF21⟩
 refine ⟨_, rfl, fun a h24 => ?_⟩
 have hsw23 := hF21.size
 have hX_25 := hX_8.fr0 hF21
 have hP_27 := hP_10.tr0 hF21
 have hB6_28 := hB6.fr0 hF21
 refine V.re h24 [] 1 0 [(7, .slice A16 l18.length c17)] fun a h29 => k14 _ _ ?_
 refine V.sr h29 [] 1 0 [(8, .slice none 0 0)] fun a h32 => ?_
 refine V.seq fun K33 k34 => ?_
 refine V.seq fun K35 k36 => ?_
 have hkl := hk20
 have hlk0 : ∀ {n : Nat} (b : Nat), (Value.slice A16 n c17).ownBlock = some b → w.heap.size ≤ b ∧ b < w23.heap.size := fun {n} b hb => by have := hO19.lt b ((own_n _ _ _ _).trans hb); omega
 refine V.rr h32 [(1, .b hB6_28 1)] 15 16 [(9, .int .u64 ((dr : Nat) : Int))] fun a h37 => ?_
 refine V.then_n (k36 _ _ ?_)
 refine V.block ?_
 refine V.loop7 (fun (lc : List ByteArray) (d : Nat) (acc : List ByteArray) (S9 : Nat → Prop) (A9 : Option Addr) (c9 : Nat) (rs : List SlV) a_ w_ => En 79 [] a_ [(0, .pointer (some ⟨sp, 0, none⟩)), (3, .pointer (some ⟨b4, 0, none⟩)), (7, .slice A16 lc.length c17), (8, .slice A9 rs.length c9), (9, .int .u64 ((d : Nat) : Int))] ∧ OwR Rp.str NoZ w_ w5.heap.size 9 (.slice A16 lc.length c17) lc ∧ SpY w_ S9 sp (T.n - acc.length) (delsD D acc) ∧ OwR slvR NoZ w_ w23.heap.size 25 (.slice A9 rs.length c9) rs ∧ TolB S9 w23.heap.size w_.heap.size w_ (.slice A9 rs.length c9) rs acc ∧ w23.heap.size ≤ w_.heap.size ∧ FrP S w w_ ∧ Blk w_ b4 [.int .i64 now, .int .u64 ((dr : Nat) : Int), .int .i64 1, .slice Aa na ca] 27 ∧ (d < 18446744073709551616) ∧ (acc.length + lc.length ≤ 65536) ∧ (KeysOf (delsD D acc) (fun _ => true) lc) ∧ (TolK D acc) ∧ (∀ TL r, PickP now (delsD D acc) lc d TL r → PickP now D l18 dr (acc ++ TL) r) ∧ (∀ k, S9 k → S k ∨ w23.heap.size ≤ k)) (fun (lc : List ByteArray) (d : Nat) (acc : List ByteArray) (S9 : Nat → Prop) (A9 : Option Addr) (c9 : Nat) (rs : List SlV) => lc.length) l18 dr ([]) (fun k => H k ∨ Vb k ∨ k = sp) none 0 ([] : List SlV) ?_ ?_
 ·
  refine ⟨(h37.eq 8 (v := (.slice none 0 0)) (u := (.slice none ([] : List SlV).length 0)) (V.sl_eq (by simp))).only _, hO19, hX_25.y0, (OwR.nil ..), TolB.nil, (Nat.le_refl _), hP_27, hB6_28, hdr, (by have := hn22; simp only [List.length_nil]; omega), hkl, (TolK.nil _), (fun TL r q => q), (fun k hk => .inl (hS1 k hk))⟩
 ·
  rintro lc d acc S9 A9 c9 rs a38 w39 ⟨h40, hO7_41, hY_42, hO9_43, hTB_44, hsz_45, hP_46, hB6_47, hd, hln, hKl, hTK, hPk, hG⟩
  have hfs48 := hP_46.size
  have hlt49 := hB6_47.lt
  have hrl := hTB_44.len
  obtain ⟨H9, Vb9, t9, T9, hq9, hn9, hS9, hl9⟩ := id hY_42
  have hB9 := hq9.hB
  have hltB9 := hB9.lt
  have hX9 := hq9.lt
  have hO9_lt := hO9_43.lt
  have hX9q := hq9
  refine V.seq fun K50 k51 => ?_
  refine V.sr h40 [] 17 18 [(19, .bool (decide (((lc.length : Nat) : Int) > 0)))] fun a h54 => ?_
  refine V.cp h54 (((lc.length : Nat) : Int) > 0) (fun ht55 => ?_) (fun ht55 => ?_)
  ·
   refine V.skip ?_
   refine V.then_n (k51 _ _ ?_)
   refine V.seq fun K56 k57 => ?_
   refine V.block ?_
   refine V.seq fun K58 k59 => ?_
   have hdm := Nat.mod_lt d (show 0 < lc.length by omega)
   have hks := keys_sz hq9 hKl hdm
   refine V.rr h54 [(3, .q (.int .u64 ((lc.length : Nat) : Int)) (V.w_u64 (by omega) (by omega))), (0, .remN .u64 d lc.length), (0, .q (.int .i64 ((d % lc.length : Nat) : Int)) (V.w_i64 (by omega) (by omega)))] 22 27 [(10, .int .i64 ((d % lc.length : Nat) : Int))] fun a h60 => ?_
   refine V.then_n (k59 _ _ ?_)
   refine V.seq fun K61 k62 => ?_
   refine V.sr h60 [] 28 28 [(29, .int .i64 ((lc.length : Nat) : Int)), (30, .int .i64 0)] fun a h65 => ?_
   refine V.block ?_
   refine V.loopR 1 ?_
   refine V.rnd ?_
   refine V.sr h65 [] 1 0 [(31, .bool (decide (0 < ((lc.length : Nat) : Int))))] fun a h68 => ?_
   refine V.seq fun K69 k70 => ?_
   refine V.cp h68 (0 < ((lc.length : Nat) : Int)) (fun ht71 => ?_) (fun ht71 => ?_)
   ·
    refine V.skip ?_
    refine V.then_n (k70 _ _ ?_)
    refine V.seq fun K72 k73 => ?_
    refine V.block ?_
    refine V.seq fun K74 k75 => ?_
    refine V.seq fun K76 k77 => ?_
    refine V.ql (.seg [0, 1, 2, 3, 4, 5, 6, 7] (.alt (.eff 8 [] (.seg [9, 10, 11] (.eff 12 [3, 7] (.eff 13 [] (.seg [14] .nil))))) (.eff 12 [3, 7] (.eff 8 [] (.seg [9, 10, 11] (.eff 13 [] (.seg [14] .nil))))))) fun w78 hF79 hsw78 => ?_
    have hO7_80 := hO7_41.fr0 hF79
    have hO9_81 := hO9_43.fr0 hF79
    have hTB_82 := hTB_44.fr0 hF79
    have hsz_83 := Nat.le_trans hsz_45 hF79.size
    have hP_84 := hP_46.tr0 hF79
    have hB6_85 := hB6_47.fr0 hF79
    have hB9_86 := hB9.fr0 hF79
    have hX9q_87 := hX9q.fr0 hF79
    have hS88 := hO7_80.is
    obtain ⟨g89, o90, hA91, hA91l, hA91z⟩ := hS88.addr (by omega)
    obtain ⟨cs92, hok93, hE94⟩ := hS88.els hA91 ((d % lc.length : Nat) : Int) (by omega) (by omega)
    obtain rfl : cs92 = [.string (at_ Rp.str lc ((d % lc.length : Nat) : Int))] := hok93
    refine V.qs h68 [(3, .b hB9_86 0), (2, .ix g89 o90 lc.length c17 .i64 ((d % lc.length : Nat) : Int) 1 hA91), (0, .l ⟨g89, o90 + ((d % lc.length : Nat) : Int).toNat * 1, none⟩ (.string (at_ Rp.str lc ((d % lc.length : Nat) : Int))) (hE94.at 0 rfl))] 33 38 [(35, .pointer (some ⟨sp, 0, none⟩)), (36, .pointer (some ⟨t9, 0, none⟩)), (39, .pointer (some ⟨g89, o90 + ((d % lc.length : Nat) : Int).toNat * 1, none⟩)), (40, .string (at_ Rp.str lc ((d % lc.length : Nat) : Int)))] fun a h95 => ?_
    refine V.qa ?_ ?_
    ·
     refine V.qe ?_
     refine V.cl h95 (Go.Proofs.enters_of Tryz.func37 (by kernel_rfl) rfl) (look_any w78 (H9) [] t9 (T9) hX9q_87.hT (at_ Rp.str lc ((d % lc.length : Nat) : Int)) (by omega)) ?_
     rintro _ w97 ⟨rfl, hF96⟩
     refine ⟨_, rfl, fun a h98 => ?_⟩
     have hsw97 := hF96.size
     have hO7_99 := hO7_80.fr0 hF96
     have hO9_100 := hO9_81.fr0 hF96
     have hTB_101 := hTB_82.fr0 hF96
     have hsz_102 := Nat.le_trans hsz_83 hF96.size
     have hP_103 := hP_84.tr0 hF96
     have hB6_104 := hB6_85.fr0 hF96
     have hB9_105 := hB9_86.fr0 hF96
     have hX9q_106 := hX9q_87.fr0 hF96
     have hE94_108 := hE94.fr0 hF96
     refine V.eh trivial ?_
     refine V.qs h98 [] 32 32 [(42, .agg #[.int .i64 (((lookT EntV.nil T9 (at_ Rp.str lc ((d % lc.length : Nat) : Int))).1).kind), .string (((lookT EntV.nil T9 (at_ Rp.str lc ((d % lc.length : Nat) : Int))).1).s), .slice (((lookT EntV.nil T9 (at_ Rp.str lc ((d % lc.length : Nat) : Int))).1).l.a) (((lookT EntV.nil T9 (at_ Rp.str lc ((d % lc.length : Nat) : Int))).1).l.n) (((lookT EntV.nil T9 (at_ Rp.str lc ((d % lc.length : Nat) : Int))).1).l.c), .slice (((lookT EntV.nil T9 (at_ Rp.str lc ((d % lc.length : Nat) : Int))).1).z.a) (((lookT EntV.nil T9 (at_ Rp.str lc ((d % lc.length : Nat) : Int))).1).z.n) (((lookT EntV.nil T9 (at_ Rp.str lc ((d % lc.length : Nat) : Int))).1).z.c), .slice (((lookT EntV.nil T9 (at_ Rp.str lc ((d % lc.length : Nat) : Int))).1).h.a) (((lookT EntV.nil T9 (at_ Rp.str lc ((d % lc.length : Nat) : Int))).1).h.n) (((lookT EntV.nil T9 (at_ Rp.str lc ((d % lc.length : Nat) : Int))).1).h.c), .int .i64 (((lookT EntV.nil T9 (at_ Rp.str lc ((d % lc.length : Nat) : Int))).1).till)]), (43, .bool ((lookT EntV.nil T9 (at_ Rp.str lc ((d % lc.length : Nat) : Int))).2))] fun a h109 => ?_
     refine V.qe ?_
     refine V.go (V.mk [] trivial (by kernel_rfl) [.int .i64 0, .string ⟨#[]⟩, .slice none 0 0, .slice none 0 0, .slice none 0 0, .int .i64 0] 79 (fun b => .pointer (some ⟨b, 0, none⟩)) (by kernel_rfl) ?_)
     intro w111 b110 heb110 hB112 hF113 hsb110
     have hO7_114 := hO7_99.fr0 hF113
     have hO9_115 := hO9_100.fr0 hF113
     have hTB_116 := hTB_101.fr0 hF113
     have hsz_117 := Nat.le_trans hsz_102 hF113.size
     have hP_118 := hP_103.tr0 hF113
     have hB6_119 := hB6_104.fr0 hF113
     have hB9_120 := hB9_105.fr0 hF113
     have hX9q_121 := hX9q_106.fr0 hF113
     have hE94_123 := hE94_108.fr0 hF113
     refine V.pt h109 fun a h124 => ?_
     refine V.eh ⟨(fun _ => held_blk (n := 1) (hx := (h109.e (v := (.pointer (some ⟨sp, 0, none⟩))))) hB9_105 hB9_120 (by kernel_rfl) rfl (by simp only [List.length]; omega)), (fun _ => held_els (m := 1) (f := 0) (hx := (h109.e (v := (.pointer (some ⟨g89, o90 + ((d % lc.length : Nat) : Int).toNat * 1, none⟩))))) hE94_108 hE94_123 (by kernel_rfl) (by simp only [List.length]; omega))⟩ ?_
     refine V.qe ?_
     refine V.go (V.stn b110 0 (.agg #[.int .i64 (((lookT EntV.nil T9 (at_ Rp.str lc ((d % lc.length : Nat) : Int))).1).kind), .string (((lookT EntV.nil T9 (at_ Rp.str lc ((d % lc.length : Nat) : Int))).1).s), .slice (((lookT EntV.nil T9 (at_ Rp.str lc ((d % lc.length : Nat) : Int))).1).l.a) (((lookT EntV.nil T9 (at_ Rp.str lc ((d % lc.length : Nat) : Int))).1).l.n) (((lookT EntV.nil T9 (at_ Rp.str lc ((d % lc.length : Nat) : Int))).1).l.c), .slice (((lookT EntV.nil T9 (at_ Rp.str lc ((d % lc.length : Nat) : Int))).1).z.a) (((lookT EntV.nil T9 (at_ Rp.str lc ((d % lc.length : Nat) : Int))).1).z.n) (((lookT EntV.nil T9 (at_ Rp.str lc ((d % lc.length : Nat) : Int))).1).z.c), .slice (((lookT EntV.nil T9 (at_ Rp.str lc ((d % lc.length : Nat) : Int))).1).h.a) (((lookT EntV.nil T9 (at_ Rp.str lc ((d % lc.length : Nat) : Int))).1).h.n) (((lookT EntV.nil T9 (at_ Rp.str lc ((d % lc.length : Nat) : Int))).1).h.c), .int .i64 (((lookT EntV.nil T9 (at_ Rp.str lc ((d % lc.length : Nat) : Int))).1).till)]) [.int .i64 (((lookT EntV.nil T9 (at_ Rp.str lc ((d % lc.length : Nat) : Int))).1).kind), .string (((lookT EntV.nil T9 (at_ Rp.str lc ((d % lc.length : Nat) : Int))).1).s), .slice (((lookT EntV.nil T9 (at_ Rp.str lc ((d % lc.length : Nat) : Int))).1).l.a) (((lookT EntV.nil T9 (at_ Rp.str lc ((d % lc.length : Nat) : Int))).1).l.n) (((lookT EntV.nil T9 (at_ Rp.str lc ((d % lc.length : Nat) : Int))).1).l.c), .slice (((lookT EntV.nil T9 (at_ Rp.str lc ((d % lc.length : Nat) : Int))).1).z.a) (((lookT EntV.nil T9 (at_ Rp.str lc ((d % lc.length : Nat) : Int))).1).z.n) (((lookT EntV.nil T9 (at_ Rp.str lc ((d % lc.length : Nat) : Int))).1).z.c), .slice (((lookT EntV.nil T9 (at_ Rp.str lc ((d % lc.length : Nat) : Int))).1).h.a) (((lookT EntV.nil T9 (at_ Rp.str lc ((d % lc.length : Nat) : Int))).1).h.n) (((lookT EntV.nil T9 (at_ Rp.str lc ((d % lc.length : Nat) : Int))).1).h.c), .int .i64 (((lookT EntV.nil T9 (at_ Rp.str lc ((d % lc.length : Nat) : Int))).1).till)] h124.e h124.e rfl rfl (by kernel_rfl) hB112 (by simp) [.int .i64 (((lookT EntV.nil T9 (at_ Rp.str lc ((d % lc.length : Nat) : Int))).1).kind), .string (((lookT EntV.nil T9 (at_ Rp.str lc ((d % lc.length : Nat) : Int))).1).s), .slice (((lookT EntV.nil T9 (at_ Rp.str lc ((d % lc.length : Nat) : Int))).1).l.a) (((lookT EntV.nil T9 (at_ Rp.str lc ((d % lc.length : Nat) : Int))).1).l.n) (((lookT EntV.nil T9 (at_ Rp.str lc ((d % lc.length : Nat) : Int))).1).l.c), .slice (((lookT EntV.nil T9 (at_ Rp.str lc ((d % lc.length : Nat) : Int))).1).z.a) (((lookT EntV.nil T9 (at_ Rp.str lc ((d % lc.length : Nat) : Int))).1).z.n) (((lookT EntV.nil T9 (at_ Rp.str lc ((d % lc.length : Nat) : Int))).1).z.c), .slice (((lookT EntV.nil T9 (at_ Rp.str lc ((d % lc.length : Nat) : Int))).1).h.a) (((lookT EntV.nil T9 (at_ Rp.str lc ((d % lc.length : Nat) : Int))).1).h.n) (((lookT EntV.nil T9 (at_ Rp.str lc ((d % lc.length : Nat) : Int))).1).h.c), .int .i64 (((lookT EntV.nil T9 (at_ Rp.str lc ((d % lc.length : Nat) : Int))).1).till)] rfl ?_)
     intro w125 hB126 hF127 hsw125
     have hO7_128 := hO7_114.frn hF127 (fun h => h) (by first | exact own_ne hO7_114 (by omega) | exact own_ne2 hO7_41 (by omega))
     have hO9_129 := hO9_115.frn hF127 (fun h => h) (by first | exact own_ne hO9_115 (by omega) | exact own_ne2 hO9_43 (by omega))
     have hTB_130 := hTB_116.fr hF127 (by intro k hk; simp only [List.mem_singleton] at hk; omega)
     have hsz_131 := Nat.le_trans hsz_117 hF127.size
     have hP_132 := hP_118.tr1 hF127 (by first | exact .inl (by assumption) | exact .inr (by omega) | exact .inl (.inl rfl))
     have hB6_133 := hB6_119.fr1 hF127 (by omega)
     have hX9q_135 := hX9q_121.frl hF127 (by intro k hk; simp only [List.mem_singleton] at hk; subst hk; exact ⟨fun q => by have := hX9 _ (.inl q); omega, fun q => by have := hX9 _ (.inr (.inl q)); omega, fun q => by have := hX9 _ (.inr (.inr q)); omega⟩)
     have hE94_136 := hE94_123.fr hF127 (by simp <;> omega)
     refine V.eh trivial ?_
     refine V.qs h124 [] 12 12 [] fun a h137 => ?_
     refine V.qn (k77 _ _ ?_)
     refine V.sg fun K138 k139 => ?_
     refine V.run h137 [(0, .bs hB6_133 0 [.int .i64 now, .int .u64 ((dr : Nat) : Int), .int .i64 1, .slice Aa na ca]), (0, .bs hB126 0 [.int .i64 (((lookT EntV.nil T9 (at_ Rp.str lc ((d % lc.length : Nat) : Int))).1).kind), .string (((lookT EntV.nil T9 (at_ Rp.str lc ((d % lc.length : Nat) : Int))).1).s), .slice (((lookT EntV.nil T9 (at_ Rp.str lc ((d % lc.length : Nat) : Int))).1).l.a) (((lookT EntV.nil T9 (at_ Rp.str lc ((d % lc.length : Nat) : Int))).1).l.n) (((lookT EntV.nil T9 (at_ Rp.str lc ((d % lc.length : Nat) : Int))).1).l.c), .slice (((lookT EntV.nil T9 (at_ Rp.str lc ((d % lc.length : Nat) : Int))).1).z.a) (((lookT EntV.nil T9 (at_ Rp.str lc ((d % lc.length : Nat) : Int))).1).z.n) (((lookT EntV.nil T9 (at_ Rp.str lc ((d % lc.length : Nat) : Int))).1).z.c), .slice (((lookT EntV.nil T9 (at_ Rp.str lc ((d % lc.length : Nat) : Int))).1).h.a) (((lookT EntV.nil T9 (at_ Rp.str lc ((d % lc.length : Nat) : Int))).1).h.n) (((lookT EntV.nil T9 (at_ Rp.str lc ((d % lc.length : Nat) : Int))).1).h.c), .int .i64 (((lookT EntV.nil T9 (at_ Rp.str lc ((d % lc.length : Nat) : Int))).1).till)])] 2 1 0 [(44, .agg #[.int .i64 now, .int .u64 ((dr : Nat) : Int), .int .i64 1, .slice Aa na ca]), (45, .agg #[.int .i64 (((lookT EntV.nil T9 (at_ Rp.str lc ((d % lc.length : Nat) : Int))).1).kind), .string (((lookT EntV.nil T9 (at_ Rp.str lc ((d % lc.length : Nat) : Int))).1).s), .slice (((lookT EntV.nil T9 (at_ Rp.str lc ((d % lc.length : Nat) : Int))).1).l.a) (((lookT EntV.nil T9 (at_ Rp.str lc ((d % lc.length : Nat) : Int))).1).l.n) (((lookT EntV.nil T9 (at_ Rp.str lc ((d % lc.length : Nat) : Int))).1).l.c), .slice (((lookT EntV.nil T9 (at_ Rp.str lc ((d % lc.length : Nat) : Int))).1).z.a) (((lookT EntV.nil T9 (at_ Rp.str lc ((d % lc.length : Nat) : Int))).1).z.n) (((lookT EntV.nil T9 (at_ Rp.str lc ((d % lc.length : Nat) : Int))).1).z.c), .slice (((lookT EntV.nil T9 (at_ Rp.str lc ((d % lc.length : Nat) : Int))).1).h.a) (((lookT EntV.nil T9 (at_ Rp.str lc ((d % lc.length : Nat) : Int))).1).h.n) (((lookT EntV.nil T9 (at_ Rp.str lc ((d % lc.length : Nat) : Int))).1).h.c), .int .i64 (((lookT EntV.nil T9 (at_ Rp.str lc ((d % lc.length : Nat) : Int))).1).till)])] fun a h140 => ?_
     refine V.cl h140 (Go.Proofs.enters_of Tryz.func31 (by kernel_rfl) rfl) (seen_any w125 now ((dr : Nat) : Int) 1 Aa na ca ((lookT EntV.nil T9 (at_ Rp.str lc ((d % lc.length : Nat) : Int))).1)) ?_
     rintro _ w142 ⟨rfl, hF141⟩
     refine ⟨_, rfl, fun a h143 => ?_⟩
     have hsw142 := hF141.size
     have hO7_144 := hO7_128.fr0 hF141
     have hO9_145 := hO9_129.fr0 hF141
     have hTB_146 := hTB_130.fr0 hF141
     have hsz_147 := Nat.le_trans hsz_131 hF141.size
     have hP_148 := hP_132.tr0 hF141
     have hB6_149 := hB6_133.fr0 hF141
     have hX9q_151 := hX9q_135.fr0 hF141
     have hE94_152 := hE94_136.fr0 hF141
     refine V.nt (k139 _ _ ?_)
     refine V.cp h143 (seenD 1 now (((lookT EntV.nil T9 (at_ Rp.str lc ((d % lc.length : Nat) : Int))).1).till)) (fun ht154 => ?_) (fun ht154 => ?_)
     ·
      refine V.sr h143 [(2, .ix g89 o90 lc.length c17 .i64 ((d % lc.length : Nat) : Int) 1 hA91), (0, .l ⟨g89, o90 + ((d % lc.length : Nat) : Int).toNat * 1, none⟩ (.string (at_ Rp.str lc ((d % lc.length : Nat) : Int))) (hE94_152.at 0 rfl))] 47 51 [(4, .string (at_ Rp.str lc ((d % lc.length : Nat) : Int))), (5, .bool true), (6, .slice A9 rs.length c9)] fun a h157 => ?_
      refine V.ret (V.then_r (V.blk_r (V.then_r (V.then_r (V.blk_r (V.then_r (V.blk_r (V.then_r (V.then_r (V.blk_r (V.then_r ?_)))))))))))
      refine V.r3 h157 (.string (at_ Rp.str lc ((d % lc.length : Nat) : Int))) (.bool true) (.slice A9 rs.length c9) ?_
      have hrl9 := hTB_146.len
      obtain ⟨Z, hz1, hz2⟩ := hTB_146.row hO9_145 (by omega) (by omega)
      exact ⟨l18, acc, some _, _, _, A9, c9, S9, Z, by rw [List.length_map, ← hrl9], hkl, (by have hpp := hPk [] _ (.hit (by omega) ((seen_key hq9 hKl hdm).1 ht154)); rwa [List.append_nil] at hpp), .inl ⟨rfl, rfl⟩, hz1, hTK, ⟨H9, Vb9, t9, T9, hX9q_151, hn9, hS9, fun k hk => by have := hl9 k hk; omega⟩, fun k hk => (hG k hk).imp id fun q => by omega, hP_148, fun k hk => by have := hz2 k hk; exact ⟨by omega, this.2⟩⟩
     ·
      refine V.skip ?_
      refine V.then_n (k75 _ _ ?_)
      refine V.seq fun K158 k159 => ?_
      refine V.sr h143 [(1, .b hB6_149 2)] 52 53 [(54, .bool true)] fun a h162 => ?_
      refine V.ct h162 ?_
      refine V.exit (V.then_e ?_)
      refine V.blk_miss rfl ?_
      refine V.then_e (V.then_e (V.blk_hit ?_))
      refine V.then_n (k62 _ _ ?_)
      refine V.seq fun K163 k164 => ?_
      refine V.sr h162 [(1, .b hB6_149 2)] 61 62 [(63, .bool false)] fun a h167 => ?_
      refine V.cf h167 ?_
      refine V.skip ?_
      refine V.then_n (k164 _ _ ?_)
      refine V.seq fun K168 k169 => ?_
      refine V.pl [([0,1,2,3,4,5,6],some (7,[])),([],some (8,[])),([9],none)] fun w170 hF171 hsw170 => ?_
      have hO7_172 := hO7_144.fr0 hF171
      have hO9_173 := hO9_145.fr0 hF171
      have hTB_174 := hTB_146.fr0 hF171
      have hsz_175 := Nat.le_trans hsz_147 hF171.size
      have hP_176 := hP_148.tr0 hF171
      have hB6_177 := hB6_149.fr0 hF171
      have hX9q_179 := hX9q_151.fr0 hF171
      have hE94_180 := hE94_152.fr0 hF171
      refine V.pe h167 [(2, .bs hB6_177 0 [.int .i64 now, .int .u64 ((dr : Nat) : Int), .int .i64 1, .slice Aa na ca]), (2, .ix g89 o90 lc.length c17 .i64 ((d % lc.length : Nat) : Int) 1 hA91), (0, .l ⟨g89, o90 + ((d % lc.length : Nat) : Int).toNat * 1, none⟩ (.string (at_ Rp.str lc ((d % lc.length : Nat) : Int))) (hE94_180.at 0 rfl))] 67 69 [(64, .slice A9 rs.length c9), (65, .pointer (some ⟨sp, 0, none⟩)), (66, .agg #[.int .i64 now, .int .u64 ((dr : Nat) : Int), .int .i64 1, .slice Aa na ca]), (70, .string (at_ Rp.str lc ((d % lc.length : Nat) : Int)))] fun a h182 => ?_
      have hYg : SpY w170 S9 sp (T.n - acc.length) (delsD D acc) := ⟨H9, Vb9, t9, T9, hX9q_179, hn9, hS9, fun k hk => by have := hl9 k hk; omega⟩
      refine V.cl h182 (Go.Proofs.enters_of Tryz.func32 (by kernel_rfl) rfl) (gone1_any w170 S9 sp _ _ hYg now ((dr : Nat) : Int) Aa na ca (at_ Rp.str lc ((d % lc.length : Nat) : Int)) (by omega) (keys_there hKl hdm)) ?_
      rintro _ w193 ⟨b183, b184, S185, m186, rfl, hB187, hB188, hY189, hg190, hF191, hm192l, hm192, hm192b, hm192c⟩
      refine ⟨_, rfl, fun a h194 => ?_⟩
      have hsw193 := hF191.size
      have hO7_195 := hO7_172.frP hF191 (fun b hb hp => by have h1 := hlk0 b hb; rcases hG b hp with q | q; (have := hS2 b q; omega); omega)
      have hO9_196 := hO9_173.frP hF191 (fun b hb hp => by have h1 := (hO9_173.lt b hb).1; exact hTB_174.2 b hb hp)
      have hsz_197 := Nat.le_trans hsz_175 hF191.size
      have hP_198 := hP_176.trP hF191 (fun k hk => by rcases hG k hk with q | q; exact .inl q; exact .inr (by omega))
      have hB6_199 := hB6_177.frP hF191 (by exact fun hp => by rcases hG _ hp with q | q; (have := hS2 _ q; omega); omega)
      have hT1 := hTB_174.del (fun k hk => (hO9_173.lt k hk).2) hF191 hg190 (by omega)
      have hsl1 := hm192l
      have hlt1 := hB187.lt
      have hG1 : ∀ k, S185 k → S k ∨ w23.heap.size ≤ k := fun k hk => by rcases hg190 k hk with q | q; exact hG k q; exact .inr (by omega)
      refine V.eh trivial ?_
      refine V.pe h194 [] 1 0 [] fun a h200 => ?_
      refine V.go (V.app (R := slvR) (ys := ([⟨(some ⟨b183, 0, none⟩), 2, 2⟩])) (news := [.slice (some ⟨b183, 0, none⟩) 2 2]) (h200.e (v := (.slice A9 rs.length c9))) ⟨b184, 0, none⟩ 1 1 (h200.e (v := (.slice (some ⟨b184, 0, none⟩) 1 1))) (by kernel_rfl) (info25) (by kernel_rfl) (by decide) hO9_196 rfl ⟨_, [], rfl, rfl, rfl⟩ (blk_cells hB188 0 _ rfl) (by first | omega | (simp; omega)) (by decide) (by omega) ?_)
      intro A201 c202 w203 hO204z hF205 hatw203
      have hsw203 := hF205.size
      have hO7_206 := hO7_195.fr hF205 (fun _ _ h => h) (fun b hb hm => by have h1 := hlk0 b hb; have h2 := own_ge hO9_196 (Nat.le_refl _) b hm; omega)
      have hsz_207 := Nat.le_trans hsz_197 hF205.size
      have hP_208 := hP_198.tr hF205 (fun k hk => .inr (by have := own_ge hO9_196 (Nat.le_refl _) k hk; omega))
      have hB6_209 := hB6_199.fr hF205 (by first | exact own_notin hO9_196 (by omega) | exact own_notin2 hO9_43 (by omega))
      have hY189_210 := hY189.frl hF205 (fun k hk hs => hT1.2 k (by simpa using hk) hs)
      have hB187_211 := hB187.fr hF205 (by first | exact own_notin hO9_196 (by omega) | exact own_notin2 hO9_43 (by omega))
      have hO204 := hO204z.zone (Z' := NoZ) (fun _ _ q => q.1) (fun _ _ q => q)
      refine V.pt h200 fun a h212 => ?_
      refine V.eh trivial ?_
      refine V.pz h212 [] 1 0 [(8, .slice A201 ((rs.length) + 1) c202)] fun a h213 => k169 _ _ ?_
      have h214 := h213.only [(0, .pointer (some ⟨sp, 0, none⟩)), (3, .pointer (some ⟨b4, 0, none⟩)), (7, .slice A16 lc.length c17), (8, .slice A201 ((rs.length) + 1) c202), (9, .int .u64 ((d : Nat) : Int)), (10, .int .i64 ((d % lc.length : Nat) : Int))]
      have hv1 : ∀ k, (Value.slice A201 ((rs.length) + 1) c202).ownBlock = some k → (Value.slice A9 rs.length c9).ownBlock = some k ∨ k = w193.heap.size := fun k hk => by rcases hatw203 with q | q; exact .inl (q ▸ hk); (rw [q] at hk; injection hk with hk; exact .inr hk.symm)
      have hadd := hT1.app (v1 := .slice A201 ((rs.length) + 1) c202) hF205 hB187_211 ⟨by omega, by omega, by omega⟩ hv1 (fun j hj => by have := hsl1 j hj; omega) (fun j hj => by have := (hO9_43.lt j hj).2; omega)
      refine V.rg ?_
      refine V.run h214 [(3, .i (((d % lc.length : Nat) : Int) + 1))] 4 75 75 [(73, .slice A16 lc.length c17), (74, .int .i64 ((d % lc.length : Nat) : Int)), (76, .int .i64 (((d % lc.length : Nat) : Int) + 1))] fun a h215 => ?_
      refine V.cl h215 (Go.Proofs.enters_of Tryz.func38 (by kernel_rfl) rfl) (sdel_any w203 w5.heap.size A16 c17 (d % lc.length) lc hO7_206 hdm (by omega)) ?_
      rintro _ w218 ⟨rfl, hO216, hF217⟩
      refine ⟨_, rfl, fun a h219 => ?_⟩
      have hsw218 := hF217.size
      have hsz_220 := Nat.le_trans hsz_207 hF217.size
      have hP_221 := hP_208.tr hF217 (fun k hk => .inr (by have := own_ge hO7_206 (Nat.le_refl _) k hk; omega))
      have hB6_222 := hB6_209.fr hF217 (by first | exact own_notin hO7_206 (by omega))
      have hY189_223 := hY189_210.frl hF217 (fun k hk hs => by have h1 := hlk0 k (by simpa using hk); rcases hG1 k hs with q | q; (have := hS2 k q; omega); omega)
      have hO204_224 := hO204.fr hF217 (fun _ _ h => h) (fun b hb hm => by have h1 := own_ge hO204 (Nat.le_refl _) b (by simpa using hb); have h2 := hlk0 b (by simpa using hm); omega)
      have hadd_225 := hadd.fr hF217 (fun k hk => by have := hlk0 k (by simpa using hk); omega)
      refine V.re h219 [] 1 0 [(7, .slice A16 (lc.length - 1) c17)] fun a h226 => ?_
      refine V.blk_n ?_
      refine V.then_n (k57 _ _ ?_)
      refine V.rg ?_
      refine V.run h226 [] 1 1 0 [(20, .int .u64 ((d : Nat) : Int))] fun a h227 => ?_
      refine V.cl h227 (Go.Proofs.enters_of Tryz.func36 (by kernel_rfl) rfl) (next_any w218 d) ?_
      rintro _ w229 ⟨rfl, hF228⟩
      refine ⟨_, rfl, fun a h230 => ?_⟩
      have hsw229 := hF228.size
      have hsz_231 := Nat.le_trans hsz_220 hF228.size
      have hP_232 := hP_221.tr0 hF228
      have hB6_233 := hB6_222.fr0 hF228
      have hY189_234 := hY189_223.fr0 hF228
      have hO204_235 := hO204_224.fr0 hF228
      have hadd_236 := hadd_225.fr0 hF228
      have hO216_237 := hO216.fr0 hF228
      refine V.re h230 [] 1 0 [(9, .int .u64 ((nxt d : Nat) : Int))] fun a h238 => ?_
      refine V.then_n ?_
      have hee : lc.eraseIdx (d % lc.length) = lc.eraseIdx (d % lc.length) := rfl
      have hel : (lc.eraseIdx (d % lc.length)).length = lc.length - 1 := List.length_eraseIdx_of_lt hdm
      have hns : ¬ SeenK (delsD D acc) 1 now (at_ Rp.str lc (((d % lc.length) : Nat) : Int)) := fun q => ht154 ((seen_key hq9 hKl hdm).2 q)
      have hsn := delsD_snoc D acc (at_ Rp.str lc (((d % lc.length) : Nat) : Int))
      have hkt := keys_there hKl hdm
      refine ⟨lc.eraseIdx (d % lc.length), nxt d, acc ++ [at_ Rp.str lc (((d % lc.length) : Nat) : Int)], S185, A201, c202, rs ++ [(⟨some ⟨b183, 0, none⟩, 2, 2⟩ : SlV)], by omega, ?_⟩
      refine ⟨((h238.eq 7 (v := (.slice A16 (lc.length - 1) c17)) (u := (.slice A16 (lc.eraseIdx (d % lc.length)).length c17)) (V.sl_eq hel.symm)).eq 8 (v := (.slice A201 ((rs.length) + 1) c202)) (u := (.slice A201 (rs ++ [(⟨some ⟨b183, 0, none⟩, 2, 2⟩ : SlV)]).length c202)) (V.sl_eq (by simp))).only _, hO216_237, (by rw [hsn, List.length_append]; exact hY189_234), (by rw [List.length_append]; exact hO204_235), (by rw [List.length_append]; exact hadd_236.raise (by omega)), hsz_231, hP_232, hB6_233, (nxt_lt d), (by rw [List.length_append, List.length_singleton]; omega), (by rw [hsn, at_str hdm]; exact keys_erase hKl hdm), (hTK.snoc hkt), (fun TL r q => by rw [hsn] at q; rw [List.append_assoc]; exact hPk _ r (.miss (by omega) hns q)), hG1⟩
    ·
     refine V.qe ?_
     refine V.go (V.mk [] trivial (by kernel_rfl) [.int .i64 0, .string ⟨#[]⟩, .slice none 0 0, .slice none 0 0, .slice none 0 0, .int .i64 0] 79 (fun b => .pointer (some ⟨b, 0, none⟩)) (by kernel_rfl) ?_)
     intro w240 b239 heb239 hB241 hF242 hsb239
     have hO7_243 := hO7_80.fr0 hF242
     have hO9_244 := hO9_81.fr0 hF242
     have hTB_245 := hTB_82.fr0 hF242
     have hsz_246 := Nat.le_trans hsz_83 hF242.size
     have hP_247 := hP_84.tr0 hF242
     have hB6_248 := hB6_85.fr0 hF242
     have hB9_249 := hB9_86.fr0 hF242
     have hX9q_250 := hX9q_87.fr0 hF242
     have hE94_252 := hE94.fr0 hF242
     refine V.pt h95 fun a h253 => ?_
     refine V.eh ⟨(fun _ => held_blk (n := 1) (hx := (h95.e (v := (.pointer (some ⟨sp, 0, none⟩))))) hB9_86 hB9_249 (by kernel_rfl) rfl (by simp only [List.length]; omega)), (fun _ => held_els (m := 1) (f := 0) (hx := (h95.e (v := (.pointer (some ⟨g89, o90 + ((d % lc.length : Nat) : Int).toNat * 1, none⟩))))) hE94 hE94_252 (by kernel_rfl) (by simp only [List.length]; omega))⟩ ?_
     refine V.qe ?_
     refine V.cl h253 (Go.Proofs.enters_of Tryz.func37 (by kernel_rfl) rfl) (look_any w240 (H9) [] t9 (T9) hX9q_250.hT (at_ Rp.str lc ((d % lc.length : Nat) : Int)) (by omega)) ?_
     rintro _ w255 ⟨rfl, hF254⟩
     refine ⟨_, rfl, fun a h256 => ?_⟩
     have hsw255 := hF254.size
     have hO7_257 := hO7_243.fr0 hF254
     have hO9_258 := hO9_244.fr0 hF254
     have hTB_259 := hTB_245.fr0 hF254
     have hsz_260 := Nat.le_trans hsz_246 hF254.size
     have hP_261 := hP_247.tr0 hF254
     have hB6_262 := hB6_248.fr0 hF254
     have hX9q_264 := hX9q_250.fr0 hF254
     have hE94_266 := hE94_252.fr0 hF254
     have hB241_267 := hB241.fr0 hF254
     refine V.eh trivial ?_
     refine V.qs h256 [] 32 32 [(42, .agg #[.int .i64 (((lookT EntV.nil T9 (at_ Rp.str lc ((d % lc.length : Nat) : Int))).1).kind), .string (((lookT EntV.nil T9 (at_ Rp.str lc ((d % lc.length : Nat) : Int))).1).s), .slice (((lookT EntV.nil T9 (at_ Rp.str lc ((d % lc.length : Nat) : Int))).1).l.a) (((lookT EntV.nil T9 (at_ Rp.str lc ((d % lc.length : Nat) : Int))).1).l.n) (((lookT EntV.nil T9 (at_ Rp.str lc ((d % lc.length : Nat) : Int))).1).l.c), .slice (((lookT EntV.nil T9 (at_ Rp.str lc ((d % lc.length : Nat) : Int))).1).z.a) (((lookT EntV.nil T9 (at_ Rp.str lc ((d % lc.length : Nat) : Int))).1).z.n) (((lookT EntV.nil T9 (at_ Rp.str lc ((d % lc.length : Nat) : Int))).1).z.c), .slice (((lookT EntV.nil T9 (at_ Rp.str lc ((d % lc.length : Nat) : Int))).1).h.a) (((lookT EntV.nil T9 (at_ Rp.str lc ((d % lc.length : Nat) : Int))).1).h.n) (((lookT EntV.nil T9 (at_ Rp.str lc ((d % lc.length : Nat) : Int))).1).h.c), .int .i64 (((lookT EntV.nil T9 (at_ Rp.str lc ((d % lc.length : Nat) : Int))).1).till)]), (43, .bool ((lookT EntV.nil T9 (at_ Rp.str lc ((d % lc.length : Nat) : Int))).2))] fun a h268 => ?_
     refine V.qe ?_
     refine V.go (V.stn b239 0 (.agg #[.int .i64 (((lookT EntV.nil T9 (at_ Rp.str lc ((d % lc.length : Nat) : Int))).1).kind), .string (((lookT EntV.nil T9 (at_ Rp.str lc ((d % lc.length : Nat) : Int))).1).s), .slice (((lookT EntV.nil T9 (at_ Rp.str lc ((d % lc.length : Nat) : Int))).1).l.a) (((lookT EntV.nil T9 (at_ Rp.str lc ((d % lc.length : Nat) : Int))).1).l.n) (((lookT EntV.nil T9 (at_ Rp.str lc ((d % lc.length : Nat) : Int))).1).l.c), .slice (((lookT EntV.nil T9 (at_ Rp.str lc ((d % lc.length : Nat) : Int))).1).z.a) (((lookT EntV.nil T9 (at_ Rp.str lc ((d % lc.length : Nat) : Int))).1).z.n) (((lookT EntV.nil T9 (at_ Rp.str lc ((d % lc.length : Nat) : Int))).1).z.c), .slice (((lookT EntV.nil T9 (at_ Rp.str lc ((d % lc.length : Nat) : Int))).1).h.a) (((lookT EntV.nil T9 (at_ Rp.str lc ((d % lc.length : Nat) : Int))).1).h.n) (((lookT EntV.nil T9 (at_ Rp.str lc ((d % lc.length : Nat) : Int))).1).h.c), .int .i64 (((lookT EntV.nil T9 (at_ Rp.str lc ((d % lc.length : Nat) : Int))).1).till)]) [.int .i64 (((lookT EntV.nil T9 (at_ Rp.str lc ((d % lc.length : Nat) : Int))).1).kind), .string (((lookT EntV.nil T9 (at_ Rp.str lc ((d % lc.length : Nat) : Int))).1).s), .slice (((lookT EntV.nil T9 (at_ Rp.str lc ((d % lc.length : Nat) : Int))).1).l.a) (((lookT EntV.nil T9 (at_ Rp.str lc ((d % lc.length : Nat) : Int))).1).l.n) (((lookT EntV.nil T9 (at_ Rp.str lc ((d % lc.length : Nat) : Int))).1).l.c), .slice (((lookT EntV.nil T9 (at_ Rp.str lc ((d % lc.length : Nat) : Int))).1).z.a) (((lookT EntV.nil T9 (at_ Rp.str lc ((d % lc.length : Nat) : Int))).1).z.n) (((lookT EntV.nil T9 (at_ Rp.str lc ((d % lc.length : Nat) : Int))).1).z.c), .slice (((lookT EntV.nil T9 (at_ Rp.str lc ((d % lc.length : Nat) : Int))).1).h.a) (((lookT EntV.nil T9 (at_ Rp.str lc ((d % lc.length : Nat) : Int))).1).h.n) (((lookT EntV.nil T9 (at_ Rp.str lc ((d % lc.length : Nat) : Int))).1).h.c), .int .i64 (((lookT EntV.nil T9 (at_ Rp.str lc ((d % lc.length : Nat) : Int))).1).till)] h268.e h268.e rfl rfl (by kernel_rfl) hB241_267 (by simp) [.int .i64 (((lookT EntV.nil T9 (at_ Rp.str lc ((d % lc.length : Nat) : Int))).1).kind), .string (((lookT EntV.nil T9 (at_ Rp.str lc ((d % lc.length : Nat) : Int))).1).s), .slice (((lookT EntV.nil T9 (at_ Rp.str lc ((d % lc.length : Nat) : Int))).1).l.a) (((lookT EntV.nil T9 (at_ Rp.str lc ((d % lc.length : Nat) : Int))).1).l.n) (((lookT EntV.nil T9 (at_ Rp.str lc ((d % lc.length : Nat) : Int))).1).l.c), .slice (((lookT EntV.nil T9 (at_ Rp.str lc ((d % lc.length : Nat) : Int))).1).z.a) (((lookT EntV.nil T9 (at_ Rp.str lc ((d % lc.length : Nat) : Int))).1).z.n) (((lookT EntV.nil T9 (at_ Rp.str lc ((d % lc.length : Nat) : Int))).1).z.c), .slice (((lookT EntV.nil T9 (at_ Rp.str lc ((d % lc.length : Nat) : Int))).1).h.a) (((lookT EntV.nil T9 (at_ Rp.str lc ((d % lc.length : Nat) : Int))).1).h.n) (((lookT EntV.nil T9 (at_ Rp.str lc ((d % lc.length : Nat) : Int))).1).h.c), .int .i64 (((lookT EntV.nil T9 (at_ Rp.str lc ((d % lc.length : Nat) : Int))).1).till)] rfl ?_)
     intro w269 hB270 hF271 hsw269
     have hO7_272 := hO7_257.frn hF271 (fun h => h) (by first | exact own_ne hO7_257 (by omega) | exact own_ne2 hO7_41 (by omega))
     have hO9_273 := hO9_258.frn hF271 (fun h => h) (by first | exact own_ne hO9_258 (by omega) | exact own_ne2 hO9_43 (by omega))
     have hTB_274 := hTB_259.fr hF271 (by intro k hk; simp only [List.mem_singleton] at hk; omega)
     have hsz_275 := Nat.le_trans hsz_260 hF271.size
     have hP_276 := hP_261.tr1 hF271 (by first | exact .inl (by assumption) | exact .inr (by omega) | exact .inl (.inl rfl))
     have hB6_277 := hB6_262.fr1 hF271 (by omega)
     have hX9q_279 := hX9q_264.frl hF271 (by intro k hk; simp only [List.mem_singleton] at hk; subst hk; exact ⟨fun q => by have := hX9 _ (.inl q); omega, fun q => by have := hX9 _ (.inr (.inl q)); omega, fun q => by have := hX9 _ (.inr (.inr q)); omega⟩)
     have hE94_280 := hE94_266.fr hF271 (by simp <;> omega)
     refine V.eh trivial ?_
     refine V.qs h268 [] 12 12 [] fun a h281 => ?_
     refine V.qn (k77 _ _ ?_)
     refine V.sg fun K282 k283 => ?_
     refine V.run h281 [(0, .bs hB6_277 0 [.int .i64 now, .int .u64 ((dr : Nat) : Int), .int .i64 1, .slice Aa na ca]), (0, .bs hB270 0 [.int .i64 (((lookT EntV.nil T9 (at_ Rp.str lc ((d % lc.length : Nat) : Int))).1).kind), .string (((lookT EntV.nil T9 (at_ Rp.str lc ((d % lc.length : Nat) : Int))).1).s), .slice (((lookT EntV.nil T9 (at_ Rp.str lc ((d % lc.length : Nat) : Int))).1).l.a) (((lookT EntV.nil T9 (at_ Rp.str lc ((d % lc.length : Nat) : Int))).1).l.n) (((lookT EntV.nil T9 (at_ Rp.str lc ((d % lc.length : Nat) : Int))).1).l.c), .slice (((lookT EntV.nil T9 (at_ Rp.str lc ((d % lc.length : Nat) : Int))).1).z.a) (((lookT EntV.nil T9 (at_ Rp.str lc ((d % lc.length : Nat) : Int))).1).z.n) (((lookT EntV.nil T9 (at_ Rp.str lc ((d % lc.length : Nat) : Int))).1).z.c), .slice (((lookT EntV.nil T9 (at_ Rp.str lc ((d % lc.length : Nat) : Int))).1).h.a) (((lookT EntV.nil T9 (at_ Rp.str lc ((d % lc.length : Nat) : Int))).1).h.n) (((lookT EntV.nil T9 (at_ Rp.str lc ((d % lc.length : Nat) : Int))).1).h.c), .int .i64 (((lookT EntV.nil T9 (at_ Rp.str lc ((d % lc.length : Nat) : Int))).1).till)])] 2 1 0 [(44, .agg #[.int .i64 now, .int .u64 ((dr : Nat) : Int), .int .i64 1, .slice Aa na ca]), (45, .agg #[.int .i64 (((lookT EntV.nil T9 (at_ Rp.str lc ((d % lc.length : Nat) : Int))).1).kind), .string (((lookT EntV.nil T9 (at_ Rp.str lc ((d % lc.length : Nat) : Int))).1).s), .slice (((lookT EntV.nil T9 (at_ Rp.str lc ((d % lc.length : Nat) : Int))).1).l.a) (((lookT EntV.nil T9 (at_ Rp.str lc ((d % lc.length : Nat) : Int))).1).l.n) (((lookT EntV.nil T9 (at_ Rp.str lc ((d % lc.length : Nat) : Int))).1).l.c), .slice (((lookT EntV.nil T9 (at_ Rp.str lc ((d % lc.length : Nat) : Int))).1).z.a) (((lookT EntV.nil T9 (at_ Rp.str lc ((d % lc.length : Nat) : Int))).1).z.n) (((lookT EntV.nil T9 (at_ Rp.str lc ((d % lc.length : Nat) : Int))).1).z.c), .slice (((lookT EntV.nil T9 (at_ Rp.str lc ((d % lc.length : Nat) : Int))).1).h.a) (((lookT EntV.nil T9 (at_ Rp.str lc ((d % lc.length : Nat) : Int))).1).h.n) (((lookT EntV.nil T9 (at_ Rp.str lc ((d % lc.length : Nat) : Int))).1).h.c), .int .i64 (((lookT EntV.nil T9 (at_ Rp.str lc ((d % lc.length : Nat) : Int))).1).till)])] fun a h284 => ?_
     refine V.cl h284 (Go.Proofs.enters_of Tryz.func31 (by kernel_rfl) rfl) (seen_any w269 now ((dr : Nat) : Int) 1 Aa na ca ((lookT EntV.nil T9 (at_ Rp.str lc ((d % lc.length : Nat) : Int))).1)) ?_
     rintro _ w286 ⟨rfl, hF285⟩
     refine ⟨_, rfl, fun a h287 => ?_⟩
     have hsw286 := hF285.size
     have hO7_288 := hO7_272.fr0 hF285
     have hO9_289 := hO9_273.fr0 hF285
     have hTB_290 := hTB_274.fr0 hF285
     have hsz_291 := Nat.le_trans hsz_275 hF285.size
     have hP_292 := hP_276.tr0 hF285
     have hB6_293 := hB6_277.fr0 hF285
     have hX9q_295 := hX9q_279.fr0 hF285
     have hE94_296 := hE94_280.fr0 hF285
     refine V.nt (k283 _ _ ?_)
     refine V.cp h287 (seenD 1 now (((lookT EntV.nil T9 (at_ Rp.str lc ((d % lc.length : Nat) : Int))).1).till)) (fun ht298 => ?_) (fun ht298 => ?_)
     ·
      refine V.sr h287 [(2, .ix g89 o90 lc.length c17 .i64 ((d % lc.length : Nat) : Int) 1 hA91), (0, .l ⟨g89, o90 + ((d % lc.length : Nat) : Int).toNat * 1, none⟩ (.string (at_ Rp.str lc ((d % lc.length : Nat) : Int))) (hE94_296.at 0 rfl))] 47 51 [(4, .string (at_ Rp.str lc ((d % lc.length : Nat) : Int))), (5, .bool true), (6, .slice A9 rs.length c9)] fun a h301 => ?_
      refine V.ret (V.then_r (V.blk_r (V.then_r (V.then_r (V.blk_r (V.then_r (V.blk_r (V.then_r (V.then_r (V.blk_r (V.then_r ?_)))))))))))
      refine V.r3 h301 (.string (at_ Rp.str lc ((d % lc.length : Nat) : Int))) (.bool true) (.slice A9 rs.length c9) ?_
      have hrl9 := hTB_290.len
      obtain ⟨Z, hz1, hz2⟩ := hTB_290.row hO9_289 (by omega) (by omega)
      exact ⟨l18, acc, some _, _, _, A9, c9, S9, Z, by rw [List.length_map, ← hrl9], hkl, (by have hpp := hPk [] _ (.hit (by omega) ((seen_key hq9 hKl hdm).1 ht298)); rwa [List.append_nil] at hpp), .inl ⟨rfl, rfl⟩, hz1, hTK, ⟨H9, Vb9, t9, T9, hX9q_295, hn9, hS9, fun k hk => by have := hl9 k hk; omega⟩, fun k hk => (hG k hk).imp id fun q => by omega, hP_292, fun k hk => by have := hz2 k hk; exact ⟨by omega, this.2⟩⟩
     ·
      refine V.skip ?_
      refine V.then_n (k75 _ _ ?_)
      refine V.seq fun K302 k303 => ?_
      refine V.sr h287 [(1, .b hB6_293 2)] 52 53 [(54, .bool true)] fun a h306 => ?_
      refine V.ct h306 ?_
      refine V.exit (V.then_e ?_)
      refine V.blk_miss rfl ?_
      refine V.then_e (V.then_e (V.blk_hit ?_))
      refine V.then_n (k62 _ _ ?_)
      refine V.seq fun K307 k308 => ?_
      refine V.sr h306 [(1, .b hB6_293 2)] 61 62 [(63, .bool false)] fun a h311 => ?_
      refine V.cf h311 ?_
      refine V.skip ?_
      refine V.then_n (k308 _ _ ?_)
      refine V.seq fun K312 k313 => ?_
      refine V.pl [([0,1,2,3,4,5,6],some (7,[])),([],some (8,[])),([9],none)] fun w314 hF315 hsw314 => ?_
      have hO7_316 := hO7_288.fr0 hF315
      have hO9_317 := hO9_289.fr0 hF315
      have hTB_318 := hTB_290.fr0 hF315
      have hsz_319 := Nat.le_trans hsz_291 hF315.size
      have hP_320 := hP_292.tr0 hF315
      have hB6_321 := hB6_293.fr0 hF315
      have hX9q_323 := hX9q_295.fr0 hF315
      have hE94_324 := hE94_296.fr0 hF315
      refine V.pe h311 [(2, .bs hB6_321 0 [.int .i64 now, .int .u64 ((dr : Nat) : Int), .int .i64 1, .slice Aa na ca]), (2, .ix g89 o90 lc.length c17 .i64 ((d % lc.length : Nat) : Int) 1 hA91), (0, .l ⟨g89, o90 + ((d % lc.length : Nat) : Int).toNat * 1, none⟩ (.string (at_ Rp.str lc ((d % lc.length : Nat) : Int))) (hE94_324.at 0 rfl))] 67 69 [(64, .slice A9 rs.length c9), (65, .pointer (some ⟨sp, 0, none⟩)), (66, .agg #[.int .i64 now, .int .u64 ((dr : Nat) : Int), .int .i64 1, .slice Aa na ca]), (70, .string (at_ Rp.str lc ((d % lc.length : Nat) : Int)))] fun a h326 => ?_
      have hYg : SpY w314 S9 sp (T.n - acc.length) (delsD D acc) := ⟨H9, Vb9, t9, T9, hX9q_323, hn9, hS9, fun k hk => by have := hl9 k hk; omega⟩
      refine V.cl h326 (Go.Proofs.enters_of Tryz.func32 (by kernel_rfl) rfl) (gone1_any w314 S9 sp _ _ hYg now ((dr : Nat) : Int) Aa na ca (at_ Rp.str lc ((d % lc.length : Nat) : Int)) (by omega) (keys_there hKl hdm)) ?_
      rintro _ w337 ⟨b327, b328, S329, m330, rfl, hB331, hB332, hY333, hg334, hF335, hm336l, hm336, hm336b, hm336c⟩
      refine ⟨_, rfl, fun a h338 => ?_⟩
      have hsw337 := hF335.size
      have hO7_339 := hO7_316.frP hF335 (fun b hb hp => by have h1 := hlk0 b hb; rcases hG b hp with q | q; (have := hS2 b q; omega); omega)
      have hO9_340 := hO9_317.frP hF335 (fun b hb hp => by have h1 := (hO9_317.lt b hb).1; exact hTB_318.2 b hb hp)
      have hsz_341 := Nat.le_trans hsz_319 hF335.size
      have hP_342 := hP_320.trP hF335 (fun k hk => by rcases hG k hk with q | q; exact .inl q; exact .inr (by omega))
      have hB6_343 := hB6_321.frP hF335 (by exact fun hp => by rcases hG _ hp with q | q; (have := hS2 _ q; omega); omega)
      have hT1 := hTB_318.del (fun k hk => (hO9_317.lt k hk).2) hF335 hg334 (by omega)
      have hsl1 := hm336l
      have hlt1 := hB331.lt
      have hG1 : ∀ k, S329 k → S k ∨ w23.heap.size ≤ k := fun k hk => by rcases hg334 k hk with q | q; exact hG k q; exact .inr (by omega)
      refine V.eh trivial ?_
      refine V.pe h338 [] 1 0 [] fun a h344 => ?_
      refine V.go (V.app (R := slvR) (ys := ([⟨(some ⟨b327, 0, none⟩), 2, 2⟩])) (news := [.slice (some ⟨b327, 0, none⟩) 2 2]) (h344.e (v := (.slice A9 rs.length c9))) ⟨b328, 0, none⟩ 1 1 (h344.e (v := (.slice (some ⟨b328, 0, none⟩) 1 1))) (by kernel_rfl) (info25) (by kernel_rfl) (by decide) hO9_340 rfl ⟨_, [], rfl, rfl, rfl⟩ (blk_cells hB332 0 _ rfl) (by first | omega | (simp; omega)) (by decide) (by omega) ?_)
      intro A345 c346 w347 hO348z hF349 hatw347
      have hsw347 := hF349.size
      have hO7_350 := hO7_339.fr hF349 (fun _ _ h => h) (fun b hb hm => by have h1 := hlk0 b hb; have h2 := own_ge hO9_340 (Nat.le_refl _) b hm; omega)
      have hsz_351 := Nat.le_trans hsz_341 hF349.size
      have hP_352 := hP_342.tr hF349 (fun k hk => .inr (by have := own_ge hO9_340 (Nat.le_refl _) k hk; omega))
      have hB6_353 := hB6_343.fr hF349 (by first | exact own_notin hO9_340 (by omega) | exact own_notin2 hO9_43 (by omega))
      have hY333_354 := hY333.frl hF349 (fun k hk hs => hT1.2 k (by simpa using hk) hs)
      have hB331_355 := hB331.fr hF349 (by first | exact own_notin hO9_340 (by omega) | exact own_notin2 hO9_43 (by omega))
      have hO348 := hO348z.zone (Z' := NoZ) (fun _ _ q => q.1) (fun _ _ q => q)
      refine V.pt h344 fun a h356 => ?_
      refine V.eh trivial ?_
      refine V.pz h356 [] 1 0 [(8, .slice A345 ((rs.length) + 1) c346)] fun a h357 => k313 _ _ ?_
      have h358 := h357.only [(0, .pointer (some ⟨sp, 0, none⟩)), (3, .pointer (some ⟨b4, 0, none⟩)), (7, .slice A16 lc.length c17), (8, .slice A345 ((rs.length) + 1) c346), (9, .int .u64 ((d : Nat) : Int)), (10, .int .i64 ((d % lc.length : Nat) : Int))]
      have hv1 : ∀ k, (Value.slice A345 ((rs.length) + 1) c346).ownBlock = some k → (Value.slice A9 rs.length c9).ownBlock = some k ∨ k = w337.heap.size := fun k hk => by rcases hatw347 with q | q; exact .inl (q ▸ hk); (rw [q] at hk; injection hk with hk; exact .inr hk.symm)
      have hadd := hT1.app (v1 := .slice A345 ((rs.length) + 1) c346) hF349 hB331_355 ⟨by omega, by omega, by omega⟩ hv1 (fun j hj => by have := hsl1 j hj; omega) (fun j hj => by have := (hO9_43.lt j hj).2; omega)
      refine V.rg ?_
      refine V.run h358 [(3, .i (((d % lc.length : Nat) : Int) + 1))] 4 75 75 [(73, .slice A16 lc.length c17), (74, .int .i64 ((d % lc.length : Nat) : Int)), (76, .int .i64 (((d % lc.length : Nat) : Int) + 1))] fun a h359 => ?_
      refine V.cl h359 (Go.Proofs.enters_of Tryz.func38 (by kernel_rfl) rfl) (sdel_any w347 w5.heap.size A16 c17 (d % lc.length) lc hO7_350 hdm (by omega)) ?_
      rintro _ w362 ⟨rfl, hO360, hF361⟩
      refine ⟨_, rfl, fun a h363 => ?_⟩
      have hsw362 := hF361.size
      have hsz_364 := Nat.le_trans hsz_351 hF361.size
      have hP_365 := hP_352.tr hF361 (fun k hk => .inr (by have := own_ge hO7_350 (Nat.le_refl _) k hk; omega))
      have hB6_366 := hB6_353.fr hF361 (by first | exact own_notin hO7_350 (by omega))
      have hY333_367 := hY333_354.frl hF361 (fun k hk hs => by have h1 := hlk0 k (by simpa using hk); rcases hG1 k hs with q | q; (have := hS2 k q; omega); omega)
      have hO348_368 := hO348.fr hF361 (fun _ _ h => h) (fun b hb hm => by have h1 := own_ge hO348 (Nat.le_refl _) b (by simpa using hb); have h2 := hlk0 b (by simpa using hm); omega)
      have hadd_369 := hadd.fr hF361 (fun k hk => by have := hlk0 k (by simpa using hk); omega)
      refine V.re h363 [] 1 0 [(7, .slice A16 (lc.length - 1) c17)] fun a h370 => ?_
      refine V.blk_n ?_
      refine V.then_n (k57 _ _ ?_)
      refine V.rg ?_
      refine V.run h370 [] 1 1 0 [(20, .int .u64 ((d : Nat) : Int))] fun a h371 => ?_
      refine V.cl h371 (Go.Proofs.enters_of Tryz.func36 (by kernel_rfl) rfl) (next_any w362 d) ?_
      rintro _ w373 ⟨rfl, hF372⟩
      refine ⟨_, rfl, fun a h374 => ?_⟩
      have hsw373 := hF372.size
      have hsz_375 := Nat.le_trans hsz_364 hF372.size
      have hP_376 := hP_365.tr0 hF372
      have hB6_377 := hB6_366.fr0 hF372
      have hY333_378 := hY333_367.fr0 hF372
      have hO348_379 := hO348_368.fr0 hF372
      have hadd_380 := hadd_369.fr0 hF372
      have hO360_381 := hO360.fr0 hF372
      refine V.re h374 [] 1 0 [(9, .int .u64 ((nxt d : Nat) : Int))] fun a h382 => ?_
      refine V.then_n ?_
      have hee : lc.eraseIdx (d % lc.length) = lc.eraseIdx (d % lc.length) := rfl
      have hel : (lc.eraseIdx (d % lc.length)).length = lc.length - 1 := List.length_eraseIdx_of_lt hdm
      have hns : ¬ SeenK (delsD D acc) 1 now (at_ Rp.str lc (((d % lc.length) : Nat) : Int)) := fun q => ht298 ((seen_key hq9 hKl hdm).2 q)
      have hsn := delsD_snoc D acc (at_ Rp.str lc (((d % lc.length) : Nat) : Int))
      have hkt := keys_there hKl hdm
      refine ⟨lc.eraseIdx (d % lc.length), nxt d, acc ++ [at_ Rp.str lc (((d % lc.length) : Nat) : Int)], S329, A345, c346, rs ++ [(⟨some ⟨b327, 0, none⟩, 2, 2⟩ : SlV)], by omega, ?_⟩
      refine ⟨((h382.eq 7 (v := (.slice A16 (lc.length - 1) c17)) (u := (.slice A16 (lc.eraseIdx (d % lc.length)).length c17)) (V.sl_eq hel.symm)).eq 8 (v := (.slice A345 ((rs.length) + 1) c346)) (u := (.slice A345 (rs ++ [(⟨some ⟨b327, 0, none⟩, 2, 2⟩ : SlV)]).length c346)) (V.sl_eq (by simp))).only _, hO360_381, (by rw [hsn, List.length_append]; exact hY333_378), (by rw [List.length_append]; exact hO348_379), (by rw [List.length_append]; exact hadd_380.raise (by omega)), hsz_375, hP_376, hB6_377, (nxt_lt d), (by rw [List.length_append, List.length_singleton]; omega), (by rw [hsn, at_str hdm]; exact keys_erase hKl hdm), (hTK.snoc hkt), (fun TL r q => by rw [hsn] at q; rw [List.append_assoc]; exact hPk _ r (.miss (by omega) hns q)), hG1⟩
   · exact absurd ht71 (by omega)
  ·
   refine V.exit (V.then_e (V.then_e (V.blk_hit ?_)))
   refine V.then_n (k34 _ _ ?_)
   refine V.sr h54 [] 78 78 [(4, .string ⟨#[]⟩), (5, .bool false), (6, .slice A9 rs.length c9)] fun a h385 => ?_
   refine V.ret ?_
   refine V.r3 h385 (.string ⟨#[]⟩) (.bool false) (.slice A9 rs.length c9) ?_
   have hrl9 := hTB_44.len
   obtain ⟨Z, hz1, hz2⟩ := hTB_44.row hO9_43 (by omega) (by omega)
   have hl0 := List.eq_nil_of_length_eq_zero (l := lc) (by omega)
   exact ⟨l18, acc, none, _, _, A9, c9, S9, Z, by rw [List.length_map, ← hrl9], hkl, (by have hpp := hPk [] none (by rw [hl0]; exact .nil _ _); rwa [List.append_nil] at hpp), .inr ⟨rfl, rfl, rfl⟩, hz1, hTK, ⟨H9, Vb9, t9, T9, hX9q, hn9, hS9, fun k hk => by have := hl9 k hk; omega⟩, fun k hk => (hG k hk).imp id fun q => by omega, hP_46, fun k hk => by have := hz2 k hk; exact ⟨by omega, this.2⟩⟩
section
variable (w : World) {base : Nat} {av : List Nat} {vs : List Value} {sp n : Nat} {D : ByteArray → Option EnD} (hA : SpA w base av vs sp n D)
include hA
end
theorem begin_bad (w : World) (Al : Option Addr) (cl : Nat) (l : List EnD) (hSl : SlR enR (fun k => k < w.heap.size) w (.slice Al l.length cl) l) (hbn : ∀ x ∈ l, bndE x) (hbad : ¬ imgN l = 0) : Calls Tryz.prog 8 #[.slice Al l.length cl] w (fun e w' => e = .returned (.tuple #[.pointer none, .pointer none, .bool true]) ∧ Fr [] w w') := by
 have hF := Fr.refl [] w
 refine V.en 31 Tryz.func8 fun a h1 => ?_
 refine V.sr h1 [] 2 4 [] fun a h4 => ?_
 refine V.sg fun K5 k6 => ?_
 refine V.run h4 [] 1 1 0 [(10, .slice Al l.length cl)] fun a h7 => ?_
 refine V.cl h7 (Go.Proofs.enters_of Tryz.func15 (by kernel_rfl) rfl) (load_bad w Al cl l hSl.old hbn hbad) ?_
 rintro _ w9 ⟨rfl, hF8⟩
 refine ⟨_, rfl, fun a h10 => ?_⟩
 have hsw9 := hF8.size
 have hF_11 := hF.new hF8
 have hSl_12 := hSl.fr0 hF8
 refine V.re h10 [] 9 13 [(5, .pointer none), (6, .int .i64 (imgN l))] fun a h13 => k6 _ _ ?_
 refine V.sg fun K14 k15 => ?_
 refine V.run h13 [] 1 1 0 [(15, .slice Al l.length cl)] fun a h16 => ?_
 refine V.cl h16 (Go.Proofs.enters_of Tryz.func27 (by kernel_rfl) rfl) (rload_bad w9 Al cl l hSl_12.old hbad) ?_
 rintro _ w18 ⟨rfl, hF17⟩
 refine ⟨_, rfl, fun a h19 => ?_⟩
 have hsw18 := hF17.size
 have hF_20 := hF_11.new hF17
 refine V.re h19 [] 14 18 [(7, .pointer none), (8, .int .i64 (imgN l))] fun a h22 => k15 _ _ ?_
 refine V.sr h22 [(4, .q (.bool true) (V.t_same (imgN l))), (5, .q (.bool (decide (true = true))) V.t_beql)] 19 30 [(2, .pointer none), (3, .pointer none), (4, .bool (decide (true = true)))] fun a h25 => ?_
 refine V.ret ?_
 refine V.r3 h25 (.pointer none) (.pointer none) (.bool (decide (true = true))) ?_
 exact ⟨rfl, hF_20⟩
theorem begin_ok (w : World) (Al : Option Addr) (cl : Nat) (l : List EnD) (hSl : SlR enR (fun k => k < w.heap.size) w (.slice Al l.length cl) l) (hbn : ∀ x ∈ l, bndE x) (hok : imgN l = 0) : Calls Tryz.prog 8 #[.slice Al l.length cl] w (fun e w' => ∃ sp rb, e = .returned (.tuple #[.pointer (some ⟨sp, 0, none⟩), .pointer (some ⟨rb, 0, none⟩), .bool true]) ∧ SpA w' w.heap.size [] [] sp l.length (dOf l) ∧ Fr [] w w') := by
 have hF := Fr.refl [] w
 obtain ⟨rs, hrl, hR, _⟩ := ent_raw hSl
 refine V.en 31 Tryz.func8 fun a h1 => ?_
 refine V.sr h1 [] 2 4 [] fun a h4 => ?_
 refine V.sg fun K5 k6 => ?_
 refine V.run h4 [] 1 1 0 [(10, .slice Al l.length cl)] fun a h7 => ?_
 refine V.cl h7 (Go.Proofs.enters_of Tryz.func15 (by kernel_rfl) rfl) (load_ok w Al cl l hSl.old hbn hok) ?_
 rintro _ w11 ⟨sp9, rfl, hA10, hF8⟩
 refine ⟨_, rfl, fun a h12 => ?_⟩
 have hsw11 := hF8.size
 have hF_13 := hF.new hF8
 have hSl_14 := hSl.fr0 hF8
 have hR_15 := hR.fr0 hF8
 refine V.re h12 [] 9 13 [(5, .pointer (some ⟨sp9, 0, none⟩)), (6, .int .i64 0)] fun a h16 => k6 _ _ ?_
 refine V.sg fun K17 k18 => ?_
 refine V.run h16 [] 1 1 0 [(15, .slice Al l.length cl)] fun a h19 => ?_
 refine V.cl h19 (Go.Proofs.enters_of Tryz.func27 (by kernel_rfl) rfl) (rload_ok w11 Al cl l hSl_14.old hok rs hR_15.old hrl) ?_
 rintro _ w28 ⟨rb21, A22, c23, rfl, hB24, hO25, hr26, hr27, hF20⟩
 refine ⟨_, rfl, fun a h29 => ?_⟩
 have hsw28 := hF20.size
 have hF_30 := hF_13.new hF20
 have hA10_33 := hA10.fr0 hF20
 refine V.re h29 [] 14 18 [(7, .pointer (some ⟨rb21, 0, none⟩)), (8, .int .i64 0)] fun a h34 => k18 _ _ ?_
 refine V.sr h34 [(10, .q (.bool (decide (false = false))) V.t_beql)] 19 30 [(2, .pointer (some ⟨sp9, 0, none⟩)), (3, .pointer (some ⟨rb21, 0, none⟩)), (4, .bool (decide (false = false)))] fun a h37 => ?_
 refine V.ret ?_
 refine V.r3 h37 (.pointer (some ⟨sp9, 0, none⟩)) (.pointer (some ⟨rb21, 0, none⟩)) (.bool (decide (false = false))) ?_
 exact ⟨_, _, rfl, hA10_33, hF_30⟩
/-! ### What a call tells, and what it leaves -/
/-- A call's rows that tell, of keys TL that it took out: the rows lie in new blocks, outside the space. -/
def TolP (w w' : World) (S : Nat → Prop) (sp n : Nat) (D : ByteArray → Option EnD) (vt : Value) : Prop :=
  ∃ TL A c S' Z, vt = .slice A (TL.map rowT).length c ∧ SlR (Rp.slice Rp.str) Z w' (.slice A (TL.map rowT).length c) (TL.map rowT) ∧ TolK D TL ∧ SpY w' S' sp (n - TL.length) (delsD D TL) ∧ GrS S w S' ∧ FrP S w w' ∧ ∀ k, Z k → w.heap.size ≤ k ∧ k < w'.heap.size ∧ ¬ S' k
theorem TolP.nil {w w' : World} {S : Nat → Prop} {sp n : Nat} {D : ByteArray → Option EnD} (h : SpY w S sp n D) (f : Fr [] w w') : TolP w w' S sp n D (.slice none 0 0) :=
  ⟨[], none, 0, S, fun _ => False, rfl, SlR.nil .., TolK.nil _, h.fr0 f, fun k hk => .inl hk, (FrP.refl S w).tr0 f, fun k h => h.elim⟩
theorem tolB_row {w : World} {m : Nat} {vt : Value} {key : ByteArray} (h : ToldB w m vt [[delB, key]]) : ∃ b1 b2, vt = .slice (some ⟨b2, 0, none⟩) 1 1 ∧ m ≤ b1 ∧ m ≤ b2 ∧ b1 < w.heap.size ∧ b2 < w.heap.size ∧ SlR (Rp.slice Rp.str) (fun k => k = b1 ∨ k = b2) w (.slice (some ⟨b2, 0, none⟩) 1 1) ([key].map rowT) := by
  rcases h with ⟨h, _⟩ | ⟨b1, b2, x, y, h, rfl, hB1, hB2, q1, q2⟩
  · cases h
  · injection h with h _
    injection h with h1 h2
    injection h2 with h2 _
    subst h1; subst h2
    have h0 : AllT (fun _ => False) w [] [] := trivial
    obtain ⟨h3, _⟩ := h0.snoc hB1
    refine ⟨b1, b2, rfl, q1, q2, hB1.lt, hB2.lt, _, 1, rfl, by simp, by simp, fun i x hi => ?_⟩
    match i with
    | 0 =>
      simp at hi
      subst hi
      refine ⟨b2, 0, [.slice (some ⟨b1, 0, none⟩) 2 2], rfl, .inr rfl, hB2.lt, ⟨_, rfl, h3.zone fun b _ q => by rcases q with q | q; exact q.elim; exact .inl q⟩, fun j u hj => ?_⟩
      have hj' : j = 0 := by have := (List.getElem?_eq_some_iff.1 hj).1; simpa using this
      subst hj'
      simp at hj
      subst hj
      exact hB2.at 0 rfl
    | i + 1 => simp at hi
theorem spgetT_any (w : World) (S : Nat → Prop) (sp n : Nat) (D : ByteArray → Option EnD) (hY : SpY w S sp n D) (now dr role : Int) (Aa : Option Addr) (na ca : Nat) (key : ByteArray) (hkz : key.size ≤ 9223372036854775807) :
    Calls Tryz.prog 10 #[.pointer (some ⟨sp, 0, none⟩), .agg #[.int .i64 now, .int .u64 dr, .int .i64 role, .slice Aa na ca], .string key] w (fun e w' => ∃ k s v1 v2 v3 f vt, e = .returned (.tuple #[.agg #[.int .i64 k, .string s, v1, v2, v3], .bool f, vt]) ∧ TolP w w' S sp n D vt) :=
  (spget_any w S sp n D hY now dr role Aa na ca key hkz).mono fun e w' ⟨x, Al, cl, Az, cz, Ah, ch, vt, S', m, he, hx, hy, hg, hf, hm, hw, o1, o2, o3, hd, ht⟩ => by
    refine ⟨_, _, _, _, _, _, vt, he, ?_⟩
    have hnil : ∀ (n' : Nat) (D' : ByteArray → Option EnD), ToldB w' m vt [] → SpY w' S' sp n D → TolP w w' S sp n D vt := fun n' D' q1 q2 => by
      rcases q1 with ⟨_, rfl⟩ | ⟨_, _, _, _, h, _⟩
      · exact ⟨[], none, 0, S', fun _ => False, rfl, SlR.nil .., TolK.nil _, q2, hg, hf, fun k h => h.elim⟩
      · cases h
    rcases hD : D key with _ | y
    · obtain ⟨_, _, e3, e4, e5⟩ := get_none (role := role) (now := now) (n := n) hD
      rw [e3] at ht; rw [e4, e5] at hy
      exact hnil n D ht hy
    · by_cases hs : seenD role now y.till
      · obtain ⟨_, _, e3, e4, e5⟩ := get_seen (role := role) (now := now) (n := n) hD hs
        rw [e3] at ht; rw [e4, e5] at hy
        exact hnil n D ht hy
      · obtain ⟨_, _, e3, e4, e5⟩ := get_over (role := role) (now := now) (n := n) hD hs
        rw [e3] at ht; rw [e4, e5] at hy
        unfold goneT at ht
        unfold goneN goneD delN at hy
        by_cases hr : role = 1
        · rw [if_pos hr] at ht hy
          rw [if_pos hr, if_neg (by rw [hD]; simp)] at hy
          obtain ⟨b1, b2, rfl, q1, q2, q3, q4, q5⟩ := tolB_row ht
          refine ⟨[key], _, _, S', _, rfl, q5, (TolK.nil D).snoc (k := key) (by rw [delsD_nil, hD]; simp), hy, hg, hf, fun k hk => ?_⟩
          rcases hk with rfl | rfl
          · exact ⟨by omega, q3, fun q => by have := hm _ q; omega⟩
          · exact ⟨by omega, q4, fun q => by have := hm _ q; omega⟩
        · rw [if_neg hr] at ht hy
          rw [if_neg hr] at hy
          exact hnil n D ht hy
theorem sppickT_any (w : World) (S : Nat → Prop) (sp n : Nat) (D : ByteArray → Option EnD) (hY : SpY w S sp n D) (now : Int) (dr : Nat) (hdr : dr < 18446744073709551616) (role : Int) (Aa : Option Addr) (na ca : Nat) :
    Calls Tryz.prog 11 #[.pointer (some ⟨sp, 0, none⟩), .agg #[.int .i64 now, .int .u64 ((dr : Nat) : Int), .int .i64 role, .slice Aa na ca]] w (fun e w' => ∃ k f vt, e = .returned (.tuple #[.string k, .bool f, vt]) ∧ TolP w w' S sp n D vt) := by
  by_cases hr : role = 1
  · subst hr
    exact (pickp_any w S sp n D hY now dr Aa na ca hdr).mono fun e w' ⟨l, TL, r, k, f, A, c, S', Z, he, _, _, _, h1, h2, h3, h4, h5, h6⟩ => ⟨k, f, _, he, TL, A, c, S', Z, rfl, h1, h2, h3, h4, h5, h6⟩
  · obtain ⟨H, Vb, t, T, hq, rfl, hS1, hS2⟩ := id hY
    exact (pickr_any w H Vb sp t T D hq now dr role Aa na ca hdr hr).mono fun e w' ⟨k, f, l, he, _, _, hF⟩ => ⟨k, f, _, he, TolP.nil hY hF⟩
theorem spexpT_any (w : World) (S : Nat → Prop) (sp n : Nat) (D : ByteArray → Option EnD) (hY : SpY w S sp n D) (now most : Int) :
    Calls Tryz.prog 16 #[.pointer (some ⟨sp, 0, none⟩), .int .i64 now, .int .i64 most] w (fun e w' => ∃ vt, e = .returned vt ∧ TolP w w' S sp n D vt) :=
  (expire_any w S sp n D hY now most).mono fun e w' ⟨A, c, TL, S', Z, he, h⟩ => ⟨_, he, TL, A, c, S', Z, rfl, h⟩
/-! ### Two spaces that share nothing -/
/-- Both spaces have the same data; neither shares a block with the other, nor with what lies below b. -/
def Sp2 (b : Nat) (w : World) (s n1 : Nat) (D1 : ByteArray → Option EnD) (t n2 : Nat) (D2 : ByteArray → Option EnD) : Prop :=
  ∃ S T, SpY w S s n1 D1 ∧ SpY w T t n2 D2 ∧ (∀ k, S k → ¬ T k) ∧ ∀ k, S k ∨ T k → b ≤ k
theorem Sp2.fr0 {b : Nat} {w w1 : World} {s t n1 n2 : Nat} {D1 D2 : ByteArray → Option EnD} (h : Sp2 b w s n1 D1 t n2 D2) (f : Fr [] w w1) : Sp2 b w1 s n1 D1 t n2 D2 := by
  obtain ⟨S, T, h1, h2, h3, h4⟩ := h
  exact ⟨S, T, h1.fr0 f, h2.fr0 f, h3, h4⟩
/-- Rows that tell, besides two spaces. -/
def Tol2 (b : Nat) (w : World) (s n1 : Nat) (D1 : ByteArray → Option EnD) (t n2 : Nat) (D2 : ByteArray → Option EnD) (A : Option Addr) (c : Nat) (TL : List ByteArray) : Prop :=
  ∃ S T Z, SpY w S s n1 D1 ∧ SpY w T t n2 D2 ∧ (∀ k, S k → ¬ T k) ∧ (∀ k, S k ∨ T k → b ≤ k) ∧ SlR (Rp.slice Rp.str) Z w (.slice A (TL.map rowT).length c) (TL.map rowT) ∧ ∀ k, Z k → ¬ T k
theorem sp2_tolS {b : Nat} {w w1 : World} {s t n m : Nat} {D E : ByteArray → Option EnD} {vt : Value} {S T : Nat → Prop} (h1 : SpY w S s n D) (h2 : SpY w T t m E) (h3 : ∀ k, S k → ¬ T k) (h4 : ∀ k, S k ∨ T k → b ≤ k) (hp : TolP w w1 S s n D vt) : ∃ TL A c, vt = .slice A (TL.map rowT).length c ∧ TolK D TL ∧ Tol2 b w1 s (n - TL.length) (delsD D TL) t m E A c TL ∧ FrP (fun k => b ≤ k) w w1 := by
  have hw : b ≤ w.heap.size := by have q1 := h1.lt; have q2 := h4 _ (.inl q1.1); have := q1.2 _ q1.1; omega
  obtain ⟨TL, A, c, S', Z, rfl, e1, e2, e3, e4, e5, e6⟩ := hp
  refine ⟨TL, A, c, rfl, e2, ⟨S', T, Z, e3, h2.frP e5 fun k hk hs => h3 k hs hk, fun k hs hk => ?_, fun k hk => ?_, e1, fun k hz hk => ?_⟩, e5.mono fun k hk => h4 k (.inl hk)⟩
  · rcases e4 k hs with q | q
    · exact h3 k q hk
    · have := h2.lt.2 k hk; omega
  · rcases hk with hk | hk
    · rcases e4 k hk with q | q
      · exact h4 k (.inl q)
      · omega
    · exact h4 k (.inr hk)
  · have := (e6 k hz).1
    have := h2.lt.2 k hk
    omega
theorem tol2_del {b : Nat} {w : World} {s t n1 n2 : Nat} {D1 E : ByteArray → Option EnD} {A : Option Addr} {c : Nat} {TL : List ByteArray} (h : Tol2 b w s n1 D1 t n2 E A c TL) (hw : b ≤ w.heap.size) (key : ByteArray) (hkz : key.size ≤ 9223372036854775807) (hE : E key ≠ none) :
    Calls Tryz.prog 18 #[.pointer (some ⟨t, 0, none⟩), .string key] w (fun e w' => e = .returned (.bool true) ∧ Tol2 b w' s n1 D1 t (n2 - 1) (updD E key none) A c TL ∧ FrP (fun k => b ≤ k) w w') := by
  obtain ⟨S, T, Z, h1, h2, h3, h4, h5, h6⟩ := h
  refine (spdel_any w T t n2 E h2 key hkz).mono fun e w' ⟨f, T', he, hf, e1, e2, e3⟩ => ?_
  rcases hf with ⟨rfl, _⟩ | ⟨_, hn⟩
  · unfold delN at e1
    rw [if_neg hE] at e1
    refine ⟨he, ⟨S, T', fun k => Z k ∧ k < w.heap.size, h1.frP e3 fun k hs hk => h3 k hs hk, e1, fun k hs hk => ?_, fun k hk => ?_, (h5.zone fun k hk hz => ⟨hz, hk⟩).frP e3 fun k hz hk => h6 k hz.1 hk, fun k hz hk => ?_⟩, e3.mono fun k hk => h4 k (.inr hk)⟩
    · rcases e2 k hk with q | q
      · exact h3 k hs q
      · have := h1.lt.2 k hs; omega
    · rcases hk with hk | hk
      · exact h4 k (.inl hk)
      · rcases e2 k hk with q | q
        · exact h4 k (.inr q)
        · omega
    · rcases e2 k hk with q | q
      · exact h6 k hz.1 q
      · have := hz.2; omega
  · exact absurd hn hE
theorem Tol2.sp {b : Nat} {w : World} {s t n1 n2 : Nat} {D1 D2 : ByteArray → Option EnD} {A : Option Addr} {c : Nat} {TL : List ByteArray} (h : Tol2 b w s n1 D1 t n2 D2 A c TL) : Sp2 b w s n1 D1 t n2 D2 := by
  obtain ⟨S, T, Z, h1, h2, h3, h4, _⟩ := h
  exact ⟨S, T, h1, h2, h3, h4⟩
theorem Tol2.fr0 {b : Nat} {w w1 : World} {s t n1 n2 : Nat} {D1 D2 : ByteArray → Option EnD} {A : Option Addr} {c : Nat} {TL : List ByteArray} (h : Tol2 b w s n1 D1 t n2 D2 A c TL) (f : Fr [] w w1) : Tol2 b w1 s n1 D1 t n2 D2 A c TL := by
  obtain ⟨S, T, Z, h1, h2, h3, h4, h5, h6⟩ := h
  exact ⟨S, T, Z, h1.fr0 f, h2.fr0 f, h3, h4, h5.fr0 f, h6⟩
/-! ### Calls in a row -/
structure OpD where
  kind : Int
  now : Int
  dr : Nat
  role : Int
  x : EnD
  n : Int
def opR : Rp OpD where
  dflt := ⟨0, 0, 0, 0, EnD.nil, 0⟩
  sz := 13
  ok := fun Z w o cs => ∃ Aa na ca vl vz vh, cs = [.int .i64 o.kind, .int .i64 o.now, .int .u64 ((o.dr : Nat) : Int), .int .i64 o.role, .slice Aa na ca, .string o.x.key, .int .i64 o.x.k, .string o.x.s, vl, vz, vh, .int .i64 o.x.till, .int .i64 o.n] ∧ SlR Rp.str Z w vl o.x.l ∧ SlR scR Z w vz o.x.z ∧ SlR fdR Z w vh o.x.h
  len := by rintro _ _ o cs ⟨_, _, _, vl, vz, vh, rfl, _⟩; rfl
  one := by
    rintro _ _ o cs ⟨_, _, _, vl, vz, vh, rfl, ⟨_, _, rfl, _⟩, ⟨_, _, rfl, _⟩, ⟨_, _, rfl, _⟩⟩ u hu
    simp at hu
    rcases hu with rfl | rfl | rfl | rfl | rfl | rfl | rfl | rfl | rfl | rfl | rfl | rfl | rfl <;> rfl
  mono := by
    rintro Z Z' w w' o cs hm hs ⟨Aa, na, ca, vl, vz, vh, rfl, h1, h2, h3⟩
    exact ⟨Aa, na, ca, vl, vz, vh, rfl, h1.mono hm hs, h2.mono hm hs, h3.mono hm hs⟩
theorem op_open {Z : Nat → Prop} {w : World} {o : OpD} {cs : List Value} (h : opR.ok Z w o cs) : ∃ Aa na ca Al cl Az cz Ah ch, cs = [.int .i64 o.kind, .int .i64 o.now, .int .u64 ((o.dr : Nat) : Int), .int .i64 o.role, .slice Aa na ca, .string o.x.key, .int .i64 o.x.k, .string o.x.s, .slice Al o.x.l.length cl, .slice Az o.x.z.length cz, .slice Ah o.x.h.length ch, .int .i64 o.x.till, .int .i64 o.n] ∧ SlR Rp.str Z w (.slice Al o.x.l.length cl) o.x.l ∧ SlR scR Z w (.slice Az o.x.z.length cz) o.x.z ∧ SlR fdR Z w (.slice Ah o.x.h.length ch) o.x.h := by
  obtain ⟨Aa, na, ca, vl, vz, vh, rfl, h1, h2, h3⟩ := h
  obtain ⟨Al, cl, rfl, _⟩ := h1.slice
  obtain ⟨Az, cz, rfl, _⟩ := h2.slice
  obtain ⟨Ah, ch, rfl, _⟩ := h3.slice
  exact ⟨Aa, na, ca, Al, cl, Az, cz, Ah, ch, rfl, h1, h2, h3⟩
/-- What an operation's numbers are like. -/
def OpB (o : OpD) : Prop := o.dr < 18446744073709551616 ∧ o.x.key.size ≤ 9223372036854775807 ∧ bndE o.x
theorem at_memO {l : List OpD} {i : Int} (h0 : 0 ≤ i) (h1 : i < l.length) : at_ opR l i ∈ l := List.mem_of_getElem? (at_some opR h0 h1)
/-! ### Two spaces: their images; what is told, as it is read -/
theorem row_open {Z : Nat → Prop} {w : World} {d : List ByteArray} {cs : List Value} {k : ByteArray} (h : (Rp.slice Rp.str).ok Z w d cs) (hd : d = rowT k) : ∃ A c, cs = [.slice A 2 c] ∧ SlR Rp.str Z w (.slice A 2 c) (rowT k) := by
  subst hd
  obtain ⟨v, rfl, hv⟩ := h
  obtain ⟨A, c, rfl, _⟩ := hv.slice
  exact ⟨A, c, rfl, hv⟩
theorem at_rowT {TL : List ByteArray} {k : Nat} (hk : k < TL.length) : at_ (Rp.slice Rp.str) (TL.map rowT) (k : Int) = rowT TL[k] := by
  unfold at_
  rw [Int.toNat_natCast, List.getD_eq_getElem?_getD, List.getElem?_map, List.getElem?_eq_getElem hk]
  rfl
theorem SpY.ksz {w : World} {S : Nat → Prop} {sp n : Nat} {D : ByteArray → Option EnD} (h : SpY w S sp n D) {k : ByteArray} (hk : D k ≠ none) : k.size ≤ 65536 := by
  obtain ⟨H, Vb, t, T, hq, _⟩ := h
  rcases hq.look k with ⟨_, h⟩ | ⟨e', _, h2, h3, h4, _⟩
  · exact absurd h hk
  · have := (okD_bnd h4).1; rwa [h3] at this
theorem Tol2.ksz {b : Nat} {w : World} {s t n1 n2 : Nat} {D1 E : ByteArray → Option EnD} {A : Option Addr} {c : Nat} {TL : List ByteArray} (h : Tol2 b w s n1 D1 t n2 E A c TL) {k : ByteArray} (hk : E k ≠ none) : k.size ≤ 65536 := by
  obtain ⟨S, T, Z, _, h2, _⟩ := h
  exact h2.ksz hk
theorem Sp2.tol0 {b : Nat} {w : World} {s t n m : Nat} {D E : ByteArray → Option EnD} (h : Sp2 b w s n D t m E) : Tol2 b w s n D t m E none 0 [] := by
  obtain ⟨S, T, h1, h2, h3, h4⟩ := h
  exact ⟨S, T, fun _ => False, h1, h2, h3, h4, SlR.nil .., fun k h => h.elim⟩
theorem Sp2.of {b b1 : Nat} {w1 w2 : World} {s t n m : Nat} {D E : ByteArray → Option EnD} (h1 : SpA w1 b1 [] [] s n D) (f : Fr [] w1 w2) (h2 : SpA w2 w1.heap.size [] [] t m E) (hb : b ≤ b1) : Sp2 b w2 s n D t m E := by
  have hb1 := h1.base
  obtain ⟨S, e1, e2, _⟩ := h1
  obtain ⟨T, g1, g2, _⟩ := h2
  refine ⟨S, T, e1.fr0 f, g1, fun k hs hk => ?_, fun k hk => ?_⟩
  · have := e1.lt.2 k hs; have := (g2 k hk).1; omega
  · rcases hk with hk | hk
    · have := (e2 k hk).1; omega
    · have := (g2 k hk).1; omega
theorem spimg_any (w : World) {S : Nat → Prop} {sp n : Nat} {D : ByteArray → Option EnD} (h : SpY w S sp n D) :
    Calls Tryz.prog 14 #[.pointer (some ⟨sp, 0, none⟩)] w (fun e w' => ∃ A c xs, e = .returned (.slice A xs.length c) ∧ SlR enR (fun k => w.heap.size ≤ k) w' (.slice A xs.length c) xs ∧ ImgL D xs ∧ Fr [] w w') := by
  obtain ⟨H, Vb, t, T, hq, _⟩ := h
  refine (image_any w H Vb sp t T D hq).mono fun e w' ⟨A, c, rs, xs, nq, he, hl, hO, ha, hI, hn, hf⟩ => ?_
  exact ⟨A, c, xs, he, AllE.row (hO.read (Z' := fun k => w.heap.size ≤ k) (fun _ _ h => h.elim) (fun b hb _ => by omega)) ha (fun k q => by have := q.1; omega) fun k q => q, hI, hf⟩
theorem sp2_img1 (w : World) {b s t n m : Nat} {D E : ByteArray → Option EnD} (h : Sp2 b w s n D t m E) :
    Calls Tryz.prog 14 #[.pointer (some ⟨s, 0, none⟩)] w (fun e w' => ∃ A c xs, e = .returned (.slice A xs.length c) ∧ SlR enR (fun k => w.heap.size ≤ k) w' (.slice A xs.length c) xs ∧ ImgL D xs ∧ Fr [] w w') := by
  obtain ⟨S, T, h1, _⟩ := h
  exact spimg_any w h1
theorem sp2_img2 (w : World) {b s t n m : Nat} {D E : ByteArray → Option EnD} (h : Sp2 b w s n D t m E) {xs : List EnD} (hI : ImgL E xs) :
    Calls Tryz.prog 14 #[.pointer (some ⟨t, 0, none⟩)] w (fun e w' => ∃ A c, e = .returned (.slice A xs.length c) ∧ SlR enR (fun k => w.heap.size ≤ k) w' (.slice A xs.length c) xs ∧ Fr [] w w') := by
  obtain ⟨S, T, _, h2, _⟩ := h
  refine (spimg_any w h2).mono fun e w' ⟨A, c, ys, he, hS, hJ, hf⟩ => ?_
  obtain rfl := ImgL.uniq hJ hI
  exact ⟨A, c, he, hS, hf⟩
theorem sp2_len (w : World) {b s t n m : Nat} {D E : ByteArray → Option EnD} (h : Sp2 b w s n D t m E) : Calls Tryz.prog 17 #[.pointer (some ⟨s, 0, none⟩)] w (fun e w' => e = .returned (.int .i64 ((n : Nat) : Int)) ∧ Fr [] w w') := by
  obtain ⟨S, T, ⟨H, Vb, u, U, hq, rfl, _⟩, _⟩ := h
  exact (splen_any w H [] s u U hq.hB hq.hT)
/-! ### The calls that tell, besides another space -/
section
variable (w : World) {b s t n m : Nat} {D E : ByteArray → Option EnD} (h : Sp2 b w s n D t m E)
include h
theorem told_get (now dr role : Int) (Aa : Option Addr) (na ca : Nat) (key : ByteArray) (hkz : key.size ≤ 9223372036854775807) :
    Calls Tryz.prog 10 #[.pointer (some ⟨s, 0, none⟩), .agg #[.int .i64 now, .int .u64 dr, .int .i64 role, .slice Aa na ca], .string key] w (fun e w' => ∃ k s' v1 v2 v3 f TL A c, e = .returned (.tuple #[.agg #[.int .i64 k, .string s', v1, v2, v3], .bool f, .slice A (TL.map rowT).length c]) ∧ TolK D TL ∧ Tol2 b w' s (n - TL.length) (delsD D TL) t m E A c TL ∧ FrP (fun k => b ≤ k) w w') := by
  obtain ⟨S, T, h1, h2, h3, h4⟩ := id h
  refine (spgetT_any w S s n D h1 now dr role Aa na ca key hkz).mono fun e w' ⟨k, s', v1, v2, v3, f, vt, he, hp⟩ => ?_
  obtain ⟨TL, A, c, rfl, q1, q2, q3⟩ := sp2_tolS h1 h2 h3 h4 hp
  exact ⟨k, s', v1, v2, v3, f, TL, A, c, he, q1, q2, q3⟩
theorem told_pick (now : Int) (dr : Nat) (hdr : dr < 18446744073709551616) (role : Int) (Aa : Option Addr) (na ca : Nat) :
    Calls Tryz.prog 11 #[.pointer (some ⟨s, 0, none⟩), .agg #[.int .i64 now, .int .u64 ((dr : Nat) : Int), .int .i64 role, .slice Aa na ca]] w (fun e w' => ∃ k f TL A c, e = .returned (.tuple #[.string k, .bool f, .slice A (TL.map rowT).length c]) ∧ TolK D TL ∧ Tol2 b w' s (n - TL.length) (delsD D TL) t m E A c TL ∧ FrP (fun k => b ≤ k) w w') := by
  obtain ⟨S, T, h1, h2, h3, h4⟩ := id h
  refine (sppickT_any w S s n D h1 now dr hdr role Aa na ca).mono fun e w' ⟨k, f, vt, he, hp⟩ => ?_
  obtain ⟨TL, A, c, rfl, q1, q2, q3⟩ := sp2_tolS h1 h2 h3 h4 hp
  exact ⟨k, f, TL, A, c, he, q1, q2, q3⟩
theorem told_exp (now most : Int) :
    Calls Tryz.prog 16 #[.pointer (some ⟨s, 0, none⟩), .int .i64 now, .int .i64 most] w (fun e w' => ∃ TL A c, e = .returned (.slice A (TL.map rowT).length c) ∧ TolK D TL ∧ Tol2 b w' s (n - TL.length) (delsD D TL) t m E A c TL ∧ FrP (fun k => b ≤ k) w w') := by
  obtain ⟨S, T, h1, h2, h3, h4⟩ := id h
  refine (spexpT_any w S s n D h1 now most).mono fun e w' ⟨vt, he, hp⟩ => ?_
  obtain ⟨TL, A, c, rfl, q1, q2, q3⟩ := sp2_tolS h1 h2 h3 h4 hp
  exact ⟨TL, A, c, he, q1, q2, q3⟩
end
theorem spaceTold_any (w : World) (Al : Option Addr) (cl : Nat) (l : List EnD) (hSl : SlR enR (fun k => k < w.heap.size) w (.slice Al l.length cl) l) (hbn : ∀ x ∈ l, bndE x) (Ao : Option Addr) (co : Nat) (ops : List OpD) (hSo : SlR opR (fun k => k < w.heap.size) w (.slice Ao ops.length co) ops) (hop : ∀ o ∈ ops, OpB o) : Calls Tryz.prog 4 #[.slice Al l.length cl, .slice Ao ops.length co] w (fun e w' => e = .returned (.bool true) ∧ Fr [] w w') := by
 have hP := FrP.refl (fun _ => False) w
 have hlen0 := hSl.len_le
 have hleno := hSo.len_le
 obtain ⟨_, _, hcap, hcap0, _⟩ := id hSl
 cases hcap
 refine V.en 144 Tryz.func4 fun a h1 => ?_
 refine V.sr h1 [] 4 4 [] fun a h4 => ?_
 refine V.seq fun K5 k6 => ?_
 refine V.sg fun K7 k8 => ?_
 refine V.cl h4 (Go.Proofs.enters_of Tryz.func7 (by kernel_rfl) rfl) (awake_any w) ?_
 rintro _ w10 ⟨rfl, hF9⟩
 refine ⟨_, rfl, fun a h11 => ?_⟩
 have hsw10 := hF9.size
 have hP_12 := hP.tr0 hF9
 have hSl_13 := hSl.fr0 hF9
 have hSo_14 := hSo.fr0 hF9
 refine V.re h11 [] 1 0 [(14, .bool false)] fun a h15 => k8 _ _ ?_
 refine V.cf h15 ?_
 refine V.skip ?_
 refine V.then_n (k6 _ _ ?_)
 refine V.seq_cut (fun a_ w_ => ∃ (l2 : List EnD), En 144 [] a_ [(0, .slice Al l2.length cl), (1, .slice Ao ops.length co)] ∧ SlR enR (fun k => k < w.heap.size) w_ (.slice Al l2.length cl) l2 ∧ FrP (fun _ => False) w w_ ∧ SlR opR (fun k => k < w.heap.size) w_ (.slice Ao ops.length co) ops ∧ (∀ x ∈ l2, bndE x)) ?_ ?_
 ·
  refine V.sr h15 [] 15 16 [(17, .bool (decide (((l.length : Nat) : Int) > 200)))] fun a h18 => ?_
  refine V.cp h18 (((l.length : Nat) : Int) > 200) (fun ht19 => ?_) (fun ht19 => ?_)
  ·
   have hS20 := hSl_13.tk (i := 200) (by omega)
   refine V.rr h18 [(1, .cut0 Al l.length cl 200 200 7)] 18 19 [(0, .slice Al 200 cl)] fun a h21 => ?_
   refine V.then_n ?_
   refine ⟨(l.take 200), (h21.eq 0 (v := (.slice Al 200 cl)) (u := (.slice Al (l.take 200).length cl)) (V.sl_eq (by rw [List.length_take]; omega))).only _, (hSl_13.tke 200), hP_12, hSo_14, (fun x hx => hbn x (List.mem_of_mem_take hx))⟩
  ·
   refine V.skip (V.then_n ?_)
   refine ⟨l, h18.only _, hSl_13, hP_12, hSo_14, hbn⟩
 ·
  rintro a22 w23 ⟨l2, h24, hS2_25, hP_26, hSo_27, hbn2⟩
  have hfs28 := hP_26.size
  refine V.seq fun K29 k30 => ?_
  rcases Classical.em (imgN l2 = 0) with hok | hbad
  ·
   refine V.rg ?_
   refine V.run h24 [] 1 1 0 [(21, .slice Al l2.length cl)] fun a h31 => ?_
   refine V.cl h31 (Go.Proofs.enters_of Tryz.func8 (by kernel_rfl) rfl) (begin_ok w23 Al cl l2 hS2_25.old hbn2 hok) ?_
   rintro _ w36 ⟨sp33, rb34, rfl, hA35, hF32⟩
   refine ⟨_, rfl, fun a h37 => ?_⟩
   have hsw36 := hF32.size
   have hS2_38 := hS2_25.fr0 hF32
   have hP_39 := hP_26.tr0 hF32
   have hSo_40 := hSo_27.fr0 hF32
   have hgd := img_good hok
   refine V.re h37 [] 20 25 [(5, .pointer (some ⟨sp33, 0, none⟩)), (6, .pointer (some ⟨rb34, 0, none⟩)), (7, .bool true)] fun a h41 => k30 _ _ ?_
   refine V.seq fun K42 k43 => ?_
   refine V.sr h41 [] 26 30 [(31, .bool false)] fun a h46 => ?_
   refine V.cf h46 ?_
   refine V.skip ?_
   refine V.then_n (k43 _ _ ?_)
   refine V.sg fun K47 k48 => ?_
   refine V.run h46 [] 1 1 0 [(34, .slice Al l2.length cl)] fun a h49 => ?_
   refine V.cl h49 (Go.Proofs.enters_of Tryz.func15 (by kernel_rfl) rfl) (load_ok w36 Al cl l2 hS2_38.old hbn2 hok) ?_
   rintro _ w54 ⟨sp51, rfl, hA52, hF50⟩
   refine ⟨_, rfl, fun a h55 => ?_⟩
   have hsw54 := hF50.size
   have hP_57 := hP_39.tr0 hF50
   have hSo_58 := hSo_40.fr0 hF50
   have hZ53 := Sp2.of (b := w.heap.size) hA35 hF50 hA52 (by omega)
   refine V.re h55 [] 33 37 [(8, .pointer (some ⟨sp51, 0, none⟩)), (9, .int .i64 0)] fun a h59 => k48 _ _ ?_
   refine V.seq fun K60 k61 => ?_
   refine V.sr h59 [] 38 42 [(43, .bool false)] fun a h64 => ?_
   refine V.cf h64 ?_
   refine V.skip ?_
   refine V.then_n (k61 _ _ ?_)
   refine V.seq fun K65 k66 => ?_
   refine V.sr h64 [] 1 0 [(10, .int .i64 0)] fun a h69 => ?_
   refine V.block ?_
   refine V.loop3 (fun (i : Nat) (n : Nat) (D : ByteArray → Option EnD) a_ w_ => En 144 [] a_ [(1, .slice Ao ops.length co), (5, .pointer (some ⟨sp33, 0, none⟩)), (8, .pointer (some ⟨sp51, 0, none⟩)), (10, .int .i64 ((i : Nat) : Int))] ∧ Sp2 w.heap.size w_ sp33 n D sp51 n D ∧ FrP (fun _ => False) w w_ ∧ SlR opR (fun k => k < w.heap.size) w_ (.slice Ao ops.length co) ops ∧ (i ≤ ops.length)) (fun (i : Nat) (n : Nat) (D : ByteArray → Option EnD) => ops.length - i) 0 l2.length (dOf l2) ?_ ?_
   ·
    refine ⟨(h69.eq 10 (v := (.int .i64 0)) (u := (.int .i64 ((0 : Nat) : Int))) (rfl)).only _, hZ53, hP_57, hSo_58, (by omega)⟩
   ·
    rintro i n D a70 w71 ⟨h72, hZ_73, hP_74, hSo_75, hi⟩
    have hfs76 := hP_74.size
    refine V.seq fun K77 k78 => ?_
    refine V.sg fun K79 k80 => ?_
    refine V.run h72 [] 5 44 47 [(48, .bool (decide (((i : Nat) : Int) < ((ops.length : Nat) : Int))))] fun a h81 => ?_
    by_cases hg82 : ((i : Nat) : Int) < ((ops.length : Nat) : Int)
    ·
     have h83 := h81.kt 48 hg82
     refine V.re h83 [] 49 50 [(51, .bool (decide (((i : Nat) : Int) < 200)))] fun a h84 => k80 _ _ ?_
     refine V.cp h84 (((i : Nat) : Int) < 200) (fun ht85 => ?_) (fun ht85 => ?_)
     ·
      refine V.skip ?_
      refine V.then_n (k78 _ _ ?_)
      refine V.seq fun K86 k87 => ?_
      refine V.block ?_
      refine V.sr h84 [] 1 0 [(11, .slice none 0 0)] fun a h90 => ?_
      refine V.seq_cut (fun a_ w_ => ∃ (At : Option Addr), ∃ (ct : Nat), ∃ (TL : List ByteArray), En 144 [] a_ [(1, .slice Ao ops.length co), (5, .pointer (some ⟨sp33, 0, none⟩)), (8, .pointer (some ⟨sp51, 0, none⟩)), (10, .int .i64 ((i : Nat) : Int)), (11, .slice At ((TL.map rowT).length) ct)] ∧ Tol2 w.heap.size w_ sp33 (n - TL.length) (delsD D TL) sp51 n D At ct TL ∧ FrP (fun _ => False) w w_ ∧ SlR opR (fun k => k < w.heap.size) w_ (.slice Ao ops.length co) ops ∧ (TolK D TL)) ?_ ?_
      ·
       refine V.seq fun K91 k92 => ?_
       have hob := hop _ (at_memO (l := ops) (i := ((i : Nat) : Int)) (by omega) (by omega))
       obtain ⟨g93, o94, hA95, hA95l, hA95z⟩ := hSo_75.addr (by omega)
       obtain ⟨cs96, hok97, hE98⟩ := hSo_75.els hA95 ((i : Nat) : Int) (by omega) (by omega)
       obtain ⟨Aa99, na100, ca101, Al102, cl103, Az104, cz105, Ah106, ch107, rfl, hS108, hS109, hS110⟩ := op_open hok97
       refine V.rr h90 [(2, .ix g93 o94 ops.length co .i64 ((i : Nat) : Int) 13 hA95), (1, .l ⟨g93, o94 + ((i : Nat) : Int).toNat * 13, none⟩ (.int .i64 ((at_ opR ops ((i : Nat) : Int)).kind)) (hE98.at 0 rfl))] 54 57 [(58, .int .i64 ((at_ opR ops ((i : Nat) : Int)).kind))] fun a h111 => ?_
       refine V.then_n (k92 _ _ ?_)
       refine V.block ?_
       refine V.sr h111 [(0, .eq ((at_ opR ops ((i : Nat) : Int)).kind) 1)] 62 62 [(61, .bool (decide (((at_ opR ops ((i : Nat) : Int)).kind) = 1)))] fun a h114 => ?_
       refine V.cp h114 (((at_ opR ops ((i : Nat) : Int)).kind) = 1) (fun ht115 => ?_) (fun ht115 => ?_)
       ·
        refine V.pl [([0,1,2,3,4,5,6,7,8,9,10],some (11,[])),([12,13,14,15,16],none)] fun w116 hF117 hsw116 => ?_
        have hZ_118 := hZ_73.fr0 hF117
        have hP_119 := hP_74.tr0 hF117
        have hSo_120 := hSo_75.fr0 hF117
        have hE98_121 := hE98.fr0 hF117
        refine V.pe h114 [(3, .ix g93 o94 ops.length co .i64 ((i : Nat) : Int) 13 hA95), (1, .ls ⟨g93, (o94 + ((i : Nat) : Int).toNat * 13) + 1, none⟩ [.int .i64 ((at_ opR ops ((i : Nat) : Int)).now), .int .u64 (((at_ opR ops ((i : Nat) : Int)).dr : Nat) : Int), .int .i64 ((at_ opR ops ((i : Nat) : Int)).role), .slice Aa99 na100 ca101] (hE98_121.cells 1 _ rfl)), (2, .ix g93 o94 ops.length co .i64 ((i : Nat) : Int) 13 hA95), (1, .l ⟨g93, (o94 + ((i : Nat) : Int).toNat * 13) + 5, none⟩ (.string ((at_ opR ops ((i : Nat) : Int)).x.key)) (hE98_121.at 5 rfl))] 65 73 [(64, .pointer (some ⟨sp33, 0, none⟩)), (69, .agg #[.int .i64 ((at_ opR ops ((i : Nat) : Int)).now), .int .u64 (((at_ opR ops ((i : Nat) : Int)).dr : Nat) : Int), .int .i64 ((at_ opR ops ((i : Nat) : Int)).role), .slice Aa99 na100 ca101]), (74, .string ((at_ opR ops ((i : Nat) : Int)).x.key))] fun a h122 => ?_
        refine V.cl h122 (Go.Proofs.enters_of Tryz.func10 (by kernel_rfl) rfl) (told_get w116 hZ_118 ((at_ opR ops ((i : Nat) : Int)).now) (((at_ opR ops ((i : Nat) : Int)).dr : Nat) : Int) ((at_ opR ops ((i : Nat) : Int)).role) Aa99 na100 ca101 ((at_ opR ops ((i : Nat) : Int)).x.key) hob.2.1) ?_
        rintro _ w131 ⟨k9, s9, v91, v92, v93, f9, TL127, A128, c129, rfl, hTK130, hT126, hF124⟩
        refine ⟨_, rfl, fun a h132 => ?_⟩
        have hsw131 := hF124.size
        have hP_133 := hP_119.trP hF124 (fun k hk => .inr hk)
        have hSo_134 := hSo_120.frP hF124 (fun k hz hp => by (try dsimp only at hz hp); omega)
        refine V.eh trivial ?_
        refine V.pz h132 [] 63 78 [(11, .slice A128 ((TL127.map rowT).length) c129)] fun a h135 => ?_
        refine V.blk_n (V.then_n ?_)
        refine ⟨A128, c129, TL127, h135.only _, hT126, hP_133, hSo_134, hTK130⟩
       ·
        refine V.sr h114 [(0, .eq ((at_ opR ops ((i : Nat) : Int)).kind) 7)] 80 80 [(79, .bool (decide (((at_ opR ops ((i : Nat) : Int)).kind) = 7)))] fun a h138 => ?_
        refine V.cp h138 (((at_ opR ops ((i : Nat) : Int)).kind) = 7) (fun ht139 => ?_) (fun ht139 => ?_)
        ·
         refine V.rg ?_
         refine V.run h138 [(3, .ix g93 o94 ops.length co .i64 ((i : Nat) : Int) 13 hA95), (1, .ls ⟨g93, (o94 + ((i : Nat) : Int).toNat * 13) + 1, none⟩ [.int .i64 ((at_ opR ops ((i : Nat) : Int)).now), .int .u64 (((at_ opR ops ((i : Nat) : Int)).dr : Nat) : Int), .int .i64 ((at_ opR ops ((i : Nat) : Int)).role), .slice Aa99 na100 ca101] (hE98.cells 1 _ rfl))] 6 83 86 [(82, .pointer (some ⟨sp33, 0, none⟩)), (87, .agg #[.int .i64 ((at_ opR ops ((i : Nat) : Int)).now), .int .u64 (((at_ opR ops ((i : Nat) : Int)).dr : Nat) : Int), .int .i64 ((at_ opR ops ((i : Nat) : Int)).role), .slice Aa99 na100 ca101])] fun a h140 => ?_
         refine V.cl h140 (Go.Proofs.enters_of Tryz.func11 (by kernel_rfl) rfl) (told_pick w71 hZ_73 ((at_ opR ops ((i : Nat) : Int)).now) ((at_ opR ops ((i : Nat) : Int)).dr) hob.1 ((at_ opR ops ((i : Nat) : Int)).role) Aa99 na100 ca101) ?_
         rintro _ w149 ⟨k9, f9, TL145, A146, c147, rfl, hTK148, hT144, hF142⟩
         refine ⟨_, rfl, fun a h150 => ?_⟩
         have hsw149 := hF142.size
         have hP_151 := hP_74.trP hF142 (fun k hk => .inr hk)
         have hSo_152 := hSo_75.frP hF142 (fun k hz hp => by (try dsimp only at hz hp); omega)
         refine V.re h150 [] 81 91 [(11, .slice A146 ((TL145.map rowT).length) c147)] fun a h153 => ?_
         refine V.blk_n (V.then_n ?_)
         refine ⟨A146, c147, TL145, h153.only _, hT144, hP_151, hSo_152, hTK148⟩
        ·
         refine V.sr h138 [(0, .eq ((at_ opR ops ((i : Nat) : Int)).kind) 9)] 93 93 [(92, .bool (decide (((at_ opR ops ((i : Nat) : Int)).kind) = 9)))] fun a h156 => ?_
         refine V.cp h156 (((at_ opR ops ((i : Nat) : Int)).kind) = 9) (fun ht157 => ?_) (fun ht157 => ?_)
         ·
          refine V.pl [([0,1,2,3,4,5,6,7,8,9,10,11],some (12,[])),([13],none)] fun w158 hF159 hsw158 => ?_
          have hZ_160 := hZ_73.fr0 hF159
          have hP_161 := hP_74.tr0 hF159
          have hSo_162 := hSo_75.fr0 hF159
          have hE98_163 := hE98.fr0 hF159
          refine V.pe h156 [(3, .ix g93 o94 ops.length co .i64 ((i : Nat) : Int) 13 hA95), (2, .l ⟨g93, (o94 + ((i : Nat) : Int).toNat * 13) + 1, none⟩ (.int .i64 ((at_ opR ops ((i : Nat) : Int)).now)) (hE98_163.at 1 rfl)), (2, .ix g93 o94 ops.length co .i64 ((i : Nat) : Int) 13 hA95), (1, .l ⟨g93, (o94 + ((i : Nat) : Int).toNat * 13) + 12, none⟩ (.int .i64 ((at_ opR ops ((i : Nat) : Int)).n)) (hE98_163.at 12 rfl))] 95 104 [(94, .pointer (some ⟨sp33, 0, none⟩)), (100, .int .i64 ((at_ opR ops ((i : Nat) : Int)).now)), (105, .int .i64 ((at_ opR ops ((i : Nat) : Int)).n))] fun a h164 => ?_
          refine V.cl h164 (Go.Proofs.enters_of Tryz.func16 (by kernel_rfl) rfl) (told_exp w158 hZ_160 ((at_ opR ops ((i : Nat) : Int)).now) ((at_ opR ops ((i : Nat) : Int)).n)) ?_
          rintro _ w173 ⟨TL169, A170, c171, rfl, hTK172, hT168, hF166⟩
          refine ⟨_, rfl, fun a h174 => ?_⟩
          have hsw173 := hF166.size
          have hP_175 := hP_161.trP hF166 (fun k hk => .inr hk)
          have hSo_176 := hSo_162.frP hF166 (fun k hz hp => by (try dsimp only at hz hp); omega)
          refine V.eh trivial ?_
          refine V.pz h174 [] 1 0 [(11, .slice A170 ((TL169.map rowT).length) c171)] fun a h177 => ?_
          refine V.blk_n (V.then_n ?_)
          refine ⟨A170, c171, TL169, h177.only _, hT168, hP_175, hSo_176, hTK172⟩
         ·
          refine V.rg ?_
          refine V.run h156 [] 1 1 0 [(59, .pointer (some ⟨sp33, 0, none⟩))] fun a h178 => ?_
          refine V.cl h178 (Go.Proofs.enters_of Tryz.func17 (by kernel_rfl) rfl) (sp2_len w71 hZ_73) ?_
          rintro _ w180 ⟨rfl, hF179⟩
          refine ⟨_, rfl, fun a h181 => ?_⟩
          have hsw180 := hF179.size
          have hZ_182 := hZ_73.fr0 hF179
          have hP_183 := hP_74.tr0 hF179
          have hSo_184 := hSo_75.fr0 hF179
          refine V.nil ?_
          refine V.blk_n (V.then_n ?_)
          refine ⟨none, 0, ([] : List ByteArray), (h181.eq 11 (v := (.slice none 0 0)) (u := (.slice none ((([] : List ByteArray).map rowT).length) 0)) (V.sl_eq rfl)).only _, hZ_182.tol0, hP_183, hSo_184, (TolK.nil _)⟩
      ·
       rintro a186 w187 ⟨At, ct, TL, h188, hT_189, hP_190, hSo_191, hTK⟩
       have hfs192 := hP_190.size
       refine V.sr h188 [] 1 0 [(12, .int .i64 0)] fun a h195 => ?_
       refine V.block ?_
       refine V.loop1 (fun (k : Nat) a_ w_ => En 144 [] a_ [(1, .slice Ao ops.length co), (5, .pointer (some ⟨sp33, 0, none⟩)), (8, .pointer (some ⟨sp51, 0, none⟩)), (10, .int .i64 ((i : Nat) : Int)), (11, .slice At ((TL.map rowT).length) ct), (12, .int .i64 ((k : Nat) : Int))] ∧ Tol2 w.heap.size w_ sp33 (n - TL.length) (delsD D TL) sp51 (n - k) (delsD D (TL.take k)) At ct TL ∧ FrP (fun _ => False) w w_ ∧ SlR opR (fun k => k < w.heap.size) w_ (.slice Ao ops.length co) ops ∧ (k ≤ TL.length)) (fun (k : Nat) => TL.length - k) 0 ?_ ?_
       ·
        refine ⟨(h195.eq 12 (v := (.int .i64 0)) (u := (.int .i64 ((0 : Nat) : Int))) (rfl)).only _, hT_189, hP_190, hSo_191, (by omega)⟩
       ·
        rintro k a196 w197 ⟨h198, hT_199, hP_200, hSo_201, hk⟩
        have hfs202 := hP_200.size
        have hml : (TL.map rowT).length = TL.length := List.length_map ..
        refine V.seq fun K203 k204 => ?_
        refine V.sr h198 [] 107 109 [(110, .bool (decide (((k : Nat) : Int) < (((TL.map rowT).length : Nat) : Int))))] fun a h207 => ?_
        refine V.cp h207 (((k : Nat) : Int) < (((TL.map rowT).length : Nat) : Int)) (fun ht208 => ?_) (fun ht208 => ?_)
        ·
         refine V.skip ?_
         refine V.then_n (k204 _ _ ?_)
         refine V.seq fun K209 k210 => ?_
         refine V.block ?_
         refine V.seq fun K211 k212 => ?_
         have hkl : k < TL.length := by omega
         have hrl2 : (rowT TL[k]).length = 2 := rfl
         obtain ⟨S9, T9, Z9, _, _, _, _, hS9, _⟩ := id hT_199
         have hlen9 := hS9.len_le
         obtain ⟨g213, o214, hA215, hA215l, hA215z⟩ := hS9.addr (by omega)
         obtain ⟨cs216, hok217, hE218⟩ := hS9.els hA215 ((k : Nat) : Int) (by omega) (by omega)
         obtain ⟨A219, c220, rfl, hS221⟩ := row_open hok217 (at_rowT hkl)
         obtain ⟨g222, o223, hA224, hA224l, hA224z⟩ := hS221.addr (by omega)
         obtain ⟨cs225, hok226, hE227⟩ := hS221.els hA224 (0 : Int) (by omega) (by omega)
         obtain rfl : cs225 = [.string ⟨#[68, 69, 76]⟩] := hok226
         obtain ⟨cs228, hok229, hE230⟩ := hS221.els hA224 (1 : Int) (by omega) (by omega)
         obtain rfl : cs228 = [.string (TL[k])] := hok229
         refine V.rg ?_
         refine V.run h207 [(2, .ix g213 o214 ((TL.map rowT).length) ct .i64 ((k : Nat) : Int) 1 hA215), (0, .l ⟨g213, o214 + ((k : Nat) : Int).toNat * 1, none⟩ (.slice A219 2 c220) (hE218.at 0 rfl)), (5, .ix g213 o214 ((TL.map rowT).length) ct .i64 ((k : Nat) : Int) 1 hA215), (0, .l ⟨g213, o214 + ((k : Nat) : Int).toNat * 1, none⟩ (.slice A219 2 c220) (hE218.at 0 rfl)), (0, .ix g222 o223 2 c220 .i64 0 1 hA224), (0, .l ⟨g222, o223 + (0 : Int).toNat * 1, none⟩ (.string ⟨#[68, 69, 76]⟩) (hE227.at 0 rfl)), (0, .q (.bool false) (V.t_snsame ⟨#[68, 69, 76]⟩)), (5, .ix g213 o214 ((TL.map rowT).length) ct .i64 ((k : Nat) : Int) 1 hA215), (0, .l ⟨g213, o214 + ((k : Nat) : Int).toNat * 1, none⟩ (.slice A219 2 c220) (hE218.at 0 rfl)), (0, .ix g222 o223 2 c220 .i64 1 1 hA224), (0, .l ⟨g222, o223 + (1 : Int).toNat * 1, none⟩ (.string (TL[k])) (hE230.at 0 rfl))] 23 113 134 [(128, .bool false), (129, .pointer (some ⟨sp51, 0, none⟩)), (135, .string (TL[k]))] fun a h231 => ?_
         refine V.clg h231 (Go.Proofs.enters_of Tryz.func18 (by kernel_rfl) rfl) (tol2_del (w := w197) hT_199 (by omega) (TL[k]) (by have := hT_199.ksz (hTK.at hkl); omega) (hTK.at hkl)) ?_
         rintro _ w234 ⟨rfl, hT232, hF233⟩
         refine ⟨_, rfl, fun a h235 => ?_⟩
         have hsw234 := hF233.size
         have hP_236 := hP_200.trP hF233 (fun k hk => .inr hk)
         have hSo_237 := hSo_201.frP hF233 (fun k hz hp => by (try dsimp only at hz hp); omega)
         refine V.re h235 [] 137 137 [(138, .bool false)] fun a h238 => k212 _ _ ?_
         refine V.cf h238 ?_
         refine V.skip (V.blk_n ?_)
         refine V.then_n (k210 _ _ ?_)
         refine V.rr h238 [(1, .i (((k : Nat) : Int) + 1))] 111 112 [(12, .int .i64 (((k : Nat) : Int) + 1))] fun a h239 => ?_
         refine V.then_n ?_
         refine ⟨k + 1, by omega, ?_⟩
         refine ⟨(h239.eq 12 (v := (.int .i64 (((k : Nat) : Int) + 1))) (u := (.int .i64 (((k + 1) : Nat) : Int))) (V.int_eq (by omega))).only _, (by rw [delsD_take hkl]; exact hT232), hP_236, hSo_237, (by omega)⟩
        ·
         refine V.exit (V.then_e (V.then_e (V.blk_hit (V.blk_n ?_))))
         refine V.then_n (k87 _ _ ?_)
         refine V.rr h207 [(1, .i (((i : Nat) : Int) + 1))] 52 53 [(10, .int .i64 (((i : Nat) : Int) + 1))] fun a h240 => ?_
         refine V.then_n ?_
         obtain rfl : k = TL.length := by omega
         refine ⟨i + 1, n - TL.length, delsD D TL, by omega, ?_⟩
         refine ⟨(h240.eq 10 (v := (.int .i64 (((i : Nat) : Int) + 1))) (u := (.int .i64 (((i + 1) : Nat) : Int))) (V.int_eq (by omega))).only _, (by have hz9 := hT_199; rw [List.take_of_length_le (Nat.le_refl _)] at hz9; exact hz9.sp), hP_200, hSo_201, (by omega)⟩
     ·
      refine V.exit (V.then_e (V.then_e (V.blk_hit ?_)))
      refine V.then_n (k66 _ _ ?_)
      refine V.sg fun K241 k242 => ?_
      refine V.run h84 [] 1 1 0 [(139, .pointer (some ⟨sp33, 0, none⟩))] fun a h243 => ?_
      refine V.cl h243 (Go.Proofs.enters_of Tryz.func14 (by kernel_rfl) rfl) (sp2_img1 w71 hZ_73) ?_
      rintro _ w250 ⟨A244, c245, xs248, rfl, hS246, hI249, hF247⟩
      refine ⟨_, rfl, fun a h251 => ?_⟩
      have hsw250 := hF247.size
      have hZ_252 := hZ_73.fr0 hF247
      have hP_253 := hP_74.tr0 hF247
      refine V.run h251 [] 1 1 0 [(141, .pointer (some ⟨sp51, 0, none⟩))] fun a h255 => ?_
      refine V.cl h255 (Go.Proofs.enters_of Tryz.func14 (by kernel_rfl) rfl) (sp2_img2 w250 hZ_252 hI249) ?_
      rintro _ w260 ⟨A256, c257, rfl, hS258, hF259⟩
      refine ⟨_, rfl, fun a h261 => ?_⟩
      have hsw260 := hF259.size
      have hP_263 := hP_253.tr0 hF259
      have hS246_265 := hS246.fr0 hF259
      refine V.cl h261 (Go.Proofs.enters_of Tryz.func13 (by kernel_rfl) rfl) (same_eq w260 A244 c245 xs248 hS246_265.old A256 c257 hS258.old) ?_
      rintro _ w267 ⟨rfl, hF266⟩
      refine ⟨_, rfl, fun a h268 => ?_⟩
      have hsw267 := hF266.size
      have hP_270 := hP_263.tr0 hF266
      refine V.re h268 [] 1 0 [(4, .bool true)] fun a h274 => k242 _ _ ?_
      refine V.ret ?_
      refine V.r1 h274 (.bool true) ?_
      exact ⟨rfl, hP_270.fr (fun k hk => hk.elim)⟩
    ·
     have h275 := h81.kf 48 hg82
     refine V.re h275 [] 49 50 [(51, .bool false)] fun a h276 => k80 _ _ ?_
     refine V.cf h276 ?_
     refine V.exit (V.then_e (V.then_e (V.blk_hit ?_)))
     refine V.then_n (k66 _ _ ?_)
     refine V.sg fun K277 k278 => ?_
     refine V.run h276 [] 1 1 0 [(139, .pointer (some ⟨sp33, 0, none⟩))] fun a h279 => ?_
     refine V.cl h279 (Go.Proofs.enters_of Tryz.func14 (by kernel_rfl) rfl) (sp2_img1 w71 hZ_73) ?_
     rintro _ w286 ⟨A280, c281, xs284, rfl, hS282, hI285, hF283⟩
     refine ⟨_, rfl, fun a h287 => ?_⟩
     have hsw286 := hF283.size
     have hZ_288 := hZ_73.fr0 hF283
     have hP_289 := hP_74.tr0 hF283
     refine V.run h287 [] 1 1 0 [(141, .pointer (some ⟨sp51, 0, none⟩))] fun a h291 => ?_
     refine V.cl h291 (Go.Proofs.enters_of Tryz.func14 (by kernel_rfl) rfl) (sp2_img2 w286 hZ_288 hI285) ?_
     rintro _ w296 ⟨A292, c293, rfl, hS294, hF295⟩
     refine ⟨_, rfl, fun a h297 => ?_⟩
     have hsw296 := hF295.size
     have hP_299 := hP_289.tr0 hF295
     have hS282_301 := hS282.fr0 hF295
     refine V.cl h297 (Go.Proofs.enters_of Tryz.func13 (by kernel_rfl) rfl) (same_eq w296 A280 c281 xs284 hS282_301.old A292 c293 hS294.old) ?_
     rintro _ w303 ⟨rfl, hF302⟩
     refine ⟨_, rfl, fun a h304 => ?_⟩
     have hsw303 := hF302.size
     have hP_306 := hP_299.tr0 hF302
     refine V.re h304 [] 1 0 [(4, .bool true)] fun a h310 => k278 _ _ ?_
     refine V.ret ?_
     refine V.r1 h310 (.bool true) ?_
     exact ⟨rfl, hP_306.fr (fun k hk => hk.elim)⟩
  ·
   refine V.rg ?_
   refine V.run h24 [] 1 1 0 [(21, .slice Al l2.length cl)] fun a h311 => ?_
   refine V.cl h311 (Go.Proofs.enters_of Tryz.func8 (by kernel_rfl) rfl) (begin_bad w23 Al cl l2 hS2_25.old hbn2 hbad) ?_
   rintro _ w313 ⟨rfl, hF312⟩
   refine ⟨_, rfl, fun a h314 => ?_⟩
   have hsw313 := hF312.size
   have hP_316 := hP_26.tr0 hF312
   refine V.re h314 [] 20 25 [(5, .pointer none), (6, .pointer none), (7, .bool true)] fun a h318 => k30 _ _ ?_
   refine V.seq fun K319 k320 => ?_
   refine V.sr h318 [] 26 30 [(31, .bool true)] fun a h323 => ?_
   refine V.ct h323 ?_
   refine V.sr h323 [] 32 32 [(4, .bool true)] fun a h326 => ?_
   refine V.ret (V.then_r ?_)
   refine V.r1 h326 (.bool true) ?_
   exact ⟨rfl, hP_316.fr (fun k hk => hk.elim)⟩
end Go.Proofs.YtjkegckfncfoaaaGreat
end
section
namespace Go.Proofs.YtjkegckfncfoaaaGreat
open Go.V Go.Base Go.RowKit Go.WideShapes Go.ChangeShapes Go.Deep
set_option linter.unusedVariables false
section
variable {H : Type}
theorem bulk_pos (d : DataW H) : 1 ≤ Rows.uptoBulk d := by
  cases d with
  | lit l => cases l <;> simp [Rows.uptoBulk]
  | nil => simp [Rows.uptoBulk]
  | ptr d => simp [Rows.uptoBulk]
  | slice a b => simp [Rows.uptoBulk]
  | agg a => simp [Rows.uptoBulk]
  | iface t d => simp [Rows.uptoBulk]
  | map a => simp [Rows.uptoBulk]
  | held h => simp [Rows.uptoBulk]
theorem bulk_len : ∀ (l : List (DataW H)), l.length ≤ Rows.uptoBulkAll l
  | [] => by simp [Rows.uptoBulkAll]
  | d :: l => by
    have h1 := bulk_pos d
    have h2 := bulk_len l
    simp only [List.length_cons, Rows.uptoBulkAll]
    omega
theorem bulk_mem : ∀ {l : List (DataW H)} {d : DataW H}, d ∈ l → Rows.uptoBulk d ≤ Rows.uptoBulkAll l
  | e :: l, d, h => by
    simp only [Rows.uptoBulkAll]
    rcases List.mem_cons.1 h with rfl | h
    · omega
    · have := bulk_mem h; omega
end
def Opn {α : Type} {H : Type} (enc : TypeId × Value → H) (P : Program) (W : World) (t : TypeId) (R : Rp α) (K : α → Nat → Prop) : Prop :=
  ∀ (n : Nat) (cs : List Value) (x : DataW H × List MemPlace), DataW.trod enc P W 0 (fun _ => true) true n t cs = some x → (∀ p ∈ x.2, p.block < W.heap.size) → ∃ d : α, R.ok (fun b => b < W.heap.size) W d cs ∧ K d (Rows.uptoBulk x.1)
section
variable {α : Type} {R : Rp α} {K : α → Nat → Prop} {H : Type} {enc : TypeId × Value → H} {P : Program} {W : World} {t e : TypeId}
theorem opn_i {n : Nat} {cs : List Value} {x : DataW H × List MemPlace} (ht : P.underlying t = some (.int .i64)) (h : DataW.trod enc P W 0 (fun _ => true) true n t cs = some x) : ∃ n : Int, cs = [.int .i64 n] ∧ -9223372036854775808 ≤ n ∧ n ≤ 9223372036854775807 := by
  obtain ⟨n, q, _, w⟩ := DataW.trod_int ht h
  unfold Lit.wf at w
  have h1 : IntKind.i64.min = -9223372036854775808 := by decide
  have h2 : IntKind.i64.max = 9223372036854775807 := by decide
  simp [h1, h2] at w
  exact ⟨n, q, w.1, w.2⟩
theorem opn_w {n : Nat} {cs : List Value} {x : DataW H × List MemPlace} (ht : P.underlying t = some (.int .u64)) (h : DataW.trod enc P W 0 (fun _ => true) true n t cs = some x) : ∃ n : Nat, cs = [.int .u64 (n : Int)] ∧ n < 18446744073709551616 := by
  obtain ⟨n, q, _, w⟩ := DataW.trod_int ht h
  unfold Lit.wf at w
  have h1 : IntKind.u64.min = 0 := by decide
  have h2 : IntKind.u64.max = 18446744073709551615 := by decide
  simp [h1, h2] at w
  exact ⟨n.toNat, by rw [q, Int.toNat_of_nonneg w.1], by omega⟩
theorem opn_s {n : Nat} {cs : List Value} {x : DataW H × List MemPlace} (ht : P.underlying t = some .string) (h : DataW.trod enc P W 0 (fun _ => true) true n t cs = some x) : ∃ s : ByteArray, cs = [.string s] ∧ s.size ≤ Rows.uptoBulk x.1 := by
  obtain ⟨s, q, rfl, w⟩ := DataW.trod_string ht h
  exact ⟨s, q, by simp [Rows.uptoBulk]⟩
theorem Opn.str (ht : P.underlying t = some .string) : Opn enc P W t Rp.str fun s b => s.size ≤ b := fun n cs x h hp => by
  obtain ⟨s, rfl, h1⟩ := opn_s ht h
  exact ⟨s, rfl, h1⟩
/-- A slice of what can be opened. -/
theorem Opn.sl (ht : P.underlying t = some (.slice e)) (hc : P.cellsOf e = R.sz) (hpos : 0 < R.sz) (hK : ∀ d b b', b ≤ b' → K d b → K d b') (hel : Opn enc P W e R K) {n : Nat} {cs : List Value} {x : DataW H × List MemPlace} (hf : DataW.trod enc P W 0 (fun _ => true) true n t cs = some x) (hlt : ∀ p ∈ x.2, p.block < W.heap.size) :
    ∃ A c l, cs = [.slice A l.length c] ∧ SlR R (fun b => b < W.heap.size) W (.slice A l.length c) l ∧ l.length ≤ Rows.uptoBulk x.1 ∧ ∀ y ∈ l, K y (Rows.uptoBulk x.1) := by
  rcases open_slice ht hf with ⟨rfl, rfl⟩ | ⟨a, len, cap, m, k, D, Pl, rfl, _, hl, hm, hmm, rfl, hall⟩
  · exact ⟨none, 0, [], rfl, SlR.nil _ _ _, Nat.zero_le _, fun y hy => by simp at hy⟩
  · simp only [if_true] at hmm
    subst hmm
    have hone : ∀ i, i < m → ∃ (x : α) (cs : List Value), R.ok (fun b => b < W.heap.size) W x cs ∧ K x (Rows.uptoBulk (D i)) ∧ ∀ j u, cs[j]? = some u → W.cell? (a.add (i * R.sz + j)) = some u := fun i hi => by
      obtain ⟨cs', h1, h2⟩ := hall i hi
      obtain ⟨x, hx, hkx⟩ := hel k cs' _ h2 fun p hp => hlt p (List.mem_append_right _ (List.mem_flatMap.2 ⟨i, List.mem_range.2 hi, hp⟩))
      obtain ⟨_, hlen, hcell⟩ := World.cells?_some h1
      refine ⟨x, cs', hx, hkx, fun j u hj => ?_⟩
      have hjl : j < P.cellsOf e := by rw [← hlen]; exact (List.getElem?_eq_some_iff.1 hj).1
      have := hcell j hjl
      rw [hj, hc] at this
      rw [← this, add_add]
    have hex : ∀ q, q ≤ m → ∃ l : List α, l.length = q ∧ ∀ i x, l[i]? = some x → K x (Rows.uptoBulk (D i)) ∧ ∃ cs, R.ok (fun b => b < W.heap.size) W x cs ∧ ∀ j u, cs[j]? = some u → W.cell? (a.add (i * R.sz + j)) = some u := by
      intro q
      induction q with
      | zero => exact fun _ => ⟨[], rfl, fun i x h => by simp at h⟩
      | succ q ih =>
        intro hq
        obtain ⟨l, hll, hli⟩ := ih (by omega)
        obtain ⟨x, cs, h1, hk1, h2⟩ := hone q (by omega)
        refine ⟨l ++ [x], by simp [hll], fun i y hy => ?_⟩
        rcases Nat.lt_or_ge i l.length with hi | hi
        · rw [List.getElem?_append_left hi] at hy; exact hli i y hy
        · rw [List.getElem?_append_right hi] at hy
          have : i - l.length = 0 := by
            have := (List.getElem?_eq_some_iff.1 hy).1; simp at this; omega
          rw [this] at hy
          simp at hy; subst hy
          have hiq : i = q := by omega
          subst hiq
          exact ⟨hk1, cs, h1, h2⟩
    obtain ⟨l, hll, hli⟩ := hex len hl
    subst hll
    have hb : ∀ i, i < l.length → Rows.uptoBulk (D i) ≤ Rows.uptoBulkAll ((List.range l.length).map D) := fun i hi => bulk_mem (List.mem_map.2 ⟨i, List.mem_range.2 hi, rfl⟩)
    have hlb := bulk_len ((List.range l.length).map D)
    rw [List.length_map, List.length_range] at hlb
    have hbb : Rows.uptoBulkAll ((List.range l.length).map D) ≤ Rows.uptoBulk (DataW.slice ((List.range l.length).map D) ((List.range (m - l.length)).map fun j => D (l.length + j))) := by simp only [Rows.uptoBulk]; omega
    refine ⟨some a, m, l, rfl, ⟨_, _, rfl, hl, by unfold maxLen at hm; omega, fun i x hi => ?_⟩, Nat.le_trans hlb hbb, fun y hy => ?_⟩
    · obtain ⟨_, cs, h1, h2⟩ := hli i x hi
      have hin : i < l.length := (List.getElem?_eq_some_iff.1 hi).1
      obtain ⟨b, off, spot⟩ := a
      have hcl := R.len h1
      obtain ⟨u0, hu0⟩ : ∃ u, cs[0]? = some u := ⟨cs[0]'(by omega), List.getElem?_eq_getElem (by omega)⟩
      obtain ⟨_, cz, z1, z2⟩ := hli 0 _ (List.getElem?_eq_getElem (by omega))
      have hzl := R.len z1
      have hspot : spot = none := by simpa [Addr.add] using World.cell?_spot (z2 0 _ (List.getElem?_eq_getElem (by omega)))
      subst hspot
      have hbW : b < W.heap.size := by
        have hmem : MemPlace.cell b off ∈ MemPlace.row ⟨b, off, none⟩ (m * P.cellsOf e) := MemPlace.mem_row.2 ⟨0, by rw [hc]; exact Nat.mul_pos (by omega) hpos, by simp⟩
        exact hlt _ (List.mem_append_left _ hmem)
      refine ⟨b, off, cs, rfl, hbW, hbW, h1, fun j u hj => ?_⟩
      have := h2 j u hj
      rwa [show (⟨b, off, none⟩ : Addr).add (i * R.sz + j) = ⟨b, off + i * R.sz + j, none⟩ by unfold Addr.add; split <;> simp_all [Nat.add_assoc]] at this
    · obtain ⟨i, hi⟩ := List.mem_iff_getElem?.1 hy
      exact hK _ _ _ (Nat.le_trans (hb i (List.getElem?_eq_some_iff.1 hi).1) hbb) (hli i y hi).1
/-- A struct's parts. -/
theorem opn_st {fs : Array Field} (ht : P.underlying t = some (.struct fs)) {k : Nat} (hk : P.cellsOf t = k) {n : Nat} {cs : List Value} {x : DataW H × List MemPlace} (h : DataW.trod enc P W 0 (fun _ => true) true n t cs = some x) (hlt : ∀ p ∈ x.2, p.block < W.heap.size) :
    cs.length = k ∧ ∀ (i : Nat) (f : Field), fs[i]? = some f → ∃ m y, DataW.trod enc P W 0 (fun _ => true) true m f.type ((cs.drop f.offset).take (P.cellsOf f.type)) = some y ∧ Rows.uptoBulk y.1 ≤ Rows.uptoBulk x.1 ∧ ∀ p ∈ y.2, p.block < W.heap.size := by
  obtain ⟨xs, m, _, rfl, hl, hlen, hf⟩ := DataW.trod_struct ht h
  refine ⟨hl.trans hk, fun i f hi => ?_⟩
  have hil : i < xs.length := by
    have := (Array.getElem?_eq_some_iff.1 hi).1
    omega
  refine ⟨m, xs[i], (hf i f hi).trans (List.getElem?_eq_getElem hil), ?_, fun p hp => hlt p (List.mem_flatMap.2 ⟨xs[i], List.getElem_mem hil, hp⟩)⟩
  have := bulk_mem (l := xs.map (·.1)) (List.mem_map.2 ⟨xs[i], List.getElem_mem hil, rfl⟩)
  simp only [Rows.uptoBulk]
  omega
end
theorem list2 {β : Type} {cs : List β} (h : cs.length = 2) : ∃ a b, cs = [a, b] := by
  match cs, h with
  | [a, b], _ => exact ⟨a, b, rfl⟩
theorem list4 {β : Type} {cs : List β} (h : cs.length = 4) : ∃ a b c d, cs = [a, b, c, d] := by
  match cs, h with
  | [a, b, c, d], _ => exact ⟨a, b, c, d, rfl⟩
theorem list5 {β : Type} {cs : List β} (h : cs.length = 5) : ∃ a b c d e, cs = [a, b, c, d, e] := by
  match cs, h with
  | [a, b, c, d, e], _ => exact ⟨a, b, c, d, e, rfl⟩
theorem list7 {β : Type} {cs : List β} (h : cs.length = 7) : ∃ a b c d e f g, cs = [a, b, c, d, e, f, g] := by
  match cs, h with
  | [a, b, c, d, e, f, g], _ => exact ⟨a, b, c, d, e, f, g, rfl⟩
end Go.Proofs.YtjkegckfncfoaaaGreat
end
section
namespace Go.Proofs.YtjkegckfncfoaaaGreat
open Go.V Go.Base
open Go.RowKit (Below)
attribute [local irreducible] Act.put Act.eval
set_option linter.unusedVariables false
set_option linter.unusedSimpArgs false
open Go.WideShapes Go.ChangeShapes Go.Deep
/-! A value that is an argument. -/
def ScK (y : ByteArray × Int) (b : Nat) : Prop := y.1.size ≤ b ∧ -9223372036854775808 ≤ y.2 ∧ y.2 ≤ 9223372036854775807
def FdK (y : ByteArray × ByteArray) (b : Nat) : Prop := y.1.size ≤ b ∧ y.2.size ≤ b
def ValK (k : Int) (s : ByteArray) (l : List ByteArray) (z : List (ByteArray × Int)) (h : List (ByteArray × ByteArray)) (b : Nat) : Prop :=
  (-9223372036854775808 ≤ k ∧ k ≤ 9223372036854775807) ∧ s.size ≤ b ∧ (l.length ≤ b ∧ ∀ y ∈ l, y.size ≤ b) ∧ (z.length ≤ b ∧ ∀ y ∈ z, ScK y b) ∧ h.length ≤ b ∧ ∀ y ∈ h, FdK y b
theorem cells9 : Tryz.prog.cellsOf 9 = 1 := by kernel_rfl
theorem cells2 : Tryz.prog.cellsOf 2 = 1 := by kernel_rfl
theorem cells22 : Tryz.prog.cellsOf 33 = 1 := by kernel_rfl
theorem cells23 : Tryz.prog.cellsOf 25 = 1 := by kernel_rfl
theorem cells24 : Tryz.prog.cellsOf 34 = 1 := by kernel_rfl
theorem cells25 : Tryz.prog.cellsOf 35 = 1 := by kernel_rfl
theorem cells27 : Tryz.prog.cellsOf 37 = 5 := by kernel_rfl
theorem cells37 : Tryz.prog.cellsOf 107 = 2 := by kernel_rfl
theorem cells35 : Tryz.prog.cellsOf 110 = 2 := by kernel_rfl
section
variable {H : Type} {enc : TypeId × Value → H} {W : World}
theorem sc_el : Opn enc Tryz.prog W 107 scR ScK := fun n cs x h hp => by
  obtain ⟨hl, hf⟩ := opn_st Tryz.underlying107 cells37 h hp
  obtain ⟨c0, c1, rfl⟩ := list2 hl
  obtain ⟨_, y0, h0, b0, _⟩ := hf 0 _ rfl
  obtain ⟨_, y1, h1, b1, _⟩ := hf 1 _ rfl
  obtain ⟨s, q0, k0⟩ := opn_s Tryz.underlying9 h0
  obtain ⟨n, q1, k1⟩ := opn_i Tryz.underlying2 h1
  simp [cells9, cells2] at q0 q1
  subst q0; subst q1
  exact ⟨(s, n), rfl, Nat.le_trans k0 b0, k1⟩
theorem fd_el : Opn enc Tryz.prog W 110 fdR FdK := fun n cs x h hp => by
  obtain ⟨hl, hf⟩ := opn_st Tryz.underlying110 cells35 h hp
  obtain ⟨c0, c1, rfl⟩ := list2 hl
  obtain ⟨_, y0, h0, b0, _⟩ := hf 0 _ rfl
  obtain ⟨_, y1, h1, b1, _⟩ := hf 1 _ rfl
  obtain ⟨s, q0, k0⟩ := opn_s Tryz.underlying9 h0
  obtain ⟨n, q1, k1⟩ := opn_s Tryz.underlying9 h1
  simp [cells9] at q0 q1
  subst q0; subst q1
  exact ⟨(s, n), rfl, Nat.le_trans k0 b0, Nat.le_trans k1 b1⟩
theorem val_el {n : Nat} {cs : List Value} {x : DataW H × List MemPlace} (h : DataW.trod enc Tryz.prog W 0 (fun _ => true) true n 37 cs = some x) (hp : ∀ p ∈ x.2, p.block < W.heap.size) :
    ∃ k s Al cl l Az cz z Ah ch h', cs = [.int .i64 k, .string s, .slice Al l.length cl, .slice Az z.length cz, .slice Ah h'.length ch] ∧ SlR Rp.str (fun b => b < W.heap.size) W (.slice Al l.length cl) l ∧ SlR scR (fun b => b < W.heap.size) W (.slice Az z.length cz) z ∧ SlR fdR (fun b => b < W.heap.size) W (.slice Ah h'.length ch) h' ∧ ValK k s l z h' (Rows.uptoBulk x.1) := by
  obtain ⟨hl, hf⟩ := opn_st Tryz.underlying37 cells27 h hp
  obtain ⟨c0, c1, c2, c3, c4, rfl⟩ := list5 hl
  obtain ⟨_, y0, h0, b0, p0⟩ := hf 0 _ rfl
  obtain ⟨_, y1, h1, b1, p1⟩ := hf 1 _ rfl
  obtain ⟨_, y2, h2, b2, p2⟩ := hf 2 _ rfl
  obtain ⟨_, y3, h3, b3, p3⟩ := hf 3 _ rfl
  obtain ⟨_, y4, h4, b4, p4⟩ := hf 4 _ rfl
  obtain ⟨k, q0, k0⟩ := opn_i Tryz.underlying33 h0
  obtain ⟨s, q1, k1⟩ := opn_s Tryz.underlying9 h1
  obtain ⟨Al, cl, l, q2, s2, k2, m2⟩ := Opn.sl (R := Rp.str) (K := fun s b => s.size ≤ b) Tryz.underlying25 cells9 (by decide) (fun d b b' h q => Nat.le_trans q h) (Opn.str Tryz.underlying9) h2 p2
  obtain ⟨Az, cz, z, q3, s3, k3, m3⟩ := Opn.sl (R := scR) (K := ScK) Tryz.underlying34 cells37 (by decide) (fun d b b' h q => ⟨Nat.le_trans q.1 h, q.2⟩) sc_el h3 p3
  obtain ⟨Ah, ch, h', q4, s4, k4, m4⟩ := Opn.sl (R := fdR) (K := FdK) Tryz.underlying35 cells35 (by decide) (fun d b b' h q => ⟨Nat.le_trans q.1 h, Nat.le_trans q.2 h⟩) fd_el h4 p4
  simp [cells9, cells22, cells23, cells24, cells25] at q0 q1 q2 q3 q4
  subst q0; subst q1; subst q2; subst q3; subst q4
  exact ⟨k, s, Al, cl, l, Az, cz, z, Ah, ch, h', rfl, s2, s3, s4, k0, by omega, ⟨by omega, fun y hy => Nat.le_trans (m2 y hy) b2⟩, ⟨by omega, fun y hy => ⟨Nat.le_trans (m3 y hy).1 b3, (m3 y hy).2⟩⟩, by omega, fun y hy => ⟨Nat.le_trans (m4 y hy).1 b4, Nat.le_trans (m4 y hy).2 b4⟩⟩
end
end Go.Proofs.YtjkegckfncfoaaaGreat
end
section
namespace Go.Proofs.YtjkegckfncfoaaaGreat
open Go.V Go.Base
open Go.RowKit (Below)
attribute [local irreducible] Act.put Act.eval
set_option linter.unusedVariables false
set_option linter.unusedSimpArgs false
open Go.WideShapes Go.ChangeShapes Go.Deep
/-! A call that is an argument. -/
def CallK (now : Int) (dr : Nat) (role : Int) (b : Nat) : Prop := (-9223372036854775808 ≤ now ∧ now ≤ 9223372036854775807) ∧ dr < 18446744073709551616 ∧ -9223372036854775808 ≤ role ∧ role ≤ 9223372036854775807
theorem cellsC : Tryz.prog.cellsOf 27 = 4 := by kernel_rfl
theorem cellsI : Tryz.prog.cellsOf 3 = 1 := by kernel_rfl
theorem cellsU : Tryz.prog.cellsOf 23 = 1 := by kernel_rfl
theorem cellsR : Tryz.prog.cellsOf 24 = 1 := by kernel_rfl
section
variable {H : Type} {enc : TypeId × Value → H} {W : World}
theorem call_el {n : Nat} {cs : List Value} {x : DataW H × List MemPlace} (h : DataW.trod enc Tryz.prog W 0 (fun _ => true) true n 27 cs = some x) (hp : ∀ p ∈ x.2, p.block < W.heap.size) :
    ∃ now dr role Aa na ca, cs = [.int .i64 now, .int .u64 ((dr : Nat) : Int), .int .i64 role, .slice Aa na ca] ∧ CallK now dr role (Rows.uptoBulk x.1) := by
  obtain ⟨hl, hf⟩ := opn_st Tryz.underlying27 cellsC h hp
  obtain ⟨c0, c1, c2, c3, rfl⟩ := list4 hl
  obtain ⟨_, y0, h0, b0, p0⟩ := hf 0 _ rfl
  obtain ⟨_, y1, h1, b1, p1⟩ := hf 1 _ rfl
  obtain ⟨_, y2, h2, b2, p2⟩ := hf 2 _ rfl
  obtain ⟨_, y3, h3, b3, p3⟩ := hf 3 _ rfl
  obtain ⟨now, q0, k0⟩ := opn_i Tryz.underlying3 h0
  obtain ⟨dr, q1, k1⟩ := opn_w Tryz.underlying23 h1
  obtain ⟨role, q2, k2⟩ := opn_i Tryz.underlying24 h2
  obtain ⟨A, c, l, q3, s3, k3, m3⟩ := Opn.sl (R := Rp.str) (K := fun s b => s.size ≤ b) Tryz.underlying25 cells9 (by decide) (fun d b b' h q => Nat.le_trans q h) (Opn.str Tryz.underlying9) h3 p3
  simp [cellsI, cellsU, cellsR, cells23] at q0 q1 q2 q3
  subst q0; subst q1; subst q2; subst q3
  exact ⟨now, dr, role, A, l.length, c, rfl, k0, k1, k2⟩
/-! Entries that are an argument. -/
def EnK (x : EnD) (b : Nat) : Prop := x.key.size ≤ b ∧ ValK x.k x.s x.l x.z x.h b ∧ -9223372036854775808 ≤ x.till ∧ x.till ≤ 9223372036854775807
theorem ValK.mono {k : Int} {s : ByteArray} {l : List ByteArray} {z : List (ByteArray × Int)} {h : List (ByteArray × ByteArray)} {b b' : Nat} (q : ValK k s l z h b) (hb : b ≤ b') : ValK k s l z h b' :=
  ⟨q.1, Nat.le_trans q.2.1 hb, ⟨Nat.le_trans q.2.2.1.1 hb, fun y hy => Nat.le_trans (q.2.2.1.2 y hy) hb⟩, ⟨Nat.le_trans q.2.2.2.1.1 hb, fun y hy => ⟨Nat.le_trans (q.2.2.2.1.2 y hy).1 hb, (q.2.2.2.1.2 y hy).2⟩⟩, Nat.le_trans q.2.2.2.2.1 hb, fun y hy => ⟨Nat.le_trans (q.2.2.2.2.2 y hy).1 hb, Nat.le_trans (q.2.2.2.2.2 y hy).2 hb⟩⟩
theorem EnK.mono {x : EnD} {b b' : Nat} (q : EnK x b) (hb : b ≤ b') : EnK x b' := ⟨Nat.le_trans q.1 hb, q.2.1.mono hb, q.2.2⟩
theorem cellsE : Tryz.prog.cellsOf 39 = 7 := by kernel_rfl
theorem en_el : Opn enc Tryz.prog W 39 enR EnK := fun n cs x h hp => by
  obtain ⟨hl, hf⟩ := opn_st Tryz.underlying39 cellsE h hp
  obtain ⟨c0, c1, c2, c3, c4, c5, c6, rfl⟩ := list7 hl
  obtain ⟨_, y0, h0, b0, p0⟩ := hf 0 _ rfl
  obtain ⟨_, y1, h1, b1, p1⟩ := hf 1 _ rfl
  obtain ⟨_, y2, h2, b2, p2⟩ := hf 2 _ rfl
  obtain ⟨s, q0, k0⟩ := opn_s Tryz.underlying9 h0
  obtain ⟨k, s', Al, cl, l, Az, cz, z, Ah, ch, h', q1, s1, s2, s3, k1⟩ := val_el h1 p1
  obtain ⟨t, q2, k2⟩ := opn_i Tryz.underlying3 h2
  simp [cells9, cellsI, cells27] at q0 q1 q2
  obtain ⟨rfl, rfl, rfl, rfl, rfl⟩ := q1
  subst q0; subst q2
  exact ⟨⟨s, k, s', l, z, h', t⟩, ⟨_, _, _, rfl, s1, s2, s3⟩, Nat.le_trans k0 b0, k1.mono b1, k2⟩
theorem open_en {A : Option Addr} {n c : Nat} {d : DataW H} {ps : List MemPlace} (hd : DataW.Trod enc Tryz.prog W 0 (fun _ => true) true 22 (.slice A n c) d ps) (hlt : ∀ x ∈ ps, x.block < W.heap.size) :
    ∃ l : List EnD, n = l.length ∧ SlR enR (fun b => b < W.heap.size) W (.slice A n c) l ∧ l.length ≤ Rows.uptoBulk d ∧ ∀ x ∈ l, EnK x (Rows.uptoBulk d) := by
  obtain ⟨fu, hf⟩ := hd
  obtain ⟨A', c', l, q, s, k, m⟩ := Opn.sl (R := enR) (K := EnK) Tryz.underlying22 cellsE (by decide) (fun d b b' h q => q.mono h) en_el hf hlt
  simp [Value.cells] at q
  obtain ⟨rfl, rfl, rfl⟩ := q
  exact ⟨l, rfl, s, k, m⟩
end
end Go.Proofs.YtjkegckfncfoaaaGreat
end
section
namespace Go.Proofs.YtjkegckfncfoaaaGreat
open Go.V Go.Base
open Go.RowKit (Below)
attribute [local irreducible] Act.put Act.eval
set_option linter.unusedVariables false
set_option linter.unusedSimpArgs false
open Go.WideShapes Go.ChangeShapes Go.Deep
/-! Calls in a row that are an argument. -/
def OpK (o : OpD) (b : Nat) : Prop := o.dr < 18446744073709551616 ∧ o.x.key.size ≤ b ∧ ValK o.x.k o.x.s o.x.l o.x.z o.x.h b
theorem cellsO : Tryz.prog.cellsOf 56 = 13 := by kernel_rfl
theorem list13 {β : Type} {cs : List β} (h : cs.length = 13) : ∃ a b c d e f g h i j k l m, cs = [a, b, c, d, e, f, g, h, i, j, k, l, m] := by
  match cs, h with
  | [a, b, c, d, e, f, g, h, i, j, k, l, m], _ => exact ⟨a, b, c, d, e, f, g, h, i, j, k, l, m, rfl⟩
section
variable {H : Type} {enc : TypeId × Value → H} {W : World}
theorem op_el : Opn enc Tryz.prog W 56 opR OpK := fun n cs x h hp => by
  obtain ⟨hl, hf⟩ := opn_st Tryz.underlying56 cellsO h hp
  obtain ⟨c0, c1, c2, c3, c4, c5, c6, c7, c8, c9, c10, c11, c12, rfl⟩ := list13 hl
  obtain ⟨_, y0, h0, b0, p0⟩ := hf 0 _ rfl
  obtain ⟨_, y1, h1, b1, p1⟩ := hf 1 _ rfl
  obtain ⟨_, y2, h2, b2, p2⟩ := hf 2 _ rfl
  obtain ⟨_, y3, h3, b3, p3⟩ := hf 3 _ rfl
  obtain ⟨_, y4, h4, b4, p4⟩ := hf 4 _ rfl
  obtain ⟨_, y5, h5, b5, p5⟩ := hf 5 _ rfl
  obtain ⟨kd, q0, k0⟩ := opn_i Tryz.underlying3 h0
  obtain ⟨now, dr, role, Aa, na, ca, q1, k1⟩ := call_el h1 p1
  obtain ⟨s, q2, k2⟩ := opn_s Tryz.underlying9 h2
  obtain ⟨k, s', Al, cl, l, Az, cz, z, Ah, ch, h', q3, s1, s2, s3, k3⟩ := val_el h3 p3
  obtain ⟨t, q4, k4⟩ := opn_i Tryz.underlying3 h4
  obtain ⟨m, q5, k5⟩ := opn_i Tryz.underlying3 h5
  simp [cells9, cellsI, cells27, cellsC] at q0 q1 q2 q3 q4 q5
  obtain ⟨rfl, rfl, rfl, rfl⟩ := q1
  obtain ⟨rfl, rfl, rfl, rfl, rfl⟩ := q3
  subst q0; subst q2; subst q4; subst q5
  exact ⟨⟨kd, now, dr, role, ⟨s, k, s', l, z, h', t⟩, m⟩, ⟨_, _, _, _, _, _, rfl, s1, s2, s3⟩, k1.2.1, Nat.le_trans k2 b2, k3.mono b3⟩
theorem OpK.mono {o : OpD} {b b' : Nat} (q : OpK o b) (hb : b ≤ b') : OpK o b' := ⟨q.1, Nat.le_trans q.2.1 hb, q.2.2.mono hb⟩
theorem open_op {A : Option Addr} {n c : Nat} {d : DataW H} {ps : List MemPlace} (hd : DataW.Trod enc Tryz.prog W 0 (fun _ => true) true 51 (.slice A n c) d ps) (hlt : ∀ x ∈ ps, x.block < W.heap.size) :
    ∃ l : List OpD, n = l.length ∧ SlR opR (fun b => b < W.heap.size) W (.slice A n c) l ∧ l.length ≤ Rows.uptoBulk d ∧ ∀ x ∈ l, OpK x (Rows.uptoBulk d) := by
  obtain ⟨fu, hf⟩ := hd
  obtain ⟨A', c', l, q, s, k, m⟩ := Opn.sl (R := opR) (K := OpK) Tryz.underlying51 cellsO (by decide) (fun d b b' h q => q.mono h) op_el hf hlt
  simp [Value.cells] at q
  obtain ⟨rfl, rfl, rfl⟩ := q
  exact ⟨l, rfl, s, k, m⟩
end
end Go.Proofs.YtjkegckfncfoaaaGreat
end
