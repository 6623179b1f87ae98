/- Walks: Parse. -/
import Derived.Test.YtmlohijidjbbjaaProg
import Derived.Test.YtmlohijidjbbjaaWe
namespace Go.Proofs.Ytmlohijidjbbjaa
open Go.V Go.Base
attribute [local irreducible] Act.put Act.eval
set_option linter.unusedVariables false
set_option linter.unusedSimpArgs false
set_option maxHeartbeats 4000000 in
set_option maxRecDepth 20000 in
theorem parts_any (w : World) (s : ByteArray) : Calls Try.prog 29 #[.string s] w (fun e w' => ∃ b, e = .returned (.func (.func 38) #[] #[.pointer (some ⟨b, 0, none⟩)]) ∧ w.heap.size ≤ b ∧ Blk w' b [.string s] 9 ∧ Fr [] w w') := by
  have hF := Fr.refl [] w
  refine V.enter 4 Try.func29 rfl rfl ?_
  intro a hz ha
  have s0 : a.eval (.tmp 0) = (.string s) := ha 0 _ rfl
  clear ha
  refine V.seq (fun K1 hK2 => ?_)
  refine V.region (by kernel_rfl) ?_
  refine V.go (V.mk [(0, .string s)] ⟨(s0), trivial⟩ (by kernel_rfl) [.string s] 9 (fun b => .pointer (some ⟨b, 0, none⟩)) (by kernel_rfl) ?_)
  intro w4 b3 heb3 hB5 hF6 hsb3
  have hF_7 := hF.new hF6
  refine V.go (V.asg (v := (.nilFunc)) evc ?_)
  refine V.nil ?_
  refine V.then_n (hK2 _ _ ?_)
  refine V.seq (fun K8 hK9 => ?_)
  refine V.region (by kernel_rfl) ?_
  refine V.go (V.pv [(1, .pointer (some ⟨b3, 0, none⟩))] ⟨(at_other rfl _ (at_same hz rfl _)), trivial⟩ (by kernel_rfl) (.func (.func 38) #[] #[.pointer (some ⟨b3, 0, none⟩)]) (by kernel_rfl) ?_)
  refine V.go (V.asg (v := (.func (.func 38) #[] #[.pointer (some ⟨b3, 0, none⟩)])) (at_same ((hz.put _ _).put _ _) rfl _) ?_)
  refine V.nil ?_
  refine V.then_n (hK9 _ _ ?_)
  refine V.flushW ((((hz.put _ _).put _ _).put _ _).put _ _) (fun a10 hz11 up12 => ?_)
  have s2_13 : a10.eval (.tmp 2) = (.func (.func 38) #[] #[.pointer (some ⟨b3, 0, none⟩)]) := up12 _ _ (at_same (((hz.put _ _).put _ _).put _ _) rfl _)
  clear up12
  refine V.ret ?_
  refine V.ret1 hz11 rfl (s2_13) ?_
  exact ⟨b3, rfl, by omega, hB5, hF_7⟩
set_option maxHeartbeats 4000000 in
set_option maxRecDepth 20000 in
theorem parse_any (w : World) (s : ByteArray) (hs : s.size ≤ 1048576) : Calls Try.prog 21 #[.string s] w (fun e w' => ∃ A c, e = .returned (.slice A (parse (ints s)).length c) ∧ SlR globR (fun b => w.heap.size ≤ b) w' (.slice A (parse (ints s)).length c) (parse (ints s)) ∧ Fr [] w w') := by
  have hF := Fr.refl [] w
  refine V.enterM 13 Try.func21 rfl rfl ?_
  intro a hz ha
  have s0 : a.eval (.tmp 0) = (.string s) := ha 0 _ rfl
  clear ha
  refine V.seq (fun K1 hK2 => ?_)
  refine V.region (by kernel_rfl) ?_
  refine V.go (V.asg (v := (.slice none 0 0)) evc ?_)
  refine V.nil ?_
  refine V.then_n (hK2 _ _ ?_)
  refine V.seq (fun K3 hK4 => ?_)
  refine V.region (by kernel_rfl) ?_
  refine V.go (V.mk [] trivial (by kernel_rfl) [.slice none 0 0] 36 (fun b => .pointer (some ⟨b, 0, none⟩)) (by kernel_rfl) ?_)
  intro w6 b5 heb5 hB7 hF8 hsb5
  have hF_9 := hF.new hF8
  refine V.nil ?_
  refine V.then_n (hK4 _ _ ?_)
  refine V.seq (fun K10 hK11 => ?_)
  refine V.seq (fun K12 hK13 => ?_)
  refine V.region (by kernel_rfl) ?_
  refine V.go (V.mv (v := (.string s)) (at_other rfl _ (at_other rfl _ (s0))) ?_)
  refine V.go (V.call 29 #[] #[.string s] evf (args1 (at_same ((hz.put _ _).put _ _) rfl _)) (Go.Proofs.enters_of Try.func29 (by kernel_rfl) rfl) (parts_any w6 s) ?_)
  rintro _ w18 ⟨b14, rfl, hle17, hB15, hF16⟩
  refine ⟨_, rfl, ?_⟩
  have hsw18 := hF16.size
  have hF_19 := hF_9.new hF16
  have hB7_20 := hB7.fr0 hF16
  have hltb14 := hB15.lt
  refine V.nil ?_
  refine V.then_n (hK13 _ _ ?_)
  refine V.flushW ((((hz.put _ _).put _ _).put _ _).put _ _) (fun a21 hz22 up23 => ?_)
  have s3_24 : a21.eval (.tmp 3) = (.pointer (some ⟨b5, 0, none⟩)) := up23 _ _ (at_other rfl _ (at_other rfl _ (at_same (hz.put _ _) rfl _)))
  have s6_25 : a21.eval (.tmp 6) = (.func (.func 38) #[] #[.pointer (some ⟨b14, 0, none⟩)]) := up23 _ _ (at_same (((hz.put _ _).put _ _).put _ _) rfl _)
  clear up23
  refine V.block ?_
  refine V.rng hz22 (s6_25) (Go.Proofs.enters_of Try.func38 (by kernel_rfl) rfl) (b := b14) (by omega) (parts_iter _ s hs b14 hB15) (fun _ => rfl) (fun (pre : List GX) W_ => ∃ (A : Option Addr), ∃ (c : Nat), Blk W_ b5 [.slice A ((pre.map (·.1)).length) c] 36 ∧ OwR globR (Zi (w18.heap.size + 2) W_.heap.size (.slice A (pre.map (·.1)).length c)) W_ (w18.heap.size + 2) 42 (.slice A (pre.map (·.1)).length c) (pre.map (·.1)) ∧ Fr [] w W_) (fun _ _ _ => False) ?_ ?_ ?_ ?_ ?_ ?_
  · rintro pre W W1 ⟨A, c, hB3, hO, hF⟩ hf
    have := hB3.lt
    have := hF.size
    exact ⟨A, c, (by exact hB3.fr1 hf (by omega)), (by exact (hO.frn hf (fun h => by have h1 := h.1; have h2 := h.2.1; omega) (by first | exact own_ne hO (by omega))).raise (m := W1.heap.size) hf.size), (by exact hF.own hf (by simp <;> omega))⟩
  · rintro _ _ _ _ h _
    exact h.elim
  · rintro W hf hszW
    have hF_26 := hF_19.new hf
    have hB7_27 := hB7_20.fr0 hf
    have hB15_28 := hB15.fr0 hf
    exact ⟨none, 0, hB7_27, (OwR.nil _ _ W _ _), hF_26⟩
  · rintro l pre x W0 W hl ⟨A, c, hB3, hO, hF⟩ hfr hx hsp hsz a1 hz1 htm
    subst hl
    obtain ⟨g, A1, c1⟩ := x; have hlm : (pre.map (·.1)).length = pre.length := (by simp); replace hx := hx.zone (Z' := fun b => W0.heap.size ≤ b ∧ b < W.heap.size) (fun b hb hz => ⟨hz, hb⟩); have hlp : pre.length + 1 ≤ s.size := by (obtain ⟨rest, hr⟩ := hsp; have h1 := congrArg List.length hr; have h2 := parse_length (ints s); simp at h1; have h3 := ints_length s; omega)
    have hszfr := hfr.size
    have hlt29 := hB3.lt
    have hfs30 := hF.size
    have hB3_31 := hB3.fr0 hfr
    have hO_32 := hO.fr0 hfr
    have hF_33 := hF.new hfr
    have hK := Kept.refl [w18.heap.size, w18.heap.size + 1, b14] W
    have htm1 : a1.tmps = a21.tmps.setIfInBounds 7 (.agg #[.int .i64 g.kind, .int .u8 g.c, .bool g.neg, .slice A1 g.rs.length c1]) := by simpa [encG] using htm
    have s7 : a1.eval (.tmp 7) = (.agg #[.int .i64 g.kind, .int .u8 g.c, .bool g.neg, .slice A1 g.rs.length c1]) := par_same hz22 rfl htm1
    have s3_34 : a1.eval (.tmp 3) = (.pointer (some ⟨b5, 0, none⟩)) := par_other htm1 rfl (s3_24)
    refine V.region (by kernel_rfl) ?_
    refine V.go (V.mk [] trivial (by kernel_rfl) [.int .i64 0, .int .u8 0, .bool false, .slice none 0 0] 42 (fun b => .pointer (some ⟨b, 0, none⟩)) (by kernel_rfl) ?_)
    intro w36 b35 heb35 hB37 hF38 hsb35
    have hB3_39 := hB3_31.fr0 hF38
    have hO_40 := hO_32.fr0 hF38
    have hF_41 := hF_33.new hF38
    have hx_42 := hx.fr0 hF38
    have hK_43 := hK.fr3 hF38 (by omega) (by omega) (by omega) (by simp) (by simp) (by simp)
    refine V.go (V.stn b35 0 (.agg #[.int .i64 g.kind, .int .u8 g.c, .bool g.neg, .slice A1 g.rs.length c1]) [.int .i64 g.kind, .int .u8 g.c, .bool g.neg, .slice A1 g.rs.length c1] (at_same hz1 rfl _) (at_other rfl _ (s7)) rfl rfl (by kernel_rfl) hB37 (by simp) [.int .i64 g.kind, .int .u8 g.c, .bool g.neg, .slice A1 g.rs.length c1] rfl ?_)
    intro w44 hB45 hF46 hsw44
    have hB3_47 := hB3_39.fr1 hF46 (by omega)
    have hO_48 := hO_40.frn hF46 (fun h => by have h1 := h.1; have h2 := h.2.1; omega) (by first | exact own_ne hO_40 (by omega) | exact own_ne2 hO (by omega))
    have hF_49 := hF_41.own hF46 (by simp <;> omega)
    have hx_50 := hx_42.fr hF46 (by simp <;> omega)
    have hK_51 := hK_43.fr3 hF46 (by omega) (by omega) (by omega) (by simp <;> omega) (by simp <;> omega) (by simp <;> omega)
    refine V.nil ?_
    refine ⟨hK_51, fun W2 hf2 => ?_⟩
    have hszf2 := hf2.size
    have hB3_52 := hB3_47.fr1 hf2 (by omega)
    have hO_53 := hO_48.frn hf2 (fun h => by have h1 := h.1; have h2 := h.2.1; omega) (by first | exact own_ne hO_48 (by omega) | exact own_ne2 hO (by omega))
    have hF_54 := hF_49.own hf2 (by simp <;> omega)
    have hx_55 := hx_50.fr hf2 (by simp <;> omega)
    have hB45_56 := hB45.fr1 hf2 (by omega)
    have hK2 := Kept.refl [w18.heap.size, w18.heap.size + 1, b14] W2
    refine V.block ?_
    refine V.region (by kernel_rfl) ?_
    refine V.go (V.ld ⟨b5, 0, none⟩ (.slice A ((pre.map (·.1)).length) c) (at_other rfl _ (s3_34)) (by kernel_rfl) (hB3_52.at 0 rfl) ?_)
    refine V.go (V.lds ⟨b35, 0, none⟩ [.int .i64 g.kind, .int .u8 g.c, .bool g.neg, .slice A1 g.rs.length c1] (at_other rfl _ (at_same hz1 rfl _)) (by kernel_rfl) (blk_cells hB45_56 0 _ rfl) ?_)
    refine V.go (V.mk [(9, .agg #[.int .i64 g.kind, .int .u8 g.c, .bool g.neg, .slice A1 g.rs.length c1])] ⟨(at_same ((hz1.put _ _).put _ _) rfl _), trivial⟩ (by kernel_rfl) [.int .i64 g.kind, .int .u8 g.c, .bool g.neg, .slice A1 g.rs.length c1] 42 (fun b => .slice (some ⟨b, 0, none⟩) 1 1) (by kernel_rfl) ?_)
    intro w58 b57 heb57 hB59 hF60 hsb57
    have hB3_61 := hB3_52.fr0 hF60
    have hO_62 := hO_53.fr0 hF60
    have hF_63 := hF_54.new hF60
    have hx_64 := hx_55.fr0 hF60
    have hB45_65 := hB45_56.fr0 hF60
    have hK2_66 := hK2.fr3 hF60 (by omega) (by omega) (by omega) (by simp) (by simp) (by simp)
    refine V.go (V.app (R := globR) (ys := ([g])) (news := [.int .i64 g.kind, .int .u8 g.c, .bool g.neg, .slice A1 g.rs.length c1]) (at_other rfl _ (at_other rfl _ (at_same (hz1.put _ _) rfl _))) ⟨b57, 0, none⟩ 1 1 (at_same (((hz1.put _ _).put _ _).put _ _) rfl _) (by kernel_rfl) (info42) (by kernel_rfl) (by decide) (hO_62.raise (m := w58.heap.size) (by omega)) rfl ⟨[.int .i64 g.kind, .int .u8 g.c, .bool g.neg, .slice A1 g.rs.length c1], [], rfl, ⟨_, rfl, (hx_64.zone (Z' := fun b => W0.heap.size ≤ b) (fun b _ h => h.1)).zi hO (Nat.le_refl _) (by omega)⟩, rfl⟩ (blk_cells hB59 0 _ rfl) (by omega) (by decide) (by omega) ?_)
    intro A67 c68 w69 hO70z hF71 hatw69
    have hsw69 := hF71.size
    have hB3_72 := hB3_61.fr hF71 (by first | exact own_notin hO_62 (by omega) | exact own_notin2 hO (by omega))
    have hF_73 := hF_63.own hF71 (own_ge hO_62 (by omega))
    have hB45_74 := hB45_65.fr hF71 (by first | exact own_notin hO_62 (by omega) | exact own_notin2 hO (by omega))
    have hK2_75 := hK2_66.fr3 hF71 (by omega) (by omega) (by omega) (own_notin hO_62 (by omega)) (own_notin hO_62 (by omega)) (own_notin hO_62 (by omega))
    have hO70 := hO70z.zi hatw69
    refine V.go (V.stn b5 0 (.slice A67 (((pre.map (·.1)).length) + 1) c68) [.slice A67 (((pre.map (·.1)).length) + 1) c68] (at_other rfl _ (at_other rfl _ (at_other rfl _ (at_other rfl _ (at_other rfl _ (s3_34)))))) (at_same ((((hz1.put _ _).put _ _).put _ _).put _ _) rfl _) rfl rfl (by kernel_rfl) hB3_72 (by simp) [.slice A67 (((pre.map (·.1)).length) + 1) c68] rfl ?_)
    intro w76 hB77 hF78 hsw76
    have hF_79 := hF_73.own hF78 (by simp <;> omega)
    have hB45_80 := hB45_74.fr1 hF78 (by omega)
    have hK2_81 := hK2_75.fr3 hF78 (by omega) (by omega) (by omega) (by simp <;> omega) (by simp <;> omega) (by simp <;> omega)
    have hO70_82 := hO70.frn hF78 (fun h => by have h1 := h.1; have h2 := h.2.1; omega) (by first | exact own_ne hO70 (by omega) | exact own_ne2 hO70 (by omega))
    refine V.nil ?_
    refine V.blk_n ?_
    exact ⟨hK2_81, A67, c68, (by simpa using hB77), (by simpa using hO70_82.raise (m := w76.heap.size) (by omega)), hF_79⟩
  · rintro xs W hS ⟨A, c, hB3, hO, hF⟩ hD a2 hz2 htm2
    obtain ⟨pre, hprexs⟩ : ∃ pre, pre = xs := ⟨_, rfl⟩; subst hprexs
    have hlt83 := hB3.lt
    have hfs84 := hF.size
    have hDf : Df W (w18.heap.size) := hD
    have hDlt := (Array.getElem?_eq_some_iff.1 hD).1
    have s3_85 : a2.eval (.tmp 3) = (.pointer (some ⟨b5, 0, none⟩)) := par_tm htm2 (s3_24)
    refine V.blk_n ?_
    refine V.then_n (hK11 _ _ ?_)
    refine V.seq (fun K86 hK87 => ?_)
    refine V.region (by kernel_rfl) ?_
    refine V.go (V.ld ⟨b5, 0, none⟩ (.slice A ((pre.map (·.1)).length) c) (s3_85) (by kernel_rfl) (hB3.at 0 rfl) ?_)
    refine V.go (V.asg (v := (.slice A ((pre.map (·.1)).length) c)) (at_same hz2 rfl _) ?_)
    refine V.nil ?_
    refine V.then_n (hK87 _ _ ?_)
    refine V.ret ?_
    refine V.retM ((hz2.put _ _).put _ _) hDf (fun w88 hF89 => ?_)
    have hsw88 := hF89.size
    have hB3_90 := hB3.fr1 hF89 (by omega)
    have hO_91 := hO.frn hF89 (fun h => by have h1 := h.1; have h2 := h.2.1; omega) (by first | exact own_ne hO (by omega) | exact own_ne2 hO (by omega))
    have hF_92 := hF.own hF89 (by simp <;> omega)
    refine ⟨_, V.res1 rfl (at_same (hz2.put _ _) rfl _), ?_⟩
    have hl : (pre.map (·.1)).length = (parse (ints s)).length := by rw [← hS]
    refine ⟨A, c, by rw [← hl], ?_, hF_92⟩
    have h1 := hO_91.readi
    rw [hl, show pre.map (·.1) = parse (ints s) from hS] at h1
    exact h1.zone (fun b _ (hb : w18.heap.size + 2 ≤ b) => (by omega : w.heap.size ≤ b))
  · rintro _ _ _ _ h
    exact h.elim
end Go.Proofs.Ytmlohijidjbbjaa
