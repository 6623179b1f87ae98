/- Walks: Head. -/
import Derived.Test.YtmlohijidjbbjaaProg
import Derived.Test.YtmlohijidjbbjaaWf
import Derived.Test.YtmlohijidjbbjaaStr
namespace Go.Proofs.Ytmlohijidjbbjaa
open Go.V Go.Base
attribute [local irreducible] Act.put Act.eval
set_option linter.unusedVariables false
set_option linter.unusedSimpArgs false
theorem info5 : (Try.prog.info? 5).map (fun i => (i.zero, i.size, i.bytes)) = some (some (.int .u8 0), 1, 1) := by kernel_rfl
/-- A part's byte; the bytes with which all that matches begins. -/
def gcI (x : GX) : Int := x.1.c
def headI (l : List Glob) : List Int := (l.takeWhile fun g => decide (g.kind = 3)).map (·.c)
def headS (p : ByteArray) : ByteArray := strI (headI (parse (ints p)))
theorem all3 {l : List GX} {y : GX} (h : ∀ x ∈ l, x.1.kind = 3) (hy : y.1.kind = 3) : ∀ x ∈ l ++ [y], x.1.kind = 3 := by
  intro x hx
  rcases List.mem_append.1 hx with hx | hx
  · exact h x hx
  · simp at hx; subst hx; exact hy
theorem headI_all : ∀ {l : List Glob}, (∀ x ∈ l, x.kind = 3) → headI l = l.map (·.c)
  | [], _ => rfl
  | x :: l, h => by
    have hx := h x (List.mem_cons_self ..)
    have ih := headI_all (fun z hz => h z (List.mem_cons_of_mem _ hz))
    unfold headI at ih ⊢
    rw [List.takeWhile_cons_of_pos (by simpa using hx), List.map_cons, List.map_cons, ih]
theorem headI_stop : ∀ {l r : List Glob} {y : Glob}, (∀ x ∈ l, x.kind = 3) → y.kind ≠ 3 → headI (l ++ y :: r) = l.map (·.c)
  | [], r, y, _, hy => by unfold headI; rw [List.nil_append, List.takeWhile_cons_of_neg (by simpa using hy)]
  | x :: l, r, y, h, hy => by
    have hx := h x (List.mem_cons_self ..)
    have ih := headI_stop (r := r) (fun z hz => h z (List.mem_cons_of_mem _ hz)) hy
    unfold headI at ih ⊢
    rw [List.cons_append, List.takeWhile_cons_of_pos (by simpa using hx), List.map_cons, List.map_cons, ih]
theorem gcI_map (l : List GX) : l.map gcI = (l.map (·.1)).map (·.c) := by rw [List.map_map]; rfl
theorem head_all {p : ByteArray} {pre : List GX} (hS : SG p pre) (h : ∀ x ∈ pre, x.1.kind = 3) : strI (pre.map gcI) = headS p := by
  unfold headS
  rw [← (show pre.map (·.1) = parse (ints p) from hS), headI_all (fun x hx => by obtain ⟨y, hy, rfl⟩ := List.mem_map.1 hx; exact h y hy), gcI_map]
theorem head_stop {p : ByteArray} {pre l : List GX} {y : GX} (hS : SpG p pre) (hpre : pre = l ++ [y]) (h : ∀ x ∈ l, x.1.kind = 3) (hy : ¬ y.1.kind = 3) : strI (l.map gcI) = headS p := by
  obtain ⟨rest, hr⟩ := hS
  subst hpre
  unfold headS
  rw [← hr, List.map_append, List.append_assoc, gcI_map]
  exact congrArg strI (headI_stop (fun x hx => by obtain ⟨z, hz, rfl⟩ := List.mem_map.1 hx; exact h z hz) hy).symm
set_option maxHeartbeats 4000000 in
set_option maxRecDepth 20000 in
theorem head_any (w : World) (p : ByteArray) (hp : p.size ≤ 1048576) : Calls Try.prog 17 #[.string p] w (fun e w' => e = .returned (.string (headS p)) ∧ Fr [] w w') := by
  have hF := Fr.refl [] w
  refine V.enterM 18 Try.func17 rfl rfl ?_
  intro a hz ha
  have s0 : a.eval (.tmp 0) = (.string p) := ha 0 _ rfl
  clear ha
  refine V.seq (fun K1 hK2 => ?_)
  refine V.region (by kernel_rfl) ?_
  refine V.go (V.asg (v := (.string ⟨#[]⟩)) evc ?_)
  refine V.nil ?_
  refine V.then_n (hK2 _ _ ?_)
  refine V.seq (fun K3 hK4 => ?_)
  refine V.region (by kernel_rfl) ?_
  refine V.go (V.mk [] trivial (by kernel_rfl) [.slice none 0 0] 49 (fun b => .pointer (some ⟨b, 0, none⟩)) (by kernel_rfl) ?_)
  intro w6 b5 heb5 hB7 hF8 hsb5
  have hF_9 := hF.new hF8
  refine V.nil ?_
  refine V.then_n (hK4 _ _ ?_)
  refine V.seq (fun K10 hK11 => ?_)
  refine V.seq (fun K12 hK13 => ?_)
  refine V.region (by kernel_rfl) ?_
  refine V.go (V.mv (v := (.string p)) (at_other rfl _ (at_other rfl _ (s0))) ?_)
  refine V.go (V.call 29 #[] #[.string p] evf (args1 (at_same ((hz.put _ _).put _ _) rfl _)) (Go.Proofs.enters_of Try.func29 (by kernel_rfl) rfl) (parts_any w6 p) ?_)
  rintro _ w18 ⟨b14, rfl, hle17, hB15, hF16⟩
  refine ⟨_, rfl, ?_⟩
  have hsw18 := hF16.size
  have hF_19 := hF_9.new hF16
  have hB7_20 := hB7.fr0 hF16
  have hltb14 := hB15.lt
  refine V.nil ?_
  refine V.then_n (hK13 _ _ ?_)
  refine V.flushW ((((hz.put _ _).put _ _).put _ _).put _ _) (fun a21 hz22 up23 => ?_)
  have s3_24 : a21.eval (.tmp 3) = (.pointer (some ⟨b5, 0, none⟩)) := up23 _ _ (at_other rfl _ (at_other rfl _ (at_same (hz.put _ _) rfl _)))
  have s6_25 : a21.eval (.tmp 6) = (.func (.func 38) #[] #[.pointer (some ⟨b14, 0, none⟩)]) := up23 _ _ (at_same (((hz.put _ _).put _ _).put _ _) rfl _)
  clear up23
  refine V.block ?_
  refine V.rng hz22 (s6_25) (Go.Proofs.enters_of Try.func38 (by kernel_rfl) rfl) (b := b14) (by omega) (parts_iter _ p hp b14 hB15) (fun _ => rfl) (fun (pre : List GX) W_ => ∃ (A : Option Addr), ∃ (cp : Nat), Blk W_ b5 [.slice A ((pre.map gcI).length) cp] 49 ∧ OwR (Rp.int .u8) NoZ W_ (w18.heap.size + 2) 5 (.slice A (pre.map gcI).length cp) (pre.map gcI) ∧ Fr [] w W_ ∧ (∀ x ∈ pre, x.1.kind = 3)) (fun c pre W_ => c = Code.exit 0 ∧ ∃ (l : List GX), ∃ (y : GX), ∃ (A : Option Addr), ∃ (cp : Nat), Blk W_ b5 [.slice A ((l.map gcI).length) cp] 49 ∧ OwR (Rp.int .u8) NoZ W_ (w18.heap.size + 2) 5 (.slice A (l.map gcI).length cp) (l.map gcI) ∧ Fr [] w W_ ∧ (pre = l ++ [y]) ∧ (¬ y.1.kind = 3) ∧ (∀ x ∈ l, x.1.kind = 3)) ?_ ?_ ?_ ?_ ?_ ?_
  · rintro pre W W1 ⟨A, cp, hB3, hO, hF, hall⟩ hf
    have := hB3.lt
    have := hF.size
    exact ⟨A, cp, (by exact hB3.fr1 hf (by omega)), (by exact hO.frn hf (fun h => h) (by first | exact own_ne hO (by omega))), (by exact hF.own hf (by simp <;> omega)), hall⟩
  · rintro c pre W W1 ⟨hc, l, y, A, cp, hB3, hO, hF, hpre, hy, hall⟩ hf
    have := hB3.lt
    have := hF.size
    exact ⟨hc, l, y, A, cp, (by exact hB3.fr1 hf (by omega)), (by exact hO.frn hf (fun h => h) (by first | exact own_ne hO (by omega))), (by exact hF.own hf (by simp <;> omega)), hpre, hy, hall⟩
  · rintro W hf hszW
    have hF_26 := hF_19.new hf
    have hB7_27 := hB7_20.fr0 hf
    have hB15_28 := hB15.fr0 hf
    exact ⟨none, 0, hB7_27, (OwR.nil _ _ W _ _), hF_26, (by simp)⟩
  · rintro l pre x W0 W hl ⟨A, cp, hB3, hO, hF, hall⟩ hfr hx hsp hsz a1 hz1 htm
    subst hl
    have hlm : (pre.map gcI).length = pre.length := (by simp)
    obtain ⟨g, A1, c1⟩ := x; replace hx := hx.zone (Z' := fun b => W0.heap.size ≤ b ∧ b < W.heap.size) (fun b hb hz => ⟨hz, hb⟩); have hlp : pre.length + 1 ≤ p.size := by (obtain ⟨rest, hr⟩ := hsp; have h1 := congrArg List.length hr; have h2 := parse_length (ints p); simp at h1; have h3 := ints_length p; omega)
    have hszfr := hfr.size
    have hlt29 := hB3.lt
    have hfs30 := hF.size
    have hB3_31 := hB3.fr0 hfr
    have hO_32 := hO.fr0 hfr
    have hF_33 := hF.new hfr
    have hK := Kept.refl [w18.heap.size, w18.heap.size + 1, b14] W
    have htm1 : a1.tmps = a21.tmps.setIfInBounds 7 (.agg #[.int .i64 g.kind, .int .u8 g.c, .bool g.neg, .slice A1 g.rs.length c1]) := by simpa [encG] using htm
    have s7 : a1.eval (.tmp 7) = (.agg #[.int .i64 g.kind, .int .u8 g.c, .bool g.neg, .slice A1 g.rs.length c1]) := par_same hz22 rfl htm1
    have s3_34 : a1.eval (.tmp 3) = (.pointer (some ⟨b5, 0, none⟩)) := par_other htm1 rfl (s3_24)
    refine V.region (by kernel_rfl) ?_
    refine V.go (V.mk [] trivial (by kernel_rfl) [.int .i64 0, .int .u8 0, .bool false, .slice none 0 0] 42 (fun b => .pointer (some ⟨b, 0, none⟩)) (by kernel_rfl) ?_)
    intro w36 b35 heb35 hB37 hF38 hsb35
    have hB3_39 := hB3_31.fr0 hF38
    have hO_40 := hO_32.fr0 hF38
    have hF_41 := hF_33.new hF38
    have hK_42 := hK.fr3 hF38 (by omega) (by omega) (by omega) (by simp) (by simp) (by simp)
    refine V.go (V.stn b35 0 (.agg #[.int .i64 g.kind, .int .u8 g.c, .bool g.neg, .slice A1 g.rs.length c1]) [.int .i64 g.kind, .int .u8 g.c, .bool g.neg, .slice A1 g.rs.length c1] (at_same hz1 rfl _) (at_other rfl _ (s7)) rfl rfl (by kernel_rfl) hB37 (by simp) [.int .i64 g.kind, .int .u8 g.c, .bool g.neg, .slice A1 g.rs.length c1] rfl ?_)
    intro w43 hB44 hF45 hsw43
    have hB3_46 := hB3_39.fr1 hF45 (by omega)
    have hO_47 := hO_40.frn hF45 (fun h => h) (by first | exact own_ne hO_40 (by omega) | exact own_ne2 hO (by omega))
    have hF_48 := hF_41.own hF45 (by simp <;> omega)
    have hK_49 := hK_42.fr3 hF45 (by omega) (by omega) (by omega) (by simp <;> omega) (by simp <;> omega) (by simp <;> omega)
    refine V.nil ?_
    refine ⟨hK_49, fun W2 hf2 => ?_⟩
    have hszf2 := hf2.size
    have hB3_50 := hB3_46.fr1 hf2 (by omega)
    have hO_51 := hO_47.frn hf2 (fun h => h) (by first | exact own_ne hO_47 (by omega) | exact own_ne2 hO (by omega))
    have hF_52 := hF_48.own hf2 (by simp <;> omega)
    have hB44_53 := hB44.fr1 hf2 (by omega)
    have hK2 := Kept.refl [w18.heap.size, w18.heap.size + 1, b14] W2
    refine V.block ?_
    refine V.seq (fun K54 hK55 => ?_)
    refine V.seq (fun K56 hK57 => ?_)
    refine V.region (by kernel_rfl) ?_
    refine V.go (V.pv [(4, .pointer (some ⟨b35, 0, none⟩))] ⟨(at_same hz1 rfl _), trivial⟩ (by kernel_rfl) (.pointer (some ⟨b35, 0, none⟩)) (by kernel_rfl) ?_)
    refine V.go (V.ld ⟨b35, 0, none⟩ (.int .i64 g.kind) (at_same (hz1.put _ _) rfl _) (by kernel_rfl) (hB44_53.at 0 rfl) ?_)
    refine V.go (V.pvw [(9, .int .i64 g.kind)] ⟨(at_same ((hz1.put _ _).put _ _) rfl _), trivial⟩ (by kernel_rfl) (.bool (g.kind != 3)) (.bool (decide (¬ g.kind = 3))) (by kernel_rfl) V.t_neq ?_)
    refine V.nil ?_
    refine V.then_n (hK57 _ _ ?_)
    refine V.flushW ((((hz1.put _ _).put _ _).put _ _).put _ _) (fun a58 hz59 up60 => ?_)
    have s3_61 : a58.eval (.tmp 3) = (.pointer (some ⟨b5, 0, none⟩)) := up60 _ _ (at_other rfl _ (at_other rfl _ (at_other rfl _ (at_other rfl _ (s3_34)))))
    have s4_62 : a58.eval (.tmp 4) = (.pointer (some ⟨b35, 0, none⟩)) := up60 _ _ (at_other rfl _ (at_other rfl _ (at_other rfl _ (at_same hz1 rfl _))))
    have s10_63 : a58.eval (.tmp 10) = (.bool (decide (¬ g.kind = 3))) := up60 _ _ (at_same (((hz1.put _ _).put _ _).put _ _) rfl _)
    clear up60
    refine V.condP (p := ¬ g.kind = 3) (s10_63) (fun ht64 => ?_) (fun ht64 => ?_)
    ·
      refine V.exit ?_
      refine V.then_e ?_
      refine V.blk_miss rfl ?_
      exact ⟨hK2, rfl, pre, (g, A1, c1), A, cp, hB3_50, hO_51, hF_52, rfl, (show ¬ g.kind = 3 by omega), hall⟩
    ·
      refine V.skip ?_
      refine V.then_n (hK55 _ _ ?_)
      refine V.region (by kernel_rfl) ?_
      refine V.go (V.ld ⟨b5, 0, none⟩ (.slice A ((pre.map gcI).length) cp) (s3_61) (by kernel_rfl) (hB3_50.at 0 rfl) ?_)
      refine V.go (V.pv [(4, .pointer (some ⟨b35, 0, none⟩))] ⟨(at_other rfl _ (s4_62)), trivial⟩ (by kernel_rfl) (.pointer (some ⟨b35, 1, none⟩)) (by kernel_rfl) ?_)
      refine V.go (V.ld ⟨b35, 1, none⟩ (.int .u8 g.c) (at_same (hz59.put _ _) rfl _) (by kernel_rfl) (hB44_53.at 1 rfl) ?_)
      refine V.go (V.mk [(13, .int .u8 g.c)] ⟨(at_same ((hz59.put _ _).put _ _) rfl _), trivial⟩ (by kernel_rfl) [.int .u8 g.c] 5 (fun b => .slice (some ⟨b, 0, none⟩) 1 1) (by kernel_rfl) ?_)
      intro w66 b65 heb65 hB67 hF68 hsb65
      have hB3_69 := hB3_50.fr0 hF68
      have hO_70 := hO_51.fr0 hF68
      have hF_71 := hF_52.new hF68
      have hB44_72 := hB44_53.fr0 hF68
      have hK2_73 := hK2.fr3 hF68 (by omega) (by omega) (by omega) (by simp) (by simp) (by simp)
      refine V.go (V.app (R := (Rp.int .u8)) (ys := ([g.c])) (news := [.int .u8 g.c]) (at_other rfl _ (at_other rfl _ (at_other rfl _ (at_same hz59 rfl _)))) ⟨b65, 0, none⟩ 1 1 (at_same (((hz59.put _ _).put _ _).put _ _) rfl _) (by kernel_rfl) (info5) (by kernel_rfl) (by decide) hO_70 rfl ⟨[.int .u8 g.c], [], rfl, rfl, rfl⟩ (blk_cells hB67 0 _ rfl) (by omega) (by decide) (by omega) ?_)
      intro A74 c75 w76 hO77z hF78 hatw76
      have hsw76 := hF78.size
      have hB3_79 := hB3_69.fr hF78 (by first | exact own_notin hO_70 (by omega) | exact own_notin2 hO (by omega))
      have hF_80 := hF_71.own hF78 (own_ge hO_70 (by omega))
      have hB44_81 := hB44_72.fr hF78 (by first | exact own_notin hO_70 (by omega) | exact own_notin2 hO (by omega))
      have hK2_82 := hK2_73.fr3 hF78 (by omega) (by omega) (by omega) (own_notin hO_70 (by omega)) (own_notin hO_70 (by omega)) (own_notin hO_70 (by omega))
      have hO77 := hO77z.zone (Z' := NoZ) (fun _ _ q => q.1) (fun _ _ q => q)
      refine V.go (V.stn b5 0 (.slice A74 (((pre.map gcI).length) + 1) c75) [.slice A74 (((pre.map gcI).length) + 1) c75] (at_other rfl _ (at_other rfl _ (at_other rfl _ (at_other rfl _ (at_other rfl _ (s3_61)))))) (at_same ((((hz59.put _ _).put _ _).put _ _).put _ _) rfl _) rfl rfl (by kernel_rfl) hB3_79 (by simp) [.slice A74 (((pre.map gcI).length) + 1) c75] rfl ?_)
      intro w83 hB84 hF85 hsw83
      have hF_86 := hF_80.own hF85 (by simp <;> omega)
      have hB44_87 := hB44_81.fr1 hF85 (by omega)
      have hK2_88 := hK2_82.fr3 hF85 (by omega) (by omega) (by omega) (by simp <;> omega) (by simp <;> omega) (by simp <;> omega)
      have hO77_89 := hO77.frn hF85 (fun h => h) (by first | exact own_ne hO77 (by omega) | exact own_ne2 hO77 (by omega))
      refine V.nil ?_
      refine V.blk_n ?_
      exact ⟨hK2_88, A74, c75, (by simpa [gcI] using hB84), (by simpa [gcI] using hO77_89), hF_86, (all3 hall (show g.kind = 3 by omega))⟩
  · rintro xs W hS ⟨A, cp, hB3, hO, hF, hall⟩ hD a2 hz2 htm2
    obtain ⟨pre, hprexs⟩ : ∃ pre, pre = xs := ⟨_, rfl⟩; subst hprexs
    have hlt90 := hB3.lt
    have hfs91 := hF.size
    have hDf : Df W (w18.heap.size) := hD
    have hDlt := (Array.getElem?_eq_some_iff.1 hD).1
    have s3_92 : a2.eval (.tmp 3) = (.pointer (some ⟨b5, 0, none⟩)) := par_tm htm2 (s3_24)
    refine V.blk_n ?_
    refine V.then_n (hK11 _ _ ?_)
    refine V.seq (fun K93 hK94 => ?_)
    refine V.region (by kernel_rfl) ?_
    refine V.go (V.ld ⟨b5, 0, none⟩ (.slice A ((pre.map gcI).length) cp) (s3_92) (by kernel_rfl) (hB3.at 0 rfl) ?_)
    refine V.go (V.b2s (e := 5) (xs := pre.map gcI) (hO.read (Z' := fun _ => True) (fun _ _ _ => trivial) (fun _ _ _ => trivial)) (by kernel_rfl) (by kernel_rfl) (by kernel_rfl) (at_same hz2 rfl _) ?_)
    refine V.go (V.asg (v := (.string (strI (pre.map gcI)))) (at_same (hz2.put _ _) rfl _) ?_)
    refine V.nil ?_
    refine V.then_n (hK94 _ _ ?_)
    refine V.ret ?_
    refine V.retM (((hz2.put _ _).put _ _).put _ _) hDf (fun w95 hF96 => ?_)
    have hsw95 := hF96.size
    have hB3_97 := hB3.fr1 hF96 (by omega)
    have hO_98 := hO.frn hF96 (fun h => h) (by first | exact own_ne hO (by omega) | exact own_ne2 hO (by omega))
    have hF_99 := hF.own hF96 (by simp <;> omega)
    refine ⟨_, V.res1 rfl (at_same ((hz2.put _ _).put _ _) rfl _), ?_⟩
    exact ⟨by rw [head_all hS hall], hF_99⟩
  · rintro c pre W hSp ⟨hc, l, y, A, cp, hB3, hO, hF, hpre, hy, hall⟩ hD a2 hz2 htm2
    subst hc
    have hlt100 := hB3.lt
    have hfs101 := hF.size
    have hDf : Df W (w18.heap.size) := hD
    have hDlt := (Array.getElem?_eq_some_iff.1 hD).1
    have s3_102 : a2.eval (.tmp 3) = (.pointer (some ⟨b5, 0, none⟩)) := par_tm htm2 (s3_24)
    refine V.exit ?_
    refine V.blk_hit ?_
    refine V.then_n (hK11 _ _ ?_)
    refine V.seq (fun K103 hK104 => ?_)
    refine V.region (by kernel_rfl) ?_
    refine V.go (V.ld ⟨b5, 0, none⟩ (.slice A ((l.map gcI).length) cp) (s3_102) (by kernel_rfl) (hB3.at 0 rfl) ?_)
    refine V.go (V.b2s (e := 5) (xs := l.map gcI) (hO.read (Z' := fun _ => True) (fun _ _ _ => trivial) (fun _ _ _ => trivial)) (by kernel_rfl) (by kernel_rfl) (by kernel_rfl) (at_same hz2 rfl _) ?_)
    refine V.go (V.asg (v := (.string (strI (l.map gcI)))) (at_same (hz2.put _ _) rfl _) ?_)
    refine V.nil ?_
    refine V.then_n (hK104 _ _ ?_)
    refine V.ret ?_
    refine V.retM (((hz2.put _ _).put _ _).put _ _) hDf (fun w105 hF106 => ?_)
    have hsw105 := hF106.size
    have hB3_107 := hB3.fr1 hF106 (by omega)
    have hO_108 := hO.frn hF106 (fun h => h) (by first | exact own_ne hO (by omega) | exact own_ne2 hO (by omega))
    have hF_109 := hF.own hF106 (by simp <;> omega)
    refine ⟨_, V.res1 rfl (at_same ((hz2.put _ _).put _ _) rfl _), ?_⟩
    exact ⟨by rw [head_stop hSp hpre hall hy], hF_109⟩
end Go.Proofs.Ytmlohijidjbbjaa
