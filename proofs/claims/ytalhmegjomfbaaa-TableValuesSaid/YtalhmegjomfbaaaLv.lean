/- Walks: TableValues. -/
import Derived.Test.YtalhmegjomfbaaaProg
import Derived.Test.YtalhmegjomfbaaaLo
import Derived.Test.YtalhmegjomfbaaaTabV
namespace Go.Proofs.Ytalhmegjomfbaaa
open Go.V Go.Base
open Go.RowKit (Below)
attribute [local irreducible] Act.put Act.eval
set_option linter.unusedVariables false
set_option linter.unusedSimpArgs false
theorem look_new (seed : Nat) (s : ByteArray) : lookT 0 (newT seed : Tb Int) s = (0, false) := by
  rw [look_vt]
  have : vt (newT seed : Tb Int) s = [] := by unfold vt newT; rw [va_nil, va_nil0]; rfl
  rw [this]
theorem look_act {T : Tb Int} {N : Nat} (hg : Gd T N) (hw : T.Wf) (o : OpD) : (actT T o).Wf ∧ ∀ s, lookT 0 (actT T o) s = if keyS o.key = s ∧ o.kind = 1 then (o.v, true) else if keyS o.key = s ∧ o.kind = 3 then (0, false) else lookT 0 T s := by
  unfold actT
  by_cases h1 : o.kind = 1
  · rw [if_pos h1]
    obtain ⟨q1, q2⟩ := putT_vt hw hg.ok hg.mv (keyS o.key) o.v
    refine ⟨q1, fun s => ?_⟩
    rw [look_vt, q2 s]
    by_cases hs : s = keyS o.key
    · rw [if_pos hs, if_pos ⟨hs.symm, h1⟩]
    · rw [if_neg hs, if_neg fun h => hs h.1.symm, if_neg fun h => hs h.1.symm, look_vt 0 T s]
  · rw [if_neg h1]
    have n1 : ∀ s, ¬ (keyS o.key = s ∧ o.kind = 1) := fun s h => h1 h.2
    have step : (tbStep T).Wf ∧ ∀ s, lookT 0 (tbStep T) s = lookT 0 T s := by
      obtain ⟨q1, q2⟩ := tbStep_vt hw hg.ok hg.mv
      exact ⟨q1, fun s => by rw [look_vt, q2 s, ← look_vt]⟩
    by_cases h2 : o.kind = 2
    · rw [if_pos h2]
      refine ⟨step.1, fun s => ?_⟩
      rw [step.2, if_neg (n1 s), if_neg fun h => by omega]
    · rw [if_neg h2]
      by_cases h3 : o.kind = 3
      · rw [if_pos h3]
        obtain ⟨q1, q2⟩ := delT_vt hw hg.ok hg.mv (keyS o.key)
        refine ⟨q1, fun s => ?_⟩
        rw [look_vt, q2 s, if_neg (n1 s)]
        by_cases hs : s = keyS o.key
        · rw [if_pos hs, if_pos ⟨hs.symm, h3⟩]
        · rw [if_neg hs, if_neg fun h => hs h.1.symm, look_vt 0 T s]
      · rw [if_neg h3]
        have n3 : ∀ s, ¬ (keyS o.key = s ∧ o.kind = 3) := fun s h => h3 h.2
        by_cases h5 : o.kind = 5
        · rw [if_pos h5]
          exact ⟨step.1, fun s => by rw [step.2, if_neg (n1 s), if_neg (n3 s)]⟩
        · rw [if_neg h5]
          exact ⟨hw, fun s => by rw [if_neg (n1 s), if_neg (n3 s)]⟩
set_option maxHeartbeats 4000000 in
set_option maxRecDepth 20000 in
theorem tableValues_any (w : World) (seed : Nat) (hsd : seed < 18446744073709551616) (A0 : Option Addr) (c0 : Nat) (l : List OpD) (hS : SlR opR (fun k => k < w.heap.size) w (.slice A0 l.length c0) l) (s : ByteArray) : Calls Try.prog 5 #[.int .u64 (seed : Int), .slice A0 l.length c0, .string s] w (fun e w' => e = .returned (.bool true) ∧ Fr [] w w') := by
 have hF := Fr.refl [] w
 refine V.enter 76 Try.func5 rfl rfl ?_
 intro a hz ha
 have s0 : a.eval (.tmp 0) = (.int .u64 (seed : Int)) := ha 0 _ rfl
 have s1 : a.eval (.tmp 1) = (.slice A0 l.length c0) := ha 1 _ rfl
 have s2 : a.eval (.tmp 2) = (.string s) := ha 2 _ rfl
 clear ha
 refine V.seq (fun K1 hK2 => ?_)
 refine V.rg ?_
 refine V.ga evc ?_
 refine V.nil ?_
 refine V.then_n (hK2 _ _ ?_)
 refine V.seq (fun K3 hK4 => ?_)
 refine V.rg ?_
 refine V.gm (o1 rfl s0) ?_
 refine V.go (V.call 14 #[] #[.int .u64 (seed : Int)] evf (args1 (sm hz.p1 rfl)) (Go.Proofs.enters_of Try.func14 (by kernel_rfl) rfl) (new_any w [] (by simp) seed hsd) ?_)
 rintro _ w9 ⟨t5, rfl, hT6, hF7⟩
 refine ⟨_, rfl, ?_⟩
 have hsw9 := hF7.size
 have hF_10 := hF.new hF7
 have hS_11 := hS.fr0 hF7
 have hD8 := D1.new (w0 := w) hT6 (by omega)
 refine V.ga (v := (.pointer (some ⟨t5, 0, none⟩))) (sm hz.p2 rfl) ?_
 refine V.nil ?_
 refine V.then_n (hK4 _ _ ?_)
 refine V.flushW hz.p4 (fun a12 hz13 up14 => ?_)
 have s0_15 := up14 0 _ (o4 rfl s0)
 have s1_16 := up14 1 _ (o4 rfl s1)
 have s2_17 := up14 2 _ (o4 rfl s2)
 have s7_18 : a12.eval (.tmp 7) = (.pointer (some ⟨t5, 0, none⟩)) := up14 _ _ (sm hz.p2.p1 rfl)
 clear up14
 refine V.seq (fun K19 hK20 => ?_)
 refine V.seq (fun K21 hK22 => ?_)
 refine V.rg ?_
 refine V.gm (v := (.pointer (some ⟨t5, 0, none⟩))) (s7_18) ?_
 refine V.ge_ [(16, .pointer (some ⟨t5, 0, none⟩))] ⟨(sm hz13 rfl), trivial⟩ (.bool false) ?_
 refine V.nil ?_
 refine V.then_n (hK22 _ _ ?_)
 refine V.cond_f (sm hz13.p1 rfl) ?_
 refine V.skip ?_
 refine V.then_n (hK20 _ _ ?_)
 refine V.seq (fun K23 hK24 => ?_)
 refine V.rg ?_
 refine V.gm (o2 rfl s2_17) ?_
 refine V.go (V.call 10 #[] #[.string s] evf (args1 (sm hz13.p2 rfl)) (Go.Proofs.enters_of Try.func10 (by kernel_rfl) rfl) (key_any w9 s) ?_)
 rintro _ w26 ⟨rfl, hF25⟩
 refine ⟨_, rfl, ?_⟩
 have hsw26 := hF25.size
 have hF_27 := hF_10.new hF25
 have hS_28 := hS_11.fr0 hF25
 have hD8_29 := hD8.fr0 hF25
 have hkey25 := keyS_le s
 refine V.ga (v := (.string (keyS s))) (sm hz13.p2.p1 rfl) ?_
 refine V.nil ?_
 refine V.then_n (hK24 _ _ ?_)
 refine V.flushW hz13.p4.p1 (fun a30 hz31 up32 => ?_)
 have s0_33 := up32 0 _ (o4 rfl (o1 rfl s0_15))
 have s1_34 := up32 1 _ (o4 rfl (o1 rfl s1_16))
 have s2_35 : a30.eval (.tmp 2) = (.string (keyS s)) := up32 _ _ (sm hz13.p4 rfl)
 have s7_36 : a30.eval (.tmp 7) = (.pointer (some ⟨t5, 0, none⟩)) := up32 _ _ (o4 rfl (o1 rfl s7_18))
 clear up32
 refine V.seq (fun K37 hK38 => ?_)
 refine V.rg ?_
 refine V.ga evc ?_
 refine V.ga evc ?_
 refine V.nil ?_
 refine V.then_n (hK38 _ _ ?_)
 refine V.seq (fun K39 hK40 => ?_)
 refine V.seq (fun K41 hK42 => ?_)
 refine V.rg ?_
 refine V.ga evc ?_
 refine V.nil ?_
 refine V.then_n (hK42 _ _ ?_)
 refine V.block ?_
 refine V.loop2 (fun (i : Nat) (T : Tb Int) a_ w_ => Sz 76 a_ ∧ a_.eval (.tmp 0) = (.int .u64 (seed : Int)) ∧ a_.eval (.tmp 1) = (.slice A0 l.length c0) ∧ a_.eval (.tmp 2) = (.string (keyS s)) ∧ a_.eval (.tmp 7) = (.pointer (some ⟨t5, 0, none⟩)) ∧ a_.eval (.tmp 8) = (.int .i64 ((lookT 0 T (keyS s)).1)) ∧ a_.eval (.tmp 9) = (.bool ((lookT 0 T (keyS s)).2)) ∧ a_.eval (.tmp 10) = (.int .i64 (i : Int)) ∧ D1 w w_ ([]) t5 T ∧ Fr [] w w_ ∧ SlR opR (fun k => k < w.heap.size) w_ (.slice A0 l.length c0) l ∧ (i ≤ l.length ∧ i ≤ 200) ∧ (Gd T i) ∧ (T.Wf)) (fun (i : Nat) (T : Tb Int) => l.length - i) 0 (newT seed) ?_ ?_
 ·
  refine ⟨hz31.p2.p1, ?_, ?_, ?_, ?_, ?_, ?_, ?_, hD8_29, hF_27, hS_28, (by omega), (Gd.new hsd), (newT_wf seed)⟩
  · exact Eq.trans (o2 rfl (o1 rfl s0_33)) (V.int_eq (by omega))
  · exact (o2 rfl (o1 rfl s1_34))
  · exact (o2 rfl (o1 rfl s2_35))
  · exact (o2 rfl (o1 rfl s7_36))
  · exact Eq.trans (o2 rfl (sm hz31 rfl)) (V.int_eq (by rw [look_new]))
  · exact Eq.trans (o1 rfl (sm hz31.p1 rfl)) (congrArg Value.bool (by rw [look_new]))
  · exact Eq.trans (sm hz31.p2 rfl) (V.int_eq (by omega))
 ·
  rintro i T a43 w44 ⟨hz45, s0_46, s1_47, s2_48, s7_49, s8_50, s9_51, s10_52, hD_53, hF_54, hS_55, hi, hgT, hwf⟩
  have hfs56 := hF_54.size
  have hlen0 := hS.len_le
  refine V.seq (fun K57 hK58 => ?_)
  refine V.seq (fun K59 hK60 => ?_)
  refine V.rg ?_
  refine V.gm (s10_52) ?_
  refine V.gm (o1 rfl s1_47) ?_
  refine V.ge_ [(21, .slice A0 l.length c0)] ⟨(sm hz45.p1 rfl), trivial⟩ (.int .i64 ((l.length : Nat) : Int)) ?_
  refine V.ge_ [(20, .int .i64 (i : Int)), (22, .int .i64 ((l.length : Nat) : Int))] ⟨(o2 rfl (sm hz45 rfl)), (sm hz45.p2 rfl), trivial⟩ (.bool (decide ((i : Int) < ((l.length : Nat) : Int)))) ?_
  refine V.gm (sm hz45.p2.p1 rfl) ?_
  by_cases hg61 : (i : Int) < ((l.length : Nat) : Int)
  ·
   refine V.flushL hz45.p4.p1 (fun a62 hz63 up64 => ?_)
   have s0_65 := up64 0 _ (o4 rfl (o1 rfl s0_46))
   have s1_66 := up64 1 _ (o4 rfl (o1 rfl s1_47))
   have s2_67 : a62.eval (.tmp 2) = (.string (keyS s)) := up64 _ _ (o4 rfl (o1 rfl s2_48))
   have s7_68 : a62.eval (.tmp 7) = (.pointer (some ⟨t5, 0, none⟩)) := up64 _ _ (o4 rfl (o1 rfl s7_49))
   have s8_69 := up64 8 _ (o4 rfl (o1 rfl s8_50))
   have s9_70 := up64 9 _ (o4 rfl (o1 rfl s9_51))
   have s10_71 := up64 10 _ (o4 rfl (o1 rfl s10_52))
   have s24_72 := up64 24 _ (sm hz45.p4 rfl)
   clear up64
   have s24_73 := ((s24_72).trans (dt hg61))
   refine V.go_on 24 (by kernel_rfl) (s24_73) (V.mv (s10_71) ?_)
   refine V.go_on 24 (by kernel_rfl) (o1 rfl s24_73) (V.pv [(25, .int .i64 (i : Int))] ⟨(sm hz63 rfl), trivial⟩ (by kernel_rfl) (.bool (decide ((i : Int) < 200))) (by kernel_rfl) ?_)
   refine V.go (V.pk_t (o2 rfl s24_73) (v := (.bool (decide ((i : Int) < 200)))) (sm hz63.p1 rfl) ?_)
   refine V.nil ?_
   refine V.then_n (hK60 _ _ ?_)
   refine V.condP (p := (i : Int) < 200) (sm hz63.p2 rfl) (fun ht74 => ?_) (fun ht74 => ?_)
   ·
    refine V.skip ?_
    refine V.then_n (hK58 _ _ ?_)
    refine V.seq (fun K75 hK76 => ?_)
    refine V.block ?_
    refine V.seq (fun K77 hK78 => ?_)
    refine V.rg ?_
    refine V.gm (o2 rfl (o1 rfl s1_66)) ?_
    refine V.gm (o4 rfl s10_71) ?_
    obtain ⟨g79, o80, hA81, hA81l, hA81z⟩ := hS_55.addr (by omega)
    refine V.go (V.ixa g79 o80 l.length c0 .i64 (i : Int) 4 ((o1 rfl (sm hz63.p2.p1 rfl)).trans (by rw [hA81])) (sm hz63.p4 rfl) (by omega) (by omega) (by kernel_rfl) ?_)
    obtain ⟨cs82, hok83, hE84⟩ := hS_55.els hA81 (i : Int) (by omega) (by omega)
    obtain ⟨rfl, hoo85⟩ := hok83
    refine V.go (V.lds ⟨g79, o80 + (i : Int).toNat * 4, none⟩ [.int .i64 ((at_ opR l (i : Int)).kind), .string ((at_ opR l (i : Int)).key), .int .i64 ((at_ opR l (i : Int)).v), .int .u64 ((at_ opR l (i : Int)).draw : Int)] (sm hz63.p4.p1 rfl) (by kernel_rfl) (hE84.cells 0 _ rfl) ?_)
    refine V.go (V.mk [] trivial (by kernel_rfl) [.int .i64 0, .string ⟨#[]⟩, .int .i64 0, .int .u64 0] 34 (fun b => .pointer (some ⟨b, 0, none⟩)) (by kernel_rfl) ?_)
    intro w87 b86 heb86 hB88 hF89 hsb86
    have hD_90 := hD_53.alloc hF89 heb86 (by omega)
    have hF_91 := hF_54.new hF89
    have hS_92 := hS_55.fr0 hF89
    have hE84_93 := hE84.fr0 hF89
    refine V.go (V.stn b86 0 (.agg #[.int .i64 ((at_ opR l (i : Int)).kind), .string ((at_ opR l (i : Int)).key), .int .i64 ((at_ opR l (i : Int)).v), .int .u64 ((at_ opR l (i : Int)).draw : Int)]) [.int .i64 ((at_ opR l (i : Int)).kind), .string ((at_ opR l (i : Int)).key), .int .i64 ((at_ opR l (i : Int)).v), .int .u64 ((at_ opR l (i : Int)).draw : Int)] (sm hz63.p4.p2.p1 rfl) (o1 rfl (sm hz63.p4.p2 rfl)) rfl rfl (by kernel_rfl) hB88 (by simp) [.int .i64 ((at_ opR l (i : Int)).kind), .string ((at_ opR l (i : Int)).key), .int .i64 ((at_ opR l (i : Int)).v), .int .u64 ((at_ opR l (i : Int)).draw : Int)] rfl ?_)
    intro w94 hB95 hF96 hsw94
    have hD_97 := hD_90.fr hF96 (by intro k hk; simp only [List.mem_singleton] at hk; subst hk; first | exact .inl (by simp) | exact .inr (by omega))
    have hF_98 := hF_91.own hF96 (by simp <;> omega)
    have hS_99 := hS_92.fr hF96 (by simp <;> omega)
    have hE84_100 := hE84_93.fr hF96 (by simp <;> omega)
    refine V.nil ?_
    refine V.then_n (hK78 _ _ ?_)
    refine V.flushW hz63.p8 (fun a101 hz102 up103 => ?_)
    have s0_104 := up103 0 _ (o8 rfl s0_65)
    have s1_105 := up103 1 _ (o8 rfl s1_66)
    have s2_106 : a101.eval (.tmp 2) = (.string (keyS s)) := up103 _ _ (o8 rfl s2_67)
    have s7_107 : a101.eval (.tmp 7) = (.pointer (some ⟨t5, 0, none⟩)) := up103 _ _ (o8 rfl s7_68)
    have s8_108 := up103 8 _ (o8 rfl s8_69)
    have s9_109 := up103 9 _ (o8 rfl s9_70)
    have s10_110 := up103 10 _ (o8 rfl s10_71)
    have s11_111 := up103 11 _ (sm hz63.p4.p2.p1 rfl)
    clear up103
    refine V.seq (fun K112 hK113 => ?_)
    refine V.plan [[], [], [1], [], [0, 1, 2, 3]] [([0, 1, 3], some (2, [3])), ([], some (4, [])), ([], none)] (by kernel_rfl) (by kernel_rfl) (by exact fun _ _ _ _ h => h) ?_
    simp only [Plan.wpSegs, Plan.pickAll, Plan.nth, V.L_eq]
    obtain ⟨w114, hF115e⟩ : ∃ w1, w1 = w94.drew := ⟨_, rfl⟩
    rw [← hF115e]
    have hF115 : Fr [] w94 w114 := by rw [hF115e]; exact Fr.drew _ _
    have hsw114 : w114.heap.size = w94.heap.size := by rw [hF115e]; rfl
    clear hF115e
    have hD_116 := hD_97.fr0 hF115
    have hF_117 := hF_98.new hF115
    have hS_118 := hS_99.fr0 hF115
    have hE84_119 := hE84_100.fr0 hF115
    have hB95_120 := hB95.fr0 hF115
    refine V.gm (v := (.pointer (some ⟨t5, 0, none⟩))) (s7_107) ?_
    refine V.gm (o1 rfl s0_104) ?_
    refine V.go (V.lds ⟨b86, 0, none⟩ [.int .i64 ((at_ opR l (i : Int)).kind), .string ((at_ opR l (i : Int)).key), .int .i64 ((at_ opR l (i : Int)).v), .int .u64 ((at_ opR l (i : Int)).draw : Int)] (o2 rfl s11_111) (by kernel_rfl) (blk_cells hB95_120 0 _ rfl) ?_)
    refine V.nil ?_
    refine ⟨chk [] trivial (by kernel_rfl), ?_⟩
    refine V.go (V.call 15 #[] #[.int .u64 (seed : Int)] evf (args1 (o1 rfl (sm hz102.p1 rfl))) (Go.Proofs.enters_of Try.func15 (by kernel_rfl) rfl) (rnew_any w114 (b86 :: []) (avh hD_116) seed hsd) ?_)
    rintro _ w125 ⟨r121, rfl, hU122, hF123⟩
    refine ⟨_, rfl, ?_⟩
    have hsw125 := hF123.size
    have hD_126 := hD_116.fr0 hF123
    have hF_127 := hF_117.new hF123
    have hS_128 := hS_118.fr0 hF123
    have hE84_129 := hE84_119.fr0 hF123
    have hB95_130 := hB95_120.fr0 hF123
    have hD124 := hD_126.two hF123 hU122 hD_116
    refine V.nil ?_
    refine ⟨(fun _ => held_blk (n := 4) (hx := (o2 rfl (o1 rfl s11_111))) hB95_120 hB95_130 (by kernel_rfl) rfl (by simp only [List.length]; omega)), ?_⟩
    refine V.nil ?_
    refine ⟨chk [] trivial (by kernel_rfl), ?_⟩
    refine V.go (V.call 16 #[] #[.pointer (some ⟨t5, 0, none⟩), .pointer (some ⟨r121, 0, none⟩), .agg #[.int .i64 ((at_ opR l (i : Int)).kind), .string ((at_ opR l (i : Int)).key), .int .i64 ((at_ opR l (i : Int)).v), .int .u64 ((at_ opR l (i : Int)).draw : Int)]] evf (args3 (o2 rfl (o1 rfl (sm hz102 rfl))) (sm hz102.p2.p1 rfl) (o1 rfl (sm hz102.p2 rfl))) (Go.Proofs.enters_of Try.func16 (by kernel_rfl) rfl) (act_new w125 w (b86 :: []) t5 r121 T (newT seed) i (at_ opR l (i : Int)) hD124 hgT (Gd.new hsd) (by omega) hoo85 (by omega)) ?_)
    rintro _ w134 ⟨⟨bb133, rfl⟩, hD131, hfp132⟩
    refine ⟨_, rfl, ?_⟩
    have hsw134 := hfp132.size
    have hF_135 := hF_127.trP hfp132 (fun k hk => .inr hk.1)
    have hS_136 := hS_128.frP hfp132 (fun k hz hp => by have h1 := hp.1; (try dsimp only at hz); omega)
    have hB95_137 := hB95_130.frP hfp132 (by exact fun hp => hp.2 (by simp))
    refine V.nil ?_
    refine ⟨trivial, ?_⟩
    refine V.nil ?_
    refine ⟨chk [] trivial (by kernel_rfl), ?_⟩
    refine V.then_n (hK113 _ _ ?_)
    refine V.flushW hz102.p4.p1 (fun a138 hz139 up140 => ?_)
    have s0_141 := up140 0 _ (o4 rfl (o1 rfl s0_104))
    have s1_142 := up140 1 _ (o4 rfl (o1 rfl s1_105))
    have s2_143 : a138.eval (.tmp 2) = (.string (keyS s)) := up140 _ _ (o4 rfl (o1 rfl s2_106))
    have s7_144 : a138.eval (.tmp 7) = (.pointer (some ⟨t5, 0, none⟩)) := up140 _ _ (o4 rfl (o1 rfl s7_107))
    have s8_145 := up140 8 _ (o4 rfl (o1 rfl s8_108))
    have s9_146 := up140 9 _ (o4 rfl (o1 rfl s9_109))
    have s10_147 := up140 10 _ (o4 rfl (o1 rfl s10_110))
    have s11_148 := up140 11 _ (o4 rfl (o1 rfl s11_111))
    clear up140
    refine V.seq (fun K149 hK150 => ?_)
    refine V.seq (fun K151 hK152 => ?_)
    refine V.rg ?_
    refine V.ge_ [(11, .pointer (some ⟨b86, 0, none⟩))] ⟨(s11_148), trivial⟩ (.pointer (some ⟨b86, 1, none⟩)) ?_
    refine V.go (V.ld ⟨b86, 1, none⟩ (.string ((at_ opR l (i : Int)).key)) (sm hz139 rfl) (by kernel_rfl) (hB95_137.at 1 rfl) ?_)
    refine V.go (V.call 10 #[] #[.string ((at_ opR l (i : Int)).key)] evf (args1 (sm hz139.p1 rfl)) (Go.Proofs.enters_of Try.func10 (by kernel_rfl) rfl) (key_any w134 ((at_ opR l (i : Int)).key)) ?_)
    rintro _ w154 ⟨rfl, hF153⟩
    refine ⟨_, rfl, ?_⟩
    have hsw154 := hF153.size
    have hF_155 := hF_135.new hF153
    have hS_156 := hS_136.fr0 hF153
    have hB95_157 := hB95_137.fr0 hF153
    have hD131_158 := hD131.fr0 hF153
    have hkey153 := keyS_le ((at_ opR l (i : Int)).key)
    refine V.gm (v := (.string (keyS s))) (o2 rfl (o1 rfl s2_143)) ?_
    refine V.gf_ [(41, .string (keyS ((at_ opR l (i : Int)).key))), (42, .string (keyS s))] ⟨(o1 rfl (sm hz139.p2 rfl)), (sm hz139.p2.p1 rfl), trivial⟩ (.bool (((keyS ((at_ opR l (i : Int)).key)).toList == (keyS s).toList))) (.bool (decide ((keyS ((at_ opR l (i : Int)).key)) = (keyS s)))) V.t_seql ?_
    refine V.gm (sm hz139.p4 rfl) ?_
    by_cases hg159 : (keyS ((at_ opR l (i : Int)).key)) = (keyS s)
    ·
     refine V.flushL hz139.p4.p2 (fun a160 hz161 up162 => ?_)
     have s0_163 := up162 0 _ (o4 rfl (o2 rfl s0_141))
     have s1_164 := up162 1 _ (o4 rfl (o2 rfl s1_142))
     have s2_165 : a160.eval (.tmp 2) = (.string (keyS s)) := up162 _ _ (o4 rfl (o2 rfl s2_143))
     have s7_166 : a160.eval (.tmp 7) = (.pointer (some ⟨t5, 0, none⟩)) := up162 _ _ (o4 rfl (o2 rfl s7_144))
     have s8_167 := up162 8 _ (o4 rfl (o2 rfl s8_145))
     have s9_168 := up162 9 _ (o4 rfl (o2 rfl s9_146))
     have s10_169 := up162 10 _ (o4 rfl (o2 rfl s10_147))
     have s11_170 := up162 11 _ (o4 rfl (o2 rfl s11_148))
     have s44_171 := up162 44 _ (sm hz139.p4.p1 rfl)
     clear up162
     have s44_172 := ((s44_171).trans (dt hg159))
     refine V.go_on 44 (by kernel_rfl) (s44_172) (V.pv [(11, .pointer (some ⟨b86, 0, none⟩))] ⟨(s11_170), trivial⟩ (by kernel_rfl) (.pointer (some ⟨b86, 0, none⟩)) (by kernel_rfl) ?_)
     refine V.go_on 44 (by kernel_rfl) (o1 rfl s44_172) (V.ld ⟨b86, 0, none⟩ (.int .i64 ((at_ opR l (i : Int)).kind)) (sm hz161 rfl) (by kernel_rfl) (hB95_157.at 0 rfl) ?_)
     refine V.go_on 44 (by kernel_rfl) (o2 rfl s44_172) (V.pvw [(46, .int .i64 ((at_ opR l (i : Int)).kind))] ⟨(sm hz161.p1 rfl), trivial⟩ (by kernel_rfl) (.bool (((at_ opR l (i : Int)).kind) == 1)) (.bool (decide (((at_ opR l (i : Int)).kind) = 1))) (by kernel_rfl) V.t_eql ?_)
     refine V.go (V.pk_t (o2 rfl (o1 rfl s44_172)) (v := (.bool (decide (((at_ opR l (i : Int)).kind) = 1)))) (sm hz161.p2 rfl) ?_)
     refine V.nil ?_
     refine V.then_n (hK152 _ _ ?_)
     refine V.flushW hz161.p4 (fun a173 hz174 up175 => ?_)
     have s0_176 := up175 0 _ (o4 rfl s0_163)
     have s1_177 := up175 1 _ (o4 rfl s1_164)
     have s2_178 : a173.eval (.tmp 2) = (.string (keyS s)) := up175 _ _ (o4 rfl s2_165)
     have s7_179 : a173.eval (.tmp 7) = (.pointer (some ⟨t5, 0, none⟩)) := up175 _ _ (o4 rfl s7_166)
     have s8_180 := up175 8 _ (o4 rfl s8_167)
     have s9_181 := up175 9 _ (o4 rfl s9_168)
     have s10_182 := up175 10 _ (o4 rfl s10_169)
     have s11_183 := up175 11 _ (o4 rfl s11_170)
     have s48_184 := up175 48 _ (sm hz161.p2.p1 rfl)
     clear up175
     refine V.condP (p := ((at_ opR l (i : Int)).kind) = 1) (s48_184) (fun ht185 => ?_) (fun ht185 => ?_)
     ·
      refine V.rg ?_
      refine V.ge_ [(11, .pointer (some ⟨b86, 0, none⟩))] ⟨(s11_183), trivial⟩ (.pointer (some ⟨b86, 2, none⟩)) ?_
      refine V.go (V.ld ⟨b86, 2, none⟩ (.int .i64 ((at_ opR l (i : Int)).v)) (sm hz174 rfl) (by kernel_rfl) (hB95_157.at 2 rfl) ?_)
      refine V.ga (sm hz174.p1 rfl) ?_
      refine V.ga evc ?_
      refine V.nil ?_
      refine V.then_n (hK150 _ _ ?_)
      refine V.flushW hz174.p4 (fun a186 hz187 up188 => ?_)
      have s0_189 := up188 0 _ (o4 rfl s0_176)
      have s1_190 := up188 1 _ (o4 rfl s1_177)
      have s2_191 : a186.eval (.tmp 2) = (.string (keyS s)) := up188 _ _ (o4 rfl s2_178)
      have s7_192 : a186.eval (.tmp 7) = (.pointer (some ⟨t5, 0, none⟩)) := up188 _ _ (o4 rfl s7_179)
      have s8_193 := up188 8 _ (o1 rfl (sm hz174.p2 rfl))
      have s9_194 := up188 9 _ (sm hz174.p2.p1 rfl)
      have s10_195 := up188 10 _ (o4 rfl s10_182)
      have s11_196 := up188 11 _ (o4 rfl s11_183)
      clear up188
      refine V.seq (fun K197 hK198 => ?_)
      refine V.seq (fun K199 hK200 => ?_)
      refine V.rg ?_
      refine V.ge_ [(11, .pointer (some ⟨b86, 0, none⟩))] ⟨(s11_196), trivial⟩ (.pointer (some ⟨b86, 1, none⟩)) ?_
      refine V.go (V.ld ⟨b86, 1, none⟩ (.string ((at_ opR l (i : Int)).key)) (sm hz187 rfl) (by kernel_rfl) (hB95_157.at 1 rfl) ?_)
      refine V.go (V.call 10 #[] #[.string ((at_ opR l (i : Int)).key)] evf (args1 (sm hz187.p1 rfl)) (Go.Proofs.enters_of Try.func10 (by kernel_rfl) rfl) (key_any w154 ((at_ opR l (i : Int)).key)) ?_)
      rintro _ w202 ⟨rfl, hF201⟩
      refine ⟨_, rfl, ?_⟩
      have hsw202 := hF201.size
      have hF_203 := hF_155.new hF201
      have hS_204 := hS_156.fr0 hF201
      have hB95_205 := hB95_157.fr0 hF201
      have hD131_206 := hD131_158.fr0 hF201
      have hkey201 := keyS_le ((at_ opR l (i : Int)).key)
      refine V.gm (v := (.string (keyS s))) (o2 rfl (o1 rfl s2_191)) ?_
      refine V.gf_ [(53, .string (keyS ((at_ opR l (i : Int)).key))), (54, .string (keyS s))] ⟨(o1 rfl (sm hz187.p2 rfl)), (sm hz187.p2.p1 rfl), trivial⟩ (.bool (((keyS ((at_ opR l (i : Int)).key)).toList == (keyS s).toList))) (.bool (decide ((keyS ((at_ opR l (i : Int)).key)) = (keyS s)))) V.t_seql ?_
      refine V.gm (((sm hz187.p4 rfl : Act.eval _ _ = (.bool (decide ((keyS ((at_ opR l (i : Int)).key)) = (keyS s)))))).trans (dt hg159)) ?_
      refine V.go_on 56 (by kernel_rfl) (sm hz187.p4.p1 rfl) (V.pv [(11, .pointer (some ⟨b86, 0, none⟩))] ⟨(o4 rfl (o2 rfl s11_196)), trivial⟩ (by kernel_rfl) (.pointer (some ⟨b86, 0, none⟩)) (by kernel_rfl) ?_)
      refine V.go_on 56 (by kernel_rfl) (o1 rfl (sm hz187.p4.p1 rfl)) (V.ld ⟨b86, 0, none⟩ (.int .i64 ((at_ opR l (i : Int)).kind)) (sm hz187.p4.p2 rfl) (by kernel_rfl) (hB95_205.at 0 rfl) ?_)
      refine V.go_on 56 (by kernel_rfl) (o2 rfl (sm hz187.p4.p1 rfl)) (V.pvw [(58, .int .i64 ((at_ opR l (i : Int)).kind))] ⟨(sm hz187.p4.p2.p1 rfl), trivial⟩ (by kernel_rfl) (.bool (((at_ opR l (i : Int)).kind) == 3)) (.bool (decide (((at_ opR l (i : Int)).kind) = 3))) (by kernel_rfl) V.t_eql ?_)
      refine V.go (V.pk_t (o2 rfl (o1 rfl (sm hz187.p4.p1 rfl))) (v := (.bool (decide (((at_ opR l (i : Int)).kind) = 3)))) (sm hz187.p8 rfl) ?_)
      refine V.nil ?_
      refine V.then_n (hK200 _ _ ?_)
      refine V.flushW hz187.p8.p2 (fun a207 hz208 up209 => ?_)
      have s0_210 := up209 0 _ (o8 rfl (o2 rfl s0_189))
      have s1_211 := up209 1 _ (o8 rfl (o2 rfl s1_190))
      have s2_212 : a207.eval (.tmp 2) = (.string (keyS s)) := up209 _ _ (o8 rfl (o2 rfl s2_191))
      have s7_213 : a207.eval (.tmp 7) = (.pointer (some ⟨t5, 0, none⟩)) := up209 _ _ (o8 rfl (o2 rfl s7_192))
      have s8_214 := up209 8 _ (o8 rfl (o2 rfl s8_193))
      have s9_215 := up209 9 _ (o8 rfl (o2 rfl s9_194))
      have s10_216 := up209 10 _ (o8 rfl (o2 rfl s10_195))
      have s60_217 := up209 60 _ (sm hz187.p8.p1 rfl)
      clear up209
      refine V.condP (p := ((at_ opR l (i : Int)).kind) = 3) (s60_217) (fun ht218 => ?_) (fun ht218 => ?_)
      · exfalso; omega
      ·
       refine V.skip ?_
       refine V.then_n (hK198 _ _ ?_)
       refine V.seq (fun K219 hK220 => ?_)
       have hlk := (look_act hgT hwf (at_ opR l (i : Int))).2 (keyS s)
       have hv : lookT 0 (actT T (at_ opR l (i : Int))) (keyS s) = ((at_ opR l (i : Int)).v, true) := hlk.trans (if_pos ⟨hg159, ht185⟩)
       refine V.rg ?_
       refine V.gm (v := (.pointer (some ⟨t5, 0, none⟩))) (s7_213) ?_
       refine V.gm (v := (.string (keyS s))) (o1 rfl s2_212) ?_
       refine V.go (V.call 22 #[] #[.pointer (some ⟨t5, 0, none⟩), .string (keyS s)] evf (args2 (o1 rfl (sm hz208 rfl)) (sm hz208.p1 rfl)) (Go.Proofs.enters_of Try.func22 (by kernel_rfl) rfl) (hD131_206.rd (fun Hq hq hqb => look_any w202 Hq (b86 :: []) t5 (actT T (at_ opR l (i : Int))) hq (keyS s) (by have := keyS_le s; omega))) ?_)
       rintro _ w226 ⟨rfl, hF221⟩
       refine ⟨_, rfl, ?_⟩
       have hsw226 := hF221.size
       have hF_227 := hF_203.new hF221
       have hS_228 := hS_204.fr0 hF221
       have hB95_229 := hB95_205.fr0 hF221
       have hD131_230 := hD131_206.fr0 hF221
       refine V.gm (v := (.tuple #[.int .i64 ((lookT 0 (actT T (at_ opR l (i : Int))) (keyS s)).1), .bool ((lookT 0 (actT T (at_ opR l (i : Int))) (keyS s)).2)])) (sm hz208.p2 rfl) ?_
       refine V.ge_ [(61, .tuple #[.int .i64 ((lookT 0 (actT T (at_ opR l (i : Int))) (keyS s)).1), .bool ((lookT 0 (actT T (at_ opR l (i : Int))) (keyS s)).2)])] ⟨(sm hz208.p2.p1 rfl), trivial⟩ (.int .i64 ((lookT 0 (actT T (at_ opR l (i : Int))) (keyS s)).1)) ?_
       refine V.ge_ [(61, .tuple #[.int .i64 ((lookT 0 (actT T (at_ opR l (i : Int))) (keyS s)).1), .bool ((lookT 0 (actT T (at_ opR l (i : Int))) (keyS s)).2)])] ⟨(o1 rfl (sm hz208.p2.p1 rfl)), trivial⟩ (.bool ((lookT 0 (actT T (at_ opR l (i : Int))) (keyS s)).2)) ?_
       refine V.ga (o1 rfl (sm hz208.p4 rfl)) ?_
       refine V.ga (o1 rfl (sm hz208.p4.p1 rfl)) ?_
       refine V.nil ?_
       refine V.then_n (hK220 _ _ ?_)
       refine V.flushW hz208.p8 (fun a231 hz232 up233 => ?_)
       have s0_234 := up233 0 _ (o8 rfl s0_210)
       have s1_235 := up233 1 _ (o8 rfl s1_211)
       have s2_236 : a231.eval (.tmp 2) = (.string (keyS s)) := up233 _ _ (o8 rfl s2_212)
       have s7_237 : a231.eval (.tmp 7) = (.pointer (some ⟨t5, 0, none⟩)) := up233 _ _ (o8 rfl s7_213)
       have s8_238 := up233 8 _ (o8 rfl s8_214)
       have s9_239 := up233 9 _ (o8 rfl s9_215)
       have s10_240 := up233 10 _ (o8 rfl s10_216)
       have s12_241 := up233 12 _ (o1 rfl (sm hz208.p4.p2 rfl))
       have s13_242 := up233 13 _ (sm hz208.p4.p2.p1 rfl)
       clear up233
       refine V.seq (fun K243 hK244 => ?_)
       refine V.rg ?_
       refine V.gm (s12_241) ?_
       refine V.gm (o1 rfl s8_238) ?_
       refine V.gf_ [(67, .int .i64 ((lookT 0 (actT T (at_ opR l (i : Int))) (keyS s)).1)), (68, .int .i64 ((at_ opR l (i : Int)).v))] ⟨(o1 rfl (sm hz232 rfl)), (sm hz232.p1 rfl), trivial⟩ (.bool (((lookT 0 (actT T (at_ opR l (i : Int))) (keyS s)).1) != ((at_ opR l (i : Int)).v))) (.bool (decide (¬ ((lookT 0 (actT T (at_ opR l (i : Int))) (keyS s)).1) = ((at_ opR l (i : Int)).v)))) V.t_neq ?_
       refine V.gm (sm hz232.p2 rfl) ?_
       by_cases hg245 : ¬ ((lookT 0 (actT T (at_ opR l (i : Int))) (keyS s)).1) = ((at_ opR l (i : Int)).v)
       ·
        refine V.flushL hz232.p4 (fun a246 hz247 up248 => ?_)
        have s0_249 := up248 0 _ (o4 rfl s0_234)
        have s1_250 := up248 1 _ (o4 rfl s1_235)
        have s2_251 : a246.eval (.tmp 2) = (.string (keyS s)) := up248 _ _ (o4 rfl s2_236)
        have s7_252 : a246.eval (.tmp 7) = (.pointer (some ⟨t5, 0, none⟩)) := up248 _ _ (o4 rfl s7_237)
        have s8_253 := up248 8 _ (o4 rfl s8_238)
        have s9_254 := up248 9 _ (o4 rfl s9_239)
        have s10_255 := up248 10 _ (o4 rfl s10_240)
        have s13_256 := up248 13 _ (o4 rfl s13_242)
        have s70_257 := up248 70 _ (sm hz232.p2.p1 rfl)
        clear up248
        have s70_258 := ((s70_257).trans (dt hg245))
        refine V.go_off 70 (by kernel_rfl) (s70_258) (by kernel_rfl) ?_
        refine V.go_off 70 (by kernel_rfl) (o1 rfl s70_258) (by kernel_rfl) ?_
        refine V.go_off 70 (by kernel_rfl) (o2 rfl s70_258) (by kernel_rfl) ?_
        refine V.go (V.pk_t (o2 rfl (o1 rfl s70_258)) (v := (.bool true)) evc ?_)
        refine V.nil ?_
        refine V.then_n (hK244 _ _ ?_)
        refine V.flushW hz247.p4 (fun a259 hz260 up261 => ?_)
        have s0_262 := up261 0 _ (o4 rfl s0_249)
        have s1_263 := up261 1 _ (o4 rfl s1_250)
        have s2_264 : a259.eval (.tmp 2) = (.string (keyS s)) := up261 _ _ (o4 rfl s2_251)
        have s7_265 : a259.eval (.tmp 7) = (.pointer (some ⟨t5, 0, none⟩)) := up261 _ _ (o4 rfl s7_252)
        have s8_266 := up261 8 _ (o4 rfl s8_253)
        have s9_267 := up261 9 _ (o4 rfl s9_254)
        have s10_268 := up261 10 _ (o4 rfl s10_255)
        have s74_269 := up261 74 _ (sm hz247.p2.p1 rfl)
        clear up261
        refine V.cond_t (s74_269) ?_
        refine V.seq (fun K270 hK271 => ?_)
        refine V.rg ?_
        refine V.ga evc ?_
        refine V.nil ?_
        refine V.then_n (hK271 _ _ ?_)
        refine V.ret ?_
        refine V.blk_r ?_
        refine V.then_r ?_
        refine V.then_r ?_
        refine V.blk_r ?_
        refine V.then_r ?_
        refine V.ret1 hz260.p1 rfl (sm hz260 rfl) ?_
        exact absurd (by rw [hv]) hg245
       ·
        refine V.flushL hz232.p4 (fun a272 hz273 up274 => ?_)
        have s0_275 := up274 0 _ (o4 rfl s0_234)
        have s1_276 := up274 1 _ (o4 rfl s1_235)
        have s2_277 : a272.eval (.tmp 2) = (.string (keyS s)) := up274 _ _ (o4 rfl s2_236)
        have s7_278 : a272.eval (.tmp 7) = (.pointer (some ⟨t5, 0, none⟩)) := up274 _ _ (o4 rfl s7_237)
        have s8_279 := up274 8 _ (o4 rfl s8_238)
        have s9_280 := up274 9 _ (o4 rfl s9_239)
        have s10_281 := up274 10 _ (o4 rfl s10_240)
        have s13_282 := up274 13 _ (o4 rfl s13_242)
        have s70_283 := up274 70 _ (sm hz232.p2.p1 rfl)
        clear up274
        have s70_284 := ((s70_283).trans (df hg245))
        refine V.go_on 70 (by kernel_rfl) (s70_284) (V.mv (s13_282) ?_)
        refine V.go_on 70 (by kernel_rfl) (o1 rfl s70_284) (V.mv (o1 rfl s9_280) ?_)
        refine V.go_on 70 (by kernel_rfl) (o2 rfl s70_284) (V.pvw [(71, .bool ((lookT 0 (actT T (at_ opR l (i : Int))) (keyS s)).2)), (72, .bool true)] ⟨(o1 rfl (sm hz273 rfl)), (sm hz273.p1 rfl), trivial⟩ (by kernel_rfl) (.bool (!(((lookT 0 (actT T (at_ opR l (i : Int))) (keyS s)).2) == true))) (.bool (decide (¬ ((lookT 0 (actT T (at_ opR l (i : Int))) (keyS s)).2) = true))) (by kernel_rfl) V.t_bneq ?_)
        refine V.go (V.pk_f (o2 rfl (o1 rfl s70_284)) (v := (.bool (decide (¬ ((lookT 0 (actT T (at_ opR l (i : Int))) (keyS s)).2) = true)))) (sm hz273.p2 rfl) ?_)
        refine V.nil ?_
        refine V.then_n (hK244 _ _ ?_)
        refine V.flushW hz273.p4 (fun a285 hz286 up287 => ?_)
        have s0_288 := up287 0 _ (o4 rfl s0_275)
        have s1_289 := up287 1 _ (o4 rfl s1_276)
        have s2_290 : a285.eval (.tmp 2) = (.string (keyS s)) := up287 _ _ (o4 rfl s2_277)
        have s7_291 : a285.eval (.tmp 7) = (.pointer (some ⟨t5, 0, none⟩)) := up287 _ _ (o4 rfl s7_278)
        have s8_292 := up287 8 _ (o4 rfl s8_279)
        have s9_293 := up287 9 _ (o4 rfl s9_280)
        have s10_294 := up287 10 _ (o4 rfl s10_281)
        have s74_295 := up287 74 _ (sm hz273.p2.p1 rfl)
        clear up287
        refine V.condP (p := ¬ ((lookT 0 (actT T (at_ opR l (i : Int))) (keyS s)).2) = true) (s74_295) (fun ht296 => ?_) (fun ht296 => ?_)
        ·
         refine V.seq (fun K297 hK298 => ?_)
         refine V.rg ?_
         refine V.ga evc ?_
         refine V.nil ?_
         refine V.then_n (hK298 _ _ ?_)
         refine V.ret ?_
         refine V.blk_r ?_
         refine V.then_r ?_
         refine V.then_r ?_
         refine V.blk_r ?_
         refine V.then_r ?_
         refine V.ret1 hz286.p1 rfl (sm hz286 rfl) ?_
         exact absurd (by rw [hv]) ht296
        ·
         refine V.skip ?_
         refine V.blk_n ?_
         refine V.then_n (hK76 _ _ ?_)
         refine V.rg ?_
         refine V.gm (s10_294) ?_
         refine V.gf_ [(28, .int .i64 (i : Int))] ⟨(sm hz286 rfl), trivial⟩ (.int .i64 (IntKind.i64.wrap ((i : Int) + 1))) (.int .i64 ((i : Int) + 1)) (V.w_i64 (by omega) (by omega)) ?_
         refine V.ga (sm hz286.p1 rfl) ?_
         refine V.nil ?_
         refine V.then_n ?_
         refine ⟨i + 1, actT T (at_ opR l (i : Int)), by omega, ?_⟩
         refine ⟨hz286.p2.p1, ?_, ?_, ?_, ?_, ?_, ?_, ?_, (hD131_230.sub (fun k hk => by cases hk)), hF_227, hS_228, (by omega), (hgT.act (by omega) _), (look_act hgT hwf _).1⟩
         · exact Eq.trans (o2 rfl (o1 rfl s0_288)) (V.int_eq (by omega))
         · exact (o2 rfl (o1 rfl s1_289))
         · exact (o2 rfl (o1 rfl s2_290))
         · exact (o2 rfl (o1 rfl s7_291))
         · exact Eq.trans (o2 rfl (o1 rfl s8_292)) (V.int_eq (by rw [hv]))
         · exact Eq.trans (o2 rfl (o1 rfl s9_293)) (congrArg Value.bool (by rw [hv]))
         · exact Eq.trans (sm hz286.p2 rfl) (V.int_eq (by omega))
     ·
      refine V.skip ?_
      refine V.then_n (hK150 _ _ ?_)
      refine V.seq (fun K299 hK300 => ?_)
      refine V.seq (fun K301 hK302 => ?_)
      refine V.rg ?_
      refine V.ge_ [(11, .pointer (some ⟨b86, 0, none⟩))] ⟨(s11_183), trivial⟩ (.pointer (some ⟨b86, 1, none⟩)) ?_
      refine V.go (V.ld ⟨b86, 1, none⟩ (.string ((at_ opR l (i : Int)).key)) (sm hz174 rfl) (by kernel_rfl) (hB95_157.at 1 rfl) ?_)
      refine V.go (V.call 10 #[] #[.string ((at_ opR l (i : Int)).key)] evf (args1 (sm hz174.p1 rfl)) (Go.Proofs.enters_of Try.func10 (by kernel_rfl) rfl) (key_any w154 ((at_ opR l (i : Int)).key)) ?_)
      rintro _ w304 ⟨rfl, hF303⟩
      refine ⟨_, rfl, ?_⟩
      have hsw304 := hF303.size
      have hF_305 := hF_155.new hF303
      have hS_306 := hS_156.fr0 hF303
      have hB95_307 := hB95_157.fr0 hF303
      have hD131_308 := hD131_158.fr0 hF303
      have hkey303 := keyS_le ((at_ opR l (i : Int)).key)
      refine V.gm (v := (.string (keyS s))) (o2 rfl (o1 rfl s2_178)) ?_
      refine V.gf_ [(53, .string (keyS ((at_ opR l (i : Int)).key))), (54, .string (keyS s))] ⟨(o1 rfl (sm hz174.p2 rfl)), (sm hz174.p2.p1 rfl), trivial⟩ (.bool (((keyS ((at_ opR l (i : Int)).key)).toList == (keyS s).toList))) (.bool (decide ((keyS ((at_ opR l (i : Int)).key)) = (keyS s)))) V.t_seql ?_
      refine V.gm (((sm hz174.p4 rfl : Act.eval _ _ = (.bool (decide ((keyS ((at_ opR l (i : Int)).key)) = (keyS s)))))).trans (dt hg159)) ?_
      refine V.go_on 56 (by kernel_rfl) (sm hz174.p4.p1 rfl) (V.pv [(11, .pointer (some ⟨b86, 0, none⟩))] ⟨(o4 rfl (o2 rfl s11_183)), trivial⟩ (by kernel_rfl) (.pointer (some ⟨b86, 0, none⟩)) (by kernel_rfl) ?_)
      refine V.go_on 56 (by kernel_rfl) (o1 rfl (sm hz174.p4.p1 rfl)) (V.ld ⟨b86, 0, none⟩ (.int .i64 ((at_ opR l (i : Int)).kind)) (sm hz174.p4.p2 rfl) (by kernel_rfl) (hB95_307.at 0 rfl) ?_)
      refine V.go_on 56 (by kernel_rfl) (o2 rfl (sm hz174.p4.p1 rfl)) (V.pvw [(58, .int .i64 ((at_ opR l (i : Int)).kind))] ⟨(sm hz174.p4.p2.p1 rfl), trivial⟩ (by kernel_rfl) (.bool (((at_ opR l (i : Int)).kind) == 3)) (.bool (decide (((at_ opR l (i : Int)).kind) = 3))) (by kernel_rfl) V.t_eql ?_)
      refine V.go (V.pk_t (o2 rfl (o1 rfl (sm hz174.p4.p1 rfl))) (v := (.bool (decide (((at_ opR l (i : Int)).kind) = 3)))) (sm hz174.p8 rfl) ?_)
      refine V.nil ?_
      refine V.then_n (hK302 _ _ ?_)
      refine V.flushW hz174.p8.p2 (fun a309 hz310 up311 => ?_)
      have s0_312 := up311 0 _ (o8 rfl (o2 rfl s0_176))
      have s1_313 := up311 1 _ (o8 rfl (o2 rfl s1_177))
      have s2_314 : a309.eval (.tmp 2) = (.string (keyS s)) := up311 _ _ (o8 rfl (o2 rfl s2_178))
      have s7_315 : a309.eval (.tmp 7) = (.pointer (some ⟨t5, 0, none⟩)) := up311 _ _ (o8 rfl (o2 rfl s7_179))
      have s8_316 := up311 8 _ (o8 rfl (o2 rfl s8_180))
      have s9_317 := up311 9 _ (o8 rfl (o2 rfl s9_181))
      have s10_318 := up311 10 _ (o8 rfl (o2 rfl s10_182))
      have s60_319 := up311 60 _ (sm hz174.p8.p1 rfl)
      clear up311
      refine V.condP (p := ((at_ opR l (i : Int)).kind) = 3) (s60_319) (fun ht320 => ?_) (fun ht320 => ?_)
      ·
       refine V.rg ?_
       refine V.ga evc ?_
       refine V.ga evc ?_
       refine V.nil ?_
       refine V.then_n (hK300 _ _ ?_)
       refine V.seq (fun K321 hK322 => ?_)
       have hlk := (look_act hgT hwf (at_ opR l (i : Int))).2 (keyS s)
       have hv : lookT 0 (actT T (at_ opR l (i : Int))) (keyS s) = (0, false) := hlk.trans ((if_neg (fun h => by omega)).trans (if_pos ⟨hg159, ht320⟩))
       refine V.rg ?_
       refine V.gm (v := (.pointer (some ⟨t5, 0, none⟩))) (o2 rfl s7_315) ?_
       refine V.gm (v := (.string (keyS s))) (o2 rfl (o1 rfl s2_314)) ?_
       refine V.go (V.call 22 #[] #[.pointer (some ⟨t5, 0, none⟩), .string (keyS s)] evf (args2 (o1 rfl (sm hz310.p2 rfl)) (sm hz310.p2.p1 rfl)) (Go.Proofs.enters_of Try.func22 (by kernel_rfl) rfl) (hD131_308.rd (fun Hq hq hqb => look_any w304 Hq (b86 :: []) t5 (actT T (at_ opR l (i : Int))) hq (keyS s) (by have := keyS_le s; omega))) ?_)
       rintro _ w328 ⟨rfl, hF323⟩
       refine ⟨_, rfl, ?_⟩
       have hsw328 := hF323.size
       have hF_329 := hF_305.new hF323
       have hS_330 := hS_306.fr0 hF323
       have hB95_331 := hB95_307.fr0 hF323
       have hD131_332 := hD131_308.fr0 hF323
       refine V.gm (v := (.tuple #[.int .i64 ((lookT 0 (actT T (at_ opR l (i : Int))) (keyS s)).1), .bool ((lookT 0 (actT T (at_ opR l (i : Int))) (keyS s)).2)])) (sm hz310.p4 rfl) ?_
       refine V.ge_ [(61, .tuple #[.int .i64 ((lookT 0 (actT T (at_ opR l (i : Int))) (keyS s)).1), .bool ((lookT 0 (actT T (at_ opR l (i : Int))) (keyS s)).2)])] ⟨(sm hz310.p4.p1 rfl), trivial⟩ (.int .i64 ((lookT 0 (actT T (at_ opR l (i : Int))) (keyS s)).1)) ?_
       refine V.ge_ [(61, .tuple #[.int .i64 ((lookT 0 (actT T (at_ opR l (i : Int))) (keyS s)).1), .bool ((lookT 0 (actT T (at_ opR l (i : Int))) (keyS s)).2)])] ⟨(o1 rfl (sm hz310.p4.p1 rfl)), trivial⟩ (.bool ((lookT 0 (actT T (at_ opR l (i : Int))) (keyS s)).2)) ?_
       refine V.ga (o1 rfl (sm hz310.p4.p2 rfl)) ?_
       refine V.ga (o1 rfl (sm hz310.p4.p2.p1 rfl)) ?_
       refine V.nil ?_
       refine V.then_n (hK322 _ _ ?_)
       refine V.flushW hz310.p8.p2 (fun a333 hz334 up335 => ?_)
       have s0_336 := up335 0 _ (o8 rfl (o2 rfl s0_312))
       have s1_337 := up335 1 _ (o8 rfl (o2 rfl s1_313))
       have s2_338 : a333.eval (.tmp 2) = (.string (keyS s)) := up335 _ _ (o8 rfl (o2 rfl s2_314))
       have s7_339 : a333.eval (.tmp 7) = (.pointer (some ⟨t5, 0, none⟩)) := up335 _ _ (o8 rfl (o2 rfl s7_315))
       have s8_340 := up335 8 _ (o8 rfl (o1 rfl (sm hz310 rfl)))
       have s9_341 := up335 9 _ (o8 rfl (sm hz310.p1 rfl))
       have s10_342 := up335 10 _ (o8 rfl (o2 rfl s10_318))
       have s12_343 := up335 12 _ (o1 rfl (sm hz310.p8 rfl))
       have s13_344 := up335 13 _ (sm hz310.p8.p1 rfl)
       clear up335
       refine V.seq (fun K345 hK346 => ?_)
       refine V.rg ?_
       refine V.gm (s12_343) ?_
       refine V.gm (o1 rfl s8_340) ?_
       refine V.gf_ [(67, .int .i64 ((lookT 0 (actT T (at_ opR l (i : Int))) (keyS s)).1)), (68, .int .i64 0)] ⟨(o1 rfl (sm hz334 rfl)), (sm hz334.p1 rfl), trivial⟩ (.bool (((lookT 0 (actT T (at_ opR l (i : Int))) (keyS s)).1) != 0)) (.bool (decide (¬ ((lookT 0 (actT T (at_ opR l (i : Int))) (keyS s)).1) = 0))) V.t_neq ?_
       refine V.gm (sm hz334.p2 rfl) ?_
       by_cases hg347 : ¬ ((lookT 0 (actT T (at_ opR l (i : Int))) (keyS s)).1) = 0
       ·
        refine V.flushL hz334.p4 (fun a348 hz349 up350 => ?_)
        have s0_351 := up350 0 _ (o4 rfl s0_336)
        have s1_352 := up350 1 _ (o4 rfl s1_337)
        have s2_353 : a348.eval (.tmp 2) = (.string (keyS s)) := up350 _ _ (o4 rfl s2_338)
        have s7_354 : a348.eval (.tmp 7) = (.pointer (some ⟨t5, 0, none⟩)) := up350 _ _ (o4 rfl s7_339)
        have s8_355 := up350 8 _ (o4 rfl s8_340)
        have s9_356 := up350 9 _ (o4 rfl s9_341)
        have s10_357 := up350 10 _ (o4 rfl s10_342)
        have s13_358 := up350 13 _ (o4 rfl s13_344)
        have s70_359 := up350 70 _ (sm hz334.p2.p1 rfl)
        clear up350
        have s70_360 := ((s70_359).trans (dt hg347))
        refine V.go_off 70 (by kernel_rfl) (s70_360) (by kernel_rfl) ?_
        refine V.go_off 70 (by kernel_rfl) (o1 rfl s70_360) (by kernel_rfl) ?_
        refine V.go_off 70 (by kernel_rfl) (o2 rfl s70_360) (by kernel_rfl) ?_
        refine V.go (V.pk_t (o2 rfl (o1 rfl s70_360)) (v := (.bool true)) evc ?_)
        refine V.nil ?_
        refine V.then_n (hK346 _ _ ?_)
        refine V.flushW hz349.p4 (fun a361 hz362 up363 => ?_)
        have s0_364 := up363 0 _ (o4 rfl s0_351)
        have s1_365 := up363 1 _ (o4 rfl s1_352)
        have s2_366 : a361.eval (.tmp 2) = (.string (keyS s)) := up363 _ _ (o4 rfl s2_353)
        have s7_367 : a361.eval (.tmp 7) = (.pointer (some ⟨t5, 0, none⟩)) := up363 _ _ (o4 rfl s7_354)
        have s8_368 := up363 8 _ (o4 rfl s8_355)
        have s9_369 := up363 9 _ (o4 rfl s9_356)
        have s10_370 := up363 10 _ (o4 rfl s10_357)
        have s74_371 := up363 74 _ (sm hz349.p2.p1 rfl)
        clear up363
        refine V.cond_t (s74_371) ?_
        refine V.seq (fun K372 hK373 => ?_)
        refine V.rg ?_
        refine V.ga evc ?_
        refine V.nil ?_
        refine V.then_n (hK373 _ _ ?_)
        refine V.ret ?_
        refine V.blk_r ?_
        refine V.then_r ?_
        refine V.then_r ?_
        refine V.blk_r ?_
        refine V.then_r ?_
        refine V.ret1 hz362.p1 rfl (sm hz362 rfl) ?_
        exact absurd (by rw [hv]) hg347
       ·
        refine V.flushL hz334.p4 (fun a374 hz375 up376 => ?_)
        have s0_377 := up376 0 _ (o4 rfl s0_336)
        have s1_378 := up376 1 _ (o4 rfl s1_337)
        have s2_379 : a374.eval (.tmp 2) = (.string (keyS s)) := up376 _ _ (o4 rfl s2_338)
        have s7_380 : a374.eval (.tmp 7) = (.pointer (some ⟨t5, 0, none⟩)) := up376 _ _ (o4 rfl s7_339)
        have s8_381 := up376 8 _ (o4 rfl s8_340)
        have s9_382 := up376 9 _ (o4 rfl s9_341)
        have s10_383 := up376 10 _ (o4 rfl s10_342)
        have s13_384 := up376 13 _ (o4 rfl s13_344)
        have s70_385 := up376 70 _ (sm hz334.p2.p1 rfl)
        clear up376
        have s70_386 := ((s70_385).trans (df hg347))
        refine V.go_on 70 (by kernel_rfl) (s70_386) (V.mv (s13_384) ?_)
        refine V.go_on 70 (by kernel_rfl) (o1 rfl s70_386) (V.mv (o1 rfl s9_382) ?_)
        refine V.go_on 70 (by kernel_rfl) (o2 rfl s70_386) (V.pvw [(71, .bool ((lookT 0 (actT T (at_ opR l (i : Int))) (keyS s)).2)), (72, .bool false)] ⟨(o1 rfl (sm hz375 rfl)), (sm hz375.p1 rfl), trivial⟩ (by kernel_rfl) (.bool (!(((lookT 0 (actT T (at_ opR l (i : Int))) (keyS s)).2) == false))) (.bool (decide (¬ ((lookT 0 (actT T (at_ opR l (i : Int))) (keyS s)).2) = false))) (by kernel_rfl) V.t_bneq ?_)
        refine V.go (V.pk_f (o2 rfl (o1 rfl s70_386)) (v := (.bool (decide (¬ ((lookT 0 (actT T (at_ opR l (i : Int))) (keyS s)).2) = false)))) (sm hz375.p2 rfl) ?_)
        refine V.nil ?_
        refine V.then_n (hK346 _ _ ?_)
        refine V.flushW hz375.p4 (fun a387 hz388 up389 => ?_)
        have s0_390 := up389 0 _ (o4 rfl s0_377)
        have s1_391 := up389 1 _ (o4 rfl s1_378)
        have s2_392 : a387.eval (.tmp 2) = (.string (keyS s)) := up389 _ _ (o4 rfl s2_379)
        have s7_393 : a387.eval (.tmp 7) = (.pointer (some ⟨t5, 0, none⟩)) := up389 _ _ (o4 rfl s7_380)
        have s8_394 := up389 8 _ (o4 rfl s8_381)
        have s9_395 := up389 9 _ (o4 rfl s9_382)
        have s10_396 := up389 10 _ (o4 rfl s10_383)
        have s74_397 := up389 74 _ (sm hz375.p2.p1 rfl)
        clear up389
        refine V.condP (p := ¬ ((lookT 0 (actT T (at_ opR l (i : Int))) (keyS s)).2) = false) (s74_397) (fun ht398 => ?_) (fun ht398 => ?_)
        ·
         refine V.seq (fun K399 hK400 => ?_)
         refine V.rg ?_
         refine V.ga evc ?_
         refine V.nil ?_
         refine V.then_n (hK400 _ _ ?_)
         refine V.ret ?_
         refine V.blk_r ?_
         refine V.then_r ?_
         refine V.then_r ?_
         refine V.blk_r ?_
         refine V.then_r ?_
         refine V.ret1 hz388.p1 rfl (sm hz388 rfl) ?_
         exact absurd (by rw [hv]) ht398
        ·
         refine V.skip ?_
         refine V.blk_n ?_
         refine V.then_n (hK76 _ _ ?_)
         refine V.rg ?_
         refine V.gm (s10_396) ?_
         refine V.gf_ [(28, .int .i64 (i : Int))] ⟨(sm hz388 rfl), trivial⟩ (.int .i64 (IntKind.i64.wrap ((i : Int) + 1))) (.int .i64 ((i : Int) + 1)) (V.w_i64 (by omega) (by omega)) ?_
         refine V.ga (sm hz388.p1 rfl) ?_
         refine V.nil ?_
         refine V.then_n ?_
         refine ⟨i + 1, actT T (at_ opR l (i : Int)), by omega, ?_⟩
         refine ⟨hz388.p2.p1, ?_, ?_, ?_, ?_, ?_, ?_, ?_, (hD131_332.sub (fun k hk => by cases hk)), hF_329, hS_330, (by omega), (hgT.act (by omega) _), (look_act hgT hwf _).1⟩
         · exact Eq.trans (o2 rfl (o1 rfl s0_390)) (V.int_eq (by omega))
         · exact (o2 rfl (o1 rfl s1_391))
         · exact (o2 rfl (o1 rfl s2_392))
         · exact (o2 rfl (o1 rfl s7_393))
         · exact Eq.trans (o2 rfl (o1 rfl s8_394)) (V.int_eq (by rw [hv]))
         · exact Eq.trans (o2 rfl (o1 rfl s9_395)) (congrArg Value.bool (by rw [hv]))
         · exact Eq.trans (sm hz388.p2 rfl) (V.int_eq (by omega))
      ·
       refine V.skip ?_
       refine V.then_n (hK300 _ _ ?_)
       refine V.seq (fun K401 hK402 => ?_)
       have hlk := (look_act hgT hwf (at_ opR l (i : Int))).2 (keyS s)
       have hv : lookT 0 (actT T (at_ opR l (i : Int))) (keyS s) = lookT 0 T (keyS s) := hlk.trans ((if_neg (fun h => ht185 h.2)).trans (if_neg (fun h => ht320 h.2)))
       refine V.rg ?_
       refine V.gm (v := (.pointer (some ⟨t5, 0, none⟩))) (s7_315) ?_
       refine V.gm (v := (.string (keyS s))) (o1 rfl s2_314) ?_
       refine V.go (V.call 22 #[] #[.pointer (some ⟨t5, 0, none⟩), .string (keyS s)] evf (args2 (o1 rfl (sm hz310 rfl)) (sm hz310.p1 rfl)) (Go.Proofs.enters_of Try.func22 (by kernel_rfl) rfl) (hD131_308.rd (fun Hq hq hqb => look_any w304 Hq (b86 :: []) t5 (actT T (at_ opR l (i : Int))) hq (keyS s) (by have := keyS_le s; omega))) ?_)
       rintro _ w408 ⟨rfl, hF403⟩
       refine ⟨_, rfl, ?_⟩
       have hsw408 := hF403.size
       have hF_409 := hF_305.new hF403
       have hS_410 := hS_306.fr0 hF403
       have hB95_411 := hB95_307.fr0 hF403
       have hD131_412 := hD131_308.fr0 hF403
       refine V.gm (v := (.tuple #[.int .i64 ((lookT 0 (actT T (at_ opR l (i : Int))) (keyS s)).1), .bool ((lookT 0 (actT T (at_ opR l (i : Int))) (keyS s)).2)])) (sm hz310.p2 rfl) ?_
       refine V.ge_ [(61, .tuple #[.int .i64 ((lookT 0 (actT T (at_ opR l (i : Int))) (keyS s)).1), .bool ((lookT 0 (actT T (at_ opR l (i : Int))) (keyS s)).2)])] ⟨(sm hz310.p2.p1 rfl), trivial⟩ (.int .i64 ((lookT 0 (actT T (at_ opR l (i : Int))) (keyS s)).1)) ?_
       refine V.ge_ [(61, .tuple #[.int .i64 ((lookT 0 (actT T (at_ opR l (i : Int))) (keyS s)).1), .bool ((lookT 0 (actT T (at_ opR l (i : Int))) (keyS s)).2)])] ⟨(o1 rfl (sm hz310.p2.p1 rfl)), trivial⟩ (.bool ((lookT 0 (actT T (at_ opR l (i : Int))) (keyS s)).2)) ?_
       refine V.ga (o1 rfl (sm hz310.p4 rfl)) ?_
       refine V.ga (o1 rfl (sm hz310.p4.p1 rfl)) ?_
       refine V.nil ?_
       refine V.then_n (hK402 _ _ ?_)
       refine V.flushW hz310.p8 (fun a413 hz414 up415 => ?_)
       have s0_416 := up415 0 _ (o8 rfl s0_312)
       have s1_417 := up415 1 _ (o8 rfl s1_313)
       have s2_418 : a413.eval (.tmp 2) = (.string (keyS s)) := up415 _ _ (o8 rfl s2_314)
       have s7_419 : a413.eval (.tmp 7) = (.pointer (some ⟨t5, 0, none⟩)) := up415 _ _ (o8 rfl s7_315)
       have s8_420 := up415 8 _ (o8 rfl s8_316)
       have s9_421 := up415 9 _ (o8 rfl s9_317)
       have s10_422 := up415 10 _ (o8 rfl s10_318)
       have s12_423 := up415 12 _ (o1 rfl (sm hz310.p4.p2 rfl))
       have s13_424 := up415 13 _ (sm hz310.p4.p2.p1 rfl)
       clear up415
       refine V.seq (fun K425 hK426 => ?_)
       refine V.rg ?_
       refine V.gm (s12_423) ?_
       refine V.gm (o1 rfl s8_420) ?_
       refine V.gf_ [(67, .int .i64 ((lookT 0 (actT T (at_ opR l (i : Int))) (keyS s)).1)), (68, .int .i64 ((lookT 0 T (keyS s)).1))] ⟨(o1 rfl (sm hz414 rfl)), (sm hz414.p1 rfl), trivial⟩ (.bool (((lookT 0 (actT T (at_ opR l (i : Int))) (keyS s)).1) != ((lookT 0 T (keyS s)).1))) (.bool (decide (¬ ((lookT 0 (actT T (at_ opR l (i : Int))) (keyS s)).1) = ((lookT 0 T (keyS s)).1)))) V.t_neq ?_
       refine V.gm (sm hz414.p2 rfl) ?_
       by_cases hg427 : ¬ ((lookT 0 (actT T (at_ opR l (i : Int))) (keyS s)).1) = ((lookT 0 T (keyS s)).1)
       ·
        refine V.flushL hz414.p4 (fun a428 hz429 up430 => ?_)
        have s0_431 := up430 0 _ (o4 rfl s0_416)
        have s1_432 := up430 1 _ (o4 rfl s1_417)
        have s2_433 : a428.eval (.tmp 2) = (.string (keyS s)) := up430 _ _ (o4 rfl s2_418)
        have s7_434 : a428.eval (.tmp 7) = (.pointer (some ⟨t5, 0, none⟩)) := up430 _ _ (o4 rfl s7_419)
        have s8_435 := up430 8 _ (o4 rfl s8_420)
        have s9_436 := up430 9 _ (o4 rfl s9_421)
        have s10_437 := up430 10 _ (o4 rfl s10_422)
        have s13_438 := up430 13 _ (o4 rfl s13_424)
        have s70_439 := up430 70 _ (sm hz414.p2.p1 rfl)
        clear up430
        have s70_440 := ((s70_439).trans (dt hg427))
        refine V.go_off 70 (by kernel_rfl) (s70_440) (by kernel_rfl) ?_
        refine V.go_off 70 (by kernel_rfl) (o1 rfl s70_440) (by kernel_rfl) ?_
        refine V.go_off 70 (by kernel_rfl) (o2 rfl s70_440) (by kernel_rfl) ?_
        refine V.go (V.pk_t (o2 rfl (o1 rfl s70_440)) (v := (.bool true)) evc ?_)
        refine V.nil ?_
        refine V.then_n (hK426 _ _ ?_)
        refine V.flushW hz429.p4 (fun a441 hz442 up443 => ?_)
        have s0_444 := up443 0 _ (o4 rfl s0_431)
        have s1_445 := up443 1 _ (o4 rfl s1_432)
        have s2_446 : a441.eval (.tmp 2) = (.string (keyS s)) := up443 _ _ (o4 rfl s2_433)
        have s7_447 : a441.eval (.tmp 7) = (.pointer (some ⟨t5, 0, none⟩)) := up443 _ _ (o4 rfl s7_434)
        have s8_448 := up443 8 _ (o4 rfl s8_435)
        have s9_449 := up443 9 _ (o4 rfl s9_436)
        have s10_450 := up443 10 _ (o4 rfl s10_437)
        have s74_451 := up443 74 _ (sm hz429.p2.p1 rfl)
        clear up443
        refine V.cond_t (s74_451) ?_
        refine V.seq (fun K452 hK453 => ?_)
        refine V.rg ?_
        refine V.ga evc ?_
        refine V.nil ?_
        refine V.then_n (hK453 _ _ ?_)
        refine V.ret ?_
        refine V.blk_r ?_
        refine V.then_r ?_
        refine V.then_r ?_
        refine V.blk_r ?_
        refine V.then_r ?_
        refine V.ret1 hz442.p1 rfl (sm hz442 rfl) ?_
        exact absurd (by rw [hv]) hg427
       ·
        refine V.flushL hz414.p4 (fun a454 hz455 up456 => ?_)
        have s0_457 := up456 0 _ (o4 rfl s0_416)
        have s1_458 := up456 1 _ (o4 rfl s1_417)
        have s2_459 : a454.eval (.tmp 2) = (.string (keyS s)) := up456 _ _ (o4 rfl s2_418)
        have s7_460 : a454.eval (.tmp 7) = (.pointer (some ⟨t5, 0, none⟩)) := up456 _ _ (o4 rfl s7_419)
        have s8_461 := up456 8 _ (o4 rfl s8_420)
        have s9_462 := up456 9 _ (o4 rfl s9_421)
        have s10_463 := up456 10 _ (o4 rfl s10_422)
        have s13_464 := up456 13 _ (o4 rfl s13_424)
        have s70_465 := up456 70 _ (sm hz414.p2.p1 rfl)
        clear up456
        have s70_466 := ((s70_465).trans (df hg427))
        refine V.go_on 70 (by kernel_rfl) (s70_466) (V.mv (s13_464) ?_)
        refine V.go_on 70 (by kernel_rfl) (o1 rfl s70_466) (V.mv (o1 rfl s9_462) ?_)
        refine V.go_on 70 (by kernel_rfl) (o2 rfl s70_466) (V.pvw [(71, .bool ((lookT 0 (actT T (at_ opR l (i : Int))) (keyS s)).2)), (72, .bool ((lookT 0 T (keyS s)).2))] ⟨(o1 rfl (sm hz455 rfl)), (sm hz455.p1 rfl), trivial⟩ (by kernel_rfl) (.bool (!(((lookT 0 (actT T (at_ opR l (i : Int))) (keyS s)).2) == ((lookT 0 T (keyS s)).2)))) (.bool (decide (¬ ((lookT 0 (actT T (at_ opR l (i : Int))) (keyS s)).2) = ((lookT 0 T (keyS s)).2)))) (by kernel_rfl) V.t_bneq ?_)
        refine V.go (V.pk_f (o2 rfl (o1 rfl s70_466)) (v := (.bool (decide (¬ ((lookT 0 (actT T (at_ opR l (i : Int))) (keyS s)).2) = ((lookT 0 T (keyS s)).2))))) (sm hz455.p2 rfl) ?_)
        refine V.nil ?_
        refine V.then_n (hK426 _ _ ?_)
        refine V.flushW hz455.p4 (fun a467 hz468 up469 => ?_)
        have s0_470 := up469 0 _ (o4 rfl s0_457)
        have s1_471 := up469 1 _ (o4 rfl s1_458)
        have s2_472 : a467.eval (.tmp 2) = (.string (keyS s)) := up469 _ _ (o4 rfl s2_459)
        have s7_473 : a467.eval (.tmp 7) = (.pointer (some ⟨t5, 0, none⟩)) := up469 _ _ (o4 rfl s7_460)
        have s8_474 := up469 8 _ (o4 rfl s8_461)
        have s9_475 := up469 9 _ (o4 rfl s9_462)
        have s10_476 := up469 10 _ (o4 rfl s10_463)
        have s74_477 := up469 74 _ (sm hz455.p2.p1 rfl)
        clear up469
        refine V.condP (p := ¬ ((lookT 0 (actT T (at_ opR l (i : Int))) (keyS s)).2) = ((lookT 0 T (keyS s)).2)) (s74_477) (fun ht478 => ?_) (fun ht478 => ?_)
        ·
         refine V.seq (fun K479 hK480 => ?_)
         refine V.rg ?_
         refine V.ga evc ?_
         refine V.nil ?_
         refine V.then_n (hK480 _ _ ?_)
         refine V.ret ?_
         refine V.blk_r ?_
         refine V.then_r ?_
         refine V.then_r ?_
         refine V.blk_r ?_
         refine V.then_r ?_
         refine V.ret1 hz468.p1 rfl (sm hz468 rfl) ?_
         exact absurd (by rw [hv]) ht478
        ·
         refine V.skip ?_
         refine V.blk_n ?_
         refine V.then_n (hK76 _ _ ?_)
         refine V.rg ?_
         refine V.gm (s10_476) ?_
         refine V.gf_ [(28, .int .i64 (i : Int))] ⟨(sm hz468 rfl), trivial⟩ (.int .i64 (IntKind.i64.wrap ((i : Int) + 1))) (.int .i64 ((i : Int) + 1)) (V.w_i64 (by omega) (by omega)) ?_
         refine V.ga (sm hz468.p1 rfl) ?_
         refine V.nil ?_
         refine V.then_n ?_
         refine ⟨i + 1, actT T (at_ opR l (i : Int)), by omega, ?_⟩
         refine ⟨hz468.p2.p1, ?_, ?_, ?_, ?_, ?_, ?_, ?_, (hD131_412.sub (fun k hk => by cases hk)), hF_409, hS_410, (by omega), (hgT.act (by omega) _), (look_act hgT hwf _).1⟩
         · exact Eq.trans (o2 rfl (o1 rfl s0_470)) (V.int_eq (by omega))
         · exact (o2 rfl (o1 rfl s1_471))
         · exact (o2 rfl (o1 rfl s2_472))
         · exact (o2 rfl (o1 rfl s7_473))
         · exact Eq.trans (o2 rfl (o1 rfl s8_474)) (V.int_eq (by rw [hv]))
         · exact Eq.trans (o2 rfl (o1 rfl s9_475)) (congrArg Value.bool (by rw [hv]))
         · exact Eq.trans (sm hz468.p2 rfl) (V.int_eq (by omega))
    ·
     refine V.flushL hz139.p4.p2 (fun a481 hz482 up483 => ?_)
     have s0_484 := up483 0 _ (o4 rfl (o2 rfl s0_141))
     have s1_485 := up483 1 _ (o4 rfl (o2 rfl s1_142))
     have s2_486 : a481.eval (.tmp 2) = (.string (keyS s)) := up483 _ _ (o4 rfl (o2 rfl s2_143))
     have s7_487 : a481.eval (.tmp 7) = (.pointer (some ⟨t5, 0, none⟩)) := up483 _ _ (o4 rfl (o2 rfl s7_144))
     have s8_488 := up483 8 _ (o4 rfl (o2 rfl s8_145))
     have s9_489 := up483 9 _ (o4 rfl (o2 rfl s9_146))
     have s10_490 := up483 10 _ (o4 rfl (o2 rfl s10_147))
     have s11_491 := up483 11 _ (o4 rfl (o2 rfl s11_148))
     have s44_492 := up483 44 _ (sm hz139.p4.p1 rfl)
     clear up483
     have s44_493 := ((s44_492).trans (df hg159))
     refine V.go_off 44 (by kernel_rfl) (s44_493) (by kernel_rfl) ?_
     refine V.go_off 44 (by kernel_rfl) (o1 rfl s44_493) (by kernel_rfl) ?_
     refine V.go_off 44 (by kernel_rfl) (o2 rfl s44_493) (by kernel_rfl) ?_
     refine V.go (V.pk_f (o2 rfl (o1 rfl s44_493)) (v := (.bool false)) evc ?_)
     refine V.nil ?_
     refine V.then_n (hK152 _ _ ?_)
     refine V.flushW hz482.p4 (fun a494 hz495 up496 => ?_)
     have s0_497 := up496 0 _ (o4 rfl s0_484)
     have s1_498 := up496 1 _ (o4 rfl s1_485)
     have s2_499 : a494.eval (.tmp 2) = (.string (keyS s)) := up496 _ _ (o4 rfl s2_486)
     have s7_500 : a494.eval (.tmp 7) = (.pointer (some ⟨t5, 0, none⟩)) := up496 _ _ (o4 rfl s7_487)
     have s8_501 := up496 8 _ (o4 rfl s8_488)
     have s9_502 := up496 9 _ (o4 rfl s9_489)
     have s10_503 := up496 10 _ (o4 rfl s10_490)
     have s11_504 := up496 11 _ (o4 rfl s11_491)
     have s48_505 := up496 48 _ (sm hz482.p2.p1 rfl)
     clear up496
     refine V.cond_f (s48_505) ?_
     refine V.skip ?_
     refine V.then_n (hK150 _ _ ?_)
     refine V.seq (fun K506 hK507 => ?_)
     refine V.seq (fun K508 hK509 => ?_)
     refine V.rg ?_
     refine V.ge_ [(11, .pointer (some ⟨b86, 0, none⟩))] ⟨(s11_504), trivial⟩ (.pointer (some ⟨b86, 1, none⟩)) ?_
     refine V.go (V.ld ⟨b86, 1, none⟩ (.string ((at_ opR l (i : Int)).key)) (sm hz495 rfl) (by kernel_rfl) (hB95_157.at 1 rfl) ?_)
     refine V.go (V.call 10 #[] #[.string ((at_ opR l (i : Int)).key)] evf (args1 (sm hz495.p1 rfl)) (Go.Proofs.enters_of Try.func10 (by kernel_rfl) rfl) (key_any w154 ((at_ opR l (i : Int)).key)) ?_)
     rintro _ w511 ⟨rfl, hF510⟩
     refine ⟨_, rfl, ?_⟩
     have hsw511 := hF510.size
     have hF_512 := hF_155.new hF510
     have hS_513 := hS_156.fr0 hF510
     have hB95_514 := hB95_157.fr0 hF510
     have hD131_515 := hD131_158.fr0 hF510
     have hkey510 := keyS_le ((at_ opR l (i : Int)).key)
     refine V.gm (v := (.string (keyS s))) (o2 rfl (o1 rfl s2_499)) ?_
     refine V.gf_ [(53, .string (keyS ((at_ opR l (i : Int)).key))), (54, .string (keyS s))] ⟨(o1 rfl (sm hz495.p2 rfl)), (sm hz495.p2.p1 rfl), trivial⟩ (.bool (((keyS ((at_ opR l (i : Int)).key)).toList == (keyS s).toList))) (.bool (decide ((keyS ((at_ opR l (i : Int)).key)) = (keyS s)))) V.t_seql ?_
     refine V.gm (((sm hz495.p4 rfl : Act.eval _ _ = (.bool (decide ((keyS ((at_ opR l (i : Int)).key)) = (keyS s)))))).trans (df hg159)) ?_
     refine V.go_off 56 (by kernel_rfl) (sm hz495.p4.p1 rfl) (by kernel_rfl) ?_
     refine V.go_off 56 (by kernel_rfl) (o1 rfl (sm hz495.p4.p1 rfl)) (by kernel_rfl) ?_
     refine V.go_off 56 (by kernel_rfl) (o2 rfl (sm hz495.p4.p1 rfl)) (by kernel_rfl) ?_
     refine V.go (V.pk_f (o2 rfl (o1 rfl (sm hz495.p4.p1 rfl))) (v := (.bool false)) evc ?_)
     refine V.nil ?_
     refine V.then_n (hK509 _ _ ?_)
     refine V.flushW hz495.p8.p2 (fun a516 hz517 up518 => ?_)
     have s0_519 := up518 0 _ (o8 rfl (o2 rfl s0_497))
     have s1_520 := up518 1 _ (o8 rfl (o2 rfl s1_498))
     have s2_521 : a516.eval (.tmp 2) = (.string (keyS s)) := up518 _ _ (o8 rfl (o2 rfl s2_499))
     have s7_522 : a516.eval (.tmp 7) = (.pointer (some ⟨t5, 0, none⟩)) := up518 _ _ (o8 rfl (o2 rfl s7_500))
     have s8_523 := up518 8 _ (o8 rfl (o2 rfl s8_501))
     have s9_524 := up518 9 _ (o8 rfl (o2 rfl s9_502))
     have s10_525 := up518 10 _ (o8 rfl (o2 rfl s10_503))
     have s60_526 := up518 60 _ (sm hz495.p8.p1 rfl)
     clear up518
     refine V.cond_f (s60_526) ?_
     refine V.skip ?_
     refine V.then_n (hK507 _ _ ?_)
     refine V.seq (fun K527 hK528 => ?_)
     have hlk := (look_act hgT hwf (at_ opR l (i : Int))).2 (keyS s)
     have hv : lookT 0 (actT T (at_ opR l (i : Int))) (keyS s) = lookT 0 T (keyS s) := hlk.trans ((if_neg (fun h => hg159 h.1)).trans (if_neg (fun h => hg159 h.1)))
     refine V.rg ?_
     refine V.gm (v := (.pointer (some ⟨t5, 0, none⟩))) (s7_522) ?_
     refine V.gm (v := (.string (keyS s))) (o1 rfl s2_521) ?_
     refine V.go (V.call 22 #[] #[.pointer (some ⟨t5, 0, none⟩), .string (keyS s)] evf (args2 (o1 rfl (sm hz517 rfl)) (sm hz517.p1 rfl)) (Go.Proofs.enters_of Try.func22 (by kernel_rfl) rfl) (hD131_515.rd (fun Hq hq hqb => look_any w511 Hq (b86 :: []) t5 (actT T (at_ opR l (i : Int))) hq (keyS s) (by have := keyS_le s; omega))) ?_)
     rintro _ w534 ⟨rfl, hF529⟩
     refine ⟨_, rfl, ?_⟩
     have hsw534 := hF529.size
     have hF_535 := hF_512.new hF529
     have hS_536 := hS_513.fr0 hF529
     have hB95_537 := hB95_514.fr0 hF529
     have hD131_538 := hD131_515.fr0 hF529
     refine V.gm (v := (.tuple #[.int .i64 ((lookT 0 (actT T (at_ opR l (i : Int))) (keyS s)).1), .bool ((lookT 0 (actT T (at_ opR l (i : Int))) (keyS s)).2)])) (sm hz517.p2 rfl) ?_
     refine V.ge_ [(61, .tuple #[.int .i64 ((lookT 0 (actT T (at_ opR l (i : Int))) (keyS s)).1), .bool ((lookT 0 (actT T (at_ opR l (i : Int))) (keyS s)).2)])] ⟨(sm hz517.p2.p1 rfl), trivial⟩ (.int .i64 ((lookT 0 (actT T (at_ opR l (i : Int))) (keyS s)).1)) ?_
     refine V.ge_ [(61, .tuple #[.int .i64 ((lookT 0 (actT T (at_ opR l (i : Int))) (keyS s)).1), .bool ((lookT 0 (actT T (at_ opR l (i : Int))) (keyS s)).2)])] ⟨(o1 rfl (sm hz517.p2.p1 rfl)), trivial⟩ (.bool ((lookT 0 (actT T (at_ opR l (i : Int))) (keyS s)).2)) ?_
     refine V.ga (o1 rfl (sm hz517.p4 rfl)) ?_
     refine V.ga (o1 rfl (sm hz517.p4.p1 rfl)) ?_
     refine V.nil ?_
     refine V.then_n (hK528 _ _ ?_)
     refine V.flushW hz517.p8 (fun a539 hz540 up541 => ?_)
     have s0_542 := up541 0 _ (o8 rfl s0_519)
     have s1_543 := up541 1 _ (o8 rfl s1_520)
     have s2_544 : a539.eval (.tmp 2) = (.string (keyS s)) := up541 _ _ (o8 rfl s2_521)
     have s7_545 : a539.eval (.tmp 7) = (.pointer (some ⟨t5, 0, none⟩)) := up541 _ _ (o8 rfl s7_522)
     have s8_546 := up541 8 _ (o8 rfl s8_523)
     have s9_547 := up541 9 _ (o8 rfl s9_524)
     have s10_548 := up541 10 _ (o8 rfl s10_525)
     have s12_549 := up541 12 _ (o1 rfl (sm hz517.p4.p2 rfl))
     have s13_550 := up541 13 _ (sm hz517.p4.p2.p1 rfl)
     clear up541
     refine V.seq (fun K551 hK552 => ?_)
     refine V.rg ?_
     refine V.gm (s12_549) ?_
     refine V.gm (o1 rfl s8_546) ?_
     refine V.gf_ [(67, .int .i64 ((lookT 0 (actT T (at_ opR l (i : Int))) (keyS s)).1)), (68, .int .i64 ((lookT 0 T (keyS s)).1))] ⟨(o1 rfl (sm hz540 rfl)), (sm hz540.p1 rfl), trivial⟩ (.bool (((lookT 0 (actT T (at_ opR l (i : Int))) (keyS s)).1) != ((lookT 0 T (keyS s)).1))) (.bool (decide (¬ ((lookT 0 (actT T (at_ opR l (i : Int))) (keyS s)).1) = ((lookT 0 T (keyS s)).1)))) V.t_neq ?_
     refine V.gm (sm hz540.p2 rfl) ?_
     by_cases hg553 : ¬ ((lookT 0 (actT T (at_ opR l (i : Int))) (keyS s)).1) = ((lookT 0 T (keyS s)).1)
     ·
      refine V.flushL hz540.p4 (fun a554 hz555 up556 => ?_)
      have s0_557 := up556 0 _ (o4 rfl s0_542)
      have s1_558 := up556 1 _ (o4 rfl s1_543)
      have s2_559 : a554.eval (.tmp 2) = (.string (keyS s)) := up556 _ _ (o4 rfl s2_544)
      have s7_560 : a554.eval (.tmp 7) = (.pointer (some ⟨t5, 0, none⟩)) := up556 _ _ (o4 rfl s7_545)
      have s8_561 := up556 8 _ (o4 rfl s8_546)
      have s9_562 := up556 9 _ (o4 rfl s9_547)
      have s10_563 := up556 10 _ (o4 rfl s10_548)
      have s13_564 := up556 13 _ (o4 rfl s13_550)
      have s70_565 := up556 70 _ (sm hz540.p2.p1 rfl)
      clear up556
      have s70_566 := ((s70_565).trans (dt hg553))
      refine V.go_off 70 (by kernel_rfl) (s70_566) (by kernel_rfl) ?_
      refine V.go_off 70 (by kernel_rfl) (o1 rfl s70_566) (by kernel_rfl) ?_
      refine V.go_off 70 (by kernel_rfl) (o2 rfl s70_566) (by kernel_rfl) ?_
      refine V.go (V.pk_t (o2 rfl (o1 rfl s70_566)) (v := (.bool true)) evc ?_)
      refine V.nil ?_
      refine V.then_n (hK552 _ _ ?_)
      refine V.flushW hz555.p4 (fun a567 hz568 up569 => ?_)
      have s0_570 := up569 0 _ (o4 rfl s0_557)
      have s1_571 := up569 1 _ (o4 rfl s1_558)
      have s2_572 : a567.eval (.tmp 2) = (.string (keyS s)) := up569 _ _ (o4 rfl s2_559)
      have s7_573 : a567.eval (.tmp 7) = (.pointer (some ⟨t5, 0, none⟩)) := up569 _ _ (o4 rfl s7_560)
      have s8_574 := up569 8 _ (o4 rfl s8_561)
      have s9_575 := up569 9 _ (o4 rfl s9_562)
      have s10_576 := up569 10 _ (o4 rfl s10_563)
      have s74_577 := up569 74 _ (sm hz555.p2.p1 rfl)
      clear up569
      refine V.cond_t (s74_577) ?_
      refine V.seq (fun K578 hK579 => ?_)
      refine V.rg ?_
      refine V.ga evc ?_
      refine V.nil ?_
      refine V.then_n (hK579 _ _ ?_)
      refine V.ret ?_
      refine V.blk_r ?_
      refine V.then_r ?_
      refine V.then_r ?_
      refine V.blk_r ?_
      refine V.then_r ?_
      refine V.ret1 hz568.p1 rfl (sm hz568 rfl) ?_
      exact absurd (by rw [hv]) hg553
     ·
      refine V.flushL hz540.p4 (fun a580 hz581 up582 => ?_)
      have s0_583 := up582 0 _ (o4 rfl s0_542)
      have s1_584 := up582 1 _ (o4 rfl s1_543)
      have s2_585 : a580.eval (.tmp 2) = (.string (keyS s)) := up582 _ _ (o4 rfl s2_544)
      have s7_586 : a580.eval (.tmp 7) = (.pointer (some ⟨t5, 0, none⟩)) := up582 _ _ (o4 rfl s7_545)
      have s8_587 := up582 8 _ (o4 rfl s8_546)
      have s9_588 := up582 9 _ (o4 rfl s9_547)
      have s10_589 := up582 10 _ (o4 rfl s10_548)
      have s13_590 := up582 13 _ (o4 rfl s13_550)
      have s70_591 := up582 70 _ (sm hz540.p2.p1 rfl)
      clear up582
      have s70_592 := ((s70_591).trans (df hg553))
      refine V.go_on 70 (by kernel_rfl) (s70_592) (V.mv (s13_590) ?_)
      refine V.go_on 70 (by kernel_rfl) (o1 rfl s70_592) (V.mv (o1 rfl s9_588) ?_)
      refine V.go_on 70 (by kernel_rfl) (o2 rfl s70_592) (V.pvw [(71, .bool ((lookT 0 (actT T (at_ opR l (i : Int))) (keyS s)).2)), (72, .bool ((lookT 0 T (keyS s)).2))] ⟨(o1 rfl (sm hz581 rfl)), (sm hz581.p1 rfl), trivial⟩ (by kernel_rfl) (.bool (!(((lookT 0 (actT T (at_ opR l (i : Int))) (keyS s)).2) == ((lookT 0 T (keyS s)).2)))) (.bool (decide (¬ ((lookT 0 (actT T (at_ opR l (i : Int))) (keyS s)).2) = ((lookT 0 T (keyS s)).2)))) (by kernel_rfl) V.t_bneq ?_)
      refine V.go (V.pk_f (o2 rfl (o1 rfl s70_592)) (v := (.bool (decide (¬ ((lookT 0 (actT T (at_ opR l (i : Int))) (keyS s)).2) = ((lookT 0 T (keyS s)).2))))) (sm hz581.p2 rfl) ?_)
      refine V.nil ?_
      refine V.then_n (hK552 _ _ ?_)
      refine V.flushW hz581.p4 (fun a593 hz594 up595 => ?_)
      have s0_596 := up595 0 _ (o4 rfl s0_583)
      have s1_597 := up595 1 _ (o4 rfl s1_584)
      have s2_598 : a593.eval (.tmp 2) = (.string (keyS s)) := up595 _ _ (o4 rfl s2_585)
      have s7_599 : a593.eval (.tmp 7) = (.pointer (some ⟨t5, 0, none⟩)) := up595 _ _ (o4 rfl s7_586)
      have s8_600 := up595 8 _ (o4 rfl s8_587)
      have s9_601 := up595 9 _ (o4 rfl s9_588)
      have s10_602 := up595 10 _ (o4 rfl s10_589)
      have s74_603 := up595 74 _ (sm hz581.p2.p1 rfl)
      clear up595
      refine V.condP (p := ¬ ((lookT 0 (actT T (at_ opR l (i : Int))) (keyS s)).2) = ((lookT 0 T (keyS s)).2)) (s74_603) (fun ht604 => ?_) (fun ht604 => ?_)
      ·
       refine V.seq (fun K605 hK606 => ?_)
       refine V.rg ?_
       refine V.ga evc ?_
       refine V.nil ?_
       refine V.then_n (hK606 _ _ ?_)
       refine V.ret ?_
       refine V.blk_r ?_
       refine V.then_r ?_
       refine V.then_r ?_
       refine V.blk_r ?_
       refine V.then_r ?_
       refine V.ret1 hz594.p1 rfl (sm hz594 rfl) ?_
       exact absurd (by rw [hv]) ht604
      ·
       refine V.skip ?_
       refine V.blk_n ?_
       refine V.then_n (hK76 _ _ ?_)
       refine V.rg ?_
       refine V.gm (s10_602) ?_
       refine V.gf_ [(28, .int .i64 (i : Int))] ⟨(sm hz594 rfl), trivial⟩ (.int .i64 (IntKind.i64.wrap ((i : Int) + 1))) (.int .i64 ((i : Int) + 1)) (V.w_i64 (by omega) (by omega)) ?_
       refine V.ga (sm hz594.p1 rfl) ?_
       refine V.nil ?_
       refine V.then_n ?_
       refine ⟨i + 1, actT T (at_ opR l (i : Int)), by omega, ?_⟩
       refine ⟨hz594.p2.p1, ?_, ?_, ?_, ?_, ?_, ?_, ?_, (hD131_538.sub (fun k hk => by cases hk)), hF_535, hS_536, (by omega), (hgT.act (by omega) _), (look_act hgT hwf _).1⟩
       · exact Eq.trans (o2 rfl (o1 rfl s0_596)) (V.int_eq (by omega))
       · exact (o2 rfl (o1 rfl s1_597))
       · exact (o2 rfl (o1 rfl s2_598))
       · exact (o2 rfl (o1 rfl s7_599))
       · exact Eq.trans (o2 rfl (o1 rfl s8_600)) (V.int_eq (by rw [hv]))
       · exact Eq.trans (o2 rfl (o1 rfl s9_601)) (congrArg Value.bool (by rw [hv]))
       · exact Eq.trans (sm hz594.p2 rfl) (V.int_eq (by omega))
   ·
    refine V.exit ?_
    refine V.then_e ?_
    refine V.then_e ?_
    refine V.blk_hit ?_
    refine V.then_n (hK40 _ _ ?_)
    refine V.seq (fun K607 hK608 => ?_)
    refine V.rg ?_
    refine V.go (V.call 13 #[] #[] evf (args0) (Go.Proofs.enters_of Try.func13 (by kernel_rfl) rfl) (alive_any w44) ?_)
    rintro _ w610 ⟨rfl, hF609⟩
    refine ⟨_, rfl, ?_⟩
    have hsw610 := hF609.size
    have hD_611 := hD_53.fr0 hF609
    have hF_612 := hF_54.new hF609
    have hS_613 := hS_55.fr0 hF609
    refine V.ga (v := (.bool true)) (sm hz63.p2.p1 rfl) ?_
    refine V.nil ?_
    refine V.then_n (hK608 _ _ ?_)
    refine V.flushW hz63.p4.p1 (fun a614 hz615 up616 => ?_)
    have s6_617 : a614.eval (.tmp 6) = (.bool true) := up616 _ _ (sm hz63.p4 rfl)
    clear up616
    refine V.ret ?_
    refine V.ret1 hz615 rfl (s6_617) ?_
    exact ⟨rfl, hF_612⟩
  ·
   refine V.flushL hz45.p4.p1 (fun a618 hz619 up620 => ?_)
   have s0_621 := up620 0 _ (o4 rfl (o1 rfl s0_46))
   have s1_622 := up620 1 _ (o4 rfl (o1 rfl s1_47))
   have s2_623 : a618.eval (.tmp 2) = (.string (keyS s)) := up620 _ _ (o4 rfl (o1 rfl s2_48))
   have s7_624 : a618.eval (.tmp 7) = (.pointer (some ⟨t5, 0, none⟩)) := up620 _ _ (o4 rfl (o1 rfl s7_49))
   have s8_625 := up620 8 _ (o4 rfl (o1 rfl s8_50))
   have s9_626 := up620 9 _ (o4 rfl (o1 rfl s9_51))
   have s10_627 := up620 10 _ (o4 rfl (o1 rfl s10_52))
   have s24_628 := up620 24 _ (sm hz45.p4 rfl)
   clear up620
   have s24_629 := ((s24_628).trans (df hg61))
   refine V.go_off 24 (by kernel_rfl) (s24_629) (by kernel_rfl) ?_
   refine V.go_off 24 (by kernel_rfl) (o1 rfl s24_629) (by kernel_rfl) ?_
   refine V.go (V.pk_f (o2 rfl s24_629) (v := (.bool false)) evc ?_)
   refine V.nil ?_
   refine V.then_n (hK60 _ _ ?_)
   refine V.cond_f (sm hz619.p2 rfl) ?_
   refine V.exit ?_
   refine V.then_e ?_
   refine V.then_e ?_
   refine V.blk_hit ?_
   refine V.then_n (hK40 _ _ ?_)
   refine V.seq (fun K630 hK631 => ?_)
   refine V.rg ?_
   refine V.go (V.call 13 #[] #[] evf (args0) (Go.Proofs.enters_of Try.func13 (by kernel_rfl) rfl) (alive_any w44) ?_)
   rintro _ w633 ⟨rfl, hF632⟩
   refine ⟨_, rfl, ?_⟩
   have hsw633 := hF632.size
   have hD_634 := hD_53.fr0 hF632
   have hF_635 := hF_54.new hF632
   have hS_636 := hS_55.fr0 hF632
   refine V.ga (v := (.bool true)) (sm hz619.p2.p1 rfl) ?_
   refine V.nil ?_
   refine V.then_n (hK631 _ _ ?_)
   refine V.flushW hz619.p4.p1 (fun a637 hz638 up639 => ?_)
   have s6_640 : a637.eval (.tmp 6) = (.bool true) := up639 _ _ (sm hz619.p4 rfl)
   clear up639
   refine V.ret ?_
   refine V.ret1 hz638 rfl (s6_640) ?_
   exact ⟨rfl, hF_635⟩
end Go.Proofs.Ytalhmegjomfbaaa
