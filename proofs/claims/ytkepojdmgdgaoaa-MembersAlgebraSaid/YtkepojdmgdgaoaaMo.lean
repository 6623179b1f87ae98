/- Walks: Del. -/
import Derived.Test.YtkepojdmgdgaoaaProg
import Derived.Test.YtkepojdmgdgaoaaMn
namespace Go.Proofs.Ytkepojdmgdgaoaa
open Go.V Go.Base
open Go.RowKit (Below)
attribute [local irreducible] Act.put Act.eval
set_option linter.unusedVariables false
set_option linter.unusedSimpArgs false
theorem idx_none (w : World) (pf : Nat) (u : Value) (he : ∀ args w, (callFunc pf args).run Try.prog w = .ok (.enter pf args) w) : Calls Try.prog 56 #[.slice none 0 0, .func (.func pf) #[] #[u]] w (fun e w' => e = .returned (.int .i64 (-1)) ∧ Fr [] w w') :=
  (idx_any w none 0 [] (SlR.nil ..) pf u he (fun _ => false) (fun _ _ _ hx => absurd hx (by simp))).mono fun e w' ⟨r, h1, h2, h3⟩ => by
    rcases h3 with ⟨rfl, _⟩ | ⟨k, _, hk, _⟩
    · exact ⟨h1, h2⟩
    · exact absurd hk (by simp)
set_option maxHeartbeats 4000000 in
set_option maxRecDepth 20000 in
theorem df_none (w : World) (pf : Nat) (u : Value) (he : ∀ args w, (callFunc pf args).run Try.prog w = .ok (.enter pf args) w) : Calls Try.prog 44 #[.slice none 0 0, .func (.func pf) #[] #[u]] w (fun e w' => e = .returned (.slice none 0 0) ∧ Fr [] w w') := by
 have hF := Fr.refl [] w
 refine V.en 42 Try.func44 fun a h1 => ?_
 refine V.sr h1 [] 4 4 [] fun a h4 => ?_
 refine V.sg fun K5 k6 => ?_
 refine V.run h4 [] 2 1 0 [(8, .slice none 0 0), (9, .func (.func pf) #[] #[u])] fun a h7 => ?_
 refine V.cl h7 (Go.Proofs.enters_of Try.func56 (by kernel_rfl) rfl) (idx_none w pf u he) ?_
 rintro _ w9 ⟨rfl, hF8⟩
 refine ⟨_, rfl, fun a h10 => ?_⟩
 have hsw9 := hF8.size
 have hF_11 := hF.new hF8
 refine V.re h10 [] 1 0 [(5, .int .i64 (-1))] fun a h12 => k6 _ _ ?_
 refine V.seq fun K13 k14 => ?_
 refine V.sr h12 [] 11 11 [(12, .bool true)] fun a h17 => ?_
 refine V.ct h17 ?_
 refine V.sr h17 [] 13 13 [(4, .slice none 0 0)] fun a h20 => ?_
 refine V.ret ?_
 refine V.then_r ?_
 refine V.r1 h20 (.slice none 0 0) ?_
 exact ⟨rfl, hF_11⟩
theorem df_all (w : World) (base : Nat) (A : Option Addr) (c : Nat) (l : List ByteArray) (hO : OwR Rp.str NoZ w base 9 (.slice A l.length c) l) (hb : base ≤ w.heap.size) (pf : Nat) (u : Value) (he : ∀ args w, (callFunc pf args).run Try.prog w = .ok (.enter pf args) w) (p : ByteArray → Bool)
    (hp : ∀ w1, Below base w w1 → ∀ x ∈ l, Calls Try.prog pf #[.string x, u] w1 (fun e w' => e = .returned (.bool (p x)) ∧ Fr [] w1 w')) :
    Calls Try.prog 44 #[.slice A l.length c, .func (.func pf) #[] #[u]] w (fun e w' => e = .returned (.slice A (kp l p l.length).length c) ∧ OwR Rp.str NoZ w' base 9 (.slice A (kp l p l.length).length c) (kp l p l.length) ∧ Below base w w') := by
  rcases own_cases hO with ⟨rfl, rfl, hz⟩ | ⟨g, rfl⟩
  · obtain rfl := List.eq_nil_of_length_eq_zero hz
    refine (df_none w pf u he).mono fun e w' ⟨h1, h2⟩ => ⟨h1, OwR.nil .., h2.below hb (by simp)⟩
  · refine (df_any w base g c l hO pf u he p fun w1 F x hx => hp w1 (F.below hb (by simp; exact (hO.lt g rfl).1)) x hx).mono fun e w' ⟨h1, h2, h3⟩ => ⟨h1, h2, h3.below hb (by simp; exact (hO.lt g rfl).1)⟩
set_option maxHeartbeats 4000000 in
set_option maxRecDepth 20000 in
theorem del1_any (w : World) (b8 b n : Nat) (f : ByteArray → Bool) (hB : Blk w b8 [.map (some b)] 55) (hM : Mp mB w b n f) (x : ByteArray) (hx : x.size ≤ maxLen) : Calls Try.prog 45 #[.string x, .pointer (some ⟨b8, 0, none⟩)] w (fun e w' => e = .returned (.bool (f x)) ∧ Fr [] w w') := by
 have hF := Fr.refl [] w
 refine V.en 7 Try.func45 fun a h1 => ?_
 refine V.sr h1 [] 3 3 [] fun a h4 => ?_
 refine V.sr h4 [(0, .b hB 0), (1, .lk hM x hx)] 4 6 [(3, .bool (f x))] fun a h7 => ?_
 refine V.ret ?_
 refine V.r1 h7 (.bool (f x)) ?_
 exact ⟨rfl, hF⟩
set_option maxHeartbeats 4000000 in
set_option maxRecDepth 20000 in
theorem del_any (w : World) (Al : Option Addr) (cl : Nat) (l : List ByteArray) (hSl : SlR Rp.str (fun k => k < w.heap.size) w (.slice Al l.length cl) l) (Am : Option Addr) (cm : Nat) (m : List ByteArray) (hSm : SlR Rp.str (fun k => k < w.heap.size) w (.slice Am m.length cm) m) (hl : l.length ≤ 1048576) (hm : m.length ≤ 1048576) (hzl : ∀ s ∈ l, s.size ≤ maxLen) (hzm : ∀ s ∈ m, s.size ≤ maxLen) : Calls Try.prog 26 #[.slice Al l.length cl, .slice Am m.length cm] w (fun e w' => ∃ A c, e = .returned (.tuple #[.slice A (delS l m).length c, .int .i64 (delN l m), .int .i64 (chkN l)]) ∧ OwR Rp.str NoZ w' w.heap.size 9 (.slice A (delS l m).length c) (delS l m) ∧ Fr [] w w') := by
 have hF := Fr.refl [] w
 refine V.en 38 Try.func26 fun a h1 => ?_
 refine V.sr h1 [] 4 6 [] fun a h4 => ?_
 refine V.seq fun K5 k6 => ?_
 refine V.sg fun K7 k8 => ?_
 refine V.run h4 [] 1 1 0 [(12, .slice Al l.length cl)] fun a h9 => ?_
 refine V.go (V.mk [(12, .slice Al l.length cl)] ⟨h9.e, trivial⟩ (by kernel_rfl) [.slice Al l.length cl] 22 (fun b => .slice (some ⟨b, 0, none⟩) 1 1) (by kernel_rfl) ?_)
 intro w11 b10 heb10 hB12 hF13 hsb10
 have hF_14 := hF.new hF13
 have hSl_15 := hSl.fr0 hF13
 have hSm_16 := hSm.fr0 hF13
 refine V.pt h9 fun a h17 => ?_
 refine V.cl h17 (Go.Proofs.enters_of Try.func38 (by kernel_rfl) rfl) (checks_any w11 _ _ [l] (sl_one hB12 hSl_15).old) ?_
 rintro _ w20 ⟨rfl, hF18⟩
 refine ⟨_, rfl, fun a h21 => ?_⟩
 have hsw20 := hF18.size
 have hF_22 := hF_14.new hF18
 have hSl_23 := hSl_15.fr0 hF18
 have hSm_24 := hSm_16.fr0 hF18
 have hB12_25 := hB12.fr0 hF18
 have hq19 := chkL_one l
 refine V.re h21 [] 1 0 [(7, .int .i64 (chkL [l]))] fun a h26 => k8 _ _ ?_
 refine V.sr h26 [(1, .ne (chkL [l]) 0)] 15 15 [(16, .bool (decide (¬ (chkL [l]) = 0)))] fun a h29 => ?_
 refine V.cp h29 (¬ (chkL [l]) = 0) (fun ht30 => ?_) (fun ht30 => ?_)
 ·
  refine V.sr h29 [] 17 17 [(4, .slice none 0 0), (5, .int .i64 0), (6, .int .i64 (chkL [l]))] fun a h33 => ?_
  refine V.ret ?_
  refine V.then_r ?_
  refine V.r3 h33 (.slice none 0 0) (.int .i64 0) (.int .i64 (chkL [l])) ?_
  rcases chkN_cases l with ⟨hz0, hzi⟩ | ⟨hz0, hzi⟩
  · exfalso; omega
  · rw [show delS l m = [] from if_neg hzi, show delN l m = 0 from if_neg hzi]; exact ⟨none, 0, congrArg (fun e => Ending.returned (.tuple #[.slice none 0 0, .int .i64 0, .int .i64 e])) (by omega), OwR.nil .., hF_22⟩
 ·
  refine V.skip ?_
  refine V.then_n (k6 _ _ ?_)
  refine V.sg fun K34 k35 => ?_
  refine V.go (V.mkM mB ?_)
  intro w37 b36 heb36 hM38 hF39 hsb36
  have hF_40 := hF_22.new hF39
  have hSl_41 := hSl_23.fr0 hF39
  have hSm_42 := hSm_24.fr0 hF39
  have hB12_43 := hB12_25.fr0 hF39
  refine V.pt h29 fun a h44 => ?_
  refine V.go (V.mk [] trivial (by kernel_rfl) [.map none] 55 (fun b => .pointer (some ⟨b, 0, none⟩)) (by kernel_rfl) ?_)
  intro w46 b45 heb45 hB47 hF48 hsb45
  have hF_49 := hF_40.new hF48
  have hSl_50 := hSl_41.fr0 hF48
  have hSm_51 := hSm_42.fr0 hF48
  have hB12_52 := hB12_43.fr0 hF48
  have hM38_53 := hM38.fr0 hF48
  refine V.pt h44 fun a h54 => ?_
  refine V.go (V.stn b45 0 (.map (some b36)) [.map (some b36)] h54.e h54.e rfl rfl (by kernel_rfl) hB47 (by simp) [.map (some b36)] rfl ?_)
  intro w55 hB56 hF57 hsw55
  have hF_58 := hF_49.own hF57 (by simp <;> omega)
  have hSl_59 := hSl_50.fr hF57 (by simp <;> omega)
  have hSm_60 := hSm_51.fr hF57 (by simp <;> omega)
  have hB12_61 := hB12_52.fr1 hF57 (by omega)
  have hM38_62 := hM38_53.fr1 hF57 (by omega)
  refine V.nt (k35 _ _ ?_)
  refine V.seq fun K63 k64 => ?_
  refine V.sr h54 [] 1 0 [(19, .slice Am m.length cm), (20, .int .i64 ((m.length : Nat) : Int)), (21, .int .i64 0)] fun a h67 => ?_
  refine V.block ?_
  refine V.loop1 (fun (j : Nat) a_ w_ => En 38 [] a_ [(0, .slice Al l.length cl), (8, .pointer (some ⟨b45, 0, none⟩)), (19, .slice Am m.length cm), (20, .int .i64 ((m.length : Nat) : Int)), (21, .int .i64 (j : Int))] ∧ Mp mB w_ b36 j (memB m j) ∧ Fr [] w w_ ∧ SlR Rp.str (fun k => k < w.heap.size) w_ (.slice Al l.length cl) l ∧ SlR Rp.str (fun k => k < w.heap.size) w_ (.slice Am m.length cm) m ∧ Blk w_ b10 [.slice Al l.length cl] 22 ∧ Blk w_ b45 [.map (some b36)] 55 ∧ (j ≤ m.length)) (fun (j : Nat) => m.length - j) 0 ?_ ?_
  ·
   refine ⟨(h67.eq 21 (v := (.int .i64 0)) (u := (.int .i64 (0 : Int))) (V.int_eq (by omega))).only _, (hM38_62.cg (memB_0 m)), hF_58, hSl_59, hSm_60, hB12_61, hB56, (by omega)⟩
  ·
   rintro j a68 w69 ⟨h70, hM_71, hF_72, hSl_73, hSm_74, hB12_75, hB56_76, hj⟩
   have hfs77 := hF_72.size
   have hlt78 := hB12_75.lt
   have hlt79 := hB56_76.lt
   refine V.sr h70 [] 1 0 [(22, .bool (decide ((j : Int) < ((m.length : Nat) : Int))))] fun a h82 => ?_
   refine V.seq fun K83 k84 => ?_
   refine V.cp h82 ((j : Int) < ((m.length : Nat) : Int)) (fun ht85 => ?_) (fun ht85 => ?_)
   ·
    refine V.skip ?_
    refine V.then_n (k84 _ _ ?_)
    refine V.seq fun K86 k87 => ?_
    refine V.block ?_
    obtain ⟨g90, o91, hA92, hA92l, hA92z⟩ := hSm_74.addr (by omega)
    obtain ⟨cs93, hok94, hE95⟩ := hSm_74.els hA92 (j : Int) (by omega) (by omega)
    obtain rfl : cs93 = [.string (at_ Rp.str m (j : Int))] := hok94
    refine V.sr h82 [(0, .ix g90 o91 m.length cm .i64 (j : Int) 1 hA92), (0, .l ⟨g90, o91 + (j : Int).toNat * 1, none⟩ (.string (at_ Rp.str m (j : Int))) (hE95.at 0 rfl))] 23 24 [(10, .string (at_ Rp.str m (j : Int)))] fun a h96 => ?_
    refine V.rg ?_
    refine V.run h96 [(0, .b hB56_76 0)] 2 1 0 [(25, .map (some b36)), (26, .string (at_ Rp.str m (j : Int)))] fun a h100 => ?_
    refine V.go (V.upM (E := mB) hM_71 (at_ Rp.str m (j : Int)) true (h100.e (v := (.map (some b36)))) (h100.e (v := (.string (at_ Rp.str m (j : Int))))) evc (by kernel_rfl) (hzm _ (at_mem (by omega))) trivial (by unfold maxLen; omega) ?_)
    intro w97 hM98 hF99
    have hsw97 := hF99.size
    have hF_101 := hF_72.own hF99 (by simp <;> omega)
    have hSl_102 := hSl_73.fr hF99 (by simp <;> omega)
    have hSm_103 := hSm_74.fr hF99 (by simp <;> omega)
    have hB12_104 := hB12_75.fr1 hF99 (by omega)
    have hB56_105 := hB56_76.fr1 hF99 (by omega)
    have hE95_106 := hE95.fr hF99 (by simp <;> omega)
    refine V.nil ?_
    refine V.blk_n ?_
    refine V.then_n (k87 _ _ ?_)
    refine V.rr h100 [(0, .i ((j : Int) + 1))] 27 27 [(21, .int .i64 ((j : Int) + 1))] fun a h107 => ?_
    refine V.then_n ?_
    refine ⟨j + 1, by omega, ?_⟩
    refine ⟨(h107.eq 21 (v := (.int .i64 ((j : Int) + 1))) (u := (.int .i64 ((j + 1) : Int))) (V.int_eq (by omega))).only _, (hM98.cg (memB_succ (by omega))), hF_101, hSl_102, hSm_103, hB12_104, hB56_105, (by omega)⟩
   ·
    refine V.exit ?_
    refine V.then_e ?_
    refine V.then_e ?_
    refine V.blk_hit ?_
    refine V.then_n (k64 _ _ ?_)
    refine V.seq fun K108 k109 => ?_
    have hfz := hF_72.size
    refine V.rg ?_
    refine V.run h82 [] 1 1 0 [(28, .slice Al l.length cl)] fun a h110 => ?_
    refine V.cl h110 (Go.Proofs.enters_of Try.func35 (by kernel_rfl) rfl) (clone_any w69 (fun k => k < w.heap.size) Al cl l hSl_73 (by omega)) ?_
    rintro _ w115 ⟨A111, c112, rfl, hO113, hF114⟩
    refine ⟨_, rfl, fun a h116 => ?_⟩
    have hsw115 := hF114.size
    have hM_117 := hM_71.fr0 hF114
    have hF_118 := hF_72.new hF114
    have hSl_119 := hSl_73.fr0 hF114
    have hSm_120 := hSm_74.fr0 hF114
    have hB12_121 := hB12_75.fr0 hF114
    have hB56_122 := hB56_76.fr0 hF114
    have hO113q := hO113.rebase (base' := w.heap.size) (by omega)
    refine V.run h116 [] 1 1 0 [(30, .func (.func 45) #[] #[.pointer (some ⟨b45, 0, none⟩)])] fun a h123 => ?_
    refine V.cl h123 (Go.Proofs.enters_of Try.func44 (by kernel_rfl) rfl) (df_all w115 _ A111 c112 l hO113 (by omega) 45 (.pointer (some ⟨b45, 0, none⟩)) (Go.Proofs.enters_of Try.func45 (by kernel_rfl) rfl) (memB m j) (fun w1 F x hx => del1_any w1 b45 b36 j (memB m j) (hB56_122.bel F (by omega)) (hM_117.bel F (by omega)) x (hzl x hx))) ?_
    rintro _ w126 ⟨rfl, hO125, hF124⟩
    refine ⟨_, rfl, fun a h127 => ?_⟩
    have hsw126 := hF124.size
    have hF_128 := Fr.bel hF_118 hF124 (by omega)
    have hO125q := hO125.rebase (base' := w.heap.size) (by omega)
    refine V.re h127 [] 1 0 [(11, .slice A111 ((kp l (memB m j) l.length).length) c112)] fun a h129 => k109 _ _ ?_
    refine V.seq fun K130 k131 => ?_
    have hkl := kp_le l (memB m j) l.length
    refine V.rr h129 [(5, .i (((l.length : Nat) : Int) - (((kp l (memB m j) l.length).length : Nat) : Int)))] 32 37 [(4, .slice A111 ((kp l (memB m j) l.length).length) c112), (5, .int .i64 (((l.length : Nat) : Int) - (((kp l (memB m j) l.length).length : Nat) : Int))), (6, .int .i64 0)] fun a h132 => ?_
    refine V.then_n (k131 _ _ ?_)
    refine V.ret ?_
    refine V.r3 h132 (.slice A111 ((kp l (memB m j) l.length).length) c112) (.int .i64 (((l.length : Nat) : Int) - (((kp l (memB m j) l.length).length : Nat) : Int))) (.int .i64 0) ?_
    rcases chkN_cases l with ⟨hz0, hzi⟩ | ⟨hz0, hzi⟩
    · have hq := kp_memB (l := l) (m := m) (j := j) (by omega)
      rw [hq] at hO125q ⊢
      rw [show delS l m = _ from if_pos hzi, show delN l m = _ from if_pos hzi, hz0]; exact ⟨_, _, rfl, hO125q.rebase (base' := w.heap.size) (by omega), hF_128⟩
    · exfalso; omega
end Go.Proofs.Ytkepojdmgdgaoaa
