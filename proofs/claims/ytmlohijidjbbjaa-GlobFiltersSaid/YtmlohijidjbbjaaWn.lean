/- Walks: the Filters, GlobFilters. -/
import Derived.Test.YtmlohijidjbbjaaProg
import Derived.Test.YtmlohijidjbbjaaWl
namespace Go.Proofs.Ytmlohijidjbbjaa
open Go.V Go.Base
attribute [local irreducible] Act.put Act.eval
set_option linter.unusedVariables false
set_option linter.unusedSimpArgs false
theorem info9 : (Try.prog.info? 9).map (fun i => (i.zero, i.size, i.bytes)) = some (some (.string ⟨#[]⟩), 1, 16) := by kernel_rfl
theorem take_at {α : Type} (R : Rp α) {l : List α} {k : Nat} (h : k < l.length) : l.take (k + 1) = l.take k ++ [at_ R l (k : Int)] := by
  rw [List.take_add_one, List.getElem?_eq_getElem h]
  have := at_some R (xs := l) (i := (k : Int)) (by omega) (by omega)
  rw [Int.toNat_natCast, List.getElem?_eq_getElem h] at this
  injection this with this
  rw [← this]; rfl
set_option maxHeartbeats 4000000 in
set_option maxRecDepth 20000 in
theorem filter_any (w : World) (p : ByteArray) (A0 : Option Addr) (c0 : Nat) (l : List ByteArray) (hl : l.length ≤ 1048576) (hS : SlR Rp.str (fun b => b < w.heap.size) w (.slice A0 l.length c0) l) : Calls Try.prog 15 #[.string p, .slice A0 l.length c0] w (fun e w' => ∃ A c, e = .returned (.slice A (l.filter (fun s => rmat p s false)).length c) ∧ SlR Rp.str (fun b => w.heap.size ≤ b) w' (.slice A (l.filter (fun s => rmat p s false)).length c) (l.filter (fun s => rmat p s false)) ∧ Fr [] w w') := by
  have hF := Fr.refl [] w
  refine V.enter 23 Try.func15 rfl rfl ?_
  intro a hz ha
  have s0 : a.eval (.tmp 0) = (.string p) := ha 0 _ rfl
  have s1 : a.eval (.tmp 1) = (.slice A0 l.length c0) := ha 1 _ rfl
  clear ha
  refine V.seq (fun K1 hK2 => ?_)
  refine V.region (by kernel_rfl) ?_
  refine V.go (V.asg (v := (.slice none 0 0)) evc ?_)
  refine V.nil ?_
  refine V.then_n (hK2 _ _ ?_)
  refine V.seq (fun K3 hK4 => ?_)
  refine V.region (by kernel_rfl) ?_
  refine V.go (V.asg (v := (.slice none 0 0)) evc ?_)
  refine V.nil ?_
  refine V.then_n (hK4 _ _ ?_)
  refine V.seq (fun K5 hK6 => ?_)
  refine V.seq (fun K7 hK8 => ?_)
  refine V.region (by kernel_rfl) ?_
  refine V.go (V.mv (v := (.slice A0 l.length c0)) (at_other rfl _ (at_other rfl _ (s1))) ?_)
  refine V.go (V.pv [(8, .slice A0 l.length c0)] ⟨(at_same ((hz.put _ _).put _ _) rfl _), trivial⟩ (by kernel_rfl) (.int .i64 ((l.length : Nat) : Int)) (by kernel_rfl) ?_)
  refine V.go (V.mv (v := (.int .i64 0)) evc ?_)
  refine V.nil ?_
  refine V.then_n (hK8 _ _ ?_)
  refine V.flushW (((((hz.put _ _).put _ _).put _ _).put _ _).put _ _) (fun a9 hz10 up11 => ?_)
  have s0_12 : a9.eval (.tmp 0) = (.string p) := up11 _ _ (at_other rfl _ (at_other rfl _ (at_other rfl _ (at_other rfl _ (at_other rfl _ (s0))))))
  have s5_13 : a9.eval (.tmp 5) = (.slice none 0 0) := up11 _ _ (at_other rfl _ (at_other rfl _ (at_other rfl _ (at_same (hz.put _ _) rfl _))))
  have s8_14 : a9.eval (.tmp 8) = (.slice A0 l.length c0) := up11 _ _ (at_other rfl _ (at_other rfl _ (at_same ((hz.put _ _).put _ _) rfl _)))
  have s9_15 : a9.eval (.tmp 9) = (.int .i64 ((l.length : Nat) : Int)) := up11 _ _ (at_other rfl _ (at_same (((hz.put _ _).put _ _).put _ _) rfl _))
  have s10_16 : a9.eval (.tmp 10) = (.int .i64 0) := up11 _ _ (at_same ((((hz.put _ _).put _ _).put _ _).put _ _) rfl _)
  clear up11
  refine V.block ?_
  have hO0 := OwR.nil Rp.str NoZ w w.heap.size 9
  refine V.loop4 (fun (k : Nat) (acc : List ByteArray) (A : Option Addr) (c : Nat) a_ w_ => Sz 23 a_ ∧ a_.eval (.tmp 0) = (.string p) ∧ a_.eval (.tmp 5) = (.slice A acc.length c) ∧ a_.eval (.tmp 8) = (.slice A0 l.length c0) ∧ a_.eval (.tmp 9) = (.int .i64 ((l.length : Nat) : Int)) ∧ a_.eval (.tmp 10) = (.int .i64 (k : Int)) ∧ OwR Rp.str NoZ w_ w.heap.size 9 (.slice A acc.length c) acc ∧ Fr [] w w_ ∧ SlR Rp.str (fun b => b < w.heap.size) w_ (.slice A0 l.length c0) l ∧ (k ≤ l.length) ∧ (acc.length ≤ k) ∧ ((l.take k).filter (fun s => rmat p s false) = acc)) (fun (k : Nat) (acc : List ByteArray) (A : Option Addr) (c : Nat) => l.length - k) 0 ([]) none 0 ?_ ?_
  ·
    refine ⟨hz10, ?_, ?_, ?_, ?_, ?_, hO0, hF, hS, (by omega), (by simp), (by simp)⟩
    · exact (s0_12)
    · exact Eq.trans (s5_13) (V.sl_eq (by simp))
    · exact (s8_14)
    · exact Eq.trans (s9_15) (V.int_eq (by omega))
    · exact Eq.trans (s10_16) (V.int_eq (by omega))
  ·
    rintro k acc A c a17 w18 ⟨hz19, s0_20, s5_21, s8_22, s9_23, s10_24, hO_25, hF_26, hS_27, hk, hacc, hf⟩
    have hfs28 := hF_26.size
    refine V.seq (fun K29 hK30 => ?_)
    refine V.region (by kernel_rfl) ?_
    refine V.go (V.pv [(10, .int .i64 (k : Int)), (9, .int .i64 ((l.length : Nat) : Int))] ⟨(s10_24), (s9_23), trivial⟩ (by kernel_rfl) (.bool (decide ((k : Int) < ((l.length : Nat) : Int)))) (by kernel_rfl) ?_)
    refine V.nil ?_
    refine V.then_n (hK30 _ _ ?_)
    refine V.seq (fun K31 hK32 => ?_)
    refine V.condP (p := (k : Int) < ((l.length : Nat) : Int)) (at_same hz19 rfl _) (fun ht33 => ?_) (fun ht33 => ?_)
    ·
      refine V.skip ?_
      refine V.then_n (hK32 _ _ ?_)
      refine V.seq (fun K34 hK35 => ?_)
      refine V.block ?_
      refine V.seq (fun K36 hK37 => ?_)
      refine V.region (by kernel_rfl) ?_
      obtain ⟨g38, o39, hA40, hA40l, hA40z⟩ := hS_27.addr (by omega)
      refine V.go (V.ixa g38 o39 l.length c0 .i64 (k : Int) 1 ((at_other rfl _ (s8_22)).trans (by rw [hA40])) (at_other rfl _ (s10_24)) (by omega) (by omega) (by kernel_rfl) ?_)
      obtain ⟨cs41, hok42, hE43⟩ := hS_27.els hA40 (k : Int) (by omega) (by omega)
      obtain rfl : cs41 = [.string (at_ Rp.str l (k : Int))] := hok42
      refine V.go (V.ld ⟨g38, o39 + (k : Int).toNat * 1, none⟩ (.string (at_ Rp.str l (k : Int))) (at_same (hz19.put _ _) rfl _) (by kernel_rfl) (hE43.at 0 rfl) ?_)
      refine V.go (V.asg (v := (.string (at_ Rp.str l (k : Int)))) (at_same ((hz19.put _ _).put _ _) rfl _) ?_)
      refine V.nil ?_
      refine V.then_n (hK37 _ _ ?_)
      refine V.flushW ((((hz19.put _ _).put _ _).put _ _).put _ _) (fun a44 hz45 up46 => ?_)
      have s0_47 : a44.eval (.tmp 0) = (.string p) := up46 _ _ (at_other rfl _ (at_other rfl _ (at_other rfl _ (at_other rfl _ (s0_20)))))
      have s5_48 : a44.eval (.tmp 5) = (.slice A acc.length c) := up46 _ _ (at_other rfl _ (at_other rfl _ (at_other rfl _ (at_other rfl _ (s5_21)))))
      have s7_49 : a44.eval (.tmp 7) = (.string (at_ Rp.str l (k : Int))) := up46 _ _ (at_same (((hz19.put _ _).put _ _).put _ _) rfl _)
      have s8_50 : a44.eval (.tmp 8) = (.slice A0 l.length c0) := up46 _ _ (at_other rfl _ (at_other rfl _ (at_other rfl _ (at_other rfl _ (s8_22)))))
      have s9_51 : a44.eval (.tmp 9) = (.int .i64 ((l.length : Nat) : Int)) := up46 _ _ (at_other rfl _ (at_other rfl _ (at_other rfl _ (at_other rfl _ (s9_23)))))
      have s10_52 : a44.eval (.tmp 10) = (.int .i64 (k : Int)) := up46 _ _ (at_other rfl _ (at_other rfl _ (at_other rfl _ (at_other rfl _ (s10_24)))))
      clear up46
      refine V.seq (fun K53 hK54 => ?_)
      refine V.region (by kernel_rfl) ?_
      refine V.go (V.mv (v := (.string p)) (s0_47) ?_)
      refine V.go (V.mv (v := (.string (at_ Rp.str l (k : Int)))) (at_other rfl _ (s7_49)) ?_)
      refine V.go (V.call 10 #[] #[.string p, .string (at_ Rp.str l (k : Int)), .bool false] evf (args3 (at_other rfl _ (at_same hz45 rfl _)) (at_same (hz45.put _ _) rfl _) evc) (Go.Proofs.enters_of Try.func10 (by kernel_rfl) rfl) (match_any w18 p (at_ Rp.str l (k : Int)) false) ?_)
      rintro _ w56 ⟨rfl, hF55⟩
      refine ⟨_, rfl, ?_⟩
      have hsw56 := hF55.size
      have hO_57 := hO_25.fr0 hF55
      have hF_58 := hF_26.new hF55
      have hS_59 := hS_27.fr0 hF55
      have hE43_60 := hE43.fr0 hF55
      refine V.nil ?_
      refine V.then_n (hK54 _ _ ?_)
      refine V.cond (at_same ((hz45.put _ _).put _ _) rfl _) (fun ht61 => ?_) (fun ht61q => ?_)
      ·
        refine V.region (by kernel_rfl) ?_
        refine V.go (V.mv (v := (.slice A acc.length c)) (at_other rfl _ (at_other rfl _ (at_other rfl _ (s5_48)))) ?_)
        refine V.go (V.mv (v := (.string (at_ Rp.str l (k : Int)))) (at_other rfl _ (at_other rfl _ (at_other rfl _ (at_other rfl _ (s7_49))))) ?_)
        refine V.go (V.mk [(18, .string (at_ Rp.str l (k : Int)))] ⟨(at_same ((((hz45.put _ _).put _ _).put _ _).put _ _) rfl _), trivial⟩ (by kernel_rfl) [.string (at_ Rp.str l (k : Int))] 9 (fun b => .slice (some ⟨b, 0, none⟩) 1 1) (by kernel_rfl) ?_)
        intro w63 b62 heb62 hB64 hF65 hsb62
        have hO_66 := hO_57.fr0 hF65
        have hF_67 := hF_58.new hF65
        have hS_68 := hS_59.fr0 hF65
        have hE43_69 := hE43_60.fr0 hF65
        refine V.go (V.app (R := Rp.str) (ys := ([(at_ Rp.str l (k : Int))])) (news := [.string (at_ Rp.str l (k : Int))]) (at_other rfl _ (at_other rfl _ (at_same (((hz45.put _ _).put _ _).put _ _) rfl _))) ⟨b62, 0, none⟩ 1 1 (at_same (((((hz45.put _ _).put _ _).put _ _).put _ _).put _ _) rfl _) (by kernel_rfl) (info9) (by kernel_rfl) (by decide) hO_66 rfl ⟨[.string (at_ Rp.str l (k : Int))], [], rfl, rfl, rfl⟩ (blk_cells hB64 0 _ rfl) (by omega) (by decide) (by omega) ?_)
        intro A70 c71 w72 hO73z hF74 hatw72
        have hsw72 := hF74.size
        have hF_75 := hF_67.own hF74 (own_ge hO_66 (by omega))
        have hS_76 := hS_68.fr hF74 (by intro b hb hz; have := own_ge hO_66 (Nat.le_refl _) b hb; omega)
        have hE43_77 := hE43_69.fr hF74 (by first | exact own_notin hO_66 (by omega) | exact own_notin2 hO_25 (by omega))
        have hO73 := hO73z.zone (Z' := NoZ) (fun _ _ q => q.1) (fun _ _ q => q)
        refine V.go (V.asg (v := (.slice A70 (acc.length + 1) c71)) (at_same ((((((hz45.put _ _).put _ _).put _ _).put _ _).put _ _).put _ _) rfl _) ?_)
        refine V.nil ?_
        refine V.blk_n ?_
        refine V.then_n (hK35 _ _ ?_)
        refine V.flushW ((((((((hz45.put _ _).put _ _).put _ _).put _ _).put _ _).put _ _).put _ _).put _ _) (fun a78 hz79 up80 => ?_)
        have s0_81 : a78.eval (.tmp 0) = (.string p) := up80 _ _ (at_other rfl _ (at_other rfl _ (at_other rfl _ (at_other rfl _ (at_other rfl _ (at_other rfl _ (at_other rfl _ (at_other rfl _ (s0_47)))))))))
        have s5_82 : a78.eval (.tmp 5) = (.slice A70 (acc.length + 1) c71) := up80 _ _ (at_same (((((((hz45.put _ _).put _ _).put _ _).put _ _).put _ _).put _ _).put _ _) rfl _)
        have s8_83 : a78.eval (.tmp 8) = (.slice A0 l.length c0) := up80 _ _ (at_other rfl _ (at_other rfl _ (at_other rfl _ (at_other rfl _ (at_other rfl _ (at_other rfl _ (at_other rfl _ (at_other rfl _ (s8_50)))))))))
        have s9_84 : a78.eval (.tmp 9) = (.int .i64 ((l.length : Nat) : Int)) := up80 _ _ (at_other rfl _ (at_other rfl _ (at_other rfl _ (at_other rfl _ (at_other rfl _ (at_other rfl _ (at_other rfl _ (at_other rfl _ (s9_51)))))))))
        have s10_85 : a78.eval (.tmp 10) = (.int .i64 (k : Int)) := up80 _ _ (at_other rfl _ (at_other rfl _ (at_other rfl _ (at_other rfl _ (at_other rfl _ (at_other rfl _ (at_other rfl _ (at_other rfl _ (s10_52)))))))))
        clear up80
        refine V.region (by kernel_rfl) ?_
        refine V.go (V.pvw [(10, .int .i64 (k : Int))] ⟨(s10_85), trivial⟩ (by kernel_rfl) (.int .i64 (IntKind.i64.wrap ((k : Int) + 1))) (.int .i64 ((k : Int) + 1)) (by kernel_rfl) (V.w_i64 (by omega) (by omega)) ?_)
        refine V.go (V.mv (v := (.int .i64 ((k : Int) + 1))) (at_same hz79 rfl _) ?_)
        refine V.nil ?_
        refine V.then_n ?_
        refine ⟨k + 1, acc ++ [(at_ Rp.str l (k : Int))], A70, c71, by omega, ?_⟩
        refine ⟨((hz79.put _ _).put _ _), ?_, ?_, ?_, ?_, ?_, (by simpa using hO73), hF_75, hS_76, (by omega), (by first | omega | (simp; omega)), (by rw [take_at Rp.str (by omega), List.filter_append, hf, List.filter_cons_of_pos (by simpa using ht61)]; rfl)⟩
        · exact (at_other rfl _ (at_other rfl _ (s0_81)))
        · exact Eq.trans (at_other rfl _ (at_other rfl _ (s5_82))) (V.sl_eq (by simp))
        · exact (at_other rfl _ (at_other rfl _ (s8_83)))
        · exact Eq.trans (at_other rfl _ (at_other rfl _ (s9_84))) (V.int_eq (by omega))
        · exact Eq.trans (at_same (hz79.put _ _) rfl _) (V.int_eq (by omega))
      ·
        have ht61 : ¬ ((rmat p (at_ Rp.str l (k : Int)) false) = true) := by rw [ht61q]; simp
        refine V.skip ?_
        refine V.blk_n ?_
        refine V.then_n (hK35 _ _ ?_)
        refine V.region (by kernel_rfl) ?_
        refine V.go (V.pvw [(10, .int .i64 (k : Int))] ⟨(at_other rfl _ (at_other rfl _ (at_other rfl _ (s10_52)))), trivial⟩ (by kernel_rfl) (.int .i64 (IntKind.i64.wrap ((k : Int) + 1))) (.int .i64 ((k : Int) + 1)) (by kernel_rfl) (V.w_i64 (by omega) (by omega)) ?_)
        refine V.go (V.mv (v := (.int .i64 ((k : Int) + 1))) (at_same (((hz45.put _ _).put _ _).put _ _) rfl _) ?_)
        refine V.nil ?_
        refine V.then_n ?_
        refine ⟨k + 1, acc, A, c, by omega, ?_⟩
        refine ⟨(((((hz45.put _ _).put _ _).put _ _).put _ _).put _ _), ?_, ?_, ?_, ?_, ?_, (by simpa using hO_57), hF_58, hS_59, (by omega), (by first | omega | (simp; omega)), (by rw [take_at Rp.str (by omega), List.filter_append, hf, List.filter_cons_of_neg (by simpa using ht61)]; simp)⟩
        · exact (at_other rfl _ (at_other rfl _ (at_other rfl _ (at_other rfl _ (at_other rfl _ (s0_47))))))
        · exact (at_other rfl _ (at_other rfl _ (at_other rfl _ (at_other rfl _ (at_other rfl _ (s5_48))))))
        · exact (at_other rfl _ (at_other rfl _ (at_other rfl _ (at_other rfl _ (at_other rfl _ (s8_50))))))
        · exact Eq.trans (at_other rfl _ (at_other rfl _ (at_other rfl _ (at_other rfl _ (at_other rfl _ (s9_51)))))) (V.int_eq (by omega))
        · exact Eq.trans (at_same ((((hz45.put _ _).put _ _).put _ _).put _ _) rfl _) (V.int_eq (by omega))
    ·
      refine V.exit ?_
      refine V.then_e ?_
      refine V.then_e ?_
      refine V.blk_hit ?_
      refine V.then_n (hK6 _ _ ?_)
      refine V.seq (fun K86 hK87 => ?_)
      refine V.region (by kernel_rfl) ?_
      refine V.go (V.mv (v := (.slice A acc.length c)) (at_other rfl _ (s5_21)) ?_)
      refine V.go (V.asg (v := (.slice A acc.length c)) (at_same (hz19.put _ _) rfl _) ?_)
      refine V.nil ?_
      refine V.then_n (hK87 _ _ ?_)
      refine V.ret ?_
      refine V.ret1 (((hz19.put _ _).put _ _).put _ _) rfl (at_same ((hz19.put _ _).put _ _) rfl _) ?_
      rw [List.take_of_length_le (by omega)] at hf
      subst hf
      exact ⟨A, c, rfl, hO_25.read (fun _ _ h => h.elim) (fun b hb _ => hb), hF_26⟩
set_option maxHeartbeats 4000000 in
set_option maxRecDepth 20000 in
theorem rfilter_any (w : World) (p : ByteArray) (A0 : Option Addr) (c0 : Nat) (l : List ByteArray) (hl : l.length ≤ 1048576) (hS : SlR Rp.str (fun b => b < w.heap.size) w (.slice A0 l.length c0) l) : Calls Try.prog 16 #[.string p, .slice A0 l.length c0] w (fun e w' => ∃ A c, e = .returned (.slice A (l.filter (fun s => rmat p s false)).length c) ∧ SlR Rp.str (fun b => w.heap.size ≤ b) w' (.slice A (l.filter (fun s => rmat p s false)).length c) (l.filter (fun s => rmat p s false)) ∧ Fr [] w w') := by
  have hF := Fr.refl [] w
  refine V.enter 27 Try.func16 rfl rfl ?_
  intro a hz ha
  have s0 : a.eval (.tmp 0) = (.string p) := ha 0 _ rfl
  have s1 : a.eval (.tmp 1) = (.slice A0 l.length c0) := ha 1 _ rfl
  clear ha
  refine V.seq (fun K1 hK2 => ?_)
  refine V.region (by kernel_rfl) ?_
  refine V.go (V.asg (v := (.slice none 0 0)) evc ?_)
  refine V.nil ?_
  refine V.then_n (hK2 _ _ ?_)
  refine V.seq (fun K3 hK4 => ?_)
  refine V.region (by kernel_rfl) ?_
  refine V.go (V.asg (v := (.slice none 0 0)) evc ?_)
  refine V.nil ?_
  refine V.then_n (hK4 _ _ ?_)
  refine V.seq (fun K5 hK6 => ?_)
  refine V.seq (fun K7 hK8 => ?_)
  refine V.region (by kernel_rfl) ?_
  refine V.go (V.asg (v := (.int .i64 0)) evc ?_)
  refine V.nil ?_
  refine V.then_n (hK8 _ _ ?_)
  refine V.block ?_
  have hO0 := OwR.nil Rp.str NoZ w w.heap.size 9
  refine V.loop4 (fun (k : Nat) (acc : List ByteArray) (A : Option Addr) (c : Nat) a_ w_ => Sz 27 a_ ∧ a_.eval (.tmp 0) = (.string p) ∧ a_.eval (.tmp 1) = (.slice A0 l.length c0) ∧ a_.eval (.tmp 5) = (.slice A acc.length c) ∧ a_.eval (.tmp 6) = (.int .i64 (k : Int)) ∧ OwR Rp.str NoZ w_ w.heap.size 9 (.slice A acc.length c) acc ∧ Fr [] w w_ ∧ SlR Rp.str (fun b => b < w.heap.size) w_ (.slice A0 l.length c0) l ∧ (k ≤ l.length) ∧ (acc.length ≤ k) ∧ ((l.take k).filter (fun s => rmat p s false) = acc)) (fun (k : Nat) (acc : List ByteArray) (A : Option Addr) (c : Nat) => l.length - k) 0 ([]) none 0 ?_ ?_
  ·
    refine ⟨(((hz.put _ _).put _ _).put _ _), ?_, ?_, ?_, ?_, hO0, hF, hS, (by omega), (by simp), (by simp)⟩
    · exact (at_other rfl _ (at_other rfl _ (at_other rfl _ (s0))))
    · exact (at_other rfl _ (at_other rfl _ (at_other rfl _ (s1))))
    · exact Eq.trans (at_other rfl _ (at_same (hz.put _ _) rfl _)) (V.sl_eq (by simp))
    · exact Eq.trans (at_same ((hz.put _ _).put _ _) rfl _) (V.int_eq (by omega))
  ·
    rintro k acc A c a9 w10 ⟨hz11, s0_12, s1_13, s5_14, s6_15, hO_16, hF_17, hS_18, hk, hacc, hf⟩
    have hfs19 := hF_17.size
    refine V.seq (fun K20 hK21 => ?_)
    refine V.seq (fun K22 hK23 => ?_)
    refine V.region (by kernel_rfl) ?_
    refine V.go (V.mv (v := (.int .i64 (k : Int))) (s6_15) ?_)
    refine V.go (V.mv (v := (.slice A0 l.length c0)) (at_other rfl _ (s1_13)) ?_)
    refine V.go (V.pv [(8, .slice A0 l.length c0)] ⟨(at_same (hz11.put _ _) rfl _), trivial⟩ (by kernel_rfl) (.int .i64 ((l.length : Nat) : Int)) (by kernel_rfl) ?_)
    refine V.go (V.pv [(7, .int .i64 (k : Int)), (9, .int .i64 ((l.length : Nat) : Int))] ⟨(at_other rfl _ (at_other rfl _ (at_same hz11 rfl _))), (at_same ((hz11.put _ _).put _ _) rfl _), trivial⟩ (by kernel_rfl) (.bool (decide ((k : Int) < ((l.length : Nat) : Int)))) (by kernel_rfl) ?_)
    refine V.nil ?_
    refine V.then_n (hK23 _ _ ?_)
    refine V.flushW ((((hz11.put _ _).put _ _).put _ _).put _ _) (fun a24 hz25 up26 => ?_)
    have s0_27 : a24.eval (.tmp 0) = (.string p) := up26 _ _ (at_other rfl _ (at_other rfl _ (at_other rfl _ (at_other rfl _ (s0_12)))))
    have s1_28 : a24.eval (.tmp 1) = (.slice A0 l.length c0) := up26 _ _ (at_other rfl _ (at_other rfl _ (at_other rfl _ (at_other rfl _ (s1_13)))))
    have s5_29 : a24.eval (.tmp 5) = (.slice A acc.length c) := up26 _ _ (at_other rfl _ (at_other rfl _ (at_other rfl _ (at_other rfl _ (s5_14)))))
    have s6_30 : a24.eval (.tmp 6) = (.int .i64 (k : Int)) := up26 _ _ (at_other rfl _ (at_other rfl _ (at_other rfl _ (at_other rfl _ (s6_15)))))
    have s10_31 : a24.eval (.tmp 10) = (.bool (decide ((k : Int) < ((l.length : Nat) : Int)))) := up26 _ _ (at_same (((hz11.put _ _).put _ _).put _ _) rfl _)
    clear up26
    refine V.condP (p := (k : Int) < ((l.length : Nat) : Int)) (s10_31) (fun ht32 => ?_) (fun ht32 => ?_)
    ·
      refine V.skip ?_
      refine V.then_n (hK21 _ _ ?_)
      refine V.seq (fun K33 hK34 => ?_)
      refine V.block ?_
      refine V.seq (fun K35 hK36 => ?_)
      refine V.region (by kernel_rfl) ?_
      refine V.go (V.mv (v := (.string p)) (s0_27) ?_)
      refine V.go (V.mv (v := (.slice A0 l.length c0)) (at_other rfl _ (s1_28)) ?_)
      refine V.go (V.mv (v := (.int .i64 (k : Int))) (at_other rfl _ (at_other rfl _ (s6_30))) ?_)
      obtain ⟨g37, o38, hA39, hA39l, hA39z⟩ := hS_18.addr (by omega)
      refine V.go (V.ixa g37 o38 l.length c0 .i64 (k : Int) 1 ((at_other rfl _ (at_same (hz25.put _ _) rfl _)).trans (by rw [hA39])) (at_same ((hz25.put _ _).put _ _) rfl _) (by omega) (by omega) (by kernel_rfl) ?_)
      obtain ⟨cs40, hok41, hE42⟩ := hS_18.els hA39 (k : Int) (by omega) (by omega)
      obtain rfl : cs40 = [.string (at_ Rp.str l (k : Int))] := hok41
      refine V.go (V.ld ⟨g37, o38 + (k : Int).toNat * 1, none⟩ (.string (at_ Rp.str l (k : Int))) (at_same (((hz25.put _ _).put _ _).put _ _) rfl _) (by kernel_rfl) (hE42.at 0 rfl) ?_)
      refine V.go (V.call 11 #[] #[.string p, .string (at_ Rp.str l (k : Int)), .bool false] evf (args3 (at_other rfl _ (at_other rfl _ (at_other rfl _ (at_other rfl _ (at_same hz25 rfl _))))) (at_same ((((hz25.put _ _).put _ _).put _ _).put _ _) rfl _) evc) (Go.Proofs.enters_of Try.func11 (by kernel_rfl) rfl) (rmatch_any w10 p (at_ Rp.str l (k : Int)) false) ?_)
      rintro _ w44 ⟨rfl, hF43⟩
      refine ⟨_, rfl, ?_⟩
      have hsw44 := hF43.size
      have hO_45 := hO_16.fr0 hF43
      have hF_46 := hF_17.new hF43
      have hS_47 := hS_18.fr0 hF43
      have hE42_48 := hE42.fr0 hF43
      refine V.nil ?_
      refine V.then_n (hK36 _ _ ?_)
      refine V.flushW ((((((hz25.put _ _).put _ _).put _ _).put _ _).put _ _).put _ _) (fun a49 hz50 up51 => ?_)
      have s0_52 : a49.eval (.tmp 0) = (.string p) := up51 _ _ (at_other rfl _ (at_other rfl _ (at_other rfl _ (at_other rfl _ (at_other rfl _ (at_other rfl _ (s0_27)))))))
      have s1_53 : a49.eval (.tmp 1) = (.slice A0 l.length c0) := up51 _ _ (at_other rfl _ (at_other rfl _ (at_other rfl _ (at_other rfl _ (at_other rfl _ (at_other rfl _ (s1_28)))))))
      have s5_54 : a49.eval (.tmp 5) = (.slice A acc.length c) := up51 _ _ (at_other rfl _ (at_other rfl _ (at_other rfl _ (at_other rfl _ (at_other rfl _ (at_other rfl _ (s5_29)))))))
      have s6_55 : a49.eval (.tmp 6) = (.int .i64 (k : Int)) := up51 _ _ (at_other rfl _ (at_other rfl _ (at_other rfl _ (at_other rfl _ (at_other rfl _ (at_other rfl _ (s6_30)))))))
      have s18_56 : a49.eval (.tmp 18) = (.bool (rmat p (at_ Rp.str l (k : Int)) false)) := up51 _ _ (at_same (((((hz25.put _ _).put _ _).put _ _).put _ _).put _ _) rfl _)
      clear up51
      refine V.cond (s18_56) (fun ht57 => ?_) (fun ht57q => ?_)
      ·
        refine V.region (by kernel_rfl) ?_
        refine V.go (V.mv (v := (.slice A acc.length c)) (s5_54) ?_)
        refine V.go (V.mv (v := (.slice A0 l.length c0)) (at_other rfl _ (s1_53)) ?_)
        refine V.go (V.mv (v := (.int .i64 (k : Int))) (at_other rfl _ (at_other rfl _ (s6_55))) ?_)
        refine V.go (V.ixa g37 o38 l.length c0 .i64 (k : Int) 1 ((at_other rfl _ (at_same (hz50.put _ _) rfl _)).trans (by rw [hA39])) (at_same ((hz50.put _ _).put _ _) rfl _) (by omega) (by omega) (by kernel_rfl) ?_)
        refine V.go (V.ld ⟨g37, o38 + (k : Int).toNat * 1, none⟩ (.string (at_ Rp.str l (k : Int))) (at_same (((hz50.put _ _).put _ _).put _ _) rfl _) (by kernel_rfl) (hE42_48.at 0 rfl) ?_)
        refine V.go (V.mk [(23, .string (at_ Rp.str l (k : Int)))] ⟨(at_same ((((hz50.put _ _).put _ _).put _ _).put _ _) rfl _), trivial⟩ (by kernel_rfl) [.string (at_ Rp.str l (k : Int))] 9 (fun b => .slice (some ⟨b, 0, none⟩) 1 1) (by kernel_rfl) ?_)
        intro w59 b58 heb58 hB60 hF61 hsb58
        have hO_62 := hO_45.fr0 hF61
        have hF_63 := hF_46.new hF61
        have hS_64 := hS_47.fr0 hF61
        have hE42_65 := hE42_48.fr0 hF61
        refine V.go (V.app (R := Rp.str) (ys := ([(at_ Rp.str l (k : Int))])) (news := [.string (at_ Rp.str l (k : Int))]) (at_other rfl _ (at_other rfl _ (at_other rfl _ (at_other rfl _ (at_other rfl _ (at_same hz50 rfl _)))))) ⟨b58, 0, none⟩ 1 1 (at_same (((((hz50.put _ _).put _ _).put _ _).put _ _).put _ _) rfl _) (by kernel_rfl) (info9) (by kernel_rfl) (by decide) hO_62 rfl ⟨[.string (at_ Rp.str l (k : Int))], [], rfl, rfl, rfl⟩ (blk_cells hB60 0 _ rfl) (by omega) (by decide) (by omega) ?_)
        intro A66 c67 w68 hO69z hF70 hatw68
        have hsw68 := hF70.size
        have hF_71 := hF_63.own hF70 (own_ge hO_62 (by omega))
        have hS_72 := hS_64.fr hF70 (by intro b hb hz; have := own_ge hO_62 (Nat.le_refl _) b hb; omega)
        have hE42_73 := hE42_65.fr hF70 (by first | exact own_notin hO_62 (by omega) | exact own_notin2 hO_16 (by omega))
        have hO69 := hO69z.zone (Z' := NoZ) (fun _ _ q => q.1) (fun _ _ q => q)
        refine V.go (V.asg (v := (.slice A66 (acc.length + 1) c67)) (at_same ((((((hz50.put _ _).put _ _).put _ _).put _ _).put _ _).put _ _) rfl _) ?_)
        refine V.nil ?_
        refine V.blk_n ?_
        refine V.then_n (hK34 _ _ ?_)
        refine V.flushW ((((((((hz50.put _ _).put _ _).put _ _).put _ _).put _ _).put _ _).put _ _).put _ _) (fun a74 hz75 up76 => ?_)
        have s0_77 : a74.eval (.tmp 0) = (.string p) := up76 _ _ (at_other rfl _ (at_other rfl _ (at_other rfl _ (at_other rfl _ (at_other rfl _ (at_other rfl _ (at_other rfl _ (at_other rfl _ (s0_52)))))))))
        have s1_78 : a74.eval (.tmp 1) = (.slice A0 l.length c0) := up76 _ _ (at_other rfl _ (at_other rfl _ (at_other rfl _ (at_other rfl _ (at_other rfl _ (at_other rfl _ (at_other rfl _ (at_other rfl _ (s1_53)))))))))
        have s5_79 : a74.eval (.tmp 5) = (.slice A66 (acc.length + 1) c67) := up76 _ _ (at_same (((((((hz50.put _ _).put _ _).put _ _).put _ _).put _ _).put _ _).put _ _) rfl _)
        have s6_80 : a74.eval (.tmp 6) = (.int .i64 (k : Int)) := up76 _ _ (at_other rfl _ (at_other rfl _ (at_other rfl _ (at_other rfl _ (at_other rfl _ (at_other rfl _ (at_other rfl _ (at_other rfl _ (s6_55)))))))))
        clear up76
        refine V.region (by kernel_rfl) ?_
        refine V.go (V.mv (v := (.int .i64 (k : Int))) (s6_80) ?_)
        refine V.go (V.pvw [(11, .int .i64 (k : Int))] ⟨(at_same hz75 rfl _), trivial⟩ (by kernel_rfl) (.int .i64 (IntKind.i64.wrap ((k : Int) + 1))) (.int .i64 ((k : Int) + 1)) (by kernel_rfl) (V.w_i64 (by omega) (by omega)) ?_)
        refine V.go (V.asg (v := (.int .i64 ((k : Int) + 1))) (at_same (hz75.put _ _) rfl _) ?_)
        refine V.nil ?_
        refine V.then_n ?_
        refine ⟨k + 1, acc ++ [(at_ Rp.str l (k : Int))], A66, c67, by omega, ?_⟩
        refine ⟨(((hz75.put _ _).put _ _).put _ _), ?_, ?_, ?_, ?_, (by simpa using hO69), hF_71, hS_72, (by omega), (by first | omega | (simp; omega)), (by rw [take_at Rp.str (by omega), List.filter_append, hf, List.filter_cons_of_pos (by simpa using ht57)]; rfl)⟩
        · exact (at_other rfl _ (at_other rfl _ (at_other rfl _ (s0_77))))
        · exact (at_other rfl _ (at_other rfl _ (at_other rfl _ (s1_78))))
        · exact Eq.trans (at_other rfl _ (at_other rfl _ (at_other rfl _ (s5_79)))) (V.sl_eq (by simp))
        · exact Eq.trans (at_same ((hz75.put _ _).put _ _) rfl _) (V.int_eq (by omega))
      ·
        have ht57 : ¬ ((rmat p (at_ Rp.str l (k : Int)) false) = true) := by rw [ht57q]; simp
        refine V.skip ?_
        refine V.blk_n ?_
        refine V.then_n (hK34 _ _ ?_)
        refine V.region (by kernel_rfl) ?_
        refine V.go (V.mv (v := (.int .i64 (k : Int))) (s6_55) ?_)
        refine V.go (V.pvw [(11, .int .i64 (k : Int))] ⟨(at_same hz50 rfl _), trivial⟩ (by kernel_rfl) (.int .i64 (IntKind.i64.wrap ((k : Int) + 1))) (.int .i64 ((k : Int) + 1)) (by kernel_rfl) (V.w_i64 (by omega) (by omega)) ?_)
        refine V.go (V.asg (v := (.int .i64 ((k : Int) + 1))) (at_same (hz50.put _ _) rfl _) ?_)
        refine V.nil ?_
        refine V.then_n ?_
        refine ⟨k + 1, acc, A, c, by omega, ?_⟩
        refine ⟨(((hz50.put _ _).put _ _).put _ _), ?_, ?_, ?_, ?_, (by simpa using hO_45), hF_46, hS_47, (by omega), (by first | omega | (simp; omega)), (by rw [take_at Rp.str (by omega), List.filter_append, hf, List.filter_cons_of_neg (by simpa using ht57)]; simp)⟩
        · exact (at_other rfl _ (at_other rfl _ (at_other rfl _ (s0_52))))
        · exact (at_other rfl _ (at_other rfl _ (at_other rfl _ (s1_53))))
        · exact (at_other rfl _ (at_other rfl _ (at_other rfl _ (s5_54))))
        · exact Eq.trans (at_same ((hz50.put _ _).put _ _) rfl _) (V.int_eq (by omega))
    ·
      refine V.exit ?_
      refine V.then_e ?_
      refine V.then_e ?_
      refine V.blk_hit ?_
      refine V.then_n (hK6 _ _ ?_)
      refine V.seq (fun K81 hK82 => ?_)
      refine V.region (by kernel_rfl) ?_
      refine V.go (V.mv (v := (.slice A acc.length c)) (s5_29) ?_)
      refine V.go (V.asg (v := (.slice A acc.length c)) (at_same hz25 rfl _) ?_)
      refine V.nil ?_
      refine V.then_n (hK82 _ _ ?_)
      refine V.ret ?_
      refine V.ret1 ((hz25.put _ _).put _ _) rfl (at_same (hz25.put _ _) rfl _) ?_
      rw [List.take_of_length_le (by omega)] at hf
      subst hf
      exact ⟨A, c, rfl, hO_16.read (fun _ _ h => h.elim) (fun b hb _ => hb), hF_17⟩
set_option maxHeartbeats 4000000 in
set_option maxRecDepth 20000 in
theorem same_any (w : World) (Z Z2 : Nat → Prop) (A0 A1 : Option Addr) (c0 c1 : Nat) (l m : List ByteArray) (hS : SlR Rp.str Z w (.slice A0 l.length c0) l) (hT : SlR Rp.str Z2 w (.slice A1 m.length c1) m) : Calls Try.prog 14 #[.slice A0 l.length c0, .slice A1 m.length c1] w (fun e w' => e = .returned (.bool (decide (l = m))) ∧ Fr [] w w') := by
  have hF := Fr.refl [] w; have hlen0 := hS.len_le; have hlen1 := hT.len_le
  refine V.enter 26 Try.func14 rfl rfl ?_
  intro a hz ha
  have s0 : a.eval (.tmp 0) = (.slice A0 l.length c0) := ha 0 _ rfl
  have s1 : a.eval (.tmp 1) = (.slice A1 m.length c1) := ha 1 _ rfl
  clear ha
  refine V.seq (fun K1 hK2 => ?_)
  refine V.region (by kernel_rfl) ?_
  refine V.go (V.asg (v := (.bool false)) evc ?_)
  refine V.nil ?_
  refine V.then_n (hK2 _ _ ?_)
  refine V.seq (fun K3 hK4 => ?_)
  refine V.seq (fun K5 hK6 => ?_)
  refine V.region (by kernel_rfl) ?_
  refine V.go (V.mv (v := (.slice A0 l.length c0)) (at_other rfl _ (s0)) ?_)
  refine V.go (V.pv [(6, .slice A0 l.length c0)] ⟨(at_same (hz.put _ _) rfl _), trivial⟩ (by kernel_rfl) (.int .i64 ((l.length : Nat) : Int)) (by kernel_rfl) ?_)
  refine V.go (V.mv (v := (.slice A1 m.length c1)) (at_other rfl _ (at_other rfl _ (at_other rfl _ (s1)))) ?_)
  refine V.go (V.pv [(8, .slice A1 m.length c1)] ⟨(at_same (((hz.put _ _).put _ _).put _ _) rfl _), trivial⟩ (by kernel_rfl) (.int .i64 ((m.length : Nat) : Int)) (by kernel_rfl) ?_)
  refine V.go (V.pvw [(7, .int .i64 ((l.length : Nat) : Int)), (9, .int .i64 ((m.length : Nat) : Int))] ⟨(at_other rfl _ (at_other rfl _ (at_same ((hz.put _ _).put _ _) rfl _))), (at_same ((((hz.put _ _).put _ _).put _ _).put _ _) rfl _), trivial⟩ (by kernel_rfl) (.bool (((l.length : Nat) : Int) != ((m.length : Nat) : Int))) (.bool (decide (¬ ((l.length : Nat) : Int) = ((m.length : Nat) : Int)))) (by kernel_rfl) V.t_neq ?_)
  refine V.nil ?_
  refine V.then_n (hK6 _ _ ?_)
  refine V.flushW ((((((hz.put _ _).put _ _).put _ _).put _ _).put _ _).put _ _) (fun a7 hz8 up9 => ?_)
  have s0_10 : a7.eval (.tmp 0) = (.slice A0 l.length c0) := up9 _ _ (at_other rfl _ (at_other rfl _ (at_other rfl _ (at_other rfl _ (at_other rfl _ (at_other rfl _ (s0)))))))
  have s1_11 : a7.eval (.tmp 1) = (.slice A1 m.length c1) := up9 _ _ (at_other rfl _ (at_other rfl _ (at_other rfl _ (at_other rfl _ (at_other rfl _ (at_other rfl _ (s1)))))))
  have s10_12 : a7.eval (.tmp 10) = (.bool (decide (¬ ((l.length : Nat) : Int) = ((m.length : Nat) : Int)))) := up9 _ _ (at_same (((((hz.put _ _).put _ _).put _ _).put _ _).put _ _) rfl _)
  clear up9
  refine V.condP (p := ¬ ((l.length : Nat) : Int) = ((m.length : Nat) : Int)) (s10_12) (fun ht13 => ?_) (fun ht13 => ?_)
  ·
    refine V.seq (fun K14 hK15 => ?_)
    refine V.region (by kernel_rfl) ?_
    refine V.go (V.asg (v := (.bool false)) evc ?_)
    refine V.nil ?_
    refine V.then_n (hK15 _ _ ?_)
    refine V.ret ?_
    refine V.then_r ?_
    refine V.ret1 (hz8.put _ _) rfl (at_same hz8 rfl _) ?_
    refine ⟨congrArg Ending.returned (congrArg Value.bool ?_), hF⟩
    rw [decide_eq_false (fun h => by have := congrArg List.length h; omega)]
  ·
    refine V.skip ?_
    refine V.then_n (hK4 _ _ ?_)
    refine V.seq (fun K16 hK17 => ?_)
    refine V.seq (fun K18 hK19 => ?_)
    refine V.region (by kernel_rfl) ?_
    refine V.go (V.asg (v := (.int .i64 0)) evc ?_)
    refine V.nil ?_
    refine V.then_n (hK19 _ _ ?_)
    refine V.block ?_
    have hlm : l.length = m.length := by omega
    refine V.loop1 (fun (k : Nat) a_ w_ => Sz 26 a_ ∧ a_.eval (.tmp 0) = (.slice A0 l.length c0) ∧ a_.eval (.tmp 1) = (.slice A1 m.length c1) ∧ a_.eval (.tmp 5) = (.int .i64 (k : Int)) ∧ Fr [] w w_ ∧ SlR Rp.str Z w_ (.slice A0 l.length c0) l ∧ SlR Rp.str Z2 w_ (.slice A1 m.length c1) m ∧ (k ≤ l.length) ∧ (l.take k = m.take k)) (fun (k : Nat) => l.length - k) 0 ?_ ?_
    ·
      refine ⟨(hz8.put _ _), ?_, ?_, ?_, hF, hS, hT, (by omega), (by simp)⟩
      · exact (at_other rfl _ (s0_10))
      · exact (at_other rfl _ (s1_11))
      · exact Eq.trans (at_same hz8 rfl _) (V.int_eq (by omega))
    ·
      rintro k a20 w21 ⟨hz22, s0_23, s1_24, s5_25, hF_26, hS_27, hT_28, hk, heq⟩
      have hfs29 := hF_26.size
      refine V.seq (fun K30 hK31 => ?_)
      refine V.seq (fun K32 hK33 => ?_)
      refine V.region (by kernel_rfl) ?_
      refine V.go (V.mv (v := (.int .i64 (k : Int))) (s5_25) ?_)
      refine V.go (V.mv (v := (.slice A0 l.length c0)) (at_other rfl _ (s0_23)) ?_)
      refine V.go (V.pv [(12, .slice A0 l.length c0)] ⟨(at_same (hz22.put _ _) rfl _), trivial⟩ (by kernel_rfl) (.int .i64 ((l.length : Nat) : Int)) (by kernel_rfl) ?_)
      refine V.go (V.pv [(11, .int .i64 (k : Int)), (13, .int .i64 ((l.length : Nat) : Int))] ⟨(at_other rfl _ (at_other rfl _ (at_same hz22 rfl _))), (at_same ((hz22.put _ _).put _ _) rfl _), trivial⟩ (by kernel_rfl) (.bool (decide ((k : Int) < ((l.length : Nat) : Int)))) (by kernel_rfl) ?_)
      refine V.nil ?_
      refine V.then_n (hK33 _ _ ?_)
      refine V.flushW ((((hz22.put _ _).put _ _).put _ _).put _ _) (fun a34 hz35 up36 => ?_)
      have s0_37 : a34.eval (.tmp 0) = (.slice A0 l.length c0) := up36 _ _ (at_other rfl _ (at_other rfl _ (at_other rfl _ (at_other rfl _ (s0_23)))))
      have s1_38 : a34.eval (.tmp 1) = (.slice A1 m.length c1) := up36 _ _ (at_other rfl _ (at_other rfl _ (at_other rfl _ (at_other rfl _ (s1_24)))))
      have s5_39 : a34.eval (.tmp 5) = (.int .i64 (k : Int)) := up36 _ _ (at_other rfl _ (at_other rfl _ (at_other rfl _ (at_other rfl _ (s5_25)))))
      have s14_40 : a34.eval (.tmp 14) = (.bool (decide ((k : Int) < ((l.length : Nat) : Int)))) := up36 _ _ (at_same (((hz22.put _ _).put _ _).put _ _) rfl _)
      clear up36
      refine V.condP (p := (k : Int) < ((l.length : Nat) : Int)) (s14_40) (fun ht41 => ?_) (fun ht41 => ?_)
      ·
        refine V.skip ?_
        refine V.then_n (hK31 _ _ ?_)
        refine V.seq (fun K42 hK43 => ?_)
        refine V.block ?_
        refine V.seq (fun K44 hK45 => ?_)
        refine V.plan [[], [], [0, 1], [0, 1, 2], [], [], [4, 5], [4, 5, 6], [0, 1, 2, 3, 4, 5, 6, 7]] [([0, 1, 2, 3, 4, 5, 6, 7, 8], none)] (by kernel_rfl) (by kernel_rfl) (by exact fun _ _ _ _ h => h) ?_
        simp only [Plan.wpSegs, Plan.pickAll, Plan.nth, V.L_eq]
        obtain ⟨w46, hF47e⟩ : ∃ w1, w1 = w21.drew := ⟨_, rfl⟩
        rw [← hF47e]
        have hF47 : Fr [] w21 w46 := by rw [hF47e]; exact Fr.drew _ _
        have hsw46 : w46.heap.size = w21.heap.size := by rw [hF47e]; rfl
        clear hF47e
        have hF_48 := hF_26.new hF47
        have hS_49 := hS_27.fr0 hF47
        have hT_50 := hT_28.fr0 hF47
        refine V.go (V.mv (v := (.slice A0 l.length c0)) (s0_37) ?_)
        refine V.go (V.mv (v := (.int .i64 (k : Int))) (at_other rfl _ (s5_39)) ?_)
        obtain ⟨g51, o52, hA53, hA53l, hA53z⟩ := hS_49.addr (by omega)
        refine V.go (V.ixa g51 o52 l.length c0 .i64 (k : Int) 1 ((at_other rfl _ (at_same hz35 rfl _)).trans (by rw [hA53])) (at_same (hz35.put _ _) rfl _) (by omega) (by omega) (by kernel_rfl) ?_)
        obtain ⟨cs54, hok55, hE56⟩ := hS_49.els hA53 (k : Int) (by omega) (by omega)
        obtain rfl : cs54 = [.string (at_ Rp.str l (k : Int))] := hok55
        refine V.go (V.ld ⟨g51, o52 + (k : Int).toNat * 1, none⟩ (.string (at_ Rp.str l (k : Int))) (at_same ((hz35.put _ _).put _ _) rfl _) (by kernel_rfl) (hE56.at 0 rfl) ?_)
        refine V.go (V.mv (v := (.slice A1 m.length c1)) (at_other rfl _ (at_other rfl _ (at_other rfl _ (at_other rfl _ (s1_38))))) ?_)
        refine V.go (V.mv (v := (.int .i64 (k : Int))) (at_other rfl _ (at_other rfl _ (at_other rfl _ (at_other rfl _ (at_other rfl _ (s5_39)))))) ?_)
        obtain ⟨g57, o58, hA59, hA59l, hA59z⟩ := hT_50.addr (by omega)
        refine V.go (V.ixa g57 o58 m.length c1 .i64 (k : Int) 1 ((at_other rfl _ (at_same ((((hz35.put _ _).put _ _).put _ _).put _ _) rfl _)).trans (by rw [hA59])) (at_same (((((hz35.put _ _).put _ _).put _ _).put _ _).put _ _) rfl _) (by omega) (by omega) (by kernel_rfl) ?_)
        obtain ⟨cs60, hok61, hE62⟩ := hT_50.els hA59 (k : Int) (by omega) (by omega)
        obtain rfl : cs60 = [.string (at_ Rp.str m (k : Int))] := hok61
        refine V.go (V.ld ⟨g57, o58 + (k : Int).toNat * 1, none⟩ (.string (at_ Rp.str m (k : Int))) (at_same ((((((hz35.put _ _).put _ _).put _ _).put _ _).put _ _).put _ _) rfl _) (by kernel_rfl) (hE62.at 0 rfl) ?_)
        refine V.go (V.pvw [(20, .string (at_ Rp.str l (k : Int))), (24, .string (at_ Rp.str m (k : Int)))] ⟨(at_other rfl _ (at_other rfl _ (at_other rfl _ (at_other rfl _ (at_same (((hz35.put _ _).put _ _).put _ _) rfl _))))), (at_same (((((((hz35.put _ _).put _ _).put _ _).put _ _).put _ _).put _ _).put _ _) rfl _), trivial⟩ (by kernel_rfl) (.bool (!((at_ Rp.str l (k : Int)).toList == (at_ Rp.str m (k : Int)).toList))) (.bool (decide (¬ (at_ Rp.str l (k : Int)) = (at_ Rp.str m (k : Int))))) (by kernel_rfl) V.t_sneq ?_)
        refine V.nil ?_
        refine ⟨chk [(20, .string (at_ Rp.str l (k : Int))), (24, .string (at_ Rp.str m (k : Int)))] ⟨(at_other rfl _ (at_other rfl _ (at_other rfl _ (at_other rfl _ (at_other rfl _ (at_same (((hz35.put _ _).put _ _).put _ _) rfl _)))))), (at_other rfl _ (at_same (((((((hz35.put _ _).put _ _).put _ _).put _ _).put _ _).put _ _).put _ _) rfl _)), trivial⟩ (by kernel_rfl), ?_⟩
        refine V.then_n (hK45 _ _ ?_)
        refine V.flushW (((((((((hz35.put _ _).put _ _).put _ _).put _ _).put _ _).put _ _).put _ _).put _ _).put _ _) (fun a63 hz64 up65 => ?_)
        have s0_66 : a63.eval (.tmp 0) = (.slice A0 l.length c0) := up65 _ _ (at_other rfl _ (at_other rfl _ (at_other rfl _ (at_other rfl _ (at_other rfl _ (at_other rfl _ (at_other rfl _ (at_other rfl _ (at_other rfl _ (s0_37))))))))))
        have s1_67 : a63.eval (.tmp 1) = (.slice A1 m.length c1) := up65 _ _ (at_other rfl _ (at_other rfl _ (at_other rfl _ (at_other rfl _ (at_other rfl _ (at_other rfl _ (at_other rfl _ (at_other rfl _ (at_other rfl _ (s1_38))))))))))
        have s5_68 : a63.eval (.tmp 5) = (.int .i64 (k : Int)) := up65 _ _ (at_other rfl _ (at_other rfl _ (at_other rfl _ (at_other rfl _ (at_other rfl _ (at_other rfl _ (at_other rfl _ (at_other rfl _ (at_other rfl _ (s5_39))))))))))
        have s25_69 : a63.eval (.tmp 25) = (.bool (decide (¬ (at_ Rp.str l (k : Int)) = (at_ Rp.str m (k : Int))))) := up65 _ _ (at_same ((((((((hz35.put _ _).put _ _).put _ _).put _ _).put _ _).put _ _).put _ _).put _ _) rfl _)
        clear up65
        refine V.condP (p := ¬ (at_ Rp.str l (k : Int)) = (at_ Rp.str m (k : Int))) (s25_69) (fun ht70 => ?_) (fun ht70 => ?_)
        ·
          refine V.seq (fun K71 hK72 => ?_)
          refine V.region (by kernel_rfl) ?_
          refine V.go (V.asg (v := (.bool false)) evc ?_)
          refine V.nil ?_
          refine V.then_n (hK72 _ _ ?_)
          refine V.ret ?_
          refine V.blk_r ?_
          refine V.then_r ?_
          refine V.then_r ?_
          refine V.blk_r ?_
          refine V.then_r ?_
          refine V.ret1 (hz64.put _ _) rfl (at_same hz64 rfl _) ?_
          refine ⟨congrArg Ending.returned (congrArg Value.bool ?_), hF_48⟩
          rw [decide_eq_false (fun h => (by simpa using ht70 : ¬ at_ Rp.str l (k : Int) = at_ Rp.str m (k : Int)) (congrArg (fun x => at_ Rp.str x (k : Int)) h))]
        ·
          refine V.skip ?_
          refine V.blk_n ?_
          refine V.then_n (hK43 _ _ ?_)
          refine V.region (by kernel_rfl) ?_
          refine V.go (V.mv (v := (.int .i64 (k : Int))) (s5_68) ?_)
          refine V.go (V.pvw [(15, .int .i64 (k : Int))] ⟨(at_same hz64 rfl _), trivial⟩ (by kernel_rfl) (.int .i64 (IntKind.i64.wrap ((k : Int) + 1))) (.int .i64 ((k : Int) + 1)) (by kernel_rfl) (V.w_i64 (by omega) (by omega)) ?_)
          refine V.go (V.asg (v := (.int .i64 ((k : Int) + 1))) (at_same (hz64.put _ _) rfl _) ?_)
          refine V.nil ?_
          refine V.then_n ?_
          refine ⟨k + 1, by omega, ?_⟩
          refine ⟨(((hz64.put _ _).put _ _).put _ _), ?_, ?_, ?_, hF_48, hS_49, hT_50, (by omega), (by rw [take_at Rp.str (by omega), take_at Rp.str (by omega), heq, show at_ Rp.str l (k : Int) = at_ Rp.str m (k : Int) from by simpa using ht70])⟩
          · exact (at_other rfl _ (at_other rfl _ (at_other rfl _ (s0_66))))
          · exact (at_other rfl _ (at_other rfl _ (at_other rfl _ (s1_67))))
          · exact Eq.trans (at_same ((hz64.put _ _).put _ _) rfl _) (V.int_eq (by omega))
      ·
        refine V.exit ?_
        refine V.then_e ?_
        refine V.then_e ?_
        refine V.blk_hit ?_
        refine V.then_n (hK17 _ _ ?_)
        refine V.seq (fun K73 hK74 => ?_)
        refine V.region (by kernel_rfl) ?_
        refine V.go (V.asg (v := (.bool true)) evc ?_)
        refine V.nil ?_
        refine V.then_n (hK74 _ _ ?_)
        refine V.ret ?_
        refine V.ret1 (hz35.put _ _) rfl (at_same hz35 rfl _) ?_
        refine ⟨congrArg Ending.returned (congrArg Value.bool ?_), hF_26⟩
        rw [List.take_of_length_le (by omega), List.take_of_length_le (by omega)] at heq; rw [decide_eq_true heq]
set_option maxHeartbeats 4000000 in
set_option maxRecDepth 20000 in
theorem globFilters_any (w : World) (p : ByteArray) (A0 : Option Addr) (c0 : Nat) (l : List ByteArray) (hS : SlR Rp.str (fun b => b < w.heap.size) w (.slice A0 l.length c0) l) : Calls Try.prog 5 #[.string p, .slice A0 l.length c0] w (fun e w' => e = .returned (.bool true) ∧ Fr [] w w') := by
  have hF := Fr.refl [] w; have hlen0 := hS.len_le
  refine V.enter 37 Try.func5 rfl rfl ?_
  intro a hz ha
  have s0 : a.eval (.tmp 0) = (.string p) := ha 0 _ rfl
  have s1 : a.eval (.tmp 1) = (.slice A0 l.length c0) := ha 1 _ rfl
  clear ha
  refine V.seq (fun K1 hK2 => ?_)
  refine V.region (by kernel_rfl) ?_
  refine V.go (V.asg (v := (.bool false)) evc ?_)
  refine V.nil ?_
  refine V.then_n (hK2 _ _ ?_)
  refine V.seq (fun K3 hK4 => ?_)
  refine V.region (by kernel_rfl) ?_
  refine V.go (V.mv (v := (.string p)) (at_other rfl _ (s0)) ?_)
  refine V.go (V.call 9 #[] #[.string p] evf (args1 (at_same (hz.put _ _) rfl _)) (Go.Proofs.enters_of Try.func9 (by kernel_rfl) rfl) (cut_any w p) ?_)
  rintro _ w6 ⟨rfl, hF5⟩
  refine ⟨_, rfl, ?_⟩
  have hsw6 := hF5.size
  have hF_7 := hF.new hF5
  have hS_8 := hS.fr0 hF5
  have hcut5 := cutS_le p
  refine V.go (V.asg (v := (.string (cutS p))) (at_same ((hz.put _ _).put _ _) rfl _) ?_)
  refine V.nil ?_
  refine V.then_n (hK4 _ _ ?_)
  refine V.flushW ((((hz.put _ _).put _ _).put _ _).put _ _) (fun a9 hz10 up11 => ?_)
  have s0_12 : a9.eval (.tmp 0) = (.string (cutS p)) := up11 _ _ (at_same (((hz.put _ _).put _ _).put _ _) rfl _)
  have s1_13 : a9.eval (.tmp 1) = (.slice A0 l.length c0) := up11 _ _ (at_other rfl _ (at_other rfl _ (at_other rfl _ (at_other rfl _ (s1)))))
  clear up11
  refine V.seq (fun K14 hK15 => ?_)
  refine V.region (by kernel_rfl) ?_
  refine V.go (V.asg (v := (.slice none 0 0)) evc ?_)
  refine V.nil ?_
  refine V.then_n (hK15 _ _ ?_)
  refine V.seq (fun K16 hK17 => ?_)
  refine V.seq (fun K18 hK19 => ?_)
  refine V.region (by kernel_rfl) ?_
  refine V.go (V.asg (v := (.int .i64 0)) evc ?_)
  refine V.nil ?_
  refine V.then_n (hK19 _ _ ?_)
  refine V.block ?_
  have hO0 := OwR.nil Rp.str NoZ w6 w.heap.size 9
  refine V.loop4 (fun (k : Nat) (acc : List ByteArray) (A : Option Addr) (c : Nat) a_ w_ => Sz 37 a_ ∧ a_.eval (.tmp 0) = (.string (cutS p)) ∧ a_.eval (.tmp 1) = (.slice A0 l.length c0) ∧ a_.eval (.tmp 5) = (.slice A acc.length c) ∧ a_.eval (.tmp 6) = (.int .i64 (k : Int)) ∧ OwR Rp.str NoZ w_ w.heap.size 9 (.slice A acc.length c) acc ∧ Fr [] w w_ ∧ SlR Rp.str (fun b => b < w.heap.size) w_ (.slice A0 l.length c0) l ∧ (k ≤ 50) ∧ (acc.length ≤ k)) (fun (k : Nat) (acc : List ByteArray) (A : Option Addr) (c : Nat) => 50 - k) 0 ([]) none 0 ?_ ?_
  ·
    refine ⟨((hz10.put _ _).put _ _), ?_, ?_, ?_, ?_, hO0, hF_7, hS_8, (by omega), (by simp)⟩
    · exact (at_other rfl _ (at_other rfl _ (s0_12)))
    · exact (at_other rfl _ (at_other rfl _ (s1_13)))
    · exact Eq.trans (at_other rfl _ (at_same hz10 rfl _)) (V.sl_eq (by simp))
    · exact Eq.trans (at_same (hz10.put _ _) rfl _) (V.int_eq (by omega))
  ·
    rintro k acc A c a20 w21 ⟨hz22, s0_23, s1_24, s5_25, s6_26, hO_27, hF_28, hS_29, hk, hacc⟩
    have hfs30 := hF_28.size
    refine V.seq (fun K31 hK32 => ?_)
    refine V.seq (fun K33 hK34 => ?_)
    refine V.region (by kernel_rfl) ?_
    refine V.go (V.mv (v := (.int .i64 (k : Int))) (s6_26) ?_)
    refine V.go (V.mv (v := (.slice A0 l.length c0)) (at_other rfl _ (s1_24)) ?_)
    refine V.go (V.pv [(10, .slice A0 l.length c0)] ⟨(at_same (hz22.put _ _) rfl _), trivial⟩ (by kernel_rfl) (.int .i64 ((l.length : Nat) : Int)) (by kernel_rfl) ?_)
    refine V.go (V.pv [(9, .int .i64 (k : Int)), (11, .int .i64 ((l.length : Nat) : Int))] ⟨(at_other rfl _ (at_other rfl _ (at_same hz22 rfl _))), (at_same ((hz22.put _ _).put _ _) rfl _), trivial⟩ (by kernel_rfl) (.bool (decide ((k : Int) < ((l.length : Nat) : Int)))) (by kernel_rfl) ?_)
    refine V.go (V.mv (v := (.bool (decide ((k : Int) < ((l.length : Nat) : Int))))) (at_same (((hz22.put _ _).put _ _).put _ _) rfl _) ?_)
    by_cases hg35 : (k : Int) < ((l.length : Nat) : Int)
    ·
      refine V.go_on 13 (by kernel_rfl) (((at_same ((((hz22.put _ _).put _ _).put _ _).put _ _) rfl _ : Act.eval _ _ = (.bool (decide ((k : Int) < ((l.length : Nat) : Int)))))).trans (dt hg35)) (V.mv (v := (.int .i64 (k : Int))) (at_other rfl _ (at_other rfl _ (at_other rfl _ (at_other rfl _ (at_other rfl _ (s6_26)))))) ?_)
      refine V.go_on 13 (by kernel_rfl) (((at_other rfl _ (at_same ((((hz22.put _ _).put _ _).put _ _).put _ _) rfl _) : Act.eval _ _ = (.bool (decide ((k : Int) < ((l.length : Nat) : Int)))))).trans (dt hg35)) (V.pv [(14, .int .i64 (k : Int))] ⟨(at_same (((((hz22.put _ _).put _ _).put _ _).put _ _).put _ _) rfl _), trivial⟩ (by kernel_rfl) (.bool (decide ((k : Int) < 50))) (by kernel_rfl) ?_)
      refine V.go (V.pk_t (((at_other rfl _ (at_other rfl _ (at_same ((((hz22.put _ _).put _ _).put _ _).put _ _) rfl _)) : Act.eval _ _ = (.bool (decide ((k : Int) < ((l.length : Nat) : Int)))))).trans (dt hg35)) (v := (.bool (decide ((k : Int) < 50)))) (at_same ((((((hz22.put _ _).put _ _).put _ _).put _ _).put _ _).put _ _) rfl _) ?_)
      refine V.nil ?_
      refine V.then_n (hK34 _ _ ?_)
      refine V.flushW ((((((((hz22.put _ _).put _ _).put _ _).put _ _).put _ _).put _ _).put _ _).put _ _) (fun a36 hz37 up38 => ?_)
      have s0_39 : a36.eval (.tmp 0) = (.string (cutS p)) := up38 _ _ (at_other rfl _ (at_other rfl _ (at_other rfl _ (at_other rfl _ (at_other rfl _ (at_other rfl _ (at_other rfl _ (at_other rfl _ (s0_23)))))))))
      have s1_40 : a36.eval (.tmp 1) = (.slice A0 l.length c0) := up38 _ _ (at_other rfl _ (at_other rfl _ (at_other rfl _ (at_other rfl _ (at_other rfl _ (at_other rfl _ (at_other rfl _ (at_other rfl _ (s1_24)))))))))
      have s5_41 : a36.eval (.tmp 5) = (.slice A acc.length c) := up38 _ _ (at_other rfl _ (at_other rfl _ (at_other rfl _ (at_other rfl _ (at_other rfl _ (at_other rfl _ (at_other rfl _ (at_other rfl _ (s5_25)))))))))
      have s6_42 : a36.eval (.tmp 6) = (.int .i64 (k : Int)) := up38 _ _ (at_other rfl _ (at_other rfl _ (at_other rfl _ (at_other rfl _ (at_other rfl _ (at_other rfl _ (at_other rfl _ (at_other rfl _ (s6_26)))))))))
      have s16_43 : a36.eval (.tmp 16) = (.bool (decide ((k : Int) < 50))) := up38 _ _ (at_same (((((((hz22.put _ _).put _ _).put _ _).put _ _).put _ _).put _ _).put _ _) rfl _)
      clear up38
      refine V.condP (p := (k : Int) < 50) (s16_43) (fun ht44 => ?_) (fun ht44 => ?_)
      ·
        refine V.skip ?_
        refine V.then_n (hK32 _ _ ?_)
        refine V.seq (fun K45 hK46 => ?_)
        refine V.block ?_
        refine V.region (by kernel_rfl) ?_
        refine V.go (V.mv (v := (.slice A acc.length c)) (s5_41) ?_)
        refine V.go (V.mv (v := (.slice A0 l.length c0)) (at_other rfl _ (s1_40)) ?_)
        refine V.go (V.mv (v := (.int .i64 (k : Int))) (at_other rfl _ (at_other rfl _ (s6_42))) ?_)
        obtain ⟨g47, o48, hA49, hA49l, hA49z⟩ := hS_29.addr (by omega)
        refine V.go (V.ixa g47 o48 l.length c0 .i64 (k : Int) 1 ((at_other rfl _ (at_same (hz37.put _ _) rfl _)).trans (by rw [hA49])) (at_same ((hz37.put _ _).put _ _) rfl _) (by omega) (by omega) (by kernel_rfl) ?_)
        obtain ⟨cs50, hok51, hE52⟩ := hS_29.els hA49 (k : Int) (by omega) (by omega)
        obtain rfl : cs50 = [.string (at_ Rp.str l (k : Int))] := hok51
        refine V.go (V.ld ⟨g47, o48 + (k : Int).toNat * 1, none⟩ (.string (at_ Rp.str l (k : Int))) (at_same (((hz37.put _ _).put _ _).put _ _) rfl _) (by kernel_rfl) (hE52.at 0 rfl) ?_)
        refine V.go (V.call 9 #[] #[.string (at_ Rp.str l (k : Int))] evf (args1 (at_same ((((hz37.put _ _).put _ _).put _ _).put _ _) rfl _)) (Go.Proofs.enters_of Try.func9 (by kernel_rfl) rfl) (cut_any w21 (at_ Rp.str l (k : Int))) ?_)
        rintro _ w54 ⟨rfl, hF53⟩
        refine ⟨_, rfl, ?_⟩
        have hsw54 := hF53.size
        have hO_55 := hO_27.fr0 hF53
        have hF_56 := hF_28.new hF53
        have hS_57 := hS_29.fr0 hF53
        have hE52_58 := hE52.fr0 hF53
        have hcut53 := cutS_le (at_ Rp.str l (k : Int))
        refine V.go (V.mk [(24, .string (cutS (at_ Rp.str l (k : Int))))] ⟨(at_same (((((hz37.put _ _).put _ _).put _ _).put _ _).put _ _) rfl _), trivial⟩ (by kernel_rfl) [.string (cutS (at_ Rp.str l (k : Int)))] 9 (fun b => .slice (some ⟨b, 0, none⟩) 1 1) (by kernel_rfl) ?_)
        intro w60 b59 heb59 hB61 hF62 hsb59
        have hO_63 := hO_55.fr0 hF62
        have hF_64 := hF_56.new hF62
        have hS_65 := hS_57.fr0 hF62
        have hE52_66 := hE52_58.fr0 hF62
        refine V.go (V.app (R := Rp.str) (ys := ([cutS (at_ Rp.str l (k : Int))])) (news := [.string (cutS (at_ Rp.str l (k : Int)))]) (at_other rfl _ (at_other rfl _ (at_other rfl _ (at_other rfl _ (at_other rfl _ (at_other rfl _ (at_same hz37 rfl _))))))) ⟨b59, 0, none⟩ 1 1 (at_same ((((((hz37.put _ _).put _ _).put _ _).put _ _).put _ _).put _ _) rfl _) (by kernel_rfl) (info9) (by kernel_rfl) (by decide) hO_63 rfl ⟨[.string (cutS (at_ Rp.str l (k : Int)))], [], rfl, rfl, rfl⟩ (blk_cells hB61 0 _ rfl) (by omega) (by decide) (by omega) ?_)
        intro A67 c68 w69 hO70z hF71 hatw69
        have hsw69 := hF71.size
        have hF_72 := hF_64.own hF71 (own_ge hO_63 (by omega))
        have hS_73 := hS_65.fr hF71 (by intro b hb hz; have := own_ge hO_63 (Nat.le_refl _) b hb; omega)
        have hE52_74 := hE52_66.fr hF71 (by first | exact own_notin hO_63 (by omega) | exact own_notin2 hO_27 (by omega))
        have hO70 := hO70z.zone (Z' := NoZ) (fun _ _ q => q.1) (fun _ _ q => q)
        refine V.go (V.asg (v := (.slice A67 (acc.length + 1) c68)) (at_same (((((((hz37.put _ _).put _ _).put _ _).put _ _).put _ _).put _ _).put _ _) rfl _) ?_)
        refine V.nil ?_
        refine V.blk_n ?_
        refine V.then_n (hK46 _ _ ?_)
        refine V.flushW (((((((((hz37.put _ _).put _ _).put _ _).put _ _).put _ _).put _ _).put _ _).put _ _).put _ _) (fun a75 hz76 up77 => ?_)
        have s0_78 : a75.eval (.tmp 0) = (.string (cutS p)) := up77 _ _ (at_other rfl _ (at_other rfl _ (at_other rfl _ (at_other rfl _ (at_other rfl _ (at_other rfl _ (at_other rfl _ (at_other rfl _ (at_other rfl _ (s0_39))))))))))
        have s1_79 : a75.eval (.tmp 1) = (.slice A0 l.length c0) := up77 _ _ (at_other rfl _ (at_other rfl _ (at_other rfl _ (at_other rfl _ (at_other rfl _ (at_other rfl _ (at_other rfl _ (at_other rfl _ (at_other rfl _ (s1_40))))))))))
        have s5_80 : a75.eval (.tmp 5) = (.slice A67 (acc.length + 1) c68) := up77 _ _ (at_same ((((((((hz37.put _ _).put _ _).put _ _).put _ _).put _ _).put _ _).put _ _).put _ _) rfl _)
        have s6_81 : a75.eval (.tmp 6) = (.int .i64 (k : Int)) := up77 _ _ (at_other rfl _ (at_other rfl _ (at_other rfl _ (at_other rfl _ (at_other rfl _ (at_other rfl _ (at_other rfl _ (at_other rfl _ (at_other rfl _ (s6_42))))))))))
        clear up77
        refine V.region (by kernel_rfl) ?_
        refine V.go (V.mv (v := (.int .i64 (k : Int))) (s6_81) ?_)
        refine V.go (V.pvw [(17, .int .i64 (k : Int))] ⟨(at_same hz76 rfl _), trivial⟩ (by kernel_rfl) (.int .i64 (IntKind.i64.wrap ((k : Int) + 1))) (.int .i64 ((k : Int) + 1)) (by kernel_rfl) (V.w_i64 (by omega) (by omega)) ?_)
        refine V.go (V.asg (v := (.int .i64 ((k : Int) + 1))) (at_same (hz76.put _ _) rfl _) ?_)
        refine V.nil ?_
        refine V.then_n ?_
        refine ⟨k + 1, acc ++ [cutS (at_ Rp.str l (k : Int))], A67, c68, by omega, ?_⟩
        refine ⟨(((hz76.put _ _).put _ _).put _ _), ?_, ?_, ?_, ?_, (by simpa using hO70), hF_72, hS_73, (by omega), (by first | omega | (simp; omega))⟩
        · exact (at_other rfl _ (at_other rfl _ (at_other rfl _ (s0_78))))
        · exact (at_other rfl _ (at_other rfl _ (at_other rfl _ (s1_79))))
        · exact Eq.trans (at_other rfl _ (at_other rfl _ (at_other rfl _ (s5_80)))) (V.sl_eq (by simp))
        · exact Eq.trans (at_same ((hz76.put _ _).put _ _) rfl _) (V.int_eq (by omega))
      ·
        refine V.exit ?_
        refine V.then_e ?_
        refine V.then_e ?_
        refine V.blk_hit ?_
        refine V.then_n (hK17 _ _ ?_)
        refine V.seq (fun K82 hK83 => ?_)
        have hS84 : SlR Rp.str (fun b => w.heap.size ≤ b) w21 (.slice A acc.length c) acc := hO_27.read (fun _ _ h => h.elim) (fun b hb _ => hb)
        refine V.region (by kernel_rfl) ?_
        refine V.go (V.mv (v := (.string (cutS p))) (s0_39) ?_)
        refine V.go (V.mv (v := (.slice A acc.length c)) (at_other rfl _ (s5_41)) ?_)
        refine V.go (V.call 15 #[] #[.string (cutS p), .slice A acc.length c] evf (args2 (at_other rfl _ (at_same hz37 rfl _)) (at_same (hz37.put _ _) rfl _)) (Go.Proofs.enters_of Try.func15 (by kernel_rfl) rfl) (filter_any w21 (cutS p) A c (acc) (by first | omega | (simp; omega)) (hS84.zone fun b hb _ => hb)) ?_)
        rintro _ w89 ⟨A85, c86, rfl, hS87, hF88⟩
        refine ⟨_, rfl, ?_⟩
        have hsw89 := hF88.size
        have hF_90 := hF_28.new hF88
        have hS_91 := hS_29.fr0 hF88
        have hS84_92 := hS84.fr0 hF88
        refine V.go (V.mv (v := (.string (cutS p))) (at_other rfl _ (at_other rfl _ (at_other rfl _ (s0_39)))) ?_)
        refine V.go (V.mv (v := (.slice A acc.length c)) (at_other rfl _ (at_other rfl _ (at_other rfl _ (at_other rfl _ (s5_41))))) ?_)
        refine V.go (V.call 16 #[] #[.string (cutS p), .slice A acc.length c] evf (args2 (at_other rfl _ (at_same (((hz37.put _ _).put _ _).put _ _) rfl _)) (at_same ((((hz37.put _ _).put _ _).put _ _).put _ _) rfl _)) (Go.Proofs.enters_of Try.func16 (by kernel_rfl) rfl) (rfilter_any w89 (cutS p) A c (acc) (by first | omega | (simp; omega)) (hS84_92.zone fun b hb _ => hb)) ?_)
        rintro _ w97 ⟨A93, c94, rfl, hS95, hF96⟩
        refine ⟨_, rfl, ?_⟩
        have hsw97 := hF96.size
        have hF_98 := hF_90.new hF96
        have hS_99 := hS_91.fr0 hF96
        have hS84_100 := hS84_92.fr0 hF96
        have hS87_101 := hS87.fr0 hF96
        refine V.go (V.call 14 #[] #[.slice A85 (((acc).filter (fun s => rmat (cutS p) s false)).length) c86, .slice A93 (((acc).filter (fun s => rmat (cutS p) s false)).length) c94] evf (args2 (at_other rfl _ (at_other rfl _ (at_other rfl _ (at_same ((hz37.put _ _).put _ _) rfl _)))) (at_same (((((hz37.put _ _).put _ _).put _ _).put _ _).put _ _) rfl _)) (Go.Proofs.enters_of Try.func14 (by kernel_rfl) rfl) ((by have h := same_any w97 _ _ A85 A93 c86 c94 ((acc).filter (fun s => rmat (cutS p) s false)) ((acc).filter (fun s => rmat (cutS p) s false)) hS87_101 hS95; rw [decide_eq_true rfl] at h; exact h)) ?_)
        rintro _ w103 ⟨rfl, hF102⟩
        refine ⟨_, rfl, ?_⟩
        have hsw103 := hF102.size
        have hF_104 := hF_98.new hF102
        have hS_105 := hS_99.fr0 hF102
        have hS84_106 := hS84_100.fr0 hF102
        have hS87_107 := hS87_101.fr0 hF102
        have hS95_108 := hS95.fr0 hF102
        refine V.go (V.mv (v := (.bool true)) (at_same ((((((hz37.put _ _).put _ _).put _ _).put _ _).put _ _).put _ _) rfl _) ?_)
        refine V.go_on 34 (by kernel_rfl) (at_same (((((((hz37.put _ _).put _ _).put _ _).put _ _).put _ _).put _ _).put _ _) rfl _) (V.call 12 #[] #[] evf (args0) (Go.Proofs.enters_of Try.func12 (by kernel_rfl) rfl) (awake_any w103) ?_)
        rintro _ w110 ⟨rfl, hF109⟩
        refine ⟨_, rfl, ?_⟩
        have hsw110 := hF109.size
        have hF_111 := hF_104.new hF109
        have hS_112 := hS_105.fr0 hF109
        have hS84_113 := hS84_106.fr0 hF109
        have hS87_114 := hS87_107.fr0 hF109
        have hS95_115 := hS95_108.fr0 hF109
        refine V.go (V.pk_t (at_other rfl _ (at_same (((((((hz37.put _ _).put _ _).put _ _).put _ _).put _ _).put _ _).put _ _) rfl _)) (v := (.bool true)) (at_same ((((((((hz37.put _ _).put _ _).put _ _).put _ _).put _ _).put _ _).put _ _).put _ _) rfl _) ?_)
        refine V.go (V.asg (v := (.bool true)) (at_same (((((((((hz37.put _ _).put _ _).put _ _).put _ _).put _ _).put _ _).put _ _).put _ _).put _ _) rfl _) ?_)
        refine V.nil ?_
        refine V.then_n (hK83 _ _ ?_)
        refine V.flushW (((((((((((hz37.put _ _).put _ _).put _ _).put _ _).put _ _).put _ _).put _ _).put _ _).put _ _).put _ _).put _ _) (fun a116 hz117 up118 => ?_)
        have s4_119 : a116.eval (.tmp 4) = (.bool true) := up118 _ _ (at_same ((((((((((hz37.put _ _).put _ _).put _ _).put _ _).put _ _).put _ _).put _ _).put _ _).put _ _).put _ _) rfl _)
        clear up118
        refine V.ret ?_
        refine V.ret1 hz117 rfl (s4_119) ?_
        exact ⟨rfl, hF_111⟩
    ·
      refine V.go_off 13 (by kernel_rfl) (((at_same ((((hz22.put _ _).put _ _).put _ _).put _ _) rfl _ : Act.eval _ _ = (.bool (decide ((k : Int) < ((l.length : Nat) : Int)))))).trans (df hg35)) (by kernel_rfl) ?_
      refine V.go_off 13 (by kernel_rfl) (((at_other rfl _ (at_same ((((hz22.put _ _).put _ _).put _ _).put _ _) rfl _) : Act.eval _ _ = (.bool (decide ((k : Int) < ((l.length : Nat) : Int)))))).trans (df hg35)) (by kernel_rfl) ?_
      refine V.go (V.pk_f (((at_other rfl _ (at_other rfl _ (at_same ((((hz22.put _ _).put _ _).put _ _).put _ _) rfl _)) : Act.eval _ _ = (.bool (decide ((k : Int) < ((l.length : Nat) : Int)))))).trans (df hg35)) (v := (.bool false)) evc ?_)
      refine V.nil ?_
      refine V.then_n (hK34 _ _ ?_)
      refine V.flushW ((((((((hz22.put _ _).put _ _).put _ _).put _ _).put _ _).put _ _).put _ _).put _ _) (fun a120 hz121 up122 => ?_)
      have s0_123 : a120.eval (.tmp 0) = (.string (cutS p)) := up122 _ _ (at_other rfl _ (at_other rfl _ (at_other rfl _ (at_other rfl _ (at_other rfl _ (at_other rfl _ (at_other rfl _ (at_other rfl _ (s0_23)))))))))
      have s1_124 : a120.eval (.tmp 1) = (.slice A0 l.length c0) := up122 _ _ (at_other rfl _ (at_other rfl _ (at_other rfl _ (at_other rfl _ (at_other rfl _ (at_other rfl _ (at_other rfl _ (at_other rfl _ (s1_24)))))))))
      have s5_125 : a120.eval (.tmp 5) = (.slice A acc.length c) := up122 _ _ (at_other rfl _ (at_other rfl _ (at_other rfl _ (at_other rfl _ (at_other rfl _ (at_other rfl _ (at_other rfl _ (at_other rfl _ (s5_25)))))))))
      have s6_126 : a120.eval (.tmp 6) = (.int .i64 (k : Int)) := up122 _ _ (at_other rfl _ (at_other rfl _ (at_other rfl _ (at_other rfl _ (at_other rfl _ (at_other rfl _ (at_other rfl _ (at_other rfl _ (s6_26)))))))))
      have s16_127 : a120.eval (.tmp 16) = (.bool false) := up122 _ _ (at_same (((((((hz22.put _ _).put _ _).put _ _).put _ _).put _ _).put _ _).put _ _) rfl _)
      clear up122
      refine V.cond_f (s16_127) ?_
      refine V.exit ?_
      refine V.then_e ?_
      refine V.then_e ?_
      refine V.blk_hit ?_
      refine V.then_n (hK17 _ _ ?_)
      refine V.seq (fun K128 hK129 => ?_)
      have hS130 : SlR Rp.str (fun b => w.heap.size ≤ b) w21 (.slice A acc.length c) acc := hO_27.read (fun _ _ h => h.elim) (fun b hb _ => hb)
      refine V.region (by kernel_rfl) ?_
      refine V.go (V.mv (v := (.string (cutS p))) (s0_123) ?_)
      refine V.go (V.mv (v := (.slice A acc.length c)) (at_other rfl _ (s5_125)) ?_)
      refine V.go (V.call 15 #[] #[.string (cutS p), .slice A acc.length c] evf (args2 (at_other rfl _ (at_same hz121 rfl _)) (at_same (hz121.put _ _) rfl _)) (Go.Proofs.enters_of Try.func15 (by kernel_rfl) rfl) (filter_any w21 (cutS p) A c (acc) (by first | omega | (simp; omega)) (hS130.zone fun b hb _ => hb)) ?_)
      rintro _ w135 ⟨A131, c132, rfl, hS133, hF134⟩
      refine ⟨_, rfl, ?_⟩
      have hsw135 := hF134.size
      have hF_136 := hF_28.new hF134
      have hS_137 := hS_29.fr0 hF134
      have hS130_138 := hS130.fr0 hF134
      refine V.go (V.mv (v := (.string (cutS p))) (at_other rfl _ (at_other rfl _ (at_other rfl _ (s0_123)))) ?_)
      refine V.go (V.mv (v := (.slice A acc.length c)) (at_other rfl _ (at_other rfl _ (at_other rfl _ (at_other rfl _ (s5_125))))) ?_)
      refine V.go (V.call 16 #[] #[.string (cutS p), .slice A acc.length c] evf (args2 (at_other rfl _ (at_same (((hz121.put _ _).put _ _).put _ _) rfl _)) (at_same ((((hz121.put _ _).put _ _).put _ _).put _ _) rfl _)) (Go.Proofs.enters_of Try.func16 (by kernel_rfl) rfl) (rfilter_any w135 (cutS p) A c (acc) (by first | omega | (simp; omega)) (hS130_138.zone fun b hb _ => hb)) ?_)
      rintro _ w143 ⟨A139, c140, rfl, hS141, hF142⟩
      refine ⟨_, rfl, ?_⟩
      have hsw143 := hF142.size
      have hF_144 := hF_136.new hF142
      have hS_145 := hS_137.fr0 hF142
      have hS130_146 := hS130_138.fr0 hF142
      have hS133_147 := hS133.fr0 hF142
      refine V.go (V.call 14 #[] #[.slice A131 (((acc).filter (fun s => rmat (cutS p) s false)).length) c132, .slice A139 (((acc).filter (fun s => rmat (cutS p) s false)).length) c140] evf (args2 (at_other rfl _ (at_other rfl _ (at_other rfl _ (at_same ((hz121.put _ _).put _ _) rfl _)))) (at_same (((((hz121.put _ _).put _ _).put _ _).put _ _).put _ _) rfl _)) (Go.Proofs.enters_of Try.func14 (by kernel_rfl) rfl) ((by have h := same_any w143 _ _ A131 A139 c132 c140 ((acc).filter (fun s => rmat (cutS p) s false)) ((acc).filter (fun s => rmat (cutS p) s false)) hS133_147 hS141; rw [decide_eq_true rfl] at h; exact h)) ?_)
      rintro _ w149 ⟨rfl, hF148⟩
      refine ⟨_, rfl, ?_⟩
      have hsw149 := hF148.size
      have hF_150 := hF_144.new hF148
      have hS_151 := hS_145.fr0 hF148
      have hS130_152 := hS130_146.fr0 hF148
      have hS133_153 := hS133_147.fr0 hF148
      have hS141_154 := hS141.fr0 hF148
      refine V.go (V.mv (v := (.bool true)) (at_same ((((((hz121.put _ _).put _ _).put _ _).put _ _).put _ _).put _ _) rfl _) ?_)
      refine V.go_on 34 (by kernel_rfl) (at_same (((((((hz121.put _ _).put _ _).put _ _).put _ _).put _ _).put _ _).put _ _) rfl _) (V.call 12 #[] #[] evf (args0) (Go.Proofs.enters_of Try.func12 (by kernel_rfl) rfl) (awake_any w149) ?_)
      rintro _ w156 ⟨rfl, hF155⟩
      refine ⟨_, rfl, ?_⟩
      have hsw156 := hF155.size
      have hF_157 := hF_150.new hF155
      have hS_158 := hS_151.fr0 hF155
      have hS130_159 := hS130_152.fr0 hF155
      have hS133_160 := hS133_153.fr0 hF155
      have hS141_161 := hS141_154.fr0 hF155
      refine V.go (V.pk_t (at_other rfl _ (at_same (((((((hz121.put _ _).put _ _).put _ _).put _ _).put _ _).put _ _).put _ _) rfl _)) (v := (.bool true)) (at_same ((((((((hz121.put _ _).put _ _).put _ _).put _ _).put _ _).put _ _).put _ _).put _ _) rfl _) ?_)
      refine V.go (V.asg (v := (.bool true)) (at_same (((((((((hz121.put _ _).put _ _).put _ _).put _ _).put _ _).put _ _).put _ _).put _ _).put _ _) rfl _) ?_)
      refine V.nil ?_
      refine V.then_n (hK129 _ _ ?_)
      refine V.flushW (((((((((((hz121.put _ _).put _ _).put _ _).put _ _).put _ _).put _ _).put _ _).put _ _).put _ _).put _ _).put _ _) (fun a162 hz163 up164 => ?_)
      have s4_165 : a162.eval (.tmp 4) = (.bool true) := up164 _ _ (at_same ((((((((((hz121.put _ _).put _ _).put _ _).put _ _).put _ _).put _ _).put _ _).put _ _).put _ _).put _ _) rfl _)
      clear up164
      refine V.ret ?_
      refine V.ret1 hz163 rfl (s4_165) ?_
      exact ⟨rfl, hF_157⟩
end Go.Proofs.Ytmlohijidjbbjaa
