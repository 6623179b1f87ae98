/- Walks: the reference's Head, Plain; Plain. -/
import Derived.Test.YtmlohijidjbbjaaProg
import Derived.Test.YtmlohijidjbbjaaWb
import Derived.Test.YtmlohijidjbbjaaWo
import Derived.Test.YtmlohijidjbbjaaTk
namespace Go.Proofs.Ytmlohijidjbbjaa
open Go.V Go.Base
attribute [local irreducible] Act.put Act.eval
set_option linter.unusedVariables false
set_option linter.unusedSimpArgs false
/-- The one text that matches, if all parts are bytes. -/
def plainB (p : ByteArray) : Bool := (parse (ints p)).all fun g => decide (g.kind = 3)
def plainS (p : ByteArray) : ByteArray := if plainB p = true then headS p else ⟨#[]⟩
theorem plainB_iff {p : ByteArray} : plainB p = true ↔ ∀ x ∈ parse (ints p), x.kind = 3 := by unfold plainB; simp
theorem rhead_all {p : ByteArray} {k : Nat} (hk : (parse (ints p)).length ≤ k) (h : ∀ x ∈ (parse (ints p)).take k, x.kind = 3) : strI (((parse (ints p)).take k).map (·.c)) = headS p := by
  rw [List.take_of_length_le hk] at h ⊢
  unfold headS
  rw [headI_all h]
theorem rhead_stop {p : ByteArray} {k : Nat} (hk : k < (parse (ints p)).length) (h : ∀ x ∈ (parse (ints p)).take k, x.kind = 3) (hn : ¬ (at_ globR (parse (ints p)) (k : Int)).kind = 3) : strI (((parse (ints p)).take k).map (·.c)) = headS p := by
  unfold headS
  have e : parse (ints p) = (parse (ints p)).take k ++ at_ globR (parse (ints p)) (k : Int) :: (parse (ints p)).drop (k + 1) := by
    have h1 := List.take_append_drop (k + 1) (parse (ints p))
    rw [take_at globR hk, List.append_assoc] at h1
    exact h1.symm
  rw [show headI (parse (ints p)) = ((parse (ints p)).take k).map (·.c) from by
    conv => lhs; rw [e]
    exact headI_stop h hn]
theorem headI_le (l : List Glob) : (headI l).length ≤ l.length := by unfold headI; rw [List.length_map]; exact (List.takeWhile_sublist _).length_le
theorem headS_size (p : ByteArray) : (headS p).size = (headI (parse (ints p))).length := strI_size _
theorem headI_full : ∀ {l : List Glob}, l.length ≤ (headI l).length → ∀ x ∈ l, x.kind = 3
  | [], _, x, hx => by cases hx
  | g :: l, h, x, hx => by
    by_cases hk : g.kind = 3
    · have h' : l.length ≤ (headI l).length := by
        unfold headI at h ⊢
        rw [List.takeWhile_cons_of_pos (by simpa using hk)] at h
        simpa using h
      rcases List.mem_cons.1 hx with rfl | hx
      · exact hk
      · exact headI_full h' x hx
    · unfold headI at h
      rw [List.takeWhile_cons_of_neg (by simpa using hk)] at h
      simp at h
theorem plain_f {p : ByteArray} (h : ((headS p).size : Int) < ((parse (ints p)).length : Nat)) : Ending.returned (Value.tuple #[.string ⟨#[]⟩, .bool false]) = .returned (.tuple #[.string (plainS p), .bool (plainB p)]) := by
  have hb : plainB p = false := by
    cases hb : plainB p with
    | false => rfl
    | true =>
      rw [headS_size, headI_all (plainB_iff.1 hb), List.length_map] at h
      omega
  unfold plainS
  rw [hb]; rfl
theorem plain_t {p : ByteArray} (h : ¬ ((headS p).size : Int) < ((parse (ints p)).length : Nat)) : Ending.returned (Value.tuple #[.string (headS p), .bool true]) = .returned (.tuple #[.string (plainS p), .bool (plainB p)]) := by
  have hb : plainB p = true := plainB_iff.2 (headI_full (by rw [headS_size] at h; omega))
  unfold plainS
  rw [hb, if_pos rfl]
theorem plain_all {p : ByteArray} {pre : List GX} (hS : SG p pre) (h : ∀ x ∈ pre, x.1.kind = 3) : Ending.returned (Value.tuple #[.string (headS p), .bool true]) = .returned (.tuple #[.string (plainS p), .bool (plainB p)]) := by
  have hb : plainB p = true := plainB_iff.2 (fun x hx => by
    rw [← (show pre.map (·.1) = parse (ints p) from hS)] at hx
    obtain ⟨y, hy, rfl⟩ := List.mem_map.1 hx
    exact h y hy)
  unfold plainS
  rw [hb, if_pos rfl]
theorem plain_stop {p : ByteArray} {pre l : List GX} {y : GX} (hS : SpG p pre) (hpre : pre = l ++ [y]) (hy : ¬ y.1.kind = 3) : Ending.returned (Value.tuple #[.string ⟨#[]⟩, .bool false]) = .returned (.tuple #[.string (plainS p), .bool (plainB p)]) := by
  have hb : plainB p = false := by
    cases hb : plainB p with
    | false => rfl
    | true =>
      obtain ⟨rest, hr⟩ := hS
      subst hpre
      exact absurd (plainB_iff.1 hb y.1 (by rw [← hr]; simp)) hy
  unfold plainS
  rw [hb]; rfl
set_option maxHeartbeats 4000000 in
set_option maxRecDepth 20000 in
theorem rhead_any (w : World) (p : ByteArray) (hp : p.size ≤ 1048576) : Calls Try.prog 23 #[.string p] w (fun e w' => e = .returned (.string (headS p)) ∧ Fr [] w w') := by
  have hF := Fr.refl [] w
  refine V.enter 32 Try.func23 rfl rfl ?_
  intro a hz ha
  have s0 : a.eval (.tmp 0) = (.string p) := ha 0 _ rfl
  clear ha
  refine V.seq (fun K1 hK2 => ?_)
  refine V.region (by kernel_rfl) ?_
  refine V.go (V.asg (v := (.string ⟨#[]⟩)) evc ?_)
  refine V.nil ?_
  refine V.then_n (hK2 _ _ ?_)
  refine V.seq (fun K3 hK4 => ?_)
  refine V.region (by kernel_rfl) ?_
  refine V.go (V.mv (v := (.string p)) (at_other rfl _ (s0)) ?_)
  refine V.go (V.call 22 #[] #[.string p] evf (args1 (at_same (hz.put _ _) rfl _)) (Go.Proofs.enters_of Try.func22 (by kernel_rfl) rfl) (rparse_any w p (by omega)) ?_)
  rintro _ w9 ⟨A5, c6, rfl, hps7, hF8⟩
  refine ⟨_, rfl, ?_⟩
  have hsw9 := hF8.size
  have hF_10 := hF.new hF8
  have hpl8 := parse_length (ints p); rw [ints_length] at hpl8
  refine V.go (V.asg (v := (.slice A5 ((parse (ints p)).length) c6)) (at_same ((hz.put _ _).put _ _) rfl _) ?_)
  refine V.nil ?_
  refine V.then_n (hK4 _ _ ?_)
  refine V.flushW ((((hz.put _ _).put _ _).put _ _).put _ _) (fun a11 hz12 up13 => ?_)
  have s3_14 : a11.eval (.tmp 3) = (.slice A5 ((parse (ints p)).length) c6) := up13 _ _ (at_same (((hz.put _ _).put _ _).put _ _) rfl _)
  clear up13
  refine V.seq (fun K15 hK16 => ?_)
  refine V.region (by kernel_rfl) ?_
  refine V.go (V.asg (v := (.slice none 0 0)) evc ?_)
  refine V.nil ?_
  refine V.then_n (hK16 _ _ ?_)
  refine V.seq (fun K17 hK18 => ?_)
  refine V.seq (fun K19 hK20 => ?_)
  have hps21 := hps7.zone (Z' := fun b => b < w9.heap.size) (fun b hb _ => hb)
  refine V.region (by kernel_rfl) ?_
  refine V.go (V.asg (v := (.int .i64 0)) evc ?_)
  refine V.nil ?_
  refine V.then_n (hK20 _ _ ?_)
  refine V.block ?_
  have hO0 := OwR.nil (Rp.int .u8) NoZ w9 w9.heap.size 5
  refine V.loop4 (fun (k : Nat) (acc : List Int) (A : Option Addr) (c : Nat) a_ w_ => Sz 32 a_ ∧ a_.eval (.tmp 3) = (.slice A5 ((parse (ints p)).length) c6) ∧ a_.eval (.tmp 4) = (.slice A acc.length c) ∧ a_.eval (.tmp 5) = (.int .i64 (k : Int)) ∧ OwR (Rp.int .u8) NoZ w_ w9.heap.size 5 (.slice A acc.length c) acc ∧ Fr [] w9 w_ ∧ Fr [] w w_ ∧ SlR globR (fun b => b < w9.heap.size) w_ (.slice A5 ((parse (ints p)).length) c6) (parse (ints p)) ∧ (k ≤ (parse (ints p)).length) ∧ (acc.length ≤ k) ∧ (((parse (ints p)).take k).map (·.c) = acc) ∧ (∀ x ∈ (parse (ints p)).take k, x.kind = 3)) (fun (k : Nat) (acc : List Int) (A : Option Addr) (c : Nat) => (parse (ints p)).length - k) 0 ([]) none 0 ?_ ?_
  ·
    refine ⟨((hz12.put _ _).put _ _), ?_, ?_, ?_, hO0, (Fr.refl [] _), hF_10, hps21, (by omega), (by simp), (by simp), (by simp)⟩
    · exact (at_other rfl _ (at_other rfl _ (s3_14)))
    · exact Eq.trans (at_other rfl _ (at_same hz12 rfl _)) (V.sl_eq (by simp))
    · exact Eq.trans (at_same (hz12.put _ _) rfl _) (V.int_eq (by omega))
  ·
    rintro k acc A c a22 w23 ⟨hz24, s3_25, s4_26, s5_27, hO_28, hF0_29, hF_30, hps21_31, hk, hacc, hf, hall⟩
    have hfs32 := hF0_29.size
    have hfs33 := hF_30.size
    refine V.seq (fun K34 hK35 => ?_)
    refine V.seq (fun K36 hK37 => ?_)
    refine V.region (by kernel_rfl) ?_
    refine V.go (V.mv (v := (.int .i64 (k : Int))) (s5_27) ?_)
    refine V.go (V.mv (v := (.slice A5 ((parse (ints p)).length) c6)) (at_other rfl _ (s3_25)) ?_)
    refine V.go (V.pv [(9, .slice A5 ((parse (ints p)).length) c6)] ⟨(at_same (hz24.put _ _) rfl _), trivial⟩ (by kernel_rfl) (.int .i64 (((parse (ints p)).length : Nat) : Int)) (by kernel_rfl) ?_)
    refine V.go (V.pv [(8, .int .i64 (k : Int)), (10, .int .i64 (((parse (ints p)).length : Nat) : Int))] ⟨(at_other rfl _ (at_other rfl _ (at_same hz24 rfl _))), (at_same ((hz24.put _ _).put _ _) rfl _), trivial⟩ (by kernel_rfl) (.bool (decide ((k : Int) < (((parse (ints p)).length : Nat) : Int)))) (by kernel_rfl) ?_)
    refine V.go (V.mv (v := (.bool (decide ((k : Int) < (((parse (ints p)).length : Nat) : Int))))) (at_same (((hz24.put _ _).put _ _).put _ _) rfl _) ?_)
    by_cases hg38 : (k : Int) < (((parse (ints p)).length : Nat) : Int)
    ·
      refine V.go_on 12 (by kernel_rfl) (((at_same ((((hz24.put _ _).put _ _).put _ _).put _ _) rfl _ : Act.eval _ _ = (.bool (decide ((k : Int) < (((parse (ints p)).length : Nat) : Int)))))).trans (dt hg38)) (V.mv (v := (.slice A5 ((parse (ints p)).length) c6)) (at_other rfl _ (at_other rfl _ (at_other rfl _ (at_other rfl _ (at_other rfl _ (s3_25)))))) ?_)
      refine V.go_on 12 (by kernel_rfl) (((at_other rfl _ (at_same ((((hz24.put _ _).put _ _).put _ _).put _ _) rfl _) : Act.eval _ _ = (.bool (decide ((k : Int) < (((parse (ints p)).length : Nat) : Int)))))).trans (dt hg38)) (V.mv (v := (.int .i64 (k : Int))) (at_other rfl _ (at_other rfl _ (at_other rfl _ (at_other rfl _ (at_other rfl _ (at_other rfl _ (s5_27))))))) ?_)
      obtain ⟨g39, o40, hA41, hA41l, hA41z⟩ := hps21_31.addr (by omega)
      refine V.go_on 12 (by kernel_rfl) (((at_other rfl _ (at_other rfl _ (at_same ((((hz24.put _ _).put _ _).put _ _).put _ _) rfl _)) : Act.eval _ _ = (.bool (decide ((k : Int) < (((parse (ints p)).length : Nat) : Int)))))).trans (dt hg38)) (V.ixa g39 o40 ((parse (ints p)).length) c6 .i64 (k : Int) 4 ((at_other rfl _ (at_same (((((hz24.put _ _).put _ _).put _ _).put _ _).put _ _) rfl _)).trans (by rw [hA41])) (at_same ((((((hz24.put _ _).put _ _).put _ _).put _ _).put _ _).put _ _) rfl _) (by omega) (by omega) (by kernel_rfl) ?_)
      refine V.go_on 12 (by kernel_rfl) (((at_other rfl _ (at_other rfl _ (at_other rfl _ (at_same ((((hz24.put _ _).put _ _).put _ _).put _ _) rfl _))) : Act.eval _ _ = (.bool (decide ((k : Int) < (((parse (ints p)).length : Nat) : Int)))))).trans (dt hg38)) (V.fa (at_same (((((((hz24.put _ _).put _ _).put _ _).put _ _).put _ _).put _ _).put _ _) rfl _) 0 (fun _ _ => by kernel_rfl) ?_)
      obtain ⟨cs42, hok43, hE44⟩ := hps21_31.els hA41 (k : Int) (by omega) (by omega)
      obtain ⟨A45, c46, rfl, hcap47, hS48⟩ := glob_open hok43
      refine V.go_on 12 (by kernel_rfl) (((at_other rfl _ (at_other rfl _ (at_other rfl _ (at_other rfl _ (at_same ((((hz24.put _ _).put _ _).put _ _).put _ _) rfl _)))) : Act.eval _ _ = (.bool (decide ((k : Int) < (((parse (ints p)).length : Nat) : Int)))))).trans (dt hg38)) (V.ld ⟨g39, o40 + (k : Int).toNat * 4, none⟩ (.int .i64 ((at_ globR (parse (ints p)) (k : Int)).kind)) (at_same ((((((((hz24.put _ _).put _ _).put _ _).put _ _).put _ _).put _ _).put _ _).put _ _) rfl _) (by kernel_rfl) (hE44.at 0 rfl) ?_)
      refine V.go_on 12 (by kernel_rfl) (((at_other rfl _ (at_other rfl _ (at_other rfl _ (at_other rfl _ (at_other rfl _ (at_same ((((hz24.put _ _).put _ _).put _ _).put _ _) rfl _))))) : Act.eval _ _ = (.bool (decide ((k : Int) < (((parse (ints p)).length : Nat) : Int)))))).trans (dt hg38)) (V.pvw [(17, .int .i64 ((at_ globR (parse (ints p)) (k : Int)).kind))] ⟨(at_same (((((((((hz24.put _ _).put _ _).put _ _).put _ _).put _ _).put _ _).put _ _).put _ _).put _ _) rfl _), trivial⟩ (by kernel_rfl) (.bool (((at_ globR (parse (ints p)) (k : Int)).kind) == 3)) (.bool (decide (((at_ globR (parse (ints p)) (k : Int)).kind) = 3))) (by kernel_rfl) V.t_eql ?_)
      refine V.go (V.pk_t (((at_other rfl _ (at_other rfl _ (at_other rfl _ (at_other rfl _ (at_other rfl _ (at_other rfl _ (at_same ((((hz24.put _ _).put _ _).put _ _).put _ _) rfl _)))))) : Act.eval _ _ = (.bool (decide ((k : Int) < (((parse (ints p)).length : Nat) : Int)))))).trans (dt hg38)) (v := (.bool (decide (((at_ globR (parse (ints p)) (k : Int)).kind) = 3)))) (at_same ((((((((((hz24.put _ _).put _ _).put _ _).put _ _).put _ _).put _ _).put _ _).put _ _).put _ _).put _ _) rfl _) ?_)
      refine V.nil ?_
      refine V.then_n (hK37 _ _ ?_)
      refine V.flushW ((((((((((((hz24.put _ _).put _ _).put _ _).put _ _).put _ _).put _ _).put _ _).put _ _).put _ _).put _ _).put _ _).put _ _) (fun a49 hz50 up51 => ?_)
      have s3_52 : a49.eval (.tmp 3) = (.slice A5 ((parse (ints p)).length) c6) := up51 _ _ (at_other rfl _ (at_other rfl _ (at_other rfl _ (at_other rfl _ (at_other rfl _ (at_other rfl _ (at_other rfl _ (at_other rfl _ (at_other rfl _ (at_other rfl _ (at_other rfl _ (at_other rfl _ (s3_25)))))))))))))
      have s4_53 : a49.eval (.tmp 4) = (.slice A acc.length c) := up51 _ _ (at_other rfl _ (at_other rfl _ (at_other rfl _ (at_other rfl _ (at_other rfl _ (at_other rfl _ (at_other rfl _ (at_other rfl _ (at_other rfl _ (at_other rfl _ (at_other rfl _ (at_other rfl _ (s4_26)))))))))))))
      have s5_54 : a49.eval (.tmp 5) = (.int .i64 (k : Int)) := up51 _ _ (at_other rfl _ (at_other rfl _ (at_other rfl _ (at_other rfl _ (at_other rfl _ (at_other rfl _ (at_other rfl _ (at_other rfl _ (at_other rfl _ (at_other rfl _ (at_other rfl _ (at_other rfl _ (s5_27)))))))))))))
      have s19_55 : a49.eval (.tmp 19) = (.bool (decide (((at_ globR (parse (ints p)) (k : Int)).kind) = 3))) := up51 _ _ (at_same (((((((((((hz24.put _ _).put _ _).put _ _).put _ _).put _ _).put _ _).put _ _).put _ _).put _ _).put _ _).put _ _) rfl _)
      clear up51
      refine V.condP (p := ((at_ globR (parse (ints p)) (k : Int)).kind) = 3) (s19_55) (fun ht56 => ?_) (fun ht56 => ?_)
      ·
        refine V.skip ?_
        refine V.then_n (hK35 _ _ ?_)
        refine V.seq (fun K57 hK58 => ?_)
        refine V.block ?_
        refine V.region (by kernel_rfl) ?_
        refine V.go (V.mv (v := (.slice A acc.length c)) (s4_53) ?_)
        refine V.go (V.mv (v := (.slice A5 ((parse (ints p)).length) c6)) (at_other rfl _ (s3_52)) ?_)
        refine V.go (V.mv (v := (.int .i64 (k : Int))) (at_other rfl _ (at_other rfl _ (s5_54))) ?_)
        refine V.go (V.ixa g39 o40 ((parse (ints p)).length) c6 .i64 (k : Int) 4 ((at_other rfl _ (at_same (hz50.put _ _) rfl _)).trans (by rw [hA41])) (at_same ((hz50.put _ _).put _ _) rfl _) (by omega) (by omega) (by kernel_rfl) ?_)
        refine V.go (V.fa (at_same (((hz50.put _ _).put _ _).put _ _) rfl _) 1 (fun _ _ => by kernel_rfl) ?_)
        refine V.go (V.ld ⟨g39, (o40 + (k : Int).toNat * 4) + 1, none⟩ (.int .u8 ((at_ globR (parse (ints p)) (k : Int)).c)) (at_same ((((hz50.put _ _).put _ _).put _ _).put _ _) rfl _) (by kernel_rfl) (hE44.at 1 rfl) ?_)
        refine V.go (V.mk [(27, .int .u8 ((at_ globR (parse (ints p)) (k : Int)).c))] ⟨(at_same (((((hz50.put _ _).put _ _).put _ _).put _ _).put _ _) rfl _), trivial⟩ (by kernel_rfl) [.int .u8 ((at_ globR (parse (ints p)) (k : Int)).c)] 5 (fun b => .slice (some ⟨b, 0, none⟩) 1 1) (by kernel_rfl) ?_)
        intro w60 b59 heb59 hB61 hF62 hsb59
        have hO_63 := hO_28.fr0 hF62
        have hF0_64 := hF0_29.new hF62
        have hF_65 := hF_30.new hF62
        have hps21_66 := hps21_31.fr0 hF62
        have hS48_67 := hS48.fr0 hF62
        have hE44_68 := hE44.fr0 hF62
        refine V.go (V.app (R := (Rp.int .u8)) (ys := ([(at_ globR (parse (ints p)) (k : Int)).c])) (news := [.int .u8 ((at_ globR (parse (ints p)) (k : Int)).c)]) (at_other rfl _ (at_other rfl _ (at_other rfl _ (at_other rfl _ (at_other rfl _ (at_other rfl _ (at_same hz50 rfl _))))))) ⟨b59, 0, none⟩ 1 1 (at_same ((((((hz50.put _ _).put _ _).put _ _).put _ _).put _ _).put _ _) rfl _) (by kernel_rfl) (info5) (by kernel_rfl) (by decide) hO_63 rfl ⟨[.int .u8 ((at_ globR (parse (ints p)) (k : Int)).c)], [], rfl, rfl, rfl⟩ (blk_cells hB61 0 _ rfl) (by omega) (by decide) (by omega) ?_)
        intro A69 c70 w71 hO72z hF73 hatw71
        have hsw71 := hF73.size
        have hF0_74 := hF0_64.own hF73 (own_ge hO_63 (by omega))
        have hF_75 := hF_65.own hF73 (own_ge hO_63 (by omega))
        have hps21_76 := hps21_66.fr hF73 (by intro b hb hz; have := own_ge hO_63 (Nat.le_refl _) b hb; omega)
        have hS48_77 := hS48_67.fr hF73 (by intro b hb hz; have := own_ge hO_63 (Nat.le_refl _) b hb; omega)
        have hE44_78 := hE44_68.fr hF73 (by first | exact own_notin hO_63 (by omega) | exact own_notin2 hO_28 (by omega))
        have hO72 := hO72z.zone (Z' := NoZ) (fun _ _ q => q.1) (fun _ _ q => q)
        refine V.go (V.asg (v := (.slice A69 (acc.length + 1) c70)) (at_same (((((((hz50.put _ _).put _ _).put _ _).put _ _).put _ _).put _ _).put _ _) rfl _) ?_)
        refine V.nil ?_
        refine V.blk_n ?_
        refine V.then_n (hK58 _ _ ?_)
        refine V.flushW (((((((((hz50.put _ _).put _ _).put _ _).put _ _).put _ _).put _ _).put _ _).put _ _).put _ _) (fun a79 hz80 up81 => ?_)
        have s3_82 : a79.eval (.tmp 3) = (.slice A5 ((parse (ints p)).length) c6) := up81 _ _ (at_other rfl _ (at_other rfl _ (at_other rfl _ (at_other rfl _ (at_other rfl _ (at_other rfl _ (at_other rfl _ (at_other rfl _ (at_other rfl _ (s3_52))))))))))
        have s4_83 : a79.eval (.tmp 4) = (.slice A69 (acc.length + 1) c70) := up81 _ _ (at_same ((((((((hz50.put _ _).put _ _).put _ _).put _ _).put _ _).put _ _).put _ _).put _ _) rfl _)
        have s5_84 : a79.eval (.tmp 5) = (.int .i64 (k : Int)) := up81 _ _ (at_other rfl _ (at_other rfl _ (at_other rfl _ (at_other rfl _ (at_other rfl _ (at_other rfl _ (at_other rfl _ (at_other rfl _ (at_other rfl _ (s5_54))))))))))
        clear up81
        refine V.region (by kernel_rfl) ?_
        refine V.go (V.mv (v := (.int .i64 (k : Int))) (s5_84) ?_)
        refine V.go (V.pvw [(20, .int .i64 (k : Int))] ⟨(at_same hz80 rfl _), trivial⟩ (by kernel_rfl) (.int .i64 (IntKind.i64.wrap ((k : Int) + 1))) (.int .i64 ((k : Int) + 1)) (by kernel_rfl) (V.w_i64 (by omega) (by omega)) ?_)
        refine V.go (V.asg (v := (.int .i64 ((k : Int) + 1))) (at_same (hz80.put _ _) rfl _) ?_)
        refine V.nil ?_
        refine V.then_n ?_
        refine ⟨k + 1, acc ++ [(at_ globR (parse (ints p)) (k : Int)).c], A69, c70, by omega, ?_⟩
        refine ⟨(((hz80.put _ _).put _ _).put _ _), ?_, ?_, ?_, (by simpa using hO72), hF0_74, hF_75, hps21_76, (by omega), (by simp; omega), (by rw [take_at globR (by omega), List.map_append, hf]; rfl), (by rw [take_at globR (by omega)]; intro x hx; rcases List.mem_append.1 hx with hx | hx; exact hall x hx; simp at hx; subst hx; exact ht56)⟩
        · exact (at_other rfl _ (at_other rfl _ (at_other rfl _ (s3_82))))
        · exact Eq.trans (at_other rfl _ (at_other rfl _ (at_other rfl _ (s4_83)))) (V.sl_eq (by simp))
        · exact Eq.trans (at_same ((hz80.put _ _).put _ _) rfl _) (V.int_eq (by omega))
      ·
        refine V.exit ?_
        refine V.then_e ?_
        refine V.then_e ?_
        refine V.blk_hit ?_
        refine V.then_n (hK18 _ _ ?_)
        refine V.seq (fun K85 hK86 => ?_)
        refine V.region (by kernel_rfl) ?_
        refine V.go (V.mv (v := (.slice A acc.length c)) (s4_53) ?_)
        refine V.go (V.b2s (e := 5) (xs := acc) (hO_28.read (Z' := fun _ => True) (fun _ _ _ => trivial) (fun _ _ _ => trivial)) (by kernel_rfl) (by kernel_rfl) (by kernel_rfl) (at_same hz50 rfl _) ?_)
        refine V.go (V.asg (v := (.string (strI acc))) (at_same (hz50.put _ _) rfl _) ?_)
        refine V.nil ?_
        refine V.then_n (hK86 _ _ ?_)
        refine V.ret ?_
        refine V.ret1 (((hz50.put _ _).put _ _).put _ _) rfl (at_same ((hz50.put _ _).put _ _) rfl _) ?_
        exact ⟨by rw [← hf, rhead_stop (by omega) hall ht56], hF_30⟩
    ·
      refine V.go_off 12 (by kernel_rfl) (((at_same ((((hz24.put _ _).put _ _).put _ _).put _ _) rfl _ : Act.eval _ _ = (.bool (decide ((k : Int) < (((parse (ints p)).length : Nat) : Int)))))).trans (df hg38)) (by kernel_rfl) ?_
      refine V.go_off 12 (by kernel_rfl) (((at_other rfl _ (at_same ((((hz24.put _ _).put _ _).put _ _).put _ _) rfl _) : Act.eval _ _ = (.bool (decide ((k : Int) < (((parse (ints p)).length : Nat) : Int)))))).trans (df hg38)) (by kernel_rfl) ?_
      refine V.go_off 12 (by kernel_rfl) (((at_other rfl _ (at_other rfl _ (at_same ((((hz24.put _ _).put _ _).put _ _).put _ _) rfl _)) : Act.eval _ _ = (.bool (decide ((k : Int) < (((parse (ints p)).length : Nat) : Int)))))).trans (df hg38)) (by kernel_rfl) ?_
      refine V.go_off 12 (by kernel_rfl) (((at_other rfl _ (at_other rfl _ (at_other rfl _ (at_same ((((hz24.put _ _).put _ _).put _ _).put _ _) rfl _))) : Act.eval _ _ = (.bool (decide ((k : Int) < (((parse (ints p)).length : Nat) : Int)))))).trans (df hg38)) (by kernel_rfl) ?_
      refine V.go_off 12 (by kernel_rfl) (((at_other rfl _ (at_other rfl _ (at_other rfl _ (at_other rfl _ (at_same ((((hz24.put _ _).put _ _).put _ _).put _ _) rfl _)))) : Act.eval _ _ = (.bool (decide ((k : Int) < (((parse (ints p)).length : Nat) : Int)))))).trans (df hg38)) (by kernel_rfl) ?_
      refine V.go_off 12 (by kernel_rfl) (((at_other rfl _ (at_other rfl _ (at_other rfl _ (at_other rfl _ (at_other rfl _ (at_same ((((hz24.put _ _).put _ _).put _ _).put _ _) rfl _))))) : Act.eval _ _ = (.bool (decide ((k : Int) < (((parse (ints p)).length : Nat) : Int)))))).trans (df hg38)) (by kernel_rfl) ?_
      refine V.go (V.pk_f (((at_other rfl _ (at_other rfl _ (at_other rfl _ (at_other rfl _ (at_other rfl _ (at_other rfl _ (at_same ((((hz24.put _ _).put _ _).put _ _).put _ _) rfl _)))))) : Act.eval _ _ = (.bool (decide ((k : Int) < (((parse (ints p)).length : Nat) : Int)))))).trans (df hg38)) (v := (.bool false)) evc ?_)
      refine V.nil ?_
      refine V.then_n (hK37 _ _ ?_)
      refine V.flushW ((((((((((((hz24.put _ _).put _ _).put _ _).put _ _).put _ _).put _ _).put _ _).put _ _).put _ _).put _ _).put _ _).put _ _) (fun a87 hz88 up89 => ?_)
      have s3_90 : a87.eval (.tmp 3) = (.slice A5 ((parse (ints p)).length) c6) := up89 _ _ (at_other rfl _ (at_other rfl _ (at_other rfl _ (at_other rfl _ (at_other rfl _ (at_other rfl _ (at_other rfl _ (at_other rfl _ (at_other rfl _ (at_other rfl _ (at_other rfl _ (at_other rfl _ (s3_25)))))))))))))
      have s4_91 : a87.eval (.tmp 4) = (.slice A acc.length c) := up89 _ _ (at_other rfl _ (at_other rfl _ (at_other rfl _ (at_other rfl _ (at_other rfl _ (at_other rfl _ (at_other rfl _ (at_other rfl _ (at_other rfl _ (at_other rfl _ (at_other rfl _ (at_other rfl _ (s4_26)))))))))))))
      have s5_92 : a87.eval (.tmp 5) = (.int .i64 (k : Int)) := up89 _ _ (at_other rfl _ (at_other rfl _ (at_other rfl _ (at_other rfl _ (at_other rfl _ (at_other rfl _ (at_other rfl _ (at_other rfl _ (at_other rfl _ (at_other rfl _ (at_other rfl _ (at_other rfl _ (s5_27)))))))))))))
      have s19_93 : a87.eval (.tmp 19) = (.bool false) := up89 _ _ (at_same (((((((((((hz24.put _ _).put _ _).put _ _).put _ _).put _ _).put _ _).put _ _).put _ _).put _ _).put _ _).put _ _) rfl _)
      clear up89
      refine V.cond_f (s19_93) ?_
      refine V.exit ?_
      refine V.then_e ?_
      refine V.then_e ?_
      refine V.blk_hit ?_
      refine V.then_n (hK18 _ _ ?_)
      refine V.seq (fun K94 hK95 => ?_)
      refine V.region (by kernel_rfl) ?_
      refine V.go (V.mv (v := (.slice A acc.length c)) (s4_91) ?_)
      refine V.go (V.b2s (e := 5) (xs := acc) (hO_28.read (Z' := fun _ => True) (fun _ _ _ => trivial) (fun _ _ _ => trivial)) (by kernel_rfl) (by kernel_rfl) (by kernel_rfl) (at_same hz88 rfl _) ?_)
      refine V.go (V.asg (v := (.string (strI acc))) (at_same (hz88.put _ _) rfl _) ?_)
      refine V.nil ?_
      refine V.then_n (hK95 _ _ ?_)
      refine V.ret ?_
      refine V.ret1 (((hz88.put _ _).put _ _).put _ _) rfl (at_same ((hz88.put _ _).put _ _) rfl _) ?_
      exact ⟨by rw [← hf, rhead_all (by omega) hall], hF_30⟩
set_option maxHeartbeats 4000000 in
set_option maxRecDepth 20000 in
theorem rplain_any (w : World) (p : ByteArray) (hp : p.size ≤ 1048576) : Calls Try.prog 19 #[.string p] w (fun e w' => e = .returned (.tuple #[.string (plainS p), .bool (plainB p)]) ∧ Fr [] w w') := by
  have hF := Fr.refl [] w
  refine V.enter 16 Try.func19 rfl rfl ?_
  intro a hz ha
  have s0 : a.eval (.tmp 0) = (.string p) := ha 0 _ rfl
  clear ha
  refine V.seq (fun K1 hK2 => ?_)
  refine V.region (by kernel_rfl) ?_
  refine V.go (V.asg (v := (.string ⟨#[]⟩)) evc ?_)
  refine V.go (V.asg (v := (.bool false)) evc ?_)
  refine V.nil ?_
  refine V.then_n (hK2 _ _ ?_)
  refine V.seq (fun K3 hK4 => ?_)
  refine V.region (by kernel_rfl) ?_
  refine V.go (V.mv (v := (.string p)) (at_other rfl _ (at_other rfl _ (s0))) ?_)
  refine V.go (V.call 22 #[] #[.string p] evf (args1 (at_same ((hz.put _ _).put _ _) rfl _)) (Go.Proofs.enters_of Try.func22 (by kernel_rfl) rfl) (rparse_any w p (by omega)) ?_)
  rintro _ w9 ⟨A5, c6, rfl, hps7, hF8⟩
  refine ⟨_, rfl, ?_⟩
  have hsw9 := hF8.size
  have hF_10 := hF.new hF8
  have hpl8 := parse_length (ints p); rw [ints_length] at hpl8
  refine V.go (V.asg (v := (.slice A5 ((parse (ints p)).length) c6)) (at_same (((hz.put _ _).put _ _).put _ _) rfl _) ?_)
  refine V.nil ?_
  refine V.then_n (hK4 _ _ ?_)
  refine V.flushW (((((hz.put _ _).put _ _).put _ _).put _ _).put _ _) (fun a11 hz12 up13 => ?_)
  have s0_14 : a11.eval (.tmp 0) = (.string p) := up13 _ _ (at_other rfl _ (at_other rfl _ (at_other rfl _ (at_other rfl _ (at_other rfl _ (s0))))))
  have s4_15 : a11.eval (.tmp 4) = (.slice A5 ((parse (ints p)).length) c6) := up13 _ _ (at_same ((((hz.put _ _).put _ _).put _ _).put _ _) rfl _)
  clear up13
  refine V.seq (fun K16 hK17 => ?_)
  refine V.region (by kernel_rfl) ?_
  refine V.go (V.mv (v := (.string p)) (s0_14) ?_)
  refine V.go (V.call 23 #[] #[.string p] evf (args1 (at_same hz12 rfl _)) (Go.Proofs.enters_of Try.func23 (by kernel_rfl) rfl) (rhead_any w9 p (by omega)) ?_)
  rintro _ w19 ⟨rfl, hF18⟩
  refine ⟨_, rfl, ?_⟩
  have hsw19 := hF18.size
  have hF_20 := hF_10.new hF18
  have hps7_21 := hps7.fr0 hF18
  refine V.go (V.asg (v := (.string (headS p))) (at_same (hz12.put _ _) rfl _) ?_)
  refine V.nil ?_
  refine V.then_n (hK17 _ _ ?_)
  refine V.seq (fun K22 hK23 => ?_)
  refine V.seq (fun K24 hK25 => ?_)
  refine V.region (by kernel_rfl) ?_
  refine V.go (V.mv (v := (.string (headS p))) (at_same ((hz12.put _ _).put _ _) rfl _) ?_)
  refine V.go (V.pv [(10, .string (headS p))] ⟨(at_same (((hz12.put _ _).put _ _).put _ _) rfl _), trivial⟩ (by kernel_rfl) (.int .i64 ((headS p).size : Int)) (by kernel_rfl) ?_)
  refine V.go (V.mv (v := (.slice A5 ((parse (ints p)).length) c6)) (at_other rfl _ (at_other rfl _ (at_other rfl _ (at_other rfl _ (at_other rfl _ (s4_15)))))) ?_)
  refine V.go (V.pv [(12, .slice A5 ((parse (ints p)).length) c6)] ⟨(at_same (((((hz12.put _ _).put _ _).put _ _).put _ _).put _ _) rfl _), trivial⟩ (by kernel_rfl) (.int .i64 (((parse (ints p)).length : Nat) : Int)) (by kernel_rfl) ?_)
  refine V.go (V.pv [(11, .int .i64 ((headS p).size : Int)), (13, .int .i64 (((parse (ints p)).length : Nat) : Int))] ⟨(at_other rfl _ (at_other rfl _ (at_same ((((hz12.put _ _).put _ _).put _ _).put _ _) rfl _))), (at_same ((((((hz12.put _ _).put _ _).put _ _).put _ _).put _ _).put _ _) rfl _), trivial⟩ (by kernel_rfl) (.bool (decide (((headS p).size : Int) < (((parse (ints p)).length : Nat) : Int)))) (by kernel_rfl) ?_)
  refine V.nil ?_
  refine V.then_n (hK25 _ _ ?_)
  refine V.flushW ((((((((hz12.put _ _).put _ _).put _ _).put _ _).put _ _).put _ _).put _ _).put _ _) (fun a26 hz27 up28 => ?_)
  have s5_29 : a26.eval (.tmp 5) = (.string (headS p)) := up28 _ _ (at_other rfl _ (at_other rfl _ (at_other rfl _ (at_other rfl _ (at_other rfl _ (at_same ((hz12.put _ _).put _ _) rfl _))))))
  have s14_30 : a26.eval (.tmp 14) = (.bool (decide (((headS p).size : Int) < (((parse (ints p)).length : Nat) : Int)))) := up28 _ _ (at_same (((((((hz12.put _ _).put _ _).put _ _).put _ _).put _ _).put _ _).put _ _) rfl _)
  clear up28
  refine V.condP (p := ((headS p).size : Int) < (((parse (ints p)).length : Nat) : Int)) (s14_30) (fun ht31 => ?_) (fun ht31 => ?_)
  ·
    refine V.seq (fun K32 hK33 => ?_)
    refine V.region (by kernel_rfl) ?_
    refine V.go (V.asg (v := (.string ⟨#[]⟩)) evc ?_)
    refine V.go (V.asg (v := (.bool false)) evc ?_)
    refine V.nil ?_
    refine V.then_n (hK33 _ _ ?_)
    refine V.ret ?_
    refine V.then_r ?_
    refine V.ret2 ((hz27.put _ _).put _ _) rfl (at_other rfl _ (at_same hz27 rfl _)) (at_same (hz27.put _ _) rfl _) ?_
    exact ⟨by rw [plain_f (by omega)], hF_20⟩
  ·
    refine V.skip ?_
    refine V.then_n (hK23 _ _ ?_)
    refine V.seq (fun K34 hK35 => ?_)
    refine V.region (by kernel_rfl) ?_
    refine V.go (V.mv (v := (.string (headS p))) (s5_29) ?_)
    refine V.go (V.asg (v := (.string (headS p))) (at_same hz27 rfl _) ?_)
    refine V.go (V.asg (v := (.bool true)) evc ?_)
    refine V.nil ?_
    refine V.then_n (hK35 _ _ ?_)
    refine V.ret ?_
    refine V.ret2 (((hz27.put _ _).put _ _).put _ _) rfl (at_other rfl _ (at_same (hz27.put _ _) rfl _)) (at_same ((hz27.put _ _).put _ _) rfl _) ?_
    exact ⟨by rw [plain_t (by omega)], hF_20⟩
set_option maxHeartbeats 4000000 in
set_option maxRecDepth 20000 in
theorem plain_any (w : World) (p : ByteArray) (hp : p.size ≤ 1048576) : Calls Try.prog 18 #[.string p] w (fun e w' => e = .returned (.tuple #[.string (plainS p), .bool (plainB p)]) ∧ Fr [] w w') := by
  have hF := Fr.refl [] w
  refine V.enterM 13 Try.func18 rfl rfl ?_
  intro a hz ha
  have s0 : a.eval (.tmp 0) = (.string p) := ha 0 _ rfl
  clear ha
  refine V.seq (fun K1 hK2 => ?_)
  refine V.region (by kernel_rfl) ?_
  refine V.go (V.mk [] trivial (by kernel_rfl) [.string ⟨#[]⟩] 9 (fun b => .pointer (some ⟨b, 0, none⟩)) (by kernel_rfl) ?_)
  intro w4 b3 heb3 hB5 hF6 hsb3
  have hF_7 := hF.new hF6
  refine V.go (V.mk [] trivial (by kernel_rfl) [.bool false] 4 (fun b => .pointer (some ⟨b, 0, none⟩)) (by kernel_rfl) ?_)
  intro w9 b8 heb8 hB10 hF11 hsb8
  have hF_12 := hF_7.new hF11
  have hB5_13 := hB5.fr0 hF11
  refine V.nil ?_
  refine V.then_n (hK2 _ _ ?_)
  refine V.seq (fun K14 hK15 => ?_)
  refine V.seq (fun K16 hK17 => ?_)
  refine V.region (by kernel_rfl) ?_
  refine V.go (V.mv (v := (.string p)) (at_other rfl _ (at_other rfl _ (s0))) ?_)
  refine V.go (V.call 29 #[] #[.string p] evf (args1 (at_same ((hz.put _ _).put _ _) rfl _)) (Go.Proofs.enters_of Try.func29 (by kernel_rfl) rfl) (parts_any w9 p) ?_)
  rintro _ w22 ⟨b18, rfl, hle21, hB19, hF20⟩
  refine ⟨_, rfl, ?_⟩
  have hsw22 := hF20.size
  have hF_23 := hF_12.new hF20
  have hB5_24 := hB5_13.fr0 hF20
  have hB10_25 := hB10.fr0 hF20
  have hltb18 := hB19.lt
  refine V.nil ?_
  refine V.then_n (hK17 _ _ ?_)
  refine V.flushW ((((hz.put _ _).put _ _).put _ _).put _ _) (fun a26 hz27 up28 => ?_)
  have s0_29 : a26.eval (.tmp 0) = (.string p) := up28 _ _ (at_other rfl _ (at_other rfl _ (at_other rfl _ (at_other rfl _ (s0)))))
  have s2_30 : a26.eval (.tmp 2) = (.pointer (some ⟨b3, 0, none⟩)) := up28 _ _ (at_other rfl _ (at_other rfl _ (at_other rfl _ (at_same hz rfl _))))
  have s3_31 : a26.eval (.tmp 3) = (.pointer (some ⟨b8, 0, none⟩)) := up28 _ _ (at_other rfl _ (at_other rfl _ (at_same (hz.put _ _) rfl _)))
  have s6_32 : a26.eval (.tmp 6) = (.func (.func 38) #[] #[.pointer (some ⟨b18, 0, none⟩)]) := up28 _ _ (at_same (((hz.put _ _).put _ _).put _ _) rfl _)
  clear up28
  refine V.block ?_
  refine V.rng hz27 (s6_32) (Go.Proofs.enters_of Try.func38 (by kernel_rfl) rfl) (b := b18) (by omega) (parts_iter _ p hp b18 hB19) (fun _ => rfl) (fun (pre : List GX) W_ => Blk W_ b3 [.string ⟨#[]⟩] 9 ∧ Blk W_ b8 [.bool false] 4 ∧ Fr [] w W_ ∧ (∀ x ∈ pre, x.1.kind = 3)) (fun c pre W_ => c = Code.ret ∧ ∃ (l : List GX), ∃ (y : GX), Blk W_ b3 [.string ⟨#[]⟩] 9 ∧ Blk W_ b8 [.bool false] 4 ∧ Fr [] w W_ ∧ (pre = l ++ [y]) ∧ (¬ y.1.kind = 3)) ?_ ?_ ?_ ?_ ?_ ?_
  · rintro pre W W1 ⟨hB2, hB3, hF, hall⟩ hf
    have := hB2.lt
    have := hB3.lt
    have := hF.size
    exact ⟨(by exact hB2.fr1 hf (by omega)), (by exact hB3.fr1 hf (by omega)), (by exact hF.own hf (by simp <;> omega)), hall⟩
  · rintro c pre W W1 ⟨hc, l, y, hB2, hB3, hF, hpre, hy⟩ hf
    have := hB2.lt
    have := hB3.lt
    have := hF.size
    exact ⟨hc, l, y, (by exact hB2.fr1 hf (by omega)), (by exact hB3.fr1 hf (by omega)), (by exact hF.own hf (by simp <;> omega)), hpre, hy⟩
  · rintro W hf hszW
    have hF_33 := hF_23.new hf
    have hB5_34 := hB5_24.fr0 hf
    have hB10_35 := hB10_25.fr0 hf
    have hB19_36 := hB19.fr0 hf
    exact ⟨hB5_34, hB10_35, hF_33, (by simp)⟩
  · rintro l pre x W0 W hl ⟨hB2, hB3, hF, hall⟩ hfr hx hsp hsz a1 hz1 htm
    subst hl
    obtain ⟨g, A1, c1⟩ := x; replace hx := hx.zone (Z' := fun b => W0.heap.size ≤ b ∧ b < W.heap.size) (fun b hb hz => ⟨hz, hb⟩); have hlp : pre.length + 1 ≤ p.size := by (obtain ⟨rest, hr⟩ := hsp; have h1 := congrArg List.length hr; have h2 := parse_length (ints p); simp at h1; have h3 := ints_length p; omega)
    have hszfr := hfr.size
    have hlt37 := hB2.lt
    have hlt38 := hB3.lt
    have hfs39 := hF.size
    have hB2_40 := hB2.fr0 hfr
    have hB3_41 := hB3.fr0 hfr
    have hF_42 := hF.new hfr
    have hK := Kept.refl [w22.heap.size, w22.heap.size + 1, b18] W
    have htm1 : a1.tmps = a26.tmps.setIfInBounds 7 (.agg #[.int .i64 g.kind, .int .u8 g.c, .bool g.neg, .slice A1 g.rs.length c1]) := by simpa [encG] using htm
    have s7 : a1.eval (.tmp 7) = (.agg #[.int .i64 g.kind, .int .u8 g.c, .bool g.neg, .slice A1 g.rs.length c1]) := par_same hz27 rfl htm1
    have s0_43 : a1.eval (.tmp 0) = (.string p) := par_other htm1 rfl (s0_29)
    have s2_44 : a1.eval (.tmp 2) = (.pointer (some ⟨b3, 0, none⟩)) := par_other htm1 rfl (s2_30)
    have s3_45 : a1.eval (.tmp 3) = (.pointer (some ⟨b8, 0, none⟩)) := par_other htm1 rfl (s3_31)
    refine V.region (by kernel_rfl) ?_
    refine V.go (V.mk [] trivial (by kernel_rfl) [.int .i64 0, .int .u8 0, .bool false, .slice none 0 0] 42 (fun b => .pointer (some ⟨b, 0, none⟩)) (by kernel_rfl) ?_)
    intro w47 b46 heb46 hB48 hF49 hsb46
    have hB2_50 := hB2_40.fr0 hF49
    have hB3_51 := hB3_41.fr0 hF49
    have hF_52 := hF_42.new hF49
    have hK_53 := hK.fr3 hF49 (by omega) (by omega) (by omega) (by simp) (by simp) (by simp)
    refine V.go (V.stn b46 0 (.agg #[.int .i64 g.kind, .int .u8 g.c, .bool g.neg, .slice A1 g.rs.length c1]) [.int .i64 g.kind, .int .u8 g.c, .bool g.neg, .slice A1 g.rs.length c1] (at_same hz1 rfl _) (at_other rfl _ (s7)) rfl rfl (by kernel_rfl) hB48 (by simp) [.int .i64 g.kind, .int .u8 g.c, .bool g.neg, .slice A1 g.rs.length c1] rfl ?_)
    intro w54 hB55 hF56 hsw54
    have hB2_57 := hB2_50.fr1 hF56 (by omega)
    have hB3_58 := hB3_51.fr1 hF56 (by omega)
    have hF_59 := hF_52.own hF56 (by simp <;> omega)
    have hK_60 := hK_53.fr3 hF56 (by omega) (by omega) (by omega) (by simp <;> omega) (by simp <;> omega) (by simp <;> omega)
    refine V.nil ?_
    refine ⟨hK_60, fun W2 hf2 => ?_⟩
    have hszf2 := hf2.size
    have hB2_61 := hB2_57.fr1 hf2 (by omega)
    have hB3_62 := hB3_58.fr1 hf2 (by omega)
    have hF_63 := hF_59.own hf2 (by simp <;> omega)
    have hB55_64 := hB55.fr1 hf2 (by omega)
    have hK2 := Kept.refl [w22.heap.size, w22.heap.size + 1, b18] W2
    refine V.block ?_
    refine V.seq (fun K65 hK66 => ?_)
    refine V.region (by kernel_rfl) ?_
    refine V.go (V.pv [(4, .pointer (some ⟨b46, 0, none⟩))] ⟨(at_same hz1 rfl _), trivial⟩ (by kernel_rfl) (.pointer (some ⟨b46, 0, none⟩)) (by kernel_rfl) ?_)
    refine V.go (V.ld ⟨b46, 0, none⟩ (.int .i64 g.kind) (at_same (hz1.put _ _) rfl _) (by kernel_rfl) (hB55_64.at 0 rfl) ?_)
    refine V.go (V.pvw [(9, .int .i64 g.kind)] ⟨(at_same ((hz1.put _ _).put _ _) rfl _), trivial⟩ (by kernel_rfl) (.bool (g.kind != 3)) (.bool (decide (¬ g.kind = 3))) (by kernel_rfl) V.t_neq ?_)
    refine V.nil ?_
    refine V.then_n (hK66 _ _ ?_)
    refine V.flushW ((((hz1.put _ _).put _ _).put _ _).put _ _) (fun a67 hz68 up69 => ?_)
    have s2_70 : a67.eval (.tmp 2) = (.pointer (some ⟨b3, 0, none⟩)) := up69 _ _ (at_other rfl _ (at_other rfl _ (at_other rfl _ (at_other rfl _ (s2_44)))))
    have s3_71 : a67.eval (.tmp 3) = (.pointer (some ⟨b8, 0, none⟩)) := up69 _ _ (at_other rfl _ (at_other rfl _ (at_other rfl _ (at_other rfl _ (s3_45)))))
    have s10_72 : a67.eval (.tmp 10) = (.bool (decide (¬ g.kind = 3))) := up69 _ _ (at_same (((hz1.put _ _).put _ _).put _ _) rfl _)
    clear up69
    refine V.condP (p := ¬ g.kind = 3) (s10_72) (fun ht73 => ?_) (fun ht73 => ?_)
    ·
      refine V.seq (fun K74 hK75 => ?_)
      refine V.region (by kernel_rfl) ?_
      refine V.go (V.stn b3 0 (.string ⟨#[]⟩) [.string ⟨#[]⟩] (s2_70) evc rfl rfl (by kernel_rfl) hB2_61 (by simp) [.string ⟨#[]⟩] rfl ?_)
      intro w76 hB77 hF78 hsw76
      have hB3_79 := hB3_62.fr1 hF78 (by omega)
      have hF_80 := hF_63.own hF78 (by simp <;> omega)
      have hB55_81 := hB55_64.fr1 hF78 (by omega)
      have hK2_82 := hK2.fr3 hF78 (by omega) (by omega) (by omega) (by simp <;> omega) (by simp <;> omega) (by simp <;> omega)
      refine V.go (V.stn b8 0 (.bool false) [.bool false] (s3_71) evc rfl rfl (by kernel_rfl) hB3_79 (by simp) [.bool false] rfl ?_)
      intro w83 hB84 hF85 hsw83
      have hF_86 := hF_80.own hF85 (by simp <;> omega)
      have hB55_87 := hB55_81.fr1 hF85 (by omega)
      have hK2_88 := hK2_82.fr3 hF85 (by omega) (by omega) (by omega) (by simp <;> omega) (by simp <;> omega) (by simp <;> omega)
      have hB77_89 := hB77.fr1 hF85 (by omega)
      refine V.nil ?_
      refine V.then_n (hK75 _ _ ?_)
      refine V.ret ?_
      refine V.blk_r ?_
      exact ⟨hK2_88, rfl, pre, (g, A1, c1), hB77_89, hB84, hF_86, rfl, (show ¬ g.kind = 3 by omega)⟩
    ·
      refine V.skip ?_
      refine V.blk_n ?_
      exact ⟨hK2, hB2_61, hB3_62, hF_63, (all3 hall (show g.kind = 3 by omega))⟩
  · rintro xs W hS ⟨hB2, hB3, hF, hall⟩ hD a2 hz2 htm2
    obtain ⟨pre, hprexs⟩ : ∃ pre, pre = xs := ⟨_, rfl⟩; subst hprexs
    have hlt90 := hB2.lt
    have hlt91 := hB3.lt
    have hfs92 := hF.size
    have hDf : Df W (w22.heap.size) := hD
    have hDlt := (Array.getElem?_eq_some_iff.1 hD).1
    have s0_93 : a2.eval (.tmp 0) = (.string p) := par_tm htm2 (s0_29)
    have s2_94 : a2.eval (.tmp 2) = (.pointer (some ⟨b3, 0, none⟩)) := par_tm htm2 (s2_30)
    have s3_95 : a2.eval (.tmp 3) = (.pointer (some ⟨b8, 0, none⟩)) := par_tm htm2 (s3_31)
    refine V.blk_n ?_
    refine V.then_n (hK15 _ _ ?_)
    refine V.seq (fun K96 hK97 => ?_)
    refine V.region (by kernel_rfl) ?_
    refine V.go (V.mv (v := (.string p)) (s0_93) ?_)
    refine V.go (V.call 17 #[] #[.string p] evf (args1 (at_same hz2 rfl _)) (Go.Proofs.enters_of Try.func17 (by kernel_rfl) rfl) (head_any W p (by omega)) ?_)
    rintro _ w99 ⟨rfl, hF98⟩
    refine ⟨_, rfl, ?_⟩
    have hsw99 := hF98.size
    have hB2_100 := hB2.fr0 hF98
    have hB3_101 := hB3.fr0 hF98
    have hF_102 := hF.new hF98
    have hDf_103 := hDf.fr hF98 (by simp)
    refine V.go (V.stn b3 0 (.string (headS p)) [.string (headS p)] (at_other rfl _ (at_other rfl _ (s2_94))) (at_same (hz2.put _ _) rfl _) rfl rfl (by kernel_rfl) hB2_100 (by simp) [.string (headS p)] rfl ?_)
    intro w104 hB105 hF106 hsw104
    have hB3_107 := hB3_101.fr1 hF106 (by omega)
    have hF_108 := hF_102.own hF106 (by simp <;> omega)
    have hDf_109 := hDf_103.fr hF106 (by simp <;> omega)
    refine V.go (V.stn b8 0 (.bool true) [.bool true] (at_other rfl _ (at_other rfl _ (s3_95))) evc rfl rfl (by kernel_rfl) hB3_107 (by simp) [.bool true] rfl ?_)
    intro w110 hB111 hF112 hsw110
    have hF_113 := hF_108.own hF112 (by simp <;> omega)
    have hDf_114 := hDf_109.fr hF112 (by simp <;> omega)
    have hB105_115 := hB105.fr1 hF112 (by omega)
    refine V.nil ?_
    refine V.then_n (hK97 _ _ ?_)
    refine V.ret ?_
    refine V.retM ((hz2.put _ _).put _ _) hDf_114 (fun w116 hF117 => ?_)
    have hsw116 := hF117.size
    have hF_118 := hF_113.own hF117 (by simp <;> omega)
    have hB105_119 := hB105_115.fr1 hF117 (by omega)
    have hB111_120 := hB111.fr1 hF117 (by omega)
    refine ⟨_, V.resCC rfl _ _ (at_other rfl _ (at_other rfl _ (s2_94))) (at_other rfl _ (at_other rfl _ (s3_95))) (V.run_loadVar_scalar (by kernel_rfl) (hB105_119.at 0 rfl)) (V.run_loadVar_scalar (by kernel_rfl) (hB111_120.at 0 rfl)), ?_⟩
    exact ⟨by rw [plain_all hS hall], hF_118⟩
  · rintro c pre W hSp ⟨hc, l, y, hB2, hB3, hF, hpre, hy⟩ hD a2 hz2 htm2
    subst hc
    have hlt121 := hB2.lt
    have hlt122 := hB3.lt
    have hfs123 := hF.size
    have hDf : Df W (w22.heap.size) := hD
    have hDlt := (Array.getElem?_eq_some_iff.1 hD).1
    have s0_124 : a2.eval (.tmp 0) = (.string p) := par_tm htm2 (s0_29)
    have s2_125 : a2.eval (.tmp 2) = (.pointer (some ⟨b3, 0, none⟩)) := par_tm htm2 (s2_30)
    have s3_126 : a2.eval (.tmp 3) = (.pointer (some ⟨b8, 0, none⟩)) := par_tm htm2 (s3_31)
    refine V.ret ?_
    refine V.blk_r ?_
    refine V.then_r ?_
    refine V.retM hz2 hDf (fun w127 hF128 => ?_)
    have hsw127 := hF128.size
    have hB2_129 := hB2.fr1 hF128 (by omega)
    have hB3_130 := hB3.fr1 hF128 (by omega)
    have hF_131 := hF.own hF128 (by simp <;> omega)
    refine ⟨_, V.resCC rfl _ _ (s2_125) (s3_126) (V.run_loadVar_scalar (by kernel_rfl) (hB2_129.at 0 rfl)) (V.run_loadVar_scalar (by kernel_rfl) (hB3_130.at 0 rfl)), ?_⟩
    exact ⟨by rw [plain_stop hSp hpre hy], hF_131⟩
end Go.Proofs.Ytmlohijidjbbjaa
