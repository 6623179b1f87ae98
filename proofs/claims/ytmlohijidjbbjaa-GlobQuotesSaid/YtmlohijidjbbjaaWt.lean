/- Walks: what a strings.Builder does. -/
import Derived.Test.YtmlohijidjbbjaaProg
import Derived.Test.YtmlohijidjbbjaaBld
namespace Go.Proofs.Ytmlohijidjbbjaa
open Go.V Go.Base
open Go.RowKit (Below)
attribute [local irreducible] Act.put Act.eval
set_option linter.unusedVariables false
set_option linter.unusedSimpArgs false
theorem info5 : (Try.prog.info? 5).map (fun i => (i.zero, i.size, i.bytes)) = some (some (.int .u8 0), 1, 1) := by kernel_rfl
set_option maxHeartbeats 4000000 in
set_option maxRecDepth 20000 in
theorem cc_fresh (w : World) (b : Nat) (v : Value) (hB : Blk w b [.pointer none, v] 59) : Calls Try.prog 41 #[.pointer (some ⟨b, 0, none⟩)] w (fun e w' => e = .returned (.tuple #[]) ∧ Blk w' b [.pointer (some ⟨b, 0, none⟩), v] 59 ∧ Fr [b] w w') := by
  have hF := Fr.refl [b] w
  refine V.enter 20 Try.func41 rfl rfl ?_
  intro a hz ha
  have s0 : a.eval (.tmp 0) = (.pointer (some ⟨b, 0, none⟩)) := ha 0 _ rfl
  clear ha
  refine V.seq (fun K1 hK2 => ?_)
  refine V.region (by kernel_rfl) ?_
  refine V.go (V.mv (v := (.pointer (some ⟨b, 0, none⟩))) (s0) ?_)
  refine V.go (V.pv [(2, .pointer (some ⟨b, 0, none⟩))] ⟨(at_same hz rfl _), trivial⟩ (by kernel_rfl) (.pointer (some ⟨b, 0, none⟩)) (by kernel_rfl) ?_)
  refine V.go (V.pv [(3, .pointer (some ⟨b, 0, none⟩))] ⟨(at_same (hz.put _ _) rfl _), trivial⟩ (by kernel_rfl) (.pointer (some ⟨b, 0, none⟩)) (by kernel_rfl) ?_)
  refine V.go (V.ld ⟨b, 0, none⟩ (.pointer none) (at_same ((hz.put _ _).put _ _) rfl _) (by kernel_rfl) (hB.at 0 rfl) ?_)
  refine V.go (V.pv [(5, .pointer none)] ⟨(at_same (((hz.put _ _).put _ _).put _ _) rfl _), trivial⟩ (by kernel_rfl) (.bool true) (by kernel_rfl) ?_)
  refine V.nil ?_
  refine V.then_n (hK2 _ _ ?_)
  refine V.flushW (((((hz.put _ _).put _ _).put _ _).put _ _).put _ _) (fun a3 hz4 up5 => ?_)
  have s0_6 : a3.eval (.tmp 0) = (.pointer (some ⟨b, 0, none⟩)) := up5 _ _ (at_other rfl _ (at_other rfl _ (at_other rfl _ (at_other rfl _ (at_other rfl _ (s0))))))
  have s6_7 : a3.eval (.tmp 6) = (.bool true) := up5 _ _ (at_same ((((hz.put _ _).put _ _).put _ _).put _ _) rfl _)
  clear up5
  refine V.cond_t (s6_7) ?_
  refine V.region (by kernel_rfl) ?_
  refine V.go (V.mv (v := (.pointer (some ⟨b, 0, none⟩))) (s0_6) ?_)
  refine V.go (V.mv (v := (.pointer (some ⟨b, 0, none⟩))) (at_other rfl _ (s0_6)) ?_)
  refine V.go (V.toU (t := 59) (n := 2) (at_same (hz4.put _ _) rfl _) (by kernel_rfl) (by kernel_rfl) (by kernel_rfl) hB (by simp) ?_)
  refine V.go (V.callv 44 #[.pointer (some ⟨b, 0, none⟩)] evf (args1 (at_same ((hz4.put _ _).put _ _) rfl _)) (by rw [run_callFunc_extern Try.func44 (by kernel_rfl) (by kernel_rfl) (by kernel_rfl) (e := Extern.AbiNoEscape.same) (by kernel_rfl)]; rfl) ?_)
  refine V.go (V.ofU (u := 59) (at_same (((hz4.put _ _).put _ _).put _ _) rfl _) (by kernel_rfl) (by kernel_rfl) (by kernel_rfl) hB (by kernel_rfl) ?_)
  refine V.go (V.pv [(7, .pointer (some ⟨b, 0, none⟩))] ⟨(at_other rfl _ (at_other rfl _ (at_other rfl _ (at_other rfl _ (at_same hz4 rfl _))))), trivial⟩ (by kernel_rfl) (.pointer (some ⟨b, 0, none⟩)) (by kernel_rfl) ?_)
  refine V.go (V.pv [(12, .pointer (some ⟨b, 0, none⟩))] ⟨(at_same (((((hz4.put _ _).put _ _).put _ _).put _ _).put _ _) rfl _), trivial⟩ (by kernel_rfl) (.pointer (some ⟨b, 0, none⟩)) (by kernel_rfl) ?_)
  refine V.go (V.stn b 0 (.pointer (some ⟨b, 0, none⟩)) [.pointer (some ⟨b, 0, none⟩)] (at_same ((((((hz4.put _ _).put _ _).put _ _).put _ _).put _ _).put _ _) rfl _) (at_other rfl _ (at_other rfl _ (at_same ((((hz4.put _ _).put _ _).put _ _).put _ _) rfl _))) rfl rfl (by kernel_rfl) hB (by simp) [.pointer (some ⟨b, 0, none⟩), v] rfl ?_)
  intro w8 hB9 hF10 hsw8
  have hF_11 := hF.trans hF10 (by simp <;> omega)
  refine V.nil ?_
  refine V.end0 (((((((hz4.put _ _).put _ _).put _ _).put _ _).put _ _).put _ _).put _ _) rfl ?_
  exact ⟨rfl, hB9, hF_11⟩
set_option maxHeartbeats 4000000 in
set_option maxRecDepth 20000 in
theorem cc_used (w : World) (b : Nat) (v : Value) (hB : Blk w b [.pointer (some ⟨b, 0, none⟩), v] 59) : Calls Try.prog 41 #[.pointer (some ⟨b, 0, none⟩)] w (fun e w' => e = .returned (.tuple #[]) ∧ Blk w' b [.pointer (some ⟨b, 0, none⟩), v] 59 ∧ Fr [b] w w') := by
  have hF := Fr.refl [b] w
  refine V.enter 20 Try.func41 rfl rfl ?_
  intro a hz ha
  have s0 : a.eval (.tmp 0) = (.pointer (some ⟨b, 0, none⟩)) := ha 0 _ rfl
  clear ha
  refine V.seq (fun K1 hK2 => ?_)
  refine V.region (by kernel_rfl) ?_
  refine V.go (V.mv (v := (.pointer (some ⟨b, 0, none⟩))) (s0) ?_)
  refine V.go (V.pv [(2, .pointer (some ⟨b, 0, none⟩))] ⟨(at_same hz rfl _), trivial⟩ (by kernel_rfl) (.pointer (some ⟨b, 0, none⟩)) (by kernel_rfl) ?_)
  refine V.go (V.pv [(3, .pointer (some ⟨b, 0, none⟩))] ⟨(at_same (hz.put _ _) rfl _), trivial⟩ (by kernel_rfl) (.pointer (some ⟨b, 0, none⟩)) (by kernel_rfl) ?_)
  refine V.go (V.ld ⟨b, 0, none⟩ (.pointer (some ⟨b, 0, none⟩)) (at_same ((hz.put _ _).put _ _) rfl _) (by kernel_rfl) (hB.at 0 rfl) ?_)
  refine V.go (V.pv [(5, .pointer (some ⟨b, 0, none⟩))] ⟨(at_same (((hz.put _ _).put _ _).put _ _) rfl _), trivial⟩ (by kernel_rfl) (.bool false) (by kernel_rfl) ?_)
  refine V.nil ?_
  refine V.then_n (hK2 _ _ ?_)
  refine V.flushW (((((hz.put _ _).put _ _).put _ _).put _ _).put _ _) (fun a3 hz4 up5 => ?_)
  have s0_6 : a3.eval (.tmp 0) = (.pointer (some ⟨b, 0, none⟩)) := up5 _ _ (at_other rfl _ (at_other rfl _ (at_other rfl _ (at_other rfl _ (at_other rfl _ (s0))))))
  have s6_7 : a3.eval (.tmp 6) = (.bool false) := up5 _ _ (at_same ((((hz.put _ _).put _ _).put _ _).put _ _) rfl _)
  clear up5
  refine V.cond_f (s6_7) ?_
  refine V.seq (fun K8 hK9 => ?_)
  refine V.region (by kernel_rfl) ?_
  refine V.go (V.mv (v := (.pointer (some ⟨b, 0, none⟩))) (s0_6) ?_)
  refine V.go (V.pv [(14, .pointer (some ⟨b, 0, none⟩))] ⟨(at_same hz4 rfl _), trivial⟩ (by kernel_rfl) (.pointer (some ⟨b, 0, none⟩)) (by kernel_rfl) ?_)
  refine V.go (V.pv [(15, .pointer (some ⟨b, 0, none⟩))] ⟨(at_same (hz4.put _ _) rfl _), trivial⟩ (by kernel_rfl) (.pointer (some ⟨b, 0, none⟩)) (by kernel_rfl) ?_)
  refine V.go (V.ld ⟨b, 0, none⟩ (.pointer (some ⟨b, 0, none⟩)) (at_same ((hz4.put _ _).put _ _) rfl _) (by kernel_rfl) (hB.at 0 rfl) ?_)
  refine V.go (V.mv (v := (.pointer (some ⟨b, 0, none⟩))) (at_other rfl _ (at_other rfl _ (at_other rfl _ (at_other rfl _ (s0_6))))) ?_)
  refine V.go (V.neqP (e := 59) ⟨b, 0, none⟩ (at_other rfl _ (at_same (((hz4.put _ _).put _ _).put _ _) rfl _)) (at_same ((((hz4.put _ _).put _ _).put _ _).put _ _) rfl _) (by kernel_rfl) (by kernel_rfl) ?_)
  refine V.nil ?_
  refine V.then_n (hK9 _ _ ?_)
  refine V.flushW ((((((hz4.put _ _).put _ _).put _ _).put _ _).put _ _).put _ _) (fun a10 hz11 up12 => ?_)
  have s19_13 : a10.eval (.tmp 19) = (.bool false) := up12 _ _ (at_same (((((hz4.put _ _).put _ _).put _ _).put _ _).put _ _) rfl _)
  clear up12
  refine V.cond_f (s19_13) ?_
  refine V.skip ?_
  refine V.end0 hz11 rfl ?_
  exact ⟨rfl, hB, hF⟩
theorem cc_any (w : World) (b : Nat) (p v : Value) (hp : p = .pointer none ∨ p = .pointer (some ⟨b, 0, none⟩)) (hB : Blk w b [p, v] 59) : Calls Try.prog 41 #[.pointer (some ⟨b, 0, none⟩)] w (fun e w' => e = .returned (.tuple #[]) ∧ Blk w' b [.pointer (some ⟨b, 0, none⟩), v] 59 ∧ Fr [b] w w') := by
  rcases hp with rfl | rfl
  · exact cc_fresh w b v hB
  · exact cc_used w b v hB
set_option maxHeartbeats 4000000 in
set_option maxRecDepth 20000 in
theorem wbyte_any (w : World) (b : Nat) (p : Value) (hp : p = .pointer none ∨ p = .pointer (some ⟨b, 0, none⟩)) (A : Option Addr) (c : Nat) (xs : List Int) (x : Int) (hB : Blk w b [p, .slice A xs.length c] 59) (hO : OwR (Rp.int .u8) NoZ w (b + 1) 5 (.slice A xs.length c) xs) (hlen : xs.length ≤ 1099511627776) : Calls Try.prog 32 #[.pointer (some ⟨b, 0, none⟩), .int .u8 x] w (fun e w' => ∃ A' c', e = .returned .nilIface ∧ Blk w' b [.pointer (some ⟨b, 0, none⟩), .slice A' (xs.length + 1) c'] 59 ∧ OwR (Rp.int .u8) NoZ w' (b + 1) 5 (.slice A' (xs.length + 1) c') (xs ++ [x]) ∧ Below b w w') := by
  have hL := Below.refl b w
  have hltb := hB.lt
  refine V.enter 17 Try.func32 rfl rfl ?_
  intro a hz ha
  have s0 : a.eval (.tmp 0) = (.pointer (some ⟨b, 0, none⟩)) := ha 0 _ rfl
  have s1 : a.eval (.tmp 1) = (.int .u8 x) := ha 1 _ rfl
  clear ha
  refine V.seq (fun K1 hK2 => ?_)
  refine V.region (by kernel_rfl) ?_
  refine V.go (V.asg (v := (.nilIface)) evc ?_)
  refine V.nil ?_
  refine V.then_n (hK2 _ _ ?_)
  refine V.seq (fun K3 hK4 => ?_)
  refine V.region (by kernel_rfl) ?_
  refine V.go (V.mv (v := (.pointer (some ⟨b, 0, none⟩))) (at_other rfl _ (s0)) ?_)
  refine V.go (V.call 41 #[] #[.pointer (some ⟨b, 0, none⟩)] evf (args1 (at_same (hz.put _ _) rfl _)) (Go.Proofs.enters_of Try.func41 (by kernel_rfl) rfl) (cc_any w b p (.slice A xs.length c) hp hB) ?_)
  rintro _ w7 ⟨rfl, hB5, hF6⟩
  refine ⟨_, rfl, ?_⟩
  have hsw7 := hF6.size
  have hL_8 := bel_fr hL hF6 (by omega) (by simp <;> omega)
  have hO_9 := hO.frn hF6 (fun h => h) (by first | exact own_ne hO (by omega))
  refine V.nil ?_
  refine V.then_n (hK4 _ _ ?_)
  refine V.seq (fun K10 hK11 => ?_)
  refine V.region (by kernel_rfl) ?_
  refine V.go (V.mv (v := (.pointer (some ⟨b, 0, none⟩))) (at_other rfl _ (at_other rfl _ (at_other rfl _ (s0)))) ?_)
  refine V.go (V.mv (v := (.pointer (some ⟨b, 0, none⟩))) (at_other rfl _ (at_other rfl _ (at_other rfl _ (at_other rfl _ (s0))))) ?_)
  refine V.go (V.pv [(8, .pointer (some ⟨b, 0, none⟩))] ⟨(at_same ((((hz.put _ _).put _ _).put _ _).put _ _) rfl _), trivial⟩ (by kernel_rfl) (.pointer (some ⟨b, 0, none⟩)) (by kernel_rfl) ?_)
  refine V.go (V.pv [(9, .pointer (some ⟨b, 0, none⟩))] ⟨(at_same (((((hz.put _ _).put _ _).put _ _).put _ _).put _ _) rfl _), trivial⟩ (by kernel_rfl) (.pointer (some ⟨b, 1, none⟩)) (by kernel_rfl) ?_)
  refine V.go (V.ld ⟨b, 1, none⟩ (.slice A xs.length c) (at_same ((((((hz.put _ _).put _ _).put _ _).put _ _).put _ _).put _ _) rfl _) (by kernel_rfl) (hB5.at 1 rfl) ?_)
  refine V.go (V.mv (v := (.int .u8 x)) (at_other rfl _ (at_other rfl _ (at_other rfl _ (at_other rfl _ (at_other rfl _ (at_other rfl _ (at_other rfl _ (at_other rfl _ (s1))))))))) ?_)
  refine V.go (V.mk [(12, .int .u8 x)] ⟨(at_same ((((((((hz.put _ _).put _ _).put _ _).put _ _).put _ _).put _ _).put _ _).put _ _) rfl _), trivial⟩ (by kernel_rfl) [.int .u8 x] 5 (fun b => .slice (some ⟨b, 0, none⟩) 1 1) (by kernel_rfl) ?_)
  intro w13 b12 heb12 hB14 hF15 hsb12
  have hL_16 := bel_fr hL_8 hF15 (by omega) (by simp <;> omega)
  have hO_17 := hO_9.fr0 hF15
  have hB5_18 := hB5.fr0 hF15
  refine V.go (V.app (R := (Rp.int .u8)) (ys := ([x])) (news := [.int .u8 x]) (at_other rfl _ (at_other rfl _ (at_same (((((((hz.put _ _).put _ _).put _ _).put _ _).put _ _).put _ _).put _ _) rfl _))) ⟨b12, 0, none⟩ 1 1 (at_same (((((((((hz.put _ _).put _ _).put _ _).put _ _).put _ _).put _ _).put _ _).put _ _).put _ _) rfl _) (by kernel_rfl) (info5) (by kernel_rfl) (by decide) hO_17 rfl ⟨[.int .u8 x], [], rfl, rfl, rfl⟩ (blk_cells hB14 0 _ rfl) (by omega) (by decide) (by omega) ?_)
  intro A19 c20 w21 hO22z hF23 hatw21
  have hsw21 := hF23.size
  have hL_24 := bel_fr hL_16 hF23 (by omega) (own_ge hO_17 (by omega))
  have hB5_25 := hB5_18.fr hF23 (by first | exact own_notin hO_17 (by omega))
  have hO22 := hO22z.zone (Z' := NoZ) (fun _ _ q => q.1) (fun _ _ q => q)
  refine V.go (V.pv [(7, .pointer (some ⟨b, 0, none⟩))] ⟨(at_other rfl _ (at_other rfl _ (at_other rfl _ (at_other rfl _ (at_other rfl _ (at_other rfl _ (at_other rfl _ (at_same (((hz.put _ _).put _ _).put _ _) rfl _)))))))), trivial⟩ (by kernel_rfl) (.pointer (some ⟨b, 0, none⟩)) (by kernel_rfl) ?_)
  refine V.go (V.pv [(15, .pointer (some ⟨b, 0, none⟩))] ⟨(at_same (((((((((((hz.put _ _).put _ _).put _ _).put _ _).put _ _).put _ _).put _ _).put _ _).put _ _).put _ _).put _ _) rfl _), trivial⟩ (by kernel_rfl) (.pointer (some ⟨b, 1, none⟩)) (by kernel_rfl) ?_)
  refine V.go (V.stn b 1 (.slice A19 (xs.length + 1) c20) [.slice A19 (xs.length + 1) c20] (at_same ((((((((((((hz.put _ _).put _ _).put _ _).put _ _).put _ _).put _ _).put _ _).put _ _).put _ _).put _ _).put _ _).put _ _) rfl _) (at_other rfl _ (at_other rfl _ (at_same ((((((((((hz.put _ _).put _ _).put _ _).put _ _).put _ _).put _ _).put _ _).put _ _).put _ _).put _ _) rfl _))) rfl rfl (by kernel_rfl) hB5_25 (by simp) [.pointer (some ⟨b, 0, none⟩), .slice A19 (xs.length + 1) c20] rfl ?_)
  intro w26 hB27 hF28 hsw26
  have hL_29 := bel_fr hL_24 hF28 (by omega) (by simp <;> omega)
  have hO22_30 := hO22.frn hF28 (fun h => h) (by first | exact own_ne hO22 (by omega) | exact own_ne2 hO22 (by omega))
  refine V.nil ?_
  refine V.then_n (hK11 _ _ ?_)
  refine V.flushW (((((((((((((hz.put _ _).put _ _).put _ _).put _ _).put _ _).put _ _).put _ _).put _ _).put _ _).put _ _).put _ _).put _ _).put _ _) (fun a31 hz32 up33 => ?_)
  clear up33
  refine V.seq (fun K34 hK35 => ?_)
  refine V.region (by kernel_rfl) ?_
  refine V.go (V.asg (v := (.nilIface)) evc ?_)
  refine V.nil ?_
  refine V.then_n (hK35 _ _ ?_)
  refine V.ret ?_
  refine V.ret1 (hz32.put _ _) rfl (at_same hz32 rfl _) ?_
  exact ⟨A19, c20, rfl, hB27, hO22_30, hL_29⟩
end Go.Proofs.Ytmlohijidjbbjaa
