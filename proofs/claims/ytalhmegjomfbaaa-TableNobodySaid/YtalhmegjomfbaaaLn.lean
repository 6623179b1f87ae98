/- Walks: TableNobody. -/
import Derived.Test.YtalhmegjomfbaaaProg
import Derived.Test.YtalhmegjomfbaaaTj
import Derived.Test.YtalhmegjomfbaaaTh
namespace Go.Proofs.Ytalhmegjomfbaaa
open Go.V Go.Base
open Go.RowKit (Below)
attribute [local irreducible] Act.put Act.eval
set_option linter.unusedVariables false
set_option linter.unusedSimpArgs false
set_option maxHeartbeats 4000000 in
set_option maxRecDepth 20000 in
theorem nmade_0 (w : World)   : Calls Try.prog 51 #[.pointer none] w (fun e w' => e = .returned (.bool false) ∧ Fr [] w w') := by
 have hF := Fr.refl [] w
 refine V.enter 13 Try.func51 rfl rfl ?_
 intro a hz ha
 have s0 : a.eval (.tmp 0) = (.pointer none) := ha 0 _ rfl
 clear ha
 refine V.seq (fun K1 hK2 => ?_)
 refine V.rg ?_
 refine V.ga evc ?_
 refine V.nil ?_
 refine V.then_n (hK2 _ _ ?_)
 refine V.seq (fun K3 hK4 => ?_)
 refine V.rg ?_
 refine V.gm (o1 rfl s0) ?_
 refine V.ge_ [(3, .pointer none)] ⟨(sm hz.p1 rfl), trivial⟩ (.bool false) ?_
 refine V.gm (sm hz.p2 rfl) ?_
 refine V.go_off 5 (by kernel_rfl) (sm hz.p2.p1 rfl) (by kernel_rfl) ?_
 refine V.go_off 5 (by kernel_rfl) (o1 rfl (sm hz.p2.p1 rfl)) (by kernel_rfl) ?_
 refine V.go_off 5 (by kernel_rfl) (o2 rfl (sm hz.p2.p1 rfl)) (by kernel_rfl) ?_
 refine V.go_off 5 (by kernel_rfl) (o2 rfl (o1 rfl (sm hz.p2.p1 rfl))) (by kernel_rfl) ?_
 refine V.go_off 5 (by kernel_rfl) (o4 rfl (sm hz.p2.p1 rfl)) (by kernel_rfl) ?_
 refine V.go_off 5 (by kernel_rfl) (o4 rfl (o1 rfl (sm hz.p2.p1 rfl))) (by kernel_rfl) ?_
 refine V.go (V.pk_f (o4 rfl (o2 rfl (sm hz.p2.p1 rfl))) (v := (.bool false)) evc ?_)
 refine V.ga (sm hz.p8.p2 rfl) ?_
 refine V.nil ?_
 refine V.then_n (hK4 _ _ ?_)
 refine V.flushW hz.p8.p4 (fun a5 hz6 up7 => ?_)
 have s2_8 := up7 2 _ (sm hz.p8.p2.p1 rfl)
 clear up7
 refine V.ret ?_
 refine V.ret1 hz6 rfl (s2_8) ?_
 exact ⟨rfl, hF⟩
set_option maxHeartbeats 4000000 in
set_option maxRecDepth 20000 in
theorem nmade_z (w : World) (z : Nat) (hB : Blk w z [.int .u64 0, .slice none 0 0, .slice none 0 0, .int .i64 0, .int .i64 0] 67)  : Calls Try.prog 51 #[.pointer (some ⟨z, 0, none⟩)] w (fun e w' => e = .returned (.bool false) ∧ Fr [] w w') := by
 have hF := Fr.refl [] w
 have hltz := hB.lt
 refine V.enter 13 Try.func51 rfl rfl ?_
 intro a hz ha
 have s0 : a.eval (.tmp 0) = (.pointer (some ⟨z, 0, none⟩)) := ha 0 _ rfl
 clear ha
 refine V.seq (fun K1 hK2 => ?_)
 refine V.rg ?_
 refine V.ga evc ?_
 refine V.nil ?_
 refine V.then_n (hK2 _ _ ?_)
 refine V.seq (fun K3 hK4 => ?_)
 refine V.rg ?_
 refine V.gm (o1 rfl s0) ?_
 refine V.ge_ [(3, .pointer (some ⟨z, 0, none⟩))] ⟨(sm hz.p1 rfl), trivial⟩ (.bool true) ?_
 refine V.gm (sm hz.p2 rfl) ?_
 refine V.go_on 5 (by kernel_rfl) (sm hz.p2.p1 rfl) (V.mv (o4 rfl s0) ?_)
 refine V.go_on 5 (by kernel_rfl) (o1 rfl (sm hz.p2.p1 rfl)) (V.pv [(6, .pointer (some ⟨z, 0, none⟩))] ⟨(sm hz.p4 rfl), trivial⟩ (by kernel_rfl) (.pointer (some ⟨z, 0, none⟩)) (by kernel_rfl) ?_)
 refine V.go_on 5 (by kernel_rfl) (o2 rfl (sm hz.p2.p1 rfl)) (V.pv [(7, .pointer (some ⟨z, 0, none⟩))] ⟨(sm hz.p4.p1 rfl), trivial⟩ (by kernel_rfl) (.pointer (some ⟨z, 1, none⟩)) (by kernel_rfl) ?_)
 refine V.go_on 5 (by kernel_rfl) (o2 rfl (o1 rfl (sm hz.p2.p1 rfl))) (V.pv [(8, .pointer (some ⟨z, 1, none⟩))] ⟨(sm hz.p4.p2 rfl), trivial⟩ (by kernel_rfl) (.pointer (some ⟨z, 1, none⟩)) (by kernel_rfl) ?_)
 refine V.go_on 5 (by kernel_rfl) (o4 rfl (sm hz.p2.p1 rfl)) (V.ld ⟨z, 1, none⟩ (.slice none 0 0) (sm hz.p4.p2.p1 rfl) (by kernel_rfl) (hB.at 1 rfl) ?_)
 refine V.go_on 5 (by kernel_rfl) (o4 rfl (o1 rfl (sm hz.p2.p1 rfl))) (V.pv [(10, .slice none 0 0)] ⟨(sm hz.p8 rfl), trivial⟩ (by kernel_rfl) (.bool false) (by kernel_rfl) ?_)
 refine V.go (V.pk_t (o4 rfl (o2 rfl (sm hz.p2.p1 rfl))) (v := (.bool false)) (sm hz.p8.p1 rfl) ?_)
 refine V.ga (sm hz.p8.p2 rfl) ?_
 refine V.nil ?_
 refine V.then_n (hK4 _ _ ?_)
 refine V.flushW hz.p8.p4 (fun a5 hz6 up7 => ?_)
 have s2_8 := up7 2 _ (sm hz.p8.p2.p1 rfl)
 clear up7
 refine V.ret ?_
 refine V.ret1 hz6 rfl (s2_8) ?_
 exact ⟨rfl, hF⟩
set_option maxHeartbeats 4000000 in
set_option maxRecDepth 20000 in
theorem nlook_0 (w : World)  (k : ByteArray) : Calls Try.prog 22 #[.pointer none, .string k] w (fun e w' => e = .returned (.tuple #[.int .i64 0, .bool false]) ∧ Fr [] w w') := by
 have hF := Fr.refl [] w
 refine V.enter 38 Try.func22 rfl rfl ?_
 intro a hz ha
 have s0 : a.eval (.tmp 0) = (.pointer none) := ha 0 _ rfl
 have s1 : a.eval (.tmp 1) = (.string k) := ha 1 _ rfl
 clear ha
 refine V.seq (fun K1 hK2 => ?_)
 refine V.rg ?_
 refine V.ga evc ?_
 refine V.ga evc ?_
 refine V.nil ?_
 refine V.then_n (hK2 _ _ ?_)
 refine V.seq (fun K3 hK4 => ?_)
 refine V.rg ?_
 refine V.ga evc ?_
 refine V.nil ?_
 refine V.then_n (hK4 _ _ ?_)
 refine V.seq (fun K5 hK6 => ?_)
 refine V.seq (fun K7 hK8 => ?_)
 refine V.rg ?_
 refine V.gm (o2 rfl (o1 rfl s0)) ?_
 refine V.go (V.call 51 #[] #[.pointer none] evf (args1 (sm hz.p2.p1 rfl)) (Go.Proofs.enters_of Try.func51 (by kernel_rfl) rfl) (nmade_0 w) ?_)
 rintro _ w10 ⟨rfl, hF9⟩
 refine ⟨_, rfl, ?_⟩
 have hsw10 := hF9.size
 have hF_11 := hF.new hF9
 refine V.ge_ [(10, .bool false)] ⟨(sm hz.p4 rfl), trivial⟩ (.bool true) ?_
 refine V.nil ?_
 refine V.then_n (hK8 _ _ ?_)
 refine V.flushW hz.p4.p2 (fun a12 hz13 up14 => ?_)
 have s0_15 := up14 0 _ (o4 rfl (o2 rfl s0))
 have s1_16 := up14 1 _ (o4 rfl (o2 rfl s1))
 have s6_17 := up14 6 _ (o2 rfl (o1 rfl (sm hz.p2 rfl)))
 have s11_18 := up14 11 _ (sm hz.p4.p1 rfl)
 clear up14
 refine V.cond_t (s11_18) ?_
 refine V.seq (fun K19 hK20 => ?_)
 refine V.rg ?_
 refine V.gm (s6_17) ?_
 refine V.ga (sm hz13 rfl) ?_
 refine V.ga evc ?_
 refine V.nil ?_
 refine V.then_n (hK20 _ _ ?_)
 refine V.ret ?_
 refine V.then_r ?_
 refine V.ret2 hz13.p2.p1 rfl (o1 rfl (sm hz13.p1 rfl)) (sm hz13.p2 rfl) ?_
 exact ⟨rfl, hF_11⟩
set_option maxHeartbeats 4000000 in
set_option maxRecDepth 20000 in
theorem nlook_z (w : World) (z : Nat) (hB : Blk w z [.int .u64 0, .slice none 0 0, .slice none 0 0, .int .i64 0, .int .i64 0] 67) (k : ByteArray) : Calls Try.prog 22 #[.pointer (some ⟨z, 0, none⟩), .string k] w (fun e w' => e = .returned (.tuple #[.int .i64 0, .bool false]) ∧ Fr [] w w') := by
 have hF := Fr.refl [] w
 have hltz := hB.lt
 refine V.enter 38 Try.func22 rfl rfl ?_
 intro a hz ha
 have s0 : a.eval (.tmp 0) = (.pointer (some ⟨z, 0, none⟩)) := ha 0 _ rfl
 have s1 : a.eval (.tmp 1) = (.string k) := ha 1 _ rfl
 clear ha
 refine V.seq (fun K1 hK2 => ?_)
 refine V.rg ?_
 refine V.ga evc ?_
 refine V.ga evc ?_
 refine V.nil ?_
 refine V.then_n (hK2 _ _ ?_)
 refine V.seq (fun K3 hK4 => ?_)
 refine V.rg ?_
 refine V.ga evc ?_
 refine V.nil ?_
 refine V.then_n (hK4 _ _ ?_)
 refine V.seq (fun K5 hK6 => ?_)
 refine V.seq (fun K7 hK8 => ?_)
 refine V.rg ?_
 refine V.gm (o2 rfl (o1 rfl s0)) ?_
 refine V.go (V.call 51 #[] #[.pointer (some ⟨z, 0, none⟩)] evf (args1 (sm hz.p2.p1 rfl)) (Go.Proofs.enters_of Try.func51 (by kernel_rfl) rfl) (nmade_z w z hB) ?_)
 rintro _ w10 ⟨rfl, hF9⟩
 refine ⟨_, rfl, ?_⟩
 have hsw10 := hF9.size
 have hF_11 := hF.new hF9
 have hB_12 := hB.fr0 hF9
 refine V.ge_ [(10, .bool false)] ⟨(sm hz.p4 rfl), trivial⟩ (.bool true) ?_
 refine V.nil ?_
 refine V.then_n (hK8 _ _ ?_)
 refine V.flushW hz.p4.p2 (fun a13 hz14 up15 => ?_)
 have s0_16 := up15 0 _ (o4 rfl (o2 rfl s0))
 have s1_17 := up15 1 _ (o4 rfl (o2 rfl s1))
 have s6_18 := up15 6 _ (o2 rfl (o1 rfl (sm hz.p2 rfl)))
 have s11_19 := up15 11 _ (sm hz.p4.p1 rfl)
 clear up15
 refine V.cond_t (s11_19) ?_
 refine V.seq (fun K20 hK21 => ?_)
 refine V.rg ?_
 refine V.gm (s6_18) ?_
 refine V.ga (sm hz14 rfl) ?_
 refine V.ga evc ?_
 refine V.nil ?_
 refine V.then_n (hK21 _ _ ?_)
 refine V.ret ?_
 refine V.then_r ?_
 refine V.ret2 hz14.p2.p1 rfl (o1 rfl (sm hz14.p1 rfl)) (sm hz14.p2 rfl) ?_
 exact ⟨rfl, hF_11⟩
set_option maxHeartbeats 4000000 in
set_option maxRecDepth 20000 in
theorem nget_0 (w : World)  (k : ByteArray) : Calls Try.prog 36 #[.pointer none, .string k] w (fun e w' => e = .returned (.tuple #[.int .i64 0, .bool false]) ∧ Fr [] w w') := by
 have hF := Fr.refl [] w
 refine V.enter 15 Try.func36 rfl rfl ?_
 intro a hz ha
 have s0 : a.eval (.tmp 0) = (.pointer none) := ha 0 _ rfl
 have s1 : a.eval (.tmp 1) = (.string k) := ha 1 _ rfl
 clear ha
 refine V.seq (fun K1 hK2 => ?_)
 refine V.rg ?_
 refine V.ga evc ?_
 refine V.ga evc ?_
 refine V.nil ?_
 refine V.then_n (hK2 _ _ ?_)
 refine V.seq (fun K3 hK4 => ?_)
 refine V.seq (fun K5 hK6 => ?_)
 refine V.rg ?_
 refine V.gm (o2 rfl s0) ?_
 refine V.go (V.call 51 #[] #[.pointer none] evf (args1 (sm hz.p2 rfl)) (Go.Proofs.enters_of Try.func51 (by kernel_rfl) rfl) (nmade_0 w) ?_)
 rintro _ w8 ⟨rfl, hF7⟩
 refine ⟨_, rfl, ?_⟩
 have hsw8 := hF7.size
 have hF_9 := hF.new hF7
 refine V.nil ?_
 refine V.then_n (hK6 _ _ ?_)
 refine V.flushW hz.p4 (fun a10 hz11 up12 => ?_)
 have s0_13 := up12 0 _ (o4 rfl s0)
 have s1_14 := up12 1 _ (o4 rfl s1)
 have s7_15 : a10.eval (.tmp 7) = (.bool false) := up12 _ _ (sm hz.p2.p1 rfl)
 clear up12
 refine V.cond_f (s7_15) ?_
 refine V.skip ?_
 refine V.then_n (hK4 _ _ ?_)
 refine V.seq (fun K16 hK17 => ?_)
 refine V.rg ?_
 refine V.gm (s0_13) ?_
 refine V.gm (o1 rfl s1_14) ?_
 refine V.go (V.call 22 #[] #[.pointer none, .string k] evf (args2 (o1 rfl (sm hz11 rfl)) (sm hz11.p1 rfl)) (Go.Proofs.enters_of Try.func22 (by kernel_rfl) rfl) (nlook_0 w8 k) ?_)
 rintro _ w19 ⟨rfl, hF18⟩
 refine ⟨_, rfl, ?_⟩
 have hsw19 := hF18.size
 have hF_20 := hF_9.new hF18
 refine V.ge_ [(12, .tuple #[.int .i64 0, .bool false])] ⟨(sm hz11.p2 rfl), trivial⟩ (.int .i64 0) ?_
 refine V.ge_ [(12, .tuple #[.int .i64 0, .bool false])] ⟨(o1 rfl (sm hz11.p2 rfl)), trivial⟩ (.bool false) ?_
 refine V.ga (o1 rfl (sm hz11.p2.p1 rfl)) ?_
 refine V.ga (o1 rfl (sm hz11.p4 rfl)) ?_
 refine V.nil ?_
 refine V.then_n (hK17 _ _ ?_)
 refine V.flushW hz11.p4.p2.p1 (fun a21 hz22 up23 => ?_)
 have s4_24 := up23 4 _ (o1 rfl (sm hz11.p4.p1 rfl))
 have s5_25 := up23 5 _ (sm hz11.p4.p2 rfl)
 clear up23
 refine V.ret ?_
 refine V.ret2 hz22 rfl (s4_24) (s5_25) ?_
 exact ⟨rfl, hF_20⟩
set_option maxHeartbeats 4000000 in
set_option maxRecDepth 20000 in
theorem nget_z (w : World) (z : Nat) (hB : Blk w z [.int .u64 0, .slice none 0 0, .slice none 0 0, .int .i64 0, .int .i64 0] 67) (k : ByteArray) : Calls Try.prog 36 #[.pointer (some ⟨z, 0, none⟩), .string k] w (fun e w' => e = .returned (.tuple #[.int .i64 0, .bool false]) ∧ Fr [] w w') := by
 have hF := Fr.refl [] w
 have hltz := hB.lt
 refine V.enter 15 Try.func36 rfl rfl ?_
 intro a hz ha
 have s0 : a.eval (.tmp 0) = (.pointer (some ⟨z, 0, none⟩)) := ha 0 _ rfl
 have s1 : a.eval (.tmp 1) = (.string k) := ha 1 _ rfl
 clear ha
 refine V.seq (fun K1 hK2 => ?_)
 refine V.rg ?_
 refine V.ga evc ?_
 refine V.ga evc ?_
 refine V.nil ?_
 refine V.then_n (hK2 _ _ ?_)
 refine V.seq (fun K3 hK4 => ?_)
 refine V.seq (fun K5 hK6 => ?_)
 refine V.rg ?_
 refine V.gm (o2 rfl s0) ?_
 refine V.go (V.call 51 #[] #[.pointer (some ⟨z, 0, none⟩)] evf (args1 (sm hz.p2 rfl)) (Go.Proofs.enters_of Try.func51 (by kernel_rfl) rfl) (nmade_z w z hB) ?_)
 rintro _ w8 ⟨rfl, hF7⟩
 refine ⟨_, rfl, ?_⟩
 have hsw8 := hF7.size
 have hF_9 := hF.new hF7
 have hB_10 := hB.fr0 hF7
 refine V.nil ?_
 refine V.then_n (hK6 _ _ ?_)
 refine V.flushW hz.p4 (fun a11 hz12 up13 => ?_)
 have s0_14 := up13 0 _ (o4 rfl s0)
 have s1_15 := up13 1 _ (o4 rfl s1)
 have s7_16 : a11.eval (.tmp 7) = (.bool false) := up13 _ _ (sm hz.p2.p1 rfl)
 clear up13
 refine V.cond_f (s7_16) ?_
 refine V.skip ?_
 refine V.then_n (hK4 _ _ ?_)
 refine V.seq (fun K17 hK18 => ?_)
 refine V.rg ?_
 refine V.gm (s0_14) ?_
 refine V.gm (o1 rfl s1_15) ?_
 refine V.go (V.call 22 #[] #[.pointer (some ⟨z, 0, none⟩), .string k] evf (args2 (o1 rfl (sm hz12 rfl)) (sm hz12.p1 rfl)) (Go.Proofs.enters_of Try.func22 (by kernel_rfl) rfl) (nlook_z w8 z hB_10 k) ?_)
 rintro _ w20 ⟨rfl, hF19⟩
 refine ⟨_, rfl, ?_⟩
 have hsw20 := hF19.size
 have hF_21 := hF_9.new hF19
 have hB_22 := hB_10.fr0 hF19
 refine V.ge_ [(12, .tuple #[.int .i64 0, .bool false])] ⟨(sm hz12.p2 rfl), trivial⟩ (.int .i64 0) ?_
 refine V.ge_ [(12, .tuple #[.int .i64 0, .bool false])] ⟨(o1 rfl (sm hz12.p2 rfl)), trivial⟩ (.bool false) ?_
 refine V.ga (o1 rfl (sm hz12.p2.p1 rfl)) ?_
 refine V.ga (o1 rfl (sm hz12.p4 rfl)) ?_
 refine V.nil ?_
 refine V.then_n (hK18 _ _ ?_)
 refine V.flushW hz12.p4.p2.p1 (fun a23 hz24 up25 => ?_)
 have s4_26 := up25 4 _ (o1 rfl (sm hz12.p4.p1 rfl))
 have s5_27 := up25 5 _ (sm hz12.p4.p2 rfl)
 clear up25
 refine V.ret ?_
 refine V.ret2 hz24 rfl (s4_26) (s5_27) ?_
 exact ⟨rfl, hF_21⟩
set_option maxHeartbeats 4000000 in
set_option maxRecDepth 20000 in
theorem nlen_0 (w : World)   : Calls Try.prog 18 #[.pointer none] w (fun e w' => e = .returned (.int .i64 0) ∧ Fr [] w w') := by
 have hF := Fr.refl [] w
 refine V.enter 9 Try.func18 rfl rfl ?_
 intro a hz ha
 have s0 : a.eval (.tmp 0) = (.pointer none) := ha 0 _ rfl
 clear ha
 refine V.seq (fun K1 hK2 => ?_)
 refine V.rg ?_
 refine V.ga evc ?_
 refine V.nil ?_
 refine V.then_n (hK2 _ _ ?_)
 refine V.seq (fun K3 hK4 => ?_)
 refine V.seq (fun K5 hK6 => ?_)
 refine V.rg ?_
 refine V.gm (o1 rfl s0) ?_
 refine V.ge_ [(3, .pointer none)] ⟨(sm hz.p1 rfl), trivial⟩ (.bool true) ?_
 refine V.nil ?_
 refine V.then_n (hK6 _ _ ?_)
 refine V.cond_t (sm hz.p2 rfl) ?_
 refine V.seq (fun K7 hK8 => ?_)
 refine V.rg ?_
 refine V.ga evc ?_
 refine V.nil ?_
 refine V.then_n (hK8 _ _ ?_)
 refine V.flushW hz.p4 (fun a9 hz10 up11 => ?_)
 have s0_12 := up11 0 _ (o4 rfl s0)
 have s2_13 := up11 2 _ (sm hz.p2.p1 rfl)
 clear up11
 refine V.ret ?_
 refine V.then_r ?_
 refine V.ret1 hz10 rfl (s2_13) ?_
 exact ⟨rfl, hF⟩
set_option maxHeartbeats 4000000 in
set_option maxRecDepth 20000 in
theorem nlen_z (w : World) (z : Nat) (hB : Blk w z [.int .u64 0, .slice none 0 0, .slice none 0 0, .int .i64 0, .int .i64 0] 67)  : Calls Try.prog 18 #[.pointer (some ⟨z, 0, none⟩)] w (fun e w' => e = .returned (.int .i64 0) ∧ Fr [] w w') := by
 have hF := Fr.refl [] w
 have hltz := hB.lt
 refine V.enter 9 Try.func18 rfl rfl ?_
 intro a hz ha
 have s0 : a.eval (.tmp 0) = (.pointer (some ⟨z, 0, none⟩)) := ha 0 _ rfl
 clear ha
 refine V.seq (fun K1 hK2 => ?_)
 refine V.rg ?_
 refine V.ga evc ?_
 refine V.nil ?_
 refine V.then_n (hK2 _ _ ?_)
 refine V.seq (fun K3 hK4 => ?_)
 refine V.seq (fun K5 hK6 => ?_)
 refine V.rg ?_
 refine V.gm (o1 rfl s0) ?_
 refine V.ge_ [(3, .pointer (some ⟨z, 0, none⟩))] ⟨(sm hz.p1 rfl), trivial⟩ (.bool false) ?_
 refine V.nil ?_
 refine V.then_n (hK6 _ _ ?_)
 refine V.cond_f (sm hz.p2 rfl) ?_
 refine V.skip ?_
 refine V.then_n (hK4 _ _ ?_)
 refine V.seq (fun K7 hK8 => ?_)
 refine V.rg ?_
 refine V.gm (o2 rfl (o1 rfl s0)) ?_
 refine V.ge_ [(5, .pointer (some ⟨z, 0, none⟩))] ⟨(sm hz.p2.p1 rfl), trivial⟩ (.pointer (some ⟨z, 0, none⟩)) ?_
 refine V.ge_ [(6, .pointer (some ⟨z, 0, none⟩))] ⟨(sm hz.p4 rfl), trivial⟩ (.pointer (some ⟨z, 4, none⟩)) ?_
 refine V.go (V.ld ⟨z, 4, none⟩ (.int .i64 0) (sm hz.p4.p1 rfl) (by kernel_rfl) (hB.at 4 rfl) ?_)
 refine V.ga (sm hz.p4.p2 rfl) ?_
 refine V.nil ?_
 refine V.then_n (hK8 _ _ ?_)
 refine V.flushW hz.p8 (fun a9 hz10 up11 => ?_)
 have s2_12 := up11 2 _ (sm hz.p4.p2.p1 rfl)
 clear up11
 refine V.ret ?_
 refine V.ret1 hz10 rfl (s2_12) ?_
 exact ⟨rfl, hF⟩
set_option maxHeartbeats 4000000 in
set_option maxRecDepth 20000 in
theorem npick_0 (w : World)  (d : Nat) : Calls Try.prog 37 #[.pointer none, .int .u64 (d : Int)] w (fun e w' => e = .returned (.tuple #[.string ⟨#[]⟩, .int .i64 0, .bool false]) ∧ Fr [] w w') := by
 have hF := Fr.refl [] w
 refine V.enterM 34 Try.func37 rfl rfl ?_
 intro a hz ha
 have s0 : a.eval (.tmp 0) = (.pointer none) := ha 0 _ rfl
 have s1 : a.eval (.tmp 1) = (.int .u64 (d : Int)) := ha 1 _ rfl
 clear ha
 refine V.seq (fun K1 hK2 => ?_)
 refine V.rg ?_
 refine V.go (V.mk [] trivial (by kernel_rfl) [.string ⟨#[]⟩] 9 (fun b => .pointer (some ⟨b, 0, none⟩)) (by kernel_rfl) ?_)
 intro w4 b3 heb3 hB5 hF6 hsb3
 have hF_7 := hF.new hF6
 refine V.go (V.mk [] trivial (by kernel_rfl) [.int .i64 0] 3 (fun b => .pointer (some ⟨b, 0, none⟩)) (by kernel_rfl) ?_)
 intro w9 b8 heb8 hB10 hF11 hsb8
 have hF_12 := hF_7.new hF11
 have hB5_13 := hB5.fr0 hF11
 refine V.go (V.mk [] trivial (by kernel_rfl) [.bool false] 4 (fun b => .pointer (some ⟨b, 0, none⟩)) (by kernel_rfl) ?_)
 intro w15 b14 heb14 hB16 hF17 hsb14
 have hF_18 := hF_12.new hF17
 have hB5_19 := hB5_13.fr0 hF17
 have hB10_20 := hB10.fr0 hF17
 refine V.nil ?_
 refine V.then_n (hK2 _ _ ?_)
 refine V.seq (fun K21 hK22 => ?_)
 refine V.rg ?_
 refine V.ga evc ?_
 refine V.nil ?_
 refine V.then_n (hK22 _ _ ?_)
 refine V.flushW hz.p4 (fun a23 hz24 up25 => ?_)
 have s0_26 := up25 0 _ (o4 rfl s0)
 have s1_27 := up25 1 _ (o4 rfl s1)
 have s4_28 := up25 4 _ (o2 rfl (o1 rfl (sm hz rfl)))
 have s5_29 := up25 5 _ (o2 rfl (sm hz.p1 rfl))
 have s6_30 := up25 6 _ (o1 rfl (sm hz.p2 rfl))
 have s7_31 := up25 7 _ (sm hz.p2.p1 rfl)
 clear up25
 refine V.seq (fun K32 hK33 => ?_)
 refine V.seq (fun K34 hK35 => ?_)
 refine V.rg ?_
 refine V.gm (s0_26) ?_
 refine V.go (V.call 18 #[] #[.pointer none] evf (args1 (sm hz24 rfl)) (Go.Proofs.enters_of Try.func18 (by kernel_rfl) rfl) (nlen_0 w15) ?_)
 rintro _ w37 ⟨rfl, hF36⟩
 refine ⟨_, rfl, ?_⟩
 have hsw37 := hF36.size
 have hF_38 := hF_18.new hF36
 have hB5_39 := hB5_19.fr0 hF36
 have hB10_40 := hB10_20.fr0 hF36
 have hB16_41 := hB16.fr0 hF36
 refine V.ge_ [(12, .int .i64 0)] ⟨(sm hz24.p1 rfl), trivial⟩ (.bool true) ?_
 refine V.nil ?_
 refine V.then_n (hK35 _ _ ?_)
 refine V.cond_t (sm hz24.p2 rfl) ?_
 refine V.seq (fun K42 hK43 => ?_)
 refine V.rg ?_
 refine V.gm (o2 rfl (o1 rfl s7_31)) ?_
 refine V.go (V.stn b3 0 (.string ⟨#[]⟩) [.string ⟨#[]⟩] (o4 rfl s4_28) evc rfl rfl (by kernel_rfl) hB5_39 (by simp) [.string ⟨#[]⟩] rfl ?_)
 intro w44 hB45 hF46 hsw44
 have hF_47 := hF_38.own hF46 (by simp <;> omega)
 have hB10_48 := hB10_40.fr1 hF46 (by omega)
 have hB16_49 := hB16_41.fr1 hF46 (by omega)
 refine V.go (V.stn b8 0 (.int .i64 0) [.int .i64 0] (o4 rfl s5_29) (sm hz24.p2.p1 rfl) rfl rfl (by kernel_rfl) hB10_48 (by simp) [.int .i64 0] rfl ?_)
 intro w50 hB51 hF52 hsw50
 have hF_53 := hF_47.own hF52 (by simp <;> omega)
 have hB16_54 := hB16_49.fr1 hF52 (by omega)
 have hB45_55 := hB45.fr1 hF52 (by omega)
 refine V.go (V.stn b14 0 (.bool false) [.bool false] (o4 rfl s6_30) evc rfl rfl (by kernel_rfl) hB16_54 (by simp) [.bool false] rfl ?_)
 intro w56 hB57 hF58 hsw56
 have hF_59 := hF_53.own hF58 (by simp <;> omega)
 have hB45_60 := hB45_55.fr1 hF58 (by omega)
 have hB51_61 := hB51.fr1 hF58 (by omega)
 refine V.nil ?_
 refine V.then_n (hK43 _ _ ?_)
 refine V.flushW hz24.p4 (fun a62 hz63 up64 => ?_)
 have s0_65 := up64 0 _ (o4 rfl s0_26)
 have s1_66 := up64 1 _ (o4 rfl s1_27)
 have s4_67 := up64 4 _ (o4 rfl s4_28)
 have s5_68 := up64 5 _ (o4 rfl s5_29)
 have s6_69 := up64 6 _ (o4 rfl s6_30)
 have s7_70 := up64 7 _ (o4 rfl s7_31)
 clear up64
 refine V.ret ?_
 refine V.then_r ?_
 refine V.retM0 hz63 ⟨_, V.resCCC rfl _ _ _ (s4_67) (s5_68) (s6_69) (V.run_loadVar_scalar (by kernel_rfl) (hB45_60.at 0 rfl)) (V.run_loadVar_scalar (by kernel_rfl) (hB51_61.at 0 rfl)) (V.run_loadVar_scalar (by kernel_rfl) (hB57.at 0 rfl)), ?_⟩
 exact ⟨rfl, hF_59⟩
set_option maxHeartbeats 4000000 in
set_option maxRecDepth 20000 in
theorem npick_z (w : World) (z : Nat) (hB : Blk w z [.int .u64 0, .slice none 0 0, .slice none 0 0, .int .i64 0, .int .i64 0] 67) (d : Nat) : Calls Try.prog 37 #[.pointer (some ⟨z, 0, none⟩), .int .u64 (d : Int)] w (fun e w' => e = .returned (.tuple #[.string ⟨#[]⟩, .int .i64 0, .bool false]) ∧ Fr [] w w') := by
 have hF := Fr.refl [] w
 have hltz := hB.lt
 refine V.enterM 34 Try.func37 rfl rfl ?_
 intro a hz ha
 have s0 : a.eval (.tmp 0) = (.pointer (some ⟨z, 0, none⟩)) := ha 0 _ rfl
 have s1 : a.eval (.tmp 1) = (.int .u64 (d : Int)) := ha 1 _ rfl
 clear ha
 refine V.seq (fun K1 hK2 => ?_)
 refine V.rg ?_
 refine V.go (V.mk [] trivial (by kernel_rfl) [.string ⟨#[]⟩] 9 (fun b => .pointer (some ⟨b, 0, none⟩)) (by kernel_rfl) ?_)
 intro w4 b3 heb3 hB5 hF6 hsb3
 have hF_7 := hF.new hF6
 have hB_8 := hB.fr0 hF6
 refine V.go (V.mk [] trivial (by kernel_rfl) [.int .i64 0] 3 (fun b => .pointer (some ⟨b, 0, none⟩)) (by kernel_rfl) ?_)
 intro w10 b9 heb9 hB11 hF12 hsb9
 have hF_13 := hF_7.new hF12
 have hB_14 := hB_8.fr0 hF12
 have hB5_15 := hB5.fr0 hF12
 refine V.go (V.mk [] trivial (by kernel_rfl) [.bool false] 4 (fun b => .pointer (some ⟨b, 0, none⟩)) (by kernel_rfl) ?_)
 intro w17 b16 heb16 hB18 hF19 hsb16
 have hF_20 := hF_13.new hF19
 have hB_21 := hB_14.fr0 hF19
 have hB5_22 := hB5_15.fr0 hF19
 have hB11_23 := hB11.fr0 hF19
 refine V.nil ?_
 refine V.then_n (hK2 _ _ ?_)
 refine V.seq (fun K24 hK25 => ?_)
 refine V.rg ?_
 refine V.ga evc ?_
 refine V.nil ?_
 refine V.then_n (hK25 _ _ ?_)
 refine V.flushW hz.p4 (fun a26 hz27 up28 => ?_)
 have s0_29 := up28 0 _ (o4 rfl s0)
 have s1_30 := up28 1 _ (o4 rfl s1)
 have s4_31 := up28 4 _ (o2 rfl (o1 rfl (sm hz rfl)))
 have s5_32 := up28 5 _ (o2 rfl (sm hz.p1 rfl))
 have s6_33 := up28 6 _ (o1 rfl (sm hz.p2 rfl))
 have s7_34 := up28 7 _ (sm hz.p2.p1 rfl)
 clear up28
 refine V.seq (fun K35 hK36 => ?_)
 refine V.seq (fun K37 hK38 => ?_)
 refine V.rg ?_
 refine V.gm (s0_29) ?_
 refine V.go (V.call 18 #[] #[.pointer (some ⟨z, 0, none⟩)] evf (args1 (sm hz27 rfl)) (Go.Proofs.enters_of Try.func18 (by kernel_rfl) rfl) (nlen_z w17 z hB_21) ?_)
 rintro _ w40 ⟨rfl, hF39⟩
 refine ⟨_, rfl, ?_⟩
 have hsw40 := hF39.size
 have hF_41 := hF_20.new hF39
 have hB_42 := hB_21.fr0 hF39
 have hB5_43 := hB5_22.fr0 hF39
 have hB11_44 := hB11_23.fr0 hF39
 have hB18_45 := hB18.fr0 hF39
 refine V.ge_ [(12, .int .i64 0)] ⟨(sm hz27.p1 rfl), trivial⟩ (.bool true) ?_
 refine V.nil ?_
 refine V.then_n (hK38 _ _ ?_)
 refine V.cond_t (sm hz27.p2 rfl) ?_
 refine V.seq (fun K46 hK47 => ?_)
 refine V.rg ?_
 refine V.gm (o2 rfl (o1 rfl s7_34)) ?_
 refine V.go (V.stn b3 0 (.string ⟨#[]⟩) [.string ⟨#[]⟩] (o4 rfl s4_31) evc rfl rfl (by kernel_rfl) hB5_43 (by simp) [.string ⟨#[]⟩] rfl ?_)
 intro w48 hB49 hF50 hsw48
 have hF_51 := hF_41.own hF50 (by simp <;> omega)
 have hB_52 := hB_42.fr1 hF50 (by omega)
 have hB11_53 := hB11_44.fr1 hF50 (by omega)
 have hB18_54 := hB18_45.fr1 hF50 (by omega)
 refine V.go (V.stn b9 0 (.int .i64 0) [.int .i64 0] (o4 rfl s5_32) (sm hz27.p2.p1 rfl) rfl rfl (by kernel_rfl) hB11_53 (by simp) [.int .i64 0] rfl ?_)
 intro w55 hB56 hF57 hsw55
 have hF_58 := hF_51.own hF57 (by simp <;> omega)
 have hB_59 := hB_52.fr1 hF57 (by omega)
 have hB18_60 := hB18_54.fr1 hF57 (by omega)
 have hB49_61 := hB49.fr1 hF57 (by omega)
 refine V.go (V.stn b16 0 (.bool false) [.bool false] (o4 rfl s6_33) evc rfl rfl (by kernel_rfl) hB18_60 (by simp) [.bool false] rfl ?_)
 intro w62 hB63 hF64 hsw62
 have hF_65 := hF_58.own hF64 (by simp <;> omega)
 have hB_66 := hB_59.fr1 hF64 (by omega)
 have hB49_67 := hB49_61.fr1 hF64 (by omega)
 have hB56_68 := hB56.fr1 hF64 (by omega)
 refine V.nil ?_
 refine V.then_n (hK47 _ _ ?_)
 refine V.flushW hz27.p4 (fun a69 hz70 up71 => ?_)
 have s0_72 := up71 0 _ (o4 rfl s0_29)
 have s1_73 := up71 1 _ (o4 rfl s1_30)
 have s4_74 := up71 4 _ (o4 rfl s4_31)
 have s5_75 := up71 5 _ (o4 rfl s5_32)
 have s6_76 := up71 6 _ (o4 rfl s6_33)
 have s7_77 := up71 7 _ (o4 rfl s7_34)
 clear up71
 refine V.ret ?_
 refine V.then_r ?_
 refine V.retM0 hz70 ⟨_, V.resCCC rfl _ _ _ (s4_74) (s5_75) (s6_76) (V.run_loadVar_scalar (by kernel_rfl) (hB49_67.at 0 rfl)) (V.run_loadVar_scalar (by kernel_rfl) (hB56_68.at 0 rfl)) (V.run_loadVar_scalar (by kernel_rfl) (hB63.at 0 rfl)), ?_⟩
 exact ⟨rfl, hF_65⟩
set_option maxHeartbeats 4000000 in
set_option maxRecDepth 20000 in
theorem nsizes_0 (w : World)   : Calls Try.prog 17 #[.pointer none] w (fun e w' => e = .returned (.tuple #[.int .i64 0, .int .i64 0, .int .i64 0]) ∧ Fr [] w w') := by
 have hF := Fr.refl [] w
 refine V.enter 24 Try.func17 rfl rfl ?_
 intro a hz ha
 have s0 : a.eval (.tmp 0) = (.pointer none) := ha 0 _ rfl
 clear ha
 refine V.seq (fun K1 hK2 => ?_)
 refine V.rg ?_
 refine V.ga evc ?_
 refine V.ga evc ?_
 refine V.ga evc ?_
 refine V.nil ?_
 refine V.then_n (hK2 _ _ ?_)
 refine V.seq (fun K3 hK4 => ?_)
 refine V.seq (fun K5 hK6 => ?_)
 refine V.rg ?_
 refine V.gm (o2 rfl (o1 rfl s0)) ?_
 refine V.go (V.call 51 #[] #[.pointer none] evf (args1 (sm hz.p2.p1 rfl)) (Go.Proofs.enters_of Try.func51 (by kernel_rfl) rfl) (nmade_0 w) ?_)
 rintro _ w8 ⟨rfl, hF7⟩
 refine ⟨_, rfl, ?_⟩
 have hsw8 := hF7.size
 have hF_9 := hF.new hF7
 refine V.ge_ [(6, .bool false)] ⟨(sm hz.p4 rfl), trivial⟩ (.bool true) ?_
 refine V.nil ?_
 refine V.then_n (hK6 _ _ ?_)
 refine V.flushW hz.p4.p2 (fun a10 hz11 up12 => ?_)
 have s0_13 := up12 0 _ (o4 rfl (o2 rfl s0))
 have s7_14 := up12 7 _ (sm hz.p4.p1 rfl)
 clear up12
 refine V.cond_t (s7_14) ?_
 refine V.seq (fun K15 hK16 => ?_)
 refine V.rg ?_
 refine V.ga evc ?_
 refine V.ga evc ?_
 refine V.ga evc ?_
 refine V.nil ?_
 refine V.then_n (hK16 _ _ ?_)
 refine V.ret ?_
 refine V.then_r ?_
 refine V.ret3 hz11.p2.p1 rfl (o2 rfl (sm hz11 rfl)) (o1 rfl (sm hz11.p1 rfl)) (sm hz11.p2 rfl) ?_
 exact ⟨rfl, hF_9⟩
set_option maxHeartbeats 4000000 in
set_option maxRecDepth 20000 in
theorem nsizes_z (w : World) (z : Nat) (hB : Blk w z [.int .u64 0, .slice none 0 0, .slice none 0 0, .int .i64 0, .int .i64 0] 67)  : Calls Try.prog 17 #[.pointer (some ⟨z, 0, none⟩)] w (fun e w' => e = .returned (.tuple #[.int .i64 0, .int .i64 0, .int .i64 0]) ∧ Fr [] w w') := by
 have hF := Fr.refl [] w
 have hltz := hB.lt
 refine V.enter 24 Try.func17 rfl rfl ?_
 intro a hz ha
 have s0 : a.eval (.tmp 0) = (.pointer (some ⟨z, 0, none⟩)) := ha 0 _ rfl
 clear ha
 refine V.seq (fun K1 hK2 => ?_)
 refine V.rg ?_
 refine V.ga evc ?_
 refine V.ga evc ?_
 refine V.ga evc ?_
 refine V.nil ?_
 refine V.then_n (hK2 _ _ ?_)
 refine V.seq (fun K3 hK4 => ?_)
 refine V.seq (fun K5 hK6 => ?_)
 refine V.rg ?_
 refine V.gm (o2 rfl (o1 rfl s0)) ?_
 refine V.go (V.call 51 #[] #[.pointer (some ⟨z, 0, none⟩)] evf (args1 (sm hz.p2.p1 rfl)) (Go.Proofs.enters_of Try.func51 (by kernel_rfl) rfl) (nmade_z w z hB) ?_)
 rintro _ w8 ⟨rfl, hF7⟩
 refine ⟨_, rfl, ?_⟩
 have hsw8 := hF7.size
 have hF_9 := hF.new hF7
 have hB_10 := hB.fr0 hF7
 refine V.ge_ [(6, .bool false)] ⟨(sm hz.p4 rfl), trivial⟩ (.bool true) ?_
 refine V.nil ?_
 refine V.then_n (hK6 _ _ ?_)
 refine V.flushW hz.p4.p2 (fun a11 hz12 up13 => ?_)
 have s0_14 := up13 0 _ (o4 rfl (o2 rfl s0))
 have s7_15 := up13 7 _ (sm hz.p4.p1 rfl)
 clear up13
 refine V.cond_t (s7_15) ?_
 refine V.seq (fun K16 hK17 => ?_)
 refine V.rg ?_
 refine V.ga evc ?_
 refine V.ga evc ?_
 refine V.ga evc ?_
 refine V.nil ?_
 refine V.then_n (hK17 _ _ ?_)
 refine V.ret ?_
 refine V.then_r ?_
 refine V.ret3 hz12.p2.p1 rfl (o2 rfl (sm hz12 rfl)) (o1 rfl (sm hz12.p1 rfl)) (sm hz12.p2 rfl) ?_
 exact ⟨rfl, hF_9⟩
set_option maxHeartbeats 4000000 in
set_option maxRecDepth 20000 in
theorem nput_0 (w : World)  (k : ByteArray) (v : Int) : Calls Try.prog 38 #[.pointer none, .string k, .int .i64 v] w (fun e w' => e = .returned (.bool false) ∧ Fr [] w w') := by
 have hF := Fr.refl [] w
 refine V.enter 99 Try.func38 rfl rfl ?_
 intro a hz ha
 have s0 : a.eval (.tmp 0) = (.pointer none) := ha 0 _ rfl
 have s1 : a.eval (.tmp 1) = (.string k) := ha 1 _ rfl
 have s2 : a.eval (.tmp 2) = (.int .i64 v) := ha 2 _ rfl
 clear ha
 refine V.seq (fun K1 hK2 => ?_)
 refine V.rg ?_
 refine V.ga evc ?_
 refine V.nil ?_
 refine V.then_n (hK2 _ _ ?_)
 refine V.seq (fun K3 hK4 => ?_)
 refine V.seq (fun K5 hK6 => ?_)
 refine V.rg ?_
 refine V.gm (o1 rfl s0) ?_
 refine V.go (V.call 51 #[] #[.pointer none] evf (args1 (sm hz.p1 rfl)) (Go.Proofs.enters_of Try.func51 (by kernel_rfl) rfl) (nmade_0 w) ?_)
 rintro _ w8 ⟨rfl, hF7⟩
 refine ⟨_, rfl, ?_⟩
 have hsw8 := hF7.size
 have hF_9 := hF.new hF7
 refine V.ge_ [(12, .bool false)] ⟨(sm hz.p2 rfl), trivial⟩ (.bool true) ?_
 refine V.nil ?_
 refine V.then_n (hK6 _ _ ?_)
 refine V.flushW hz.p4 (fun a10 hz11 up12 => ?_)
 have s0_13 := up12 0 _ (o4 rfl s0)
 have s1_14 := up12 1 _ (o4 rfl s1)
 have s2_15 := up12 2 _ (o4 rfl s2)
 have s13_16 := up12 13 _ (sm hz.p2.p1 rfl)
 clear up12
 refine V.cond_t (s13_16) ?_
 refine V.seq (fun K17 hK18 => ?_)
 refine V.rg ?_
 refine V.ga evc ?_
 refine V.nil ?_
 refine V.then_n (hK18 _ _ ?_)
 refine V.ret ?_
 refine V.then_r ?_
 refine V.ret1 hz11.p1 rfl (sm hz11 rfl) ?_
 exact ⟨rfl, hF_9⟩
set_option maxHeartbeats 4000000 in
set_option maxRecDepth 20000 in
theorem nput_z (w : World) (z : Nat) (hB : Blk w z [.int .u64 0, .slice none 0 0, .slice none 0 0, .int .i64 0, .int .i64 0] 67) (k : ByteArray) (v : Int) : Calls Try.prog 38 #[.pointer (some ⟨z, 0, none⟩), .string k, .int .i64 v] w (fun e w' => e = .returned (.bool false) ∧ Fr [] w w') := by
 have hF := Fr.refl [] w
 have hltz := hB.lt
 refine V.enter 99 Try.func38 rfl rfl ?_
 intro a hz ha
 have s0 : a.eval (.tmp 0) = (.pointer (some ⟨z, 0, none⟩)) := ha 0 _ rfl
 have s1 : a.eval (.tmp 1) = (.string k) := ha 1 _ rfl
 have s2 : a.eval (.tmp 2) = (.int .i64 v) := ha 2 _ rfl
 clear ha
 refine V.seq (fun K1 hK2 => ?_)
 refine V.rg ?_
 refine V.ga evc ?_
 refine V.nil ?_
 refine V.then_n (hK2 _ _ ?_)
 refine V.seq (fun K3 hK4 => ?_)
 refine V.seq (fun K5 hK6 => ?_)
 refine V.rg ?_
 refine V.gm (o1 rfl s0) ?_
 refine V.go (V.call 51 #[] #[.pointer (some ⟨z, 0, none⟩)] evf (args1 (sm hz.p1 rfl)) (Go.Proofs.enters_of Try.func51 (by kernel_rfl) rfl) (nmade_z w z hB) ?_)
 rintro _ w8 ⟨rfl, hF7⟩
 refine ⟨_, rfl, ?_⟩
 have hsw8 := hF7.size
 have hF_9 := hF.new hF7
 have hB_10 := hB.fr0 hF7
 refine V.ge_ [(12, .bool false)] ⟨(sm hz.p2 rfl), trivial⟩ (.bool true) ?_
 refine V.nil ?_
 refine V.then_n (hK6 _ _ ?_)
 refine V.flushW hz.p4 (fun a11 hz12 up13 => ?_)
 have s0_14 := up13 0 _ (o4 rfl s0)
 have s1_15 := up13 1 _ (o4 rfl s1)
 have s2_16 := up13 2 _ (o4 rfl s2)
 have s13_17 := up13 13 _ (sm hz.p2.p1 rfl)
 clear up13
 refine V.cond_t (s13_17) ?_
 refine V.seq (fun K18 hK19 => ?_)
 refine V.rg ?_
 refine V.ga evc ?_
 refine V.nil ?_
 refine V.then_n (hK19 _ _ ?_)
 refine V.ret ?_
 refine V.then_r ?_
 refine V.ret1 hz12.p1 rfl (sm hz12 rfl) ?_
 exact ⟨rfl, hF_9⟩
set_option maxHeartbeats 4000000 in
set_option maxRecDepth 20000 in
theorem ndel_0 (w : World)  (k : ByteArray) : Calls Try.prog 39 #[.pointer none, .string k] w (fun e w' => e = .returned (.bool false) ∧ Fr [] w w') := by
 have hF := Fr.refl [] w
 refine V.enter 83 Try.func39 rfl rfl ?_
 intro a hz ha
 have s0 : a.eval (.tmp 0) = (.pointer none) := ha 0 _ rfl
 have s1 : a.eval (.tmp 1) = (.string k) := ha 1 _ rfl
 clear ha
 refine V.seq (fun K1 hK2 => ?_)
 refine V.rg ?_
 refine V.ga evc ?_
 refine V.nil ?_
 refine V.then_n (hK2 _ _ ?_)
 refine V.seq (fun K3 hK4 => ?_)
 refine V.seq (fun K5 hK6 => ?_)
 refine V.rg ?_
 refine V.gm (o1 rfl s0) ?_
 refine V.go (V.call 51 #[] #[.pointer none] evf (args1 (sm hz.p1 rfl)) (Go.Proofs.enters_of Try.func51 (by kernel_rfl) rfl) (nmade_0 w) ?_)
 rintro _ w8 ⟨rfl, hF7⟩
 refine ⟨_, rfl, ?_⟩
 have hsw8 := hF7.size
 have hF_9 := hF.new hF7
 refine V.ge_ [(10, .bool false)] ⟨(sm hz.p2 rfl), trivial⟩ (.bool true) ?_
 refine V.nil ?_
 refine V.then_n (hK6 _ _ ?_)
 refine V.flushW hz.p4 (fun a10 hz11 up12 => ?_)
 have s0_13 := up12 0 _ (o4 rfl s0)
 have s1_14 := up12 1 _ (o4 rfl s1)
 have s11_15 := up12 11 _ (sm hz.p2.p1 rfl)
 clear up12
 refine V.cond_t (s11_15) ?_
 refine V.seq (fun K16 hK17 => ?_)
 refine V.rg ?_
 refine V.ga evc ?_
 refine V.nil ?_
 refine V.then_n (hK17 _ _ ?_)
 refine V.ret ?_
 refine V.then_r ?_
 refine V.ret1 hz11.p1 rfl (sm hz11 rfl) ?_
 exact ⟨rfl, hF_9⟩
set_option maxHeartbeats 4000000 in
set_option maxRecDepth 20000 in
theorem ndel_z (w : World) (z : Nat) (hB : Blk w z [.int .u64 0, .slice none 0 0, .slice none 0 0, .int .i64 0, .int .i64 0] 67) (k : ByteArray) : Calls Try.prog 39 #[.pointer (some ⟨z, 0, none⟩), .string k] w (fun e w' => e = .returned (.bool false) ∧ Fr [] w w') := by
 have hF := Fr.refl [] w
 have hltz := hB.lt
 refine V.enter 83 Try.func39 rfl rfl ?_
 intro a hz ha
 have s0 : a.eval (.tmp 0) = (.pointer (some ⟨z, 0, none⟩)) := ha 0 _ rfl
 have s1 : a.eval (.tmp 1) = (.string k) := ha 1 _ rfl
 clear ha
 refine V.seq (fun K1 hK2 => ?_)
 refine V.rg ?_
 refine V.ga evc ?_
 refine V.nil ?_
 refine V.then_n (hK2 _ _ ?_)
 refine V.seq (fun K3 hK4 => ?_)
 refine V.seq (fun K5 hK6 => ?_)
 refine V.rg ?_
 refine V.gm (o1 rfl s0) ?_
 refine V.go (V.call 51 #[] #[.pointer (some ⟨z, 0, none⟩)] evf (args1 (sm hz.p1 rfl)) (Go.Proofs.enters_of Try.func51 (by kernel_rfl) rfl) (nmade_z w z hB) ?_)
 rintro _ w8 ⟨rfl, hF7⟩
 refine ⟨_, rfl, ?_⟩
 have hsw8 := hF7.size
 have hF_9 := hF.new hF7
 have hB_10 := hB.fr0 hF7
 refine V.ge_ [(10, .bool false)] ⟨(sm hz.p2 rfl), trivial⟩ (.bool true) ?_
 refine V.nil ?_
 refine V.then_n (hK6 _ _ ?_)
 refine V.flushW hz.p4 (fun a11 hz12 up13 => ?_)
 have s0_14 := up13 0 _ (o4 rfl s0)
 have s1_15 := up13 1 _ (o4 rfl s1)
 have s11_16 := up13 11 _ (sm hz.p2.p1 rfl)
 clear up13
 refine V.cond_t (s11_16) ?_
 refine V.seq (fun K17 hK18 => ?_)
 refine V.rg ?_
 refine V.ga evc ?_
 refine V.nil ?_
 refine V.then_n (hK18 _ _ ?_)
 refine V.ret ?_
 refine V.then_r ?_
 refine V.ret1 hz12.p1 rfl (sm hz12 rfl) ?_
 exact ⟨rfl, hF_9⟩
set_option maxHeartbeats 4000000 in
set_option maxRecDepth 20000 in
theorem nstep_0 (w : World)   : Calls Try.prog 40 #[.pointer none] w (fun e w' => e = .returned (.bool false) ∧ Fr [] w w') := by
 have hF := Fr.refl [] w
 refine V.enter 10 Try.func40 rfl rfl ?_
 intro a hz ha
 have s0 : a.eval (.tmp 0) = (.pointer none) := ha 0 _ rfl
 clear ha
 refine V.seq (fun K1 hK2 => ?_)
 refine V.rg ?_
 refine V.ga evc ?_
 refine V.nil ?_
 refine V.then_n (hK2 _ _ ?_)
 refine V.seq (fun K3 hK4 => ?_)
 refine V.seq (fun K5 hK6 => ?_)
 refine V.rg ?_
 refine V.gm (o1 rfl s0) ?_
 refine V.go (V.call 51 #[] #[.pointer none] evf (args1 (sm hz.p1 rfl)) (Go.Proofs.enters_of Try.func51 (by kernel_rfl) rfl) (nmade_0 w) ?_)
 rintro _ w8 ⟨rfl, hF7⟩
 refine ⟨_, rfl, ?_⟩
 have hsw8 := hF7.size
 have hF_9 := hF.new hF7
 refine V.ge_ [(4, .bool false)] ⟨(sm hz.p2 rfl), trivial⟩ (.bool true) ?_
 refine V.nil ?_
 refine V.then_n (hK6 _ _ ?_)
 refine V.flushW hz.p4 (fun a10 hz11 up12 => ?_)
 have s0_13 := up12 0 _ (o4 rfl s0)
 have s5_14 := up12 5 _ (sm hz.p2.p1 rfl)
 clear up12
 refine V.cond_t (s5_14) ?_
 refine V.seq (fun K15 hK16 => ?_)
 refine V.rg ?_
 refine V.ga evc ?_
 refine V.nil ?_
 refine V.then_n (hK16 _ _ ?_)
 refine V.ret ?_
 refine V.then_r ?_
 refine V.ret1 hz11.p1 rfl (sm hz11 rfl) ?_
 exact ⟨rfl, hF_9⟩
set_option maxHeartbeats 4000000 in
set_option maxRecDepth 20000 in
theorem nstep_z (w : World) (z : Nat) (hB : Blk w z [.int .u64 0, .slice none 0 0, .slice none 0 0, .int .i64 0, .int .i64 0] 67)  : Calls Try.prog 40 #[.pointer (some ⟨z, 0, none⟩)] w (fun e w' => e = .returned (.bool false) ∧ Fr [] w w') := by
 have hF := Fr.refl [] w
 have hltz := hB.lt
 refine V.enter 10 Try.func40 rfl rfl ?_
 intro a hz ha
 have s0 : a.eval (.tmp 0) = (.pointer (some ⟨z, 0, none⟩)) := ha 0 _ rfl
 clear ha
 refine V.seq (fun K1 hK2 => ?_)
 refine V.rg ?_
 refine V.ga evc ?_
 refine V.nil ?_
 refine V.then_n (hK2 _ _ ?_)
 refine V.seq (fun K3 hK4 => ?_)
 refine V.seq (fun K5 hK6 => ?_)
 refine V.rg ?_
 refine V.gm (o1 rfl s0) ?_
 refine V.go (V.call 51 #[] #[.pointer (some ⟨z, 0, none⟩)] evf (args1 (sm hz.p1 rfl)) (Go.Proofs.enters_of Try.func51 (by kernel_rfl) rfl) (nmade_z w z hB) ?_)
 rintro _ w8 ⟨rfl, hF7⟩
 refine ⟨_, rfl, ?_⟩
 have hsw8 := hF7.size
 have hF_9 := hF.new hF7
 have hB_10 := hB.fr0 hF7
 refine V.ge_ [(4, .bool false)] ⟨(sm hz.p2 rfl), trivial⟩ (.bool true) ?_
 refine V.nil ?_
 refine V.then_n (hK6 _ _ ?_)
 refine V.flushW hz.p4 (fun a11 hz12 up13 => ?_)
 have s0_14 := up13 0 _ (o4 rfl s0)
 have s5_15 := up13 5 _ (sm hz.p2.p1 rfl)
 clear up13
 refine V.cond_t (s5_15) ?_
 refine V.seq (fun K16 hK17 => ?_)
 refine V.rg ?_
 refine V.ga evc ?_
 refine V.nil ?_
 refine V.then_n (hK17 _ _ ?_)
 refine V.ret ?_
 refine V.then_r ?_
 refine V.ret1 hz12.p1 rfl (sm hz12 rfl) ?_
 exact ⟨rfl, hF_9⟩
set_option maxHeartbeats 4000000 in
set_option maxRecDepth 20000 in
theorem nitems_0 (w : World)   : Calls Try.prog 70 #[.pointer none] w (fun e w' => e = .returned (.slice none 0 0) ∧ Fr [] w w') := by
 have hF := Fr.refl [] w
 refine V.enter 19 Try.func70 rfl rfl ?_
 intro a hz ha
 have s0 : a.eval (.tmp 0) = (.pointer none) := ha 0 _ rfl
 clear ha
 refine V.seq (fun K1 hK2 => ?_)
 refine V.rg ?_
 refine V.ga evc ?_
 refine V.nil ?_
 refine V.then_n (hK2 _ _ ?_)
 refine V.seq (fun K3 hK4 => ?_)
 refine V.seq (fun K5 hK6 => ?_)
 refine V.rg ?_
 refine V.gm (o1 rfl s0) ?_
 refine V.go (V.call 51 #[] #[.pointer none] evf (args1 (sm hz.p1 rfl)) (Go.Proofs.enters_of Try.func51 (by kernel_rfl) rfl) (nmade_0 w) ?_)
 rintro _ w8 ⟨rfl, hF7⟩
 refine ⟨_, rfl, ?_⟩
 have hsw8 := hF7.size
 have hF_9 := hF.new hF7
 refine V.ge_ [(4, .bool false)] ⟨(sm hz.p2 rfl), trivial⟩ (.bool true) ?_
 refine V.nil ?_
 refine V.then_n (hK6 _ _ ?_)
 refine V.flushW hz.p4 (fun a10 hz11 up12 => ?_)
 have s0_13 := up12 0 _ (o4 rfl s0)
 have s5_14 := up12 5 _ (sm hz.p2.p1 rfl)
 clear up12
 refine V.cond_t (s5_14) ?_
 refine V.seq (fun K15 hK16 => ?_)
 refine V.rg ?_
 refine V.ga evc ?_
 refine V.nil ?_
 refine V.then_n (hK16 _ _ ?_)
 refine V.ret ?_
 refine V.then_r ?_
 refine V.ret1 hz11.p1 rfl (sm hz11 rfl) ?_
 exact ⟨rfl, hF_9⟩
set_option maxHeartbeats 4000000 in
set_option maxRecDepth 20000 in
theorem nitems_z (w : World) (z : Nat) (hB : Blk w z [.int .u64 0, .slice none 0 0, .slice none 0 0, .int .i64 0, .int .i64 0] 67)  : Calls Try.prog 70 #[.pointer (some ⟨z, 0, none⟩)] w (fun e w' => e = .returned (.slice none 0 0) ∧ Fr [] w w') := by
 have hF := Fr.refl [] w
 have hltz := hB.lt
 refine V.enter 19 Try.func70 rfl rfl ?_
 intro a hz ha
 have s0 : a.eval (.tmp 0) = (.pointer (some ⟨z, 0, none⟩)) := ha 0 _ rfl
 clear ha
 refine V.seq (fun K1 hK2 => ?_)
 refine V.rg ?_
 refine V.ga evc ?_
 refine V.nil ?_
 refine V.then_n (hK2 _ _ ?_)
 refine V.seq (fun K3 hK4 => ?_)
 refine V.seq (fun K5 hK6 => ?_)
 refine V.rg ?_
 refine V.gm (o1 rfl s0) ?_
 refine V.go (V.call 51 #[] #[.pointer (some ⟨z, 0, none⟩)] evf (args1 (sm hz.p1 rfl)) (Go.Proofs.enters_of Try.func51 (by kernel_rfl) rfl) (nmade_z w z hB) ?_)
 rintro _ w8 ⟨rfl, hF7⟩
 refine ⟨_, rfl, ?_⟩
 have hsw8 := hF7.size
 have hF_9 := hF.new hF7
 have hB_10 := hB.fr0 hF7
 refine V.ge_ [(4, .bool false)] ⟨(sm hz.p2 rfl), trivial⟩ (.bool true) ?_
 refine V.nil ?_
 refine V.then_n (hK6 _ _ ?_)
 refine V.flushW hz.p4 (fun a11 hz12 up13 => ?_)
 have s0_14 := up13 0 _ (o4 rfl s0)
 have s5_15 := up13 5 _ (sm hz.p2.p1 rfl)
 clear up13
 refine V.cond_t (s5_15) ?_
 refine V.seq (fun K16 hK17 => ?_)
 refine V.rg ?_
 refine V.ga evc ?_
 refine V.nil ?_
 refine V.then_n (hK17 _ _ ?_)
 refine V.ret ?_
 refine V.then_r ?_
 refine V.ret1 hz12.p1 rfl (sm hz12 rfl) ?_
 exact ⟨rfl, hF_9⟩
set_option maxHeartbeats 4000000 in
set_option maxRecDepth 20000 in
theorem nmap_0 (w : World)  (fv : Value) : Calls Try.prog 41 #[.pointer none, fv] w (fun e w' => e = .returned (.pointer none) ∧ Fr [] w w') := by
 have hF := Fr.refl [] w
 refine V.enter 96 Try.func41 rfl rfl ?_
 intro a hz ha
 have s0 : a.eval (.tmp 0) = (.pointer none) := ha 0 _ rfl
 have s1 : a.eval (.tmp 1) = (fv) := ha 1 _ rfl
 clear ha
 refine V.seq (fun K1 hK2 => ?_)
 refine V.rg ?_
 refine V.ga evc ?_
 refine V.nil ?_
 refine V.then_n (hK2 _ _ ?_)
 refine V.seq (fun K3 hK4 => ?_)
 refine V.seq (fun K5 hK6 => ?_)
 refine V.rg ?_
 refine V.gm (o1 rfl s0) ?_
 refine V.go (V.call 51 #[] #[.pointer none] evf (args1 (sm hz.p1 rfl)) (Go.Proofs.enters_of Try.func51 (by kernel_rfl) rfl) (nmade_0 w) ?_)
 rintro _ w8 ⟨rfl, hF7⟩
 refine ⟨_, rfl, ?_⟩
 have hsw8 := hF7.size
 have hF_9 := hF.new hF7
 refine V.ge_ [(13, .bool false)] ⟨(sm hz.p2 rfl), trivial⟩ (.bool true) ?_
 refine V.gm (sm hz.p2.p1 rfl) ?_
 refine V.go_off 15 (by kernel_rfl) (sm hz.p4 rfl) (by kernel_rfl) ?_
 refine V.go_off 15 (by kernel_rfl) (o1 rfl (sm hz.p4 rfl)) (by kernel_rfl) ?_
 refine V.go (V.pk_t (o2 rfl (sm hz.p4 rfl)) (v := (.bool true)) evc ?_)
 refine V.nil ?_
 refine V.then_n (hK6 _ _ ?_)
 refine V.flushW hz.p8 (fun a10 hz11 up12 => ?_)
 have s0_13 := up12 0 _ (o8 rfl s0)
 have s1_14 := up12 1 _ (o8 rfl s1)
 have s18_15 := up12 18 _ (sm hz.p4.p2.p1 rfl)
 clear up12
 refine V.cond_t (s18_15) ?_
 refine V.seq (fun K16 hK17 => ?_)
 refine V.rg ?_
 refine V.ga evc ?_
 refine V.nil ?_
 refine V.then_n (hK17 _ _ ?_)
 refine V.ret ?_
 refine V.then_r ?_
 refine V.ret1 hz11.p1 rfl (sm hz11 rfl) ?_
 exact ⟨rfl, hF_9⟩
set_option maxHeartbeats 4000000 in
set_option maxRecDepth 20000 in
theorem nmap_z (w : World) (z : Nat) (hB : Blk w z [.int .u64 0, .slice none 0 0, .slice none 0 0, .int .i64 0, .int .i64 0] 67) (fv : Value) : Calls Try.prog 41 #[.pointer (some ⟨z, 0, none⟩), fv] w (fun e w' => e = .returned (.pointer none) ∧ Fr [] w w') := by
 have hF := Fr.refl [] w
 have hltz := hB.lt
 refine V.enter 96 Try.func41 rfl rfl ?_
 intro a hz ha
 have s0 : a.eval (.tmp 0) = (.pointer (some ⟨z, 0, none⟩)) := ha 0 _ rfl
 have s1 : a.eval (.tmp 1) = (fv) := ha 1 _ rfl
 clear ha
 refine V.seq (fun K1 hK2 => ?_)
 refine V.rg ?_
 refine V.ga evc ?_
 refine V.nil ?_
 refine V.then_n (hK2 _ _ ?_)
 refine V.seq (fun K3 hK4 => ?_)
 refine V.seq (fun K5 hK6 => ?_)
 refine V.rg ?_
 refine V.gm (o1 rfl s0) ?_
 refine V.go (V.call 51 #[] #[.pointer (some ⟨z, 0, none⟩)] evf (args1 (sm hz.p1 rfl)) (Go.Proofs.enters_of Try.func51 (by kernel_rfl) rfl) (nmade_z w z hB) ?_)
 rintro _ w8 ⟨rfl, hF7⟩
 refine ⟨_, rfl, ?_⟩
 have hsw8 := hF7.size
 have hF_9 := hF.new hF7
 have hB_10 := hB.fr0 hF7
 refine V.ge_ [(13, .bool false)] ⟨(sm hz.p2 rfl), trivial⟩ (.bool true) ?_
 refine V.gm (sm hz.p2.p1 rfl) ?_
 refine V.go_off 15 (by kernel_rfl) (sm hz.p4 rfl) (by kernel_rfl) ?_
 refine V.go_off 15 (by kernel_rfl) (o1 rfl (sm hz.p4 rfl)) (by kernel_rfl) ?_
 refine V.go (V.pk_t (o2 rfl (sm hz.p4 rfl)) (v := (.bool true)) evc ?_)
 refine V.nil ?_
 refine V.then_n (hK6 _ _ ?_)
 refine V.flushW hz.p8 (fun a11 hz12 up13 => ?_)
 have s0_14 := up13 0 _ (o8 rfl s0)
 have s1_15 := up13 1 _ (o8 rfl s1)
 have s18_16 := up13 18 _ (sm hz.p4.p2.p1 rfl)
 clear up13
 refine V.cond_t (s18_16) ?_
 refine V.seq (fun K17 hK18 => ?_)
 refine V.rg ?_
 refine V.ga evc ?_
 refine V.nil ?_
 refine V.then_n (hK18 _ _ ?_)
 refine V.ret ?_
 refine V.then_r ?_
 refine V.ret1 hz12.p1 rfl (sm hz12 rfl) ?_
 exact ⟨rfl, hF_9⟩
set_option maxHeartbeats 4000000 in
set_option maxRecDepth 20000 in
theorem nall1_0 (w : World)  (b : Nat) (hBb : Blk w b [.pointer none] 28) (fv : Value) : Calls Try.prog 69 #[fv, .pointer (some ⟨b, 0, none⟩)] w (fun e w' => e = .returned (.tuple #[]) ∧ Fr [] w w') := by
 have hF := Fr.refl [] w
 refine V.enter 20 Try.func69 rfl rfl ?_
 intro a hz ha
 have s0 : a.eval (.tmp 0) = (fv) := ha 0 _ rfl
 have s1 : a.eval (.tmp 1) = (.pointer (some ⟨b, 0, none⟩)) := ha 1 _ rfl
 clear ha
 refine V.seq (fun K1 hK2 => ?_)
 refine V.rg ?_
 refine V.go (V.ld ⟨b, 0, none⟩ (.pointer none) (s1) (by kernel_rfl) (hBb.at 0 rfl) ?_)
 refine V.go (V.call 70 #[] #[.pointer none] evf (args1 (sm hz rfl)) (Go.Proofs.enters_of Try.func70 (by kernel_rfl) rfl) (nitems_0 w) ?_)
 rintro _ w4 ⟨rfl, hF3⟩
 refine ⟨_, rfl, ?_⟩
 have hsw4 := hF3.size
 have hF_5 := hF.new hF3
 have hBb_6 := hBb.fr0 hF3
 refine V.ge_ [(6, .slice none 0 0)] ⟨(sm hz.p1 rfl), trivial⟩ (.int .i64 0) ?_
 refine V.gm evc ?_
 refine V.nil ?_
 refine V.then_n (hK2 _ _ ?_)
 refine V.flushW hz.p4 (fun a7 hz8 up9 => ?_)
 have s0_10 := up9 0 _ (o4 rfl s0)
 have s6_11 : a7.eval (.tmp 6) = (.slice none 0 0) := up9 _ _ (o2 rfl (sm hz.p1 rfl))
 have s7_12 := up9 7 _ (o1 rfl (sm hz.p2 rfl))
 have s8_13 := up9 8 _ (sm hz.p2.p1 rfl)
 clear up9
 refine V.block ?_
 refine V.loopR 2 ?_
 refine V.rnd ?_
 refine V.seq (fun K14 hK15 => ?_)
 refine V.rg ?_
 refine V.ge_ [(8, .int .i64 0), (7, .int .i64 0)] ⟨(s8_13), (s7_12), trivial⟩ (.bool false) ?_
 refine V.nil ?_
 refine V.then_n (hK15 _ _ ?_)
 refine V.seq (fun K16 hK17 => ?_)
 refine V.cond_f (sm hz8 rfl) ?_
 refine V.exit ?_
 refine V.then_e ?_
 refine V.then_e ?_
 refine V.blk_hit ?_
 refine V.end0 hz8.p1 rfl ?_
 exact ⟨rfl, hF_5⟩
set_option maxHeartbeats 4000000 in
set_option maxRecDepth 20000 in
theorem nall1_z (w : World) (z : Nat) (hB : Blk w z [.int .u64 0, .slice none 0 0, .slice none 0 0, .int .i64 0, .int .i64 0] 67) (b : Nat) (hBb : Blk w b [.pointer (some ⟨z, 0, none⟩)] 28) (fv : Value) : Calls Try.prog 69 #[fv, .pointer (some ⟨b, 0, none⟩)] w (fun e w' => e = .returned (.tuple #[]) ∧ Fr [] w w') := by
 have hF := Fr.refl [] w
 have hltz := hB.lt
 refine V.enter 20 Try.func69 rfl rfl ?_
 intro a hz ha
 have s0 : a.eval (.tmp 0) = (fv) := ha 0 _ rfl
 have s1 : a.eval (.tmp 1) = (.pointer (some ⟨b, 0, none⟩)) := ha 1 _ rfl
 clear ha
 refine V.seq (fun K1 hK2 => ?_)
 refine V.rg ?_
 refine V.go (V.ld ⟨b, 0, none⟩ (.pointer (some ⟨z, 0, none⟩)) (s1) (by kernel_rfl) (hBb.at 0 rfl) ?_)
 refine V.go (V.call 70 #[] #[.pointer (some ⟨z, 0, none⟩)] evf (args1 (sm hz rfl)) (Go.Proofs.enters_of Try.func70 (by kernel_rfl) rfl) (nitems_z w z hB) ?_)
 rintro _ w4 ⟨rfl, hF3⟩
 refine ⟨_, rfl, ?_⟩
 have hsw4 := hF3.size
 have hF_5 := hF.new hF3
 have hB_6 := hB.fr0 hF3
 have hBb_7 := hBb.fr0 hF3
 refine V.ge_ [(6, .slice none 0 0)] ⟨(sm hz.p1 rfl), trivial⟩ (.int .i64 0) ?_
 refine V.gm evc ?_
 refine V.nil ?_
 refine V.then_n (hK2 _ _ ?_)
 refine V.flushW hz.p4 (fun a8 hz9 up10 => ?_)
 have s0_11 := up10 0 _ (o4 rfl s0)
 have s6_12 : a8.eval (.tmp 6) = (.slice none 0 0) := up10 _ _ (o2 rfl (sm hz.p1 rfl))
 have s7_13 := up10 7 _ (o1 rfl (sm hz.p2 rfl))
 have s8_14 := up10 8 _ (sm hz.p2.p1 rfl)
 clear up10
 refine V.block ?_
 refine V.loopR 2 ?_
 refine V.rnd ?_
 refine V.seq (fun K15 hK16 => ?_)
 refine V.rg ?_
 refine V.ge_ [(8, .int .i64 0), (7, .int .i64 0)] ⟨(s8_14), (s7_13), trivial⟩ (.bool false) ?_
 refine V.nil ?_
 refine V.then_n (hK16 _ _ ?_)
 refine V.seq (fun K17 hK18 => ?_)
 refine V.cond_f (sm hz9 rfl) ?_
 refine V.exit ?_
 refine V.then_e ?_
 refine V.then_e ?_
 refine V.blk_hit ?_
 refine V.end0 hz9.p1 rfl ?_
 exact ⟨rfl, hF_5⟩
set_option maxHeartbeats 4000000 in
set_option maxRecDepth 20000 in
theorem mapnil_any (w : World) (H : Nat → Prop) (av : List Nat) (t : Nat) (T : Tb Int) (hT : TabX 67 87 86 itI w H av t T) : Calls Try.prog 41 #[.pointer (some ⟨t, 0, none⟩), .nilFunc] w (fun e w' => e = .returned (.pointer none) ∧ Fr [] w w') := by
 have hF := Fr.refl [] w
 refine V.enter 96 Try.func41 rfl rfl ?_
 intro a hz ha
 have s0 : a.eval (.tmp 0) = (.pointer (some ⟨t, 0, none⟩)) := ha 0 _ rfl
 have s1 : a.eval (.tmp 1) = (.nilFunc) := ha 1 _ rfl
 clear ha
 refine V.seq (fun K1 hK2 => ?_)
 refine V.rg ?_
 refine V.ga evc ?_
 refine V.nil ?_
 refine V.then_n (hK2 _ _ ?_)
 refine V.seq (fun K3 hK4 => ?_)
 refine V.seq (fun K5 hK6 => ?_)
 refine V.rg ?_
 refine V.gm (o1 rfl s0) ?_
 refine V.go (V.call 51 #[] #[.pointer (some ⟨t, 0, none⟩)] evf (args1 (sm hz.p1 rfl)) (Go.Proofs.enters_of Try.func51 (by kernel_rfl) rfl) (made_any w (H) (av) t (T) hT) ?_)
 rintro _ w8 ⟨rfl, hF7⟩
 refine ⟨_, rfl, ?_⟩
 have hsw8 := hF7.size
 have hF_9 := hF.new hF7
 have hT_10 := hT.fr0 hF7
 refine V.ge_ [(13, .bool true)] ⟨(sm hz.p2 rfl), trivial⟩ (.bool false) ?_
 refine V.gm (sm hz.p2.p1 rfl) ?_
 refine V.go_on 15 (by kernel_rfl) (sm hz.p4 rfl) (V.mv (o4 rfl (o1 rfl s1)) ?_)
 refine V.go_on 15 (by kernel_rfl) (o1 rfl (sm hz.p4 rfl)) (V.pv [(16, .nilFunc)] ⟨(sm hz.p4.p1 rfl), trivial⟩ (by kernel_rfl) (.bool true) (by kernel_rfl) ?_)
 refine V.go (V.pk_f (o2 rfl (sm hz.p4 rfl)) (v := (.bool true)) (sm hz.p4.p2 rfl) ?_)
 refine V.nil ?_
 refine V.then_n (hK6 _ _ ?_)
 refine V.flushW hz.p8 (fun a11 hz12 up13 => ?_)
 have s0_14 := up13 0 _ (o8 rfl s0)
 have s1_15 := up13 1 _ (o8 rfl s1)
 have s18_16 := up13 18 _ (sm hz.p4.p2.p1 rfl)
 clear up13
 refine V.cond_t (s18_16) ?_
 refine V.seq (fun K17 hK18 => ?_)
 refine V.rg ?_
 refine V.ga evc ?_
 refine V.nil ?_
 refine V.then_n (hK18 _ _ ?_)
 refine V.ret ?_
 refine V.then_r ?_
 refine V.ret1 hz12.p1 rfl (sm hz12 rfl) ?_
 exact ⟨rfl, hF_9⟩
set_option maxHeartbeats 4000000 in
set_option maxRecDepth 20000 in
theorem tableNobody_any (w : World) (s : ByteArray) (draw : Nat) : Calls Try.prog 9 #[.string s, .int .u64 (draw : Int)] w (fun e w' => e = .returned (.bool true) ∧ Fr [] w w') := by
 have hF := Fr.refl [] w
 refine V.enter 108 Try.func9 rfl rfl ?_
 intro a hz ha
 have s0 : a.eval (.tmp 0) = (.string s) := ha 0 _ rfl
 have s1 : a.eval (.tmp 1) = (.int .u64 (draw : Int)) := ha 1 _ rfl
 clear ha
 refine V.seq (fun K1 hK2 => ?_)
 refine V.rg ?_
 refine V.ga evc ?_
 refine V.nil ?_
 refine V.then_n (hK2 _ _ ?_)
 refine V.seq (fun K3 hK4 => ?_)
 refine V.rg ?_
 refine V.ga evc ?_
 refine V.nil ?_
 refine V.then_n (hK4 _ _ ?_)
 refine V.seq (fun K5 hK6 => ?_)
 refine V.seq (fun K7 hK8 => ?_)
 refine V.rg ?_
 refine V.gm (sm hz.p1 rfl) ?_
 refine V.ge_ [] trivial (.agg #[.int .u64 0, .slice none 0 0, .slice none 0 0, .int .i64 0, .int .i64 0]) ?_
 refine V.go (V.mk [(22, .agg #[.int .u64 0, .slice none 0 0, .slice none 0 0, .int .i64 0, .int .i64 0])] ⟨(sm hz.p2.p1 rfl), trivial⟩ (by kernel_rfl) [.int .u64 0, .slice none 0 0, .slice none 0 0, .int .i64 0, .int .i64 0] 67 (fun b => .pointer (some ⟨b, 0, none⟩)) (by kernel_rfl) ?_)
 intro w10 b9 heb9 hB11 hF12 hsb9
 have hF_13 := hF.new hF12
 refine V.go (V.mk [(21, .pointer none), (23, .pointer (some ⟨b9, 0, none⟩))] ⟨(o2 rfl (sm hz.p2 rfl)), (sm hz.p4 rfl), trivial⟩ (by kernel_rfl) [.pointer none, .pointer (some ⟨b9, 0, none⟩)] 28 (fun b => .slice (some ⟨b, 0, none⟩) 2 2) (by kernel_rfl) ?_)
 intro w15 b14 heb14 hB16 hF17 hsb14
 have hF_18 := hF_13.new hF17
 have hB11_19 := hB11.fr0 hF17
 refine V.ge_ [(24, .slice (some ⟨b14, 0, none⟩) 2 2)] ⟨(sm hz.p4.p1 rfl), trivial⟩ (.int .i64 2) ?_
 refine V.gm evc ?_
 refine V.nil ?_
 refine V.then_n (hK8 _ _ ?_)
 refine V.flushW hz.p8 (fun a20 hz21 up22 => ?_)
 have s0_23 := up22 0 _ (o8 rfl s0)
 have s1_24 := up22 1 _ (o8 rfl s1)
 have s24_25 := up22 24 _ (o2 rfl (sm hz.p4.p1 rfl))
 have s25_26 := up22 25 _ (o1 rfl (sm hz.p4.p2 rfl))
 have s26_27 := up22 26 _ (sm hz.p4.p2.p1 rfl)
 clear up22
 refine V.block ?_
 refine V.loopR 3 ?_
 refine V.rnd ?_
 refine V.seq (fun K28 hK29 => ?_)
 refine V.rg ?_
 refine V.ge_ [(26, .int .i64 0), (25, .int .i64 2)] ⟨(s26_27), (s25_26), trivial⟩ (.bool true) ?_
 refine V.nil ?_
 refine V.then_n (hK29 _ _ ?_)
 refine V.seq (fun K30 hK31 => ?_)
 refine V.cond_t (sm hz21 rfl) ?_
 refine V.skip ?_
 refine V.then_n (hK31 _ _ ?_)
 refine V.seq (fun K32 hK33 => ?_)
 refine V.block ?_
 refine V.seq (fun K34 hK35 => ?_)
 refine V.rg ?_
 refine V.go (V.ixa b14 0 2 2 .i64 0 1 (o1 rfl s24_25) (o1 rfl s26_27) (by omega) (by omega) (by kernel_rfl) ?_)
 refine V.go (V.ld ⟨b14, 0, none⟩ (.pointer none) (sm hz21.p1 rfl) (by kernel_rfl) (hB16.at 0 rfl) ?_)
 refine V.ga (sm hz21.p2 rfl) ?_
 refine V.nil ?_
 refine V.then_n (hK35 _ _ ?_)
 refine V.flushW hz21.p4 (fun a36 hz37 up38 => ?_)
 have s0_39 := up38 0 _ (o4 rfl s0_23)
 have s1_40 := up38 1 _ (o4 rfl s1_24)
 have s7_41 := up38 7 _ (sm hz21.p2.p1 rfl)
 have s24_42 := up38 24 _ (o4 rfl s24_25)
 have s25_43 := up38 25 _ (o4 rfl s25_26)
 have s26_44 := up38 26 _ (o4 rfl s26_27)
 clear up38
 refine V.seq (fun K45 hK46 => ?_)
 refine V.rg ?_
 refine V.gm (s7_41) ?_
 refine V.gm (o1 rfl s0_39) ?_
 refine V.go (V.call 36 #[] #[.pointer none, .string s] evf (args2 (o1 rfl (sm hz37 rfl)) (sm hz37.p1 rfl)) (Go.Proofs.enters_of Try.func36 (by kernel_rfl) rfl) (nget_0 w15 s) ?_)
 rintro _ w48 ⟨rfl, hF47⟩
 refine ⟨_, rfl, ?_⟩
 have hsw48 := hF47.size
 have hF_49 := hF_18.new hF47
 have hB11_50 := hB11_19.fr0 hF47
 have hB16_51 := hB16.fr0 hF47
 refine V.gm (v := (.tuple #[.int .i64 0, .bool false])) (sm hz37.p2 rfl) ?_
 refine V.ge_ [(30, .tuple #[.int .i64 0, .bool false])] ⟨(sm hz37.p2.p1 rfl), trivial⟩ (.int .i64 0) ?_
 refine V.ge_ [(30, .tuple #[.int .i64 0, .bool false])] ⟨(o1 rfl (sm hz37.p2.p1 rfl)), trivial⟩ (.bool false) ?_
 refine V.ga (o1 rfl (sm hz37.p4 rfl)) ?_
 refine V.ga (o1 rfl (sm hz37.p4.p1 rfl)) ?_
 refine V.nil ?_
 refine V.then_n (hK46 _ _ ?_)
 refine V.flushW hz37.p8 (fun a52 hz53 up54 => ?_)
 have s0_55 := up54 0 _ (o8 rfl s0_39)
 have s1_56 := up54 1 _ (o8 rfl s1_40)
 have s7_57 := up54 7 _ (o8 rfl s7_41)
 have s9_58 := up54 9 _ (sm hz37.p4.p2.p1 rfl)
 have s24_59 := up54 24 _ (o8 rfl s24_42)
 have s25_60 := up54 25 _ (o8 rfl s25_43)
 have s26_61 := up54 26 _ (o8 rfl s26_44)
 clear up54
 refine V.seq (fun K62 hK63 => ?_)
 refine V.rg ?_
 refine V.gm (s7_57) ?_
 refine V.gm (o1 rfl s0_55) ?_
 refine V.go (V.call 22 #[] #[.pointer none, .string s] evf (args2 (o1 rfl (sm hz53 rfl)) (sm hz53.p1 rfl)) (Go.Proofs.enters_of Try.func22 (by kernel_rfl) rfl) (nlook_0 w48 s) ?_)
 rintro _ w65 ⟨rfl, hF64⟩
 refine ⟨_, rfl, ?_⟩
 have hsw65 := hF64.size
 have hF_66 := hF_49.new hF64
 have hB11_67 := hB11_50.fr0 hF64
 have hB16_68 := hB16_51.fr0 hF64
 refine V.gm (v := (.tuple #[.int .i64 0, .bool false])) (sm hz53.p2 rfl) ?_
 refine V.ge_ [(36, .tuple #[.int .i64 0, .bool false])] ⟨(sm hz53.p2.p1 rfl), trivial⟩ (.int .i64 0) ?_
 refine V.ge_ [(36, .tuple #[.int .i64 0, .bool false])] ⟨(o1 rfl (sm hz53.p2.p1 rfl)), trivial⟩ (.bool false) ?_
 refine V.ga (o1 rfl (sm hz53.p4 rfl)) ?_
 refine V.ga (o1 rfl (sm hz53.p4.p1 rfl)) ?_
 refine V.nil ?_
 refine V.then_n (hK63 _ _ ?_)
 refine V.flushW hz53.p8 (fun a69 hz70 up71 => ?_)
 have s0_72 := up71 0 _ (o8 rfl s0_55)
 have s1_73 := up71 1 _ (o8 rfl s1_56)
 have s7_74 := up71 7 _ (o8 rfl s7_57)
 have s9_75 := up71 9 _ (o8 rfl s9_58)
 have s11_76 := up71 11 _ (sm hz53.p4.p2.p1 rfl)
 have s24_77 := up71 24 _ (o8 rfl s24_59)
 have s25_78 := up71 25 _ (o8 rfl s25_60)
 have s26_79 := up71 26 _ (o8 rfl s26_61)
 clear up71
 refine V.seq (fun K80 hK81 => ?_)
 refine V.rg ?_
 refine V.gm (s7_74) ?_
 refine V.gm (o1 rfl s1_73) ?_
 refine V.go (V.call 37 #[] #[.pointer none, .int .u64 (draw : Int)] evf (args2 (o1 rfl (sm hz70 rfl)) (sm hz70.p1 rfl)) (Go.Proofs.enters_of Try.func37 (by kernel_rfl) rfl) (npick_0 w65 draw) ?_)
 rintro _ w83 ⟨rfl, hF82⟩
 refine ⟨_, rfl, ?_⟩
 have hsw83 := hF82.size
 have hF_84 := hF_66.new hF82
 have hB11_85 := hB11_67.fr0 hF82
 have hB16_86 := hB16_68.fr0 hF82
 refine V.gm (v := (.tuple #[.string ⟨#[]⟩, .int .i64 0, .bool false])) (sm hz70.p2 rfl) ?_
 refine V.ge_ [(42, .tuple #[.string ⟨#[]⟩, .int .i64 0, .bool false])] ⟨(sm hz70.p2.p1 rfl), trivial⟩ (.string ⟨#[]⟩) ?_
 refine V.ge_ [(42, .tuple #[.string ⟨#[]⟩, .int .i64 0, .bool false])] ⟨(o1 rfl (sm hz70.p2.p1 rfl)), trivial⟩ (.int .i64 0) ?_
 refine V.ge_ [(42, .tuple #[.string ⟨#[]⟩, .int .i64 0, .bool false])] ⟨(o2 rfl (sm hz70.p2.p1 rfl)), trivial⟩ (.bool false) ?_
 refine V.ga (o2 rfl (sm hz70.p4 rfl)) ?_
 refine V.ga (o2 rfl (sm hz70.p4.p1 rfl)) ?_
 refine V.ga (o2 rfl (sm hz70.p4.p2 rfl)) ?_
 refine V.nil ?_
 refine V.then_n (hK81 _ _ ?_)
 refine V.flushW hz70.p8.p2 (fun a87 hz88 up89 => ?_)
 have s0_90 := up89 0 _ (o8 rfl (o2 rfl s0_72))
 have s1_91 := up89 1 _ (o8 rfl (o2 rfl s1_73))
 have s7_92 := up89 7 _ (o8 rfl (o2 rfl s7_74))
 have s9_93 := up89 9 _ (o8 rfl (o2 rfl s9_75))
 have s11_94 := up89 11 _ (o8 rfl (o2 rfl s11_76))
 have s14_95 := up89 14 _ (sm hz70.p8.p1 rfl)
 have s24_96 := up89 24 _ (o8 rfl (o2 rfl s24_77))
 have s25_97 := up89 25 _ (o8 rfl (o2 rfl s25_78))
 have s26_98 := up89 26 _ (o8 rfl (o2 rfl s26_79))
 clear up89
 refine V.seq (fun K99 hK100 => ?_)
 refine V.rg ?_
 refine V.gm (s7_92) ?_
 refine V.go (V.call 17 #[] #[.pointer none] evf (args1 (sm hz88 rfl)) (Go.Proofs.enters_of Try.func17 (by kernel_rfl) rfl) (nsizes_0 w83) ?_)
 rintro _ w102 ⟨rfl, hF101⟩
 refine ⟨_, rfl, ?_⟩
 have hsw102 := hF101.size
 have hF_103 := hF_84.new hF101
 have hB11_104 := hB11_85.fr0 hF101
 have hB16_105 := hB16_86.fr0 hF101
 refine V.gm (v := (.tuple #[.int .i64 0, .int .i64 0, .int .i64 0])) (sm hz88.p1 rfl) ?_
 refine V.ge_ [(49, .tuple #[.int .i64 0, .int .i64 0, .int .i64 0])] ⟨(sm hz88.p2 rfl), trivial⟩ (.int .i64 0) ?_
 refine V.ge_ [(49, .tuple #[.int .i64 0, .int .i64 0, .int .i64 0])] ⟨(o1 rfl (sm hz88.p2 rfl)), trivial⟩ (.int .i64 0) ?_
 refine V.ge_ [(49, .tuple #[.int .i64 0, .int .i64 0, .int .i64 0])] ⟨(o2 rfl (sm hz88.p2 rfl)), trivial⟩ (.int .i64 0) ?_
 refine V.ga (o2 rfl (sm hz88.p2.p1 rfl)) ?_
 refine V.ga (o2 rfl (sm hz88.p4 rfl)) ?_
 refine V.ga (o2 rfl (sm hz88.p4.p1 rfl)) ?_
 refine V.nil ?_
 refine V.then_n (hK100 _ _ ?_)
 refine V.flushW hz88.p8.p1 (fun a106 hz107 up108 => ?_)
 have s0_109 := up108 0 _ (o8 rfl (o1 rfl s0_90))
 have s1_110 := up108 1 _ (o8 rfl (o1 rfl s1_91))
 have s7_111 := up108 7 _ (o8 rfl (o1 rfl s7_92))
 have s9_112 := up108 9 _ (o8 rfl (o1 rfl s9_93))
 have s11_113 := up108 11 _ (o8 rfl (o1 rfl s11_94))
 have s14_114 := up108 14 _ (o8 rfl (o1 rfl s14_95))
 have s15_115 := up108 15 _ (o2 rfl (sm hz88.p4.p2 rfl))
 have s16_116 := up108 16 _ (o1 rfl (sm hz88.p4.p2.p1 rfl))
 have s17_117 := up108 17 _ (sm hz88.p8 rfl)
 have s24_118 := up108 24 _ (o8 rfl (o1 rfl s24_96))
 have s25_119 := up108 25 _ (o8 rfl (o1 rfl s25_97))
 have s26_120 := up108 26 _ (o8 rfl (o1 rfl s26_98))
 clear up108
 refine V.seq (fun K121 hK122 => ?_)
 refine V.seq (fun K123 hK124 => ?_)
 refine V.rg ?_
 refine V.gm (s7_111) ?_
 refine V.gm (o1 rfl s0_109) ?_
 refine V.go (V.call 38 #[] #[.pointer none, .string s, .int .i64 1] evf (args3 (o1 rfl (sm hz107 rfl)) (sm hz107.p1 rfl) evc) (Go.Proofs.enters_of Try.func38 (by kernel_rfl) rfl) (nput_0 w102 s 1) ?_)
 rintro _ w126 ⟨rfl, hF125⟩
 refine ⟨_, rfl, ?_⟩
 have hsw126 := hF125.size
 have hF_127 := hF_103.new hF125
 have hB11_128 := hB11_104.fr0 hF125
 have hB16_129 := hB16_105.fr0 hF125
 refine V.gm (v := (.bool false)) (sm hz107.p2 rfl) ?_
 refine V.go_on 58 (by kernel_rfl) (sm hz107.p2.p1 rfl) (V.mv (o4 rfl s9_112) ?_)
 refine V.go (V.pk_f (o1 rfl (sm hz107.p2.p1 rfl)) (v := (.bool false)) (sm hz107.p4 rfl) ?_)
 refine V.gm (sm hz107.p4.p1 rfl) ?_
 refine V.go_on 61 (by kernel_rfl) (sm hz107.p4.p2 rfl) (V.mv (o4 rfl (o2 rfl (o1 rfl s11_113))) ?_)
 refine V.go (V.pk_f (o1 rfl (sm hz107.p4.p2 rfl)) (v := (.bool false)) (sm hz107.p4.p2.p1 rfl) ?_)
 refine V.gm (sm hz107.p8 rfl) ?_
 refine V.go_on 64 (by kernel_rfl) (sm hz107.p8.p1 rfl) (V.mv (o8 rfl (o2 rfl s14_114)) ?_)
 refine V.go (V.pk_f (o1 rfl (sm hz107.p8.p1 rfl)) (v := (.bool false)) (sm hz107.p8.p2 rfl) ?_)
 refine V.gm (sm hz107.p8.p2.p1 rfl) ?_
 refine V.go_on 67 (by kernel_rfl) (sm hz107.p8.p4 rfl) (V.mv (o8 rfl (o4 rfl (o1 rfl s7_111))) ?_)
 refine V.go_on 67 (by kernel_rfl) (o1 rfl (sm hz107.p8.p4 rfl)) (V.mv (o8 rfl (o4 rfl (o2 rfl s0_109))) ?_)
 refine V.go_on 67 (by kernel_rfl) (o2 rfl (sm hz107.p8.p4 rfl)) (V.call 39 #[] #[.pointer none, .string s] evf (args2 (o1 rfl (sm hz107.p8.p4.p1 rfl)) (sm hz107.p8.p4.p2 rfl)) (Go.Proofs.enters_of Try.func39 (by kernel_rfl) rfl) (ndel_0 w126 s) ?_)
 rintro _ w131 ⟨rfl, hF130⟩
 refine ⟨_, rfl, ?_⟩
 have hsw131 := hF130.size
 have hF_132 := hF_127.new hF130
 have hB11_133 := hB11_128.fr0 hF130
 have hB16_134 := hB16_129.fr0 hF130
 refine V.go (V.pk_f (o2 rfl (o1 rfl (sm hz107.p8.p4 rfl))) (v := (.bool false)) (sm hz107.p8.p4.p2.p1 rfl) ?_)
 refine V.gm (v := (.bool false)) (sm hz107.p16 rfl) ?_
 refine V.go_on 72 (by kernel_rfl) (sm hz107.p16.p1 rfl) (V.mv (o16 rfl (o2 rfl s7_111)) ?_)
 refine V.go_on 72 (by kernel_rfl) (o1 rfl (sm hz107.p16.p1 rfl)) (V.call 40 #[] #[.pointer none] evf (args1 (sm hz107.p16.p2 rfl)) (Go.Proofs.enters_of Try.func40 (by kernel_rfl) rfl) (nstep_0 w131) ?_)
 rintro _ w136 ⟨rfl, hF135⟩
 refine ⟨_, rfl, ?_⟩
 have hsw136 := hF135.size
 have hF_137 := hF_132.new hF135
 have hB11_138 := hB11_133.fr0 hF135
 have hB16_139 := hB16_134.fr0 hF135
 refine V.go (V.pk_f (o2 rfl (sm hz107.p16.p1 rfl)) (v := (.bool false)) (sm hz107.p16.p2.p1 rfl) ?_)
 refine V.gm (v := (.bool false)) (sm hz107.p16.p4 rfl) ?_
 refine V.go_on 76 (by kernel_rfl) (sm hz107.p16.p4.p1 rfl) (V.mv (o16 rfl (o4 rfl (o2 rfl s7_111))) ?_)
 refine V.go_on 76 (by kernel_rfl) (o1 rfl (sm hz107.p16.p4.p1 rfl)) (V.call 18 #[] #[.pointer none] evf (args1 (sm hz107.p16.p4.p2 rfl)) (Go.Proofs.enters_of Try.func18 (by kernel_rfl) rfl) (nlen_0 w136) ?_)
 rintro _ w141 ⟨rfl, hF140⟩
 refine ⟨_, rfl, ?_⟩
 have hsw141 := hF140.size
 have hF_142 := hF_137.new hF140
 have hB11_143 := hB11_138.fr0 hF140
 have hB16_144 := hB16_139.fr0 hF140
 refine V.go_on 76 (by kernel_rfl) (o2 rfl (sm hz107.p16.p4.p1 rfl)) (V.mv (o16 rfl (o8 rfl s15_115)) ?_)
 refine V.flushL hz107.p16.p8.p1 (fun a145 hz146 up147 => ?_)
 have s0_148 := up147 0 _ (o16 rfl (o8 rfl (o1 rfl s0_109)))
 have s1_149 := up147 1 _ (o16 rfl (o8 rfl (o1 rfl s1_110)))
 have s7_150 := up147 7 _ (o16 rfl (o8 rfl (o1 rfl s7_111)))
 have s16_151 := up147 16 _ (o16 rfl (o8 rfl (o1 rfl s16_116)))
 have s17_152 := up147 17 _ (o16 rfl (o8 rfl (o1 rfl s17_117)))
 have s24_153 := up147 24 _ (o16 rfl (o8 rfl (o1 rfl s24_118)))
 have s25_154 := up147 25 _ (o16 rfl (o8 rfl (o1 rfl s25_119)))
 have s26_155 := up147 26 _ (o16 rfl (o8 rfl (o1 rfl s26_120)))
 have s76_156 : a145.eval (.tmp 76) = (.bool false) := up147 _ _ (o2 rfl (o1 rfl (sm hz107.p16.p4.p1 rfl)))
 have s78_157 : a145.eval (.tmp 78) = (.int .i64 0) := up147 _ _ (o1 rfl (sm hz107.p16.p4.p2.p1 rfl))
 have s79_158 := up147 79 _ (sm hz107.p16.p8 rfl)
 clear up147
 refine V.go_on 76 (by kernel_rfl) (s76_156) (V.pv [(78, .int .i64 0), (79, .int .i64 0)] ⟨(s78_157), (s79_158), trivial⟩ (by kernel_rfl) (.int .i64 0) (by kernel_rfl) ?_)
 refine V.go_on 76 (by kernel_rfl) (o1 rfl s76_156) (V.mv (o1 rfl s16_151) ?_)
 refine V.go_on 76 (by kernel_rfl) (o2 rfl s76_156) (V.pv [(80, .int .i64 0), (81, .int .i64 0)] ⟨(o1 rfl (sm hz146 rfl)), (sm hz146.p1 rfl), trivial⟩ (by kernel_rfl) (.int .i64 0) (by kernel_rfl) ?_)
 refine V.go_on 76 (by kernel_rfl) (o2 rfl (o1 rfl s76_156)) (V.mv (o2 rfl (o1 rfl s17_152)) ?_)
 refine V.go_on 76 (by kernel_rfl) (o4 rfl s76_156) (V.pv [(82, .int .i64 0), (83, .int .i64 0)] ⟨(o1 rfl (sm hz146.p2 rfl)), (sm hz146.p2.p1 rfl), trivial⟩ (by kernel_rfl) (.int .i64 0) (by kernel_rfl) ?_)
 refine V.go_on 76 (by kernel_rfl) (o4 rfl (o1 rfl s76_156)) (V.pv [(84, .int .i64 0)] ⟨(sm hz146.p4 rfl), trivial⟩ (by kernel_rfl) (.bool false) (by kernel_rfl) ?_)
 refine V.go (V.pk_f (o4 rfl (o2 rfl s76_156)) (v := (.bool false)) (sm hz146.p4.p1 rfl) ?_)
 refine V.gm (sm hz146.p4.p2 rfl) ?_
 refine V.go_on 87 (by kernel_rfl) (sm hz146.p4.p2.p1 rfl) (V.mv (o8 rfl s7_150) ?_)
 refine V.go_on 87 (by kernel_rfl) (o1 rfl (sm hz146.p4.p2.p1 rfl)) (V.call 41 #[] #[.pointer none, .func (.func 42) #[] #[]] evf (args2 (sm hz146.p8 rfl) evf) (Go.Proofs.enters_of Try.func41 (by kernel_rfl) rfl) (nmap_0 w141 (.func (.func 42) #[] #[])) ?_)
 rintro _ w160 ⟨rfl, hF159⟩
 refine ⟨_, rfl, ?_⟩
 have hsw160 := hF159.size
 have hF_161 := hF_142.new hF159
 have hB11_162 := hB11_143.fr0 hF159
 have hB16_163 := hB16_144.fr0 hF159
 refine V.go_on 87 (by kernel_rfl) (o2 rfl (sm hz146.p4.p2.p1 rfl)) (V.pv [(89, .pointer none)] ⟨(sm hz146.p8.p1 rfl), trivial⟩ (by kernel_rfl) (.bool false) (by kernel_rfl) ?_)
 refine V.go (V.pk_f (o2 rfl (o1 rfl (sm hz146.p4.p2.p1 rfl))) (v := (.bool false)) (sm hz146.p8.p2 rfl) ?_)
 refine V.nil ?_
 refine V.then_n (hK124 _ _ ?_)
 refine V.flushW hz146.p8.p4 (fun a164 hz165 up166 => ?_)
 have s0_167 := up166 0 _ (o8 rfl (o4 rfl s0_148))
 have s1_168 := up166 1 _ (o8 rfl (o4 rfl s1_149))
 have s7_169 := up166 7 _ (o8 rfl (o4 rfl s7_150))
 have s24_170 := up166 24 _ (o8 rfl (o4 rfl s24_153))
 have s25_171 := up166 25 _ (o8 rfl (o4 rfl s25_154))
 have s26_172 := up166 26 _ (o8 rfl (o4 rfl s26_155))
 have s91_173 := up166 91 _ (sm hz146.p8.p2.p1 rfl)
 clear up166
 refine V.cond_f (s91_173) ?_
 refine V.skip ?_
 refine V.then_n (hK122 _ _ ?_)
 refine V.seq (fun K174 hK175 => ?_)
 refine V.rg ?_
 refine V.go (V.mk [] trivial (by kernel_rfl) [.bool false] 4 (fun b => .pointer (some ⟨b, 0, none⟩)) (by kernel_rfl) ?_)
 intro w177 b176 heb176 hB178 hF179 hsb176
 have hF_180 := hF_161.new hF179
 have hB11_181 := hB11_162.fr0 hF179
 have hB16_182 := hB16_163.fr0 hF179
 refine V.go (V.stn b176 0 (.bool false) [.bool false] (sm hz165 rfl) evc rfl rfl (by kernel_rfl) hB178 (by simp) [.bool false] rfl ?_)
 intro w183 hB184 hF185 hsw183
 have hF_186 := hF_180.own hF185 (by simp <;> omega)
 have hB11_187 := hB11_181.fr1 hF185 (by omega)
 have hB16_188 := hB16_182.fr1 hF185 (by omega)
 refine V.nil ?_
 refine V.then_n (hK175 _ _ ?_)
 refine V.seq (fun K189 hK190 => ?_)
 refine V.rg ?_
 refine V.gm (o1 rfl s7_169) ?_
 refine V.go (V.call 43 #[] #[.pointer none] evf (args1 (sm hz165.p1 rfl)) (Go.Proofs.enters_of Try.func43 (by kernel_rfl) rfl) (all_any w183 none) ?_)
 rintro _ w194 ⟨b193, rfl, hB192, hleb193, hF191⟩
 refine ⟨_, rfl, ?_⟩
 have hsw194 := hF191.size
 have hF_195 := hF_186.new hF191
 have hB11_196 := hB11_187.fr0 hF191
 have hB16_197 := hB16_188.fr0 hF191
 have hB184_198 := hB184.fr0 hF191
 have hlthB192 := hB192.lt
 refine V.ga (v := (.func (.func 69) #[] #[.pointer (some ⟨b193, 0, none⟩)])) (sm hz165.p2 rfl) ?_
 refine V.nil ?_
 refine V.then_n (hK190 _ _ ?_)
 refine V.flushW hz165.p4 (fun a199 hz200 up201 => ?_)
 have s0_202 := up201 0 _ (o4 rfl s0_167)
 have s1_203 := up201 1 _ (o4 rfl s1_168)
 have s18_204 := up201 18 _ (o2 rfl (o1 rfl (sm hz165 rfl)))
 have s19_205 : a199.eval (.tmp 19) = (.func (.func 69) #[] #[.pointer (some ⟨b193, 0, none⟩)]) := up201 _ _ (sm hz165.p2.p1 rfl)
 have s24_206 := up201 24 _ (o4 rfl s24_170)
 have s25_207 := up201 25 _ (o4 rfl s25_171)
 have s26_208 := up201 26 _ (o4 rfl s26_172)
 clear up201
 refine V.seq (fun K209 hK210 => ?_)
 refine V.seq (fun K211 hK212 => ?_)
 refine V.rg ?_
 refine V.gm (v := (.func (.func 69) #[] #[.pointer (some ⟨b193, 0, none⟩)])) (s19_205) ?_
 refine V.ge_ [(94, .func (.func 69) #[] #[.pointer (some ⟨b193, 0, none⟩)])] ⟨(sm hz200 rfl), trivial⟩ (.bool false) ?_
 refine V.nil ?_
 refine V.then_n (hK212 _ _ ?_)
 refine V.cond_f (sm hz200.p1 rfl) ?_
 refine V.skip ?_
 refine V.then_n (hK210 _ _ ?_)
 refine V.seq (fun K213 hK214 => ?_)
 refine V.rg ?_
 refine V.gm (v := (.func (.func 69) #[] #[.pointer (some ⟨b193, 0, none⟩)])) (o2 rfl s19_205) ?_
 refine V.ge_ [(18, .pointer (some ⟨b176, 0, none⟩))] ⟨(o2 rfl (o1 rfl s18_204)), trivial⟩ (.func (.func 44) #[] #[.pointer (some ⟨b176, 0, none⟩)]) ?_
 refine V.go (V.call 69 #[.pointer (some ⟨b193, 0, none⟩)] #[.func (.func 44) #[] #[.pointer (some ⟨b176, 0, none⟩)]] (o1 rfl (sm hz200.p2 rfl)) (args1 (sm hz200.p2.p1 rfl)) (Go.Proofs.enters_of Try.func69 (by kernel_rfl) rfl) (nall1_0 w194 b193 hB192 (.func (.func 44) #[] #[.pointer (some ⟨b176, 0, none⟩)])) ?_)
 rintro _ w216 ⟨rfl, hF215⟩
 refine ⟨_, rfl, ?_⟩
 have hsw216 := hF215.size
 have hF_217 := hF_195.new hF215
 have hB11_218 := hB11_196.fr0 hF215
 have hB16_219 := hB16_197.fr0 hF215
 have hB184_220 := hB184_198.fr0 hF215
 have hB192_221 := hB192.fr0 hF215
 refine V.nil ?_
 refine V.then_n (hK214 _ _ ?_)
 refine V.flushW hz200.p4.p1 (fun a222 hz223 up224 => ?_)
 have s0_225 := up224 0 _ (o4 rfl (o1 rfl s0_202))
 have s1_226 := up224 1 _ (o4 rfl (o1 rfl s1_203))
 have s18_227 := up224 18 _ (o4 rfl (o1 rfl s18_204))
 have s24_228 := up224 24 _ (o4 rfl (o1 rfl s24_206))
 have s25_229 := up224 25 _ (o4 rfl (o1 rfl s25_207))
 have s26_230 := up224 26 _ (o4 rfl (o1 rfl s26_208))
 clear up224
 refine V.seq (fun K231 hK232 => ?_)
 refine V.rg ?_
 refine V.go (V.ld ⟨b176, 0, none⟩ (.bool false) (s18_227) (by kernel_rfl) (hB184_220.at 0 rfl) ?_)
 refine V.nil ?_
 refine V.then_n (hK232 _ _ ?_)
 refine V.cond_f (sm hz223 rfl) ?_
 refine V.skip ?_
 refine V.blk_n ?_
 refine V.then_n (hK33 _ _ ?_)
 refine V.rg ?_
 refine V.ge_ [(26, .int .i64 0)] ⟨(o1 rfl s26_230), trivial⟩ (.int .i64 1) ?_
 refine V.gm (sm hz223.p1 rfl) ?_
 refine V.nil ?_
 refine V.then_n ?_
 refine V.rnd ?_
 refine V.seq (fun K233 hK234 => ?_)
 refine V.rg ?_
 refine V.ge_ [(26, .int .i64 1), (25, .int .i64 2)] ⟨(sm hz223.p2 rfl), (o2 rfl (o1 rfl s25_229)), trivial⟩ (.bool true) ?_
 refine V.nil ?_
 refine V.then_n (hK234 _ _ ?_)
 refine V.flushW hz223.p4 (fun a235 hz236 up237 => ?_)
 have s0_238 := up237 0 _ (o4 rfl s0_225)
 have s1_239 := up237 1 _ (o4 rfl s1_226)
 have s24_240 := up237 24 _ (o4 rfl s24_228)
 have s25_241 := up237 25 _ (o4 rfl s25_229)
 have s26_242 := up237 26 _ (o1 rfl (sm hz223.p2 rfl))
 have s27_243 := up237 27 _ (sm hz223.p2.p1 rfl)
 clear up237
 refine V.seq (fun K244 hK245 => ?_)
 refine V.cond_t (s27_243) ?_
 refine V.skip ?_
 refine V.then_n (hK245 _ _ ?_)
 refine V.seq (fun K246 hK247 => ?_)
 refine V.block ?_
 refine V.seq (fun K248 hK249 => ?_)
 refine V.rg ?_
 refine V.go (V.ixa b14 0 2 2 .i64 1 1 (s24_240) (s26_242) (by omega) (by omega) (by kernel_rfl) ?_)
 refine V.go (V.ld ⟨b14, 1, none⟩ (.pointer (some ⟨b9, 0, none⟩)) (sm hz236 rfl) (by kernel_rfl) (hB16_219.at 1 rfl) ?_)
 refine V.ga (sm hz236.p1 rfl) ?_
 refine V.nil ?_
 refine V.then_n (hK249 _ _ ?_)
 refine V.seq (fun K250 hK251 => ?_)
 refine V.rg ?_
 refine V.gm (sm hz236.p2 rfl) ?_
 refine V.gm (o4 rfl s0_238) ?_
 refine V.go (V.call 36 #[] #[.pointer (some ⟨b9, 0, none⟩), .string s] evf (args2 (o1 rfl (sm hz236.p2.p1 rfl)) (sm hz236.p4 rfl)) (Go.Proofs.enters_of Try.func36 (by kernel_rfl) rfl) (nget_z w216 b9 hB11_218 s) ?_)
 rintro _ w253 ⟨rfl, hF252⟩
 refine ⟨_, rfl, ?_⟩
 have hsw253 := hF252.size
 have hF_254 := hF_217.new hF252
 have hB11_255 := hB11_218.fr0 hF252
 have hB16_256 := hB16_219.fr0 hF252
 have hB184_257 := hB184_220.fr0 hF252
 have hB192_258 := hB192_221.fr0 hF252
 refine V.gm (v := (.tuple #[.int .i64 0, .bool false])) (sm hz236.p4.p1 rfl) ?_
 refine V.ge_ [(30, .tuple #[.int .i64 0, .bool false])] ⟨(sm hz236.p4.p2 rfl), trivial⟩ (.int .i64 0) ?_
 refine V.ge_ [(30, .tuple #[.int .i64 0, .bool false])] ⟨(o1 rfl (sm hz236.p4.p2 rfl)), trivial⟩ (.bool false) ?_
 refine V.ga (o1 rfl (sm hz236.p4.p2.p1 rfl)) ?_
 refine V.ga (o1 rfl (sm hz236.p8 rfl)) ?_
 refine V.nil ?_
 refine V.then_n (hK251 _ _ ?_)
 refine V.flushW hz236.p8.p2.p1 (fun a259 hz260 up261 => ?_)
 have s0_262 := up261 0 _ (o8 rfl (o2 rfl (o1 rfl s0_238)))
 have s1_263 := up261 1 _ (o8 rfl (o2 rfl (o1 rfl s1_239)))
 have s7_264 := up261 7 _ (o8 rfl (sm hz236.p2 rfl))
 have s9_265 := up261 9 _ (sm hz236.p8.p2 rfl)
 have s24_266 := up261 24 _ (o8 rfl (o2 rfl (o1 rfl s24_240)))
 have s25_267 := up261 25 _ (o8 rfl (o2 rfl (o1 rfl s25_241)))
 have s26_268 := up261 26 _ (o8 rfl (o2 rfl (o1 rfl s26_242)))
 clear up261
 refine V.seq (fun K269 hK270 => ?_)
 refine V.rg ?_
 refine V.gm (s7_264) ?_
 refine V.gm (o1 rfl s0_262) ?_
 refine V.go (V.call 22 #[] #[.pointer (some ⟨b9, 0, none⟩), .string s] evf (args2 (o1 rfl (sm hz260 rfl)) (sm hz260.p1 rfl)) (Go.Proofs.enters_of Try.func22 (by kernel_rfl) rfl) (nlook_z w253 b9 hB11_255 s) ?_)
 rintro _ w272 ⟨rfl, hF271⟩
 refine ⟨_, rfl, ?_⟩
 have hsw272 := hF271.size
 have hF_273 := hF_254.new hF271
 have hB11_274 := hB11_255.fr0 hF271
 have hB16_275 := hB16_256.fr0 hF271
 have hB184_276 := hB184_257.fr0 hF271
 have hB192_277 := hB192_258.fr0 hF271
 refine V.gm (v := (.tuple #[.int .i64 0, .bool false])) (sm hz260.p2 rfl) ?_
 refine V.ge_ [(36, .tuple #[.int .i64 0, .bool false])] ⟨(sm hz260.p2.p1 rfl), trivial⟩ (.int .i64 0) ?_
 refine V.ge_ [(36, .tuple #[.int .i64 0, .bool false])] ⟨(o1 rfl (sm hz260.p2.p1 rfl)), trivial⟩ (.bool false) ?_
 refine V.ga (o1 rfl (sm hz260.p4 rfl)) ?_
 refine V.ga (o1 rfl (sm hz260.p4.p1 rfl)) ?_
 refine V.nil ?_
 refine V.then_n (hK270 _ _ ?_)
 refine V.flushW hz260.p8 (fun a278 hz279 up280 => ?_)
 have s0_281 := up280 0 _ (o8 rfl s0_262)
 have s1_282 := up280 1 _ (o8 rfl s1_263)
 have s7_283 := up280 7 _ (o8 rfl s7_264)
 have s9_284 := up280 9 _ (o8 rfl s9_265)
 have s11_285 := up280 11 _ (sm hz260.p4.p2.p1 rfl)
 have s24_286 := up280 24 _ (o8 rfl s24_266)
 have s25_287 := up280 25 _ (o8 rfl s25_267)
 have s26_288 := up280 26 _ (o8 rfl s26_268)
 clear up280
 refine V.seq (fun K289 hK290 => ?_)
 refine V.rg ?_
 refine V.gm (s7_283) ?_
 refine V.gm (o1 rfl s1_282) ?_
 refine V.go (V.call 37 #[] #[.pointer (some ⟨b9, 0, none⟩), .int .u64 (draw : Int)] evf (args2 (o1 rfl (sm hz279 rfl)) (sm hz279.p1 rfl)) (Go.Proofs.enters_of Try.func37 (by kernel_rfl) rfl) (npick_z w272 b9 hB11_274 draw) ?_)
 rintro _ w292 ⟨rfl, hF291⟩
 refine ⟨_, rfl, ?_⟩
 have hsw292 := hF291.size
 have hF_293 := hF_273.new hF291
 have hB11_294 := hB11_274.fr0 hF291
 have hB16_295 := hB16_275.fr0 hF291
 have hB184_296 := hB184_276.fr0 hF291
 have hB192_297 := hB192_277.fr0 hF291
 refine V.gm (v := (.tuple #[.string ⟨#[]⟩, .int .i64 0, .bool false])) (sm hz279.p2 rfl) ?_
 refine V.ge_ [(42, .tuple #[.string ⟨#[]⟩, .int .i64 0, .bool false])] ⟨(sm hz279.p2.p1 rfl), trivial⟩ (.string ⟨#[]⟩) ?_
 refine V.ge_ [(42, .tuple #[.string ⟨#[]⟩, .int .i64 0, .bool false])] ⟨(o1 rfl (sm hz279.p2.p1 rfl)), trivial⟩ (.int .i64 0) ?_
 refine V.ge_ [(42, .tuple #[.string ⟨#[]⟩, .int .i64 0, .bool false])] ⟨(o2 rfl (sm hz279.p2.p1 rfl)), trivial⟩ (.bool false) ?_
 refine V.ga (o2 rfl (sm hz279.p4 rfl)) ?_
 refine V.ga (o2 rfl (sm hz279.p4.p1 rfl)) ?_
 refine V.ga (o2 rfl (sm hz279.p4.p2 rfl)) ?_
 refine V.nil ?_
 refine V.then_n (hK290 _ _ ?_)
 refine V.flushW hz279.p8.p2 (fun a298 hz299 up300 => ?_)
 have s0_301 := up300 0 _ (o8 rfl (o2 rfl s0_281))
 have s1_302 := up300 1 _ (o8 rfl (o2 rfl s1_282))
 have s7_303 := up300 7 _ (o8 rfl (o2 rfl s7_283))
 have s9_304 := up300 9 _ (o8 rfl (o2 rfl s9_284))
 have s11_305 := up300 11 _ (o8 rfl (o2 rfl s11_285))
 have s14_306 := up300 14 _ (sm hz279.p8.p1 rfl)
 have s24_307 := up300 24 _ (o8 rfl (o2 rfl s24_286))
 have s25_308 := up300 25 _ (o8 rfl (o2 rfl s25_287))
 have s26_309 := up300 26 _ (o8 rfl (o2 rfl s26_288))
 clear up300
 refine V.seq (fun K310 hK311 => ?_)
 refine V.rg ?_
 refine V.gm (s7_303) ?_
 refine V.go (V.call 17 #[] #[.pointer (some ⟨b9, 0, none⟩)] evf (args1 (sm hz299 rfl)) (Go.Proofs.enters_of Try.func17 (by kernel_rfl) rfl) (nsizes_z w292 b9 hB11_294) ?_)
 rintro _ w313 ⟨rfl, hF312⟩
 refine ⟨_, rfl, ?_⟩
 have hsw313 := hF312.size
 have hF_314 := hF_293.new hF312
 have hB11_315 := hB11_294.fr0 hF312
 have hB16_316 := hB16_295.fr0 hF312
 have hB184_317 := hB184_296.fr0 hF312
 have hB192_318 := hB192_297.fr0 hF312
 refine V.gm (v := (.tuple #[.int .i64 0, .int .i64 0, .int .i64 0])) (sm hz299.p1 rfl) ?_
 refine V.ge_ [(49, .tuple #[.int .i64 0, .int .i64 0, .int .i64 0])] ⟨(sm hz299.p2 rfl), trivial⟩ (.int .i64 0) ?_
 refine V.ge_ [(49, .tuple #[.int .i64 0, .int .i64 0, .int .i64 0])] ⟨(o1 rfl (sm hz299.p2 rfl)), trivial⟩ (.int .i64 0) ?_
 refine V.ge_ [(49, .tuple #[.int .i64 0, .int .i64 0, .int .i64 0])] ⟨(o2 rfl (sm hz299.p2 rfl)), trivial⟩ (.int .i64 0) ?_
 refine V.ga (o2 rfl (sm hz299.p2.p1 rfl)) ?_
 refine V.ga (o2 rfl (sm hz299.p4 rfl)) ?_
 refine V.ga (o2 rfl (sm hz299.p4.p1 rfl)) ?_
 refine V.nil ?_
 refine V.then_n (hK311 _ _ ?_)
 refine V.flushW hz299.p8.p1 (fun a319 hz320 up321 => ?_)
 have s0_322 := up321 0 _ (o8 rfl (o1 rfl s0_301))
 have s1_323 := up321 1 _ (o8 rfl (o1 rfl s1_302))
 have s7_324 := up321 7 _ (o8 rfl (o1 rfl s7_303))
 have s9_325 := up321 9 _ (o8 rfl (o1 rfl s9_304))
 have s11_326 := up321 11 _ (o8 rfl (o1 rfl s11_305))
 have s14_327 := up321 14 _ (o8 rfl (o1 rfl s14_306))
 have s15_328 := up321 15 _ (o2 rfl (sm hz299.p4.p2 rfl))
 have s16_329 := up321 16 _ (o1 rfl (sm hz299.p4.p2.p1 rfl))
 have s17_330 := up321 17 _ (sm hz299.p8 rfl)
 have s24_331 := up321 24 _ (o8 rfl (o1 rfl s24_307))
 have s25_332 := up321 25 _ (o8 rfl (o1 rfl s25_308))
 have s26_333 := up321 26 _ (o8 rfl (o1 rfl s26_309))
 clear up321
 refine V.seq (fun K334 hK335 => ?_)
 refine V.seq (fun K336 hK337 => ?_)
 refine V.rg ?_
 refine V.gm (s7_324) ?_
 refine V.gm (o1 rfl s0_322) ?_
 refine V.go (V.call 38 #[] #[.pointer (some ⟨b9, 0, none⟩), .string s, .int .i64 1] evf (args3 (o1 rfl (sm hz320 rfl)) (sm hz320.p1 rfl) evc) (Go.Proofs.enters_of Try.func38 (by kernel_rfl) rfl) (nput_z w313 b9 hB11_315 s 1) ?_)
 rintro _ w339 ⟨rfl, hF338⟩
 refine ⟨_, rfl, ?_⟩
 have hsw339 := hF338.size
 have hF_340 := hF_314.new hF338
 have hB11_341 := hB11_315.fr0 hF338
 have hB16_342 := hB16_316.fr0 hF338
 have hB184_343 := hB184_317.fr0 hF338
 have hB192_344 := hB192_318.fr0 hF338
 refine V.gm (v := (.bool false)) (sm hz320.p2 rfl) ?_
 refine V.go_on 58 (by kernel_rfl) (sm hz320.p2.p1 rfl) (V.mv (o4 rfl s9_325) ?_)
 refine V.go (V.pk_f (o1 rfl (sm hz320.p2.p1 rfl)) (v := (.bool false)) (sm hz320.p4 rfl) ?_)
 refine V.gm (sm hz320.p4.p1 rfl) ?_
 refine V.go_on 61 (by kernel_rfl) (sm hz320.p4.p2 rfl) (V.mv (o4 rfl (o2 rfl (o1 rfl s11_326))) ?_)
 refine V.go (V.pk_f (o1 rfl (sm hz320.p4.p2 rfl)) (v := (.bool false)) (sm hz320.p4.p2.p1 rfl) ?_)
 refine V.gm (sm hz320.p8 rfl) ?_
 refine V.go_on 64 (by kernel_rfl) (sm hz320.p8.p1 rfl) (V.mv (o8 rfl (o2 rfl s14_327)) ?_)
 refine V.go (V.pk_f (o1 rfl (sm hz320.p8.p1 rfl)) (v := (.bool false)) (sm hz320.p8.p2 rfl) ?_)
 refine V.gm (sm hz320.p8.p2.p1 rfl) ?_
 refine V.go_on 67 (by kernel_rfl) (sm hz320.p8.p4 rfl) (V.mv (o8 rfl (o4 rfl (o1 rfl s7_324))) ?_)
 refine V.go_on 67 (by kernel_rfl) (o1 rfl (sm hz320.p8.p4 rfl)) (V.mv (o8 rfl (o4 rfl (o2 rfl s0_322))) ?_)
 refine V.go_on 67 (by kernel_rfl) (o2 rfl (sm hz320.p8.p4 rfl)) (V.call 39 #[] #[.pointer (some ⟨b9, 0, none⟩), .string s] evf (args2 (o1 rfl (sm hz320.p8.p4.p1 rfl)) (sm hz320.p8.p4.p2 rfl)) (Go.Proofs.enters_of Try.func39 (by kernel_rfl) rfl) (ndel_z w339 b9 hB11_341 s) ?_)
 rintro _ w346 ⟨rfl, hF345⟩
 refine ⟨_, rfl, ?_⟩
 have hsw346 := hF345.size
 have hF_347 := hF_340.new hF345
 have hB11_348 := hB11_341.fr0 hF345
 have hB16_349 := hB16_342.fr0 hF345
 have hB184_350 := hB184_343.fr0 hF345
 have hB192_351 := hB192_344.fr0 hF345
 refine V.go (V.pk_f (o2 rfl (o1 rfl (sm hz320.p8.p4 rfl))) (v := (.bool false)) (sm hz320.p8.p4.p2.p1 rfl) ?_)
 refine V.gm (v := (.bool false)) (sm hz320.p16 rfl) ?_
 refine V.go_on 72 (by kernel_rfl) (sm hz320.p16.p1 rfl) (V.mv (o16 rfl (o2 rfl s7_324)) ?_)
 refine V.go_on 72 (by kernel_rfl) (o1 rfl (sm hz320.p16.p1 rfl)) (V.call 40 #[] #[.pointer (some ⟨b9, 0, none⟩)] evf (args1 (sm hz320.p16.p2 rfl)) (Go.Proofs.enters_of Try.func40 (by kernel_rfl) rfl) (nstep_z w346 b9 hB11_348) ?_)
 rintro _ w353 ⟨rfl, hF352⟩
 refine ⟨_, rfl, ?_⟩
 have hsw353 := hF352.size
 have hF_354 := hF_347.new hF352
 have hB11_355 := hB11_348.fr0 hF352
 have hB16_356 := hB16_349.fr0 hF352
 have hB184_357 := hB184_350.fr0 hF352
 have hB192_358 := hB192_351.fr0 hF352
 refine V.go (V.pk_f (o2 rfl (sm hz320.p16.p1 rfl)) (v := (.bool false)) (sm hz320.p16.p2.p1 rfl) ?_)
 refine V.gm (v := (.bool false)) (sm hz320.p16.p4 rfl) ?_
 refine V.go_on 76 (by kernel_rfl) (sm hz320.p16.p4.p1 rfl) (V.mv (o16 rfl (o4 rfl (o2 rfl s7_324))) ?_)
 refine V.go_on 76 (by kernel_rfl) (o1 rfl (sm hz320.p16.p4.p1 rfl)) (V.call 18 #[] #[.pointer (some ⟨b9, 0, none⟩)] evf (args1 (sm hz320.p16.p4.p2 rfl)) (Go.Proofs.enters_of Try.func18 (by kernel_rfl) rfl) (nlen_z w353 b9 hB11_355) ?_)
 rintro _ w360 ⟨rfl, hF359⟩
 refine ⟨_, rfl, ?_⟩
 have hsw360 := hF359.size
 have hF_361 := hF_354.new hF359
 have hB11_362 := hB11_355.fr0 hF359
 have hB16_363 := hB16_356.fr0 hF359
 have hB184_364 := hB184_357.fr0 hF359
 have hB192_365 := hB192_358.fr0 hF359
 refine V.go_on 76 (by kernel_rfl) (o2 rfl (sm hz320.p16.p4.p1 rfl)) (V.mv (o16 rfl (o8 rfl s15_328)) ?_)
 refine V.flushL hz320.p16.p8.p1 (fun a366 hz367 up368 => ?_)
 have s0_369 := up368 0 _ (o16 rfl (o8 rfl (o1 rfl s0_322)))
 have s1_370 := up368 1 _ (o16 rfl (o8 rfl (o1 rfl s1_323)))
 have s7_371 := up368 7 _ (o16 rfl (o8 rfl (o1 rfl s7_324)))
 have s16_372 := up368 16 _ (o16 rfl (o8 rfl (o1 rfl s16_329)))
 have s17_373 := up368 17 _ (o16 rfl (o8 rfl (o1 rfl s17_330)))
 have s24_374 := up368 24 _ (o16 rfl (o8 rfl (o1 rfl s24_331)))
 have s25_375 := up368 25 _ (o16 rfl (o8 rfl (o1 rfl s25_332)))
 have s26_376 := up368 26 _ (o16 rfl (o8 rfl (o1 rfl s26_333)))
 have s76_377 : a366.eval (.tmp 76) = (.bool false) := up368 _ _ (o2 rfl (o1 rfl (sm hz320.p16.p4.p1 rfl)))
 have s78_378 : a366.eval (.tmp 78) = (.int .i64 0) := up368 _ _ (o1 rfl (sm hz320.p16.p4.p2.p1 rfl))
 have s79_379 := up368 79 _ (sm hz320.p16.p8 rfl)
 clear up368
 refine V.go_on 76 (by kernel_rfl) (s76_377) (V.pv [(78, .int .i64 0), (79, .int .i64 0)] ⟨(s78_378), (s79_379), trivial⟩ (by kernel_rfl) (.int .i64 0) (by kernel_rfl) ?_)
 refine V.go_on 76 (by kernel_rfl) (o1 rfl s76_377) (V.mv (o1 rfl s16_372) ?_)
 refine V.go_on 76 (by kernel_rfl) (o2 rfl s76_377) (V.pv [(80, .int .i64 0), (81, .int .i64 0)] ⟨(o1 rfl (sm hz367 rfl)), (sm hz367.p1 rfl), trivial⟩ (by kernel_rfl) (.int .i64 0) (by kernel_rfl) ?_)
 refine V.go_on 76 (by kernel_rfl) (o2 rfl (o1 rfl s76_377)) (V.mv (o2 rfl (o1 rfl s17_373)) ?_)
 refine V.go_on 76 (by kernel_rfl) (o4 rfl s76_377) (V.pv [(82, .int .i64 0), (83, .int .i64 0)] ⟨(o1 rfl (sm hz367.p2 rfl)), (sm hz367.p2.p1 rfl), trivial⟩ (by kernel_rfl) (.int .i64 0) (by kernel_rfl) ?_)
 refine V.go_on 76 (by kernel_rfl) (o4 rfl (o1 rfl s76_377)) (V.pv [(84, .int .i64 0)] ⟨(sm hz367.p4 rfl), trivial⟩ (by kernel_rfl) (.bool false) (by kernel_rfl) ?_)
 refine V.go (V.pk_f (o4 rfl (o2 rfl s76_377)) (v := (.bool false)) (sm hz367.p4.p1 rfl) ?_)
 refine V.gm (sm hz367.p4.p2 rfl) ?_
 refine V.go_on 87 (by kernel_rfl) (sm hz367.p4.p2.p1 rfl) (V.mv (o8 rfl s7_371) ?_)
 refine V.go_on 87 (by kernel_rfl) (o1 rfl (sm hz367.p4.p2.p1 rfl)) (V.call 41 #[] #[.pointer (some ⟨b9, 0, none⟩), .func (.func 42) #[] #[]] evf (args2 (sm hz367.p8 rfl) evf) (Go.Proofs.enters_of Try.func41 (by kernel_rfl) rfl) (nmap_z w360 b9 hB11_362 (.func (.func 42) #[] #[])) ?_)
 rintro _ w381 ⟨rfl, hF380⟩
 refine ⟨_, rfl, ?_⟩
 have hsw381 := hF380.size
 have hF_382 := hF_361.new hF380
 have hB11_383 := hB11_362.fr0 hF380
 have hB16_384 := hB16_363.fr0 hF380
 have hB184_385 := hB184_364.fr0 hF380
 have hB192_386 := hB192_365.fr0 hF380
 refine V.go_on 87 (by kernel_rfl) (o2 rfl (sm hz367.p4.p2.p1 rfl)) (V.pv [(89, .pointer none)] ⟨(sm hz367.p8.p1 rfl), trivial⟩ (by kernel_rfl) (.bool false) (by kernel_rfl) ?_)
 refine V.go (V.pk_f (o2 rfl (o1 rfl (sm hz367.p4.p2.p1 rfl))) (v := (.bool false)) (sm hz367.p8.p2 rfl) ?_)
 refine V.nil ?_
 refine V.then_n (hK337 _ _ ?_)
 refine V.flushW hz367.p8.p4 (fun a387 hz388 up389 => ?_)
 have s0_390 := up389 0 _ (o8 rfl (o4 rfl s0_369))
 have s1_391 := up389 1 _ (o8 rfl (o4 rfl s1_370))
 have s7_392 := up389 7 _ (o8 rfl (o4 rfl s7_371))
 have s24_393 := up389 24 _ (o8 rfl (o4 rfl s24_374))
 have s25_394 := up389 25 _ (o8 rfl (o4 rfl s25_375))
 have s26_395 := up389 26 _ (o8 rfl (o4 rfl s26_376))
 have s91_396 := up389 91 _ (sm hz367.p8.p2.p1 rfl)
 clear up389
 refine V.cond_f (s91_396) ?_
 refine V.skip ?_
 refine V.then_n (hK335 _ _ ?_)
 refine V.seq (fun K397 hK398 => ?_)
 refine V.rg ?_
 refine V.go (V.mk [] trivial (by kernel_rfl) [.bool false] 4 (fun b => .pointer (some ⟨b, 0, none⟩)) (by kernel_rfl) ?_)
 intro w400 b399 heb399 hB401 hF402 hsb399
 have hF_403 := hF_382.new hF402
 have hB11_404 := hB11_383.fr0 hF402
 have hB16_405 := hB16_384.fr0 hF402
 have hB184_406 := hB184_385.fr0 hF402
 have hB192_407 := hB192_386.fr0 hF402
 refine V.go (V.stn b399 0 (.bool false) [.bool false] (sm hz388 rfl) evc rfl rfl (by kernel_rfl) hB401 (by simp) [.bool false] rfl ?_)
 intro w408 hB409 hF410 hsw408
 have hF_411 := hF_403.own hF410 (by simp <;> omega)
 have hB11_412 := hB11_404.fr1 hF410 (by omega)
 have hB16_413 := hB16_405.fr1 hF410 (by omega)
 have hB184_414 := hB184_406.fr1 hF410 (by omega)
 have hB192_415 := hB192_407.fr1 hF410 (by omega)
 refine V.nil ?_
 refine V.then_n (hK398 _ _ ?_)
 refine V.seq (fun K416 hK417 => ?_)
 refine V.rg ?_
 refine V.gm (o1 rfl s7_392) ?_
 refine V.go (V.call 43 #[] #[.pointer (some ⟨b9, 0, none⟩)] evf (args1 (sm hz388.p1 rfl)) (Go.Proofs.enters_of Try.func43 (by kernel_rfl) rfl) (all_any w408 (some ⟨b9, 0, none⟩)) ?_)
 rintro _ w421 ⟨b420, rfl, hB419, hleb420, hF418⟩
 refine ⟨_, rfl, ?_⟩
 have hsw421 := hF418.size
 have hF_422 := hF_411.new hF418
 have hB11_423 := hB11_412.fr0 hF418
 have hB16_424 := hB16_413.fr0 hF418
 have hB184_425 := hB184_414.fr0 hF418
 have hB192_426 := hB192_415.fr0 hF418
 have hB409_427 := hB409.fr0 hF418
 have hlthB419 := hB419.lt
 refine V.ga (v := (.func (.func 69) #[] #[.pointer (some ⟨b420, 0, none⟩)])) (sm hz388.p2 rfl) ?_
 refine V.nil ?_
 refine V.then_n (hK417 _ _ ?_)
 refine V.flushW hz388.p4 (fun a428 hz429 up430 => ?_)
 have s0_431 := up430 0 _ (o4 rfl s0_390)
 have s1_432 := up430 1 _ (o4 rfl s1_391)
 have s18_433 := up430 18 _ (o2 rfl (o1 rfl (sm hz388 rfl)))
 have s19_434 : a428.eval (.tmp 19) = (.func (.func 69) #[] #[.pointer (some ⟨b420, 0, none⟩)]) := up430 _ _ (sm hz388.p2.p1 rfl)
 have s24_435 := up430 24 _ (o4 rfl s24_393)
 have s25_436 := up430 25 _ (o4 rfl s25_394)
 have s26_437 := up430 26 _ (o4 rfl s26_395)
 clear up430
 refine V.seq (fun K438 hK439 => ?_)
 refine V.seq (fun K440 hK441 => ?_)
 refine V.rg ?_
 refine V.gm (v := (.func (.func 69) #[] #[.pointer (some ⟨b420, 0, none⟩)])) (s19_434) ?_
 refine V.ge_ [(94, .func (.func 69) #[] #[.pointer (some ⟨b420, 0, none⟩)])] ⟨(sm hz429 rfl), trivial⟩ (.bool false) ?_
 refine V.nil ?_
 refine V.then_n (hK441 _ _ ?_)
 refine V.cond_f (sm hz429.p1 rfl) ?_
 refine V.skip ?_
 refine V.then_n (hK439 _ _ ?_)
 refine V.seq (fun K442 hK443 => ?_)
 refine V.rg ?_
 refine V.gm (v := (.func (.func 69) #[] #[.pointer (some ⟨b420, 0, none⟩)])) (o2 rfl s19_434) ?_
 refine V.ge_ [(18, .pointer (some ⟨b399, 0, none⟩))] ⟨(o2 rfl (o1 rfl s18_433)), trivial⟩ (.func (.func 44) #[] #[.pointer (some ⟨b399, 0, none⟩)]) ?_
 refine V.go (V.call 69 #[.pointer (some ⟨b420, 0, none⟩)] #[.func (.func 44) #[] #[.pointer (some ⟨b399, 0, none⟩)]] (o1 rfl (sm hz429.p2 rfl)) (args1 (sm hz429.p2.p1 rfl)) (Go.Proofs.enters_of Try.func69 (by kernel_rfl) rfl) (nall1_z w421 b9 hB11_423 b420 hB419 (.func (.func 44) #[] #[.pointer (some ⟨b399, 0, none⟩)])) ?_)
 rintro _ w445 ⟨rfl, hF444⟩
 refine ⟨_, rfl, ?_⟩
 have hsw445 := hF444.size
 have hF_446 := hF_422.new hF444
 have hB11_447 := hB11_423.fr0 hF444
 have hB16_448 := hB16_424.fr0 hF444
 have hB184_449 := hB184_425.fr0 hF444
 have hB192_450 := hB192_426.fr0 hF444
 have hB409_451 := hB409_427.fr0 hF444
 have hB419_452 := hB419.fr0 hF444
 refine V.nil ?_
 refine V.then_n (hK443 _ _ ?_)
 refine V.flushW hz429.p4.p1 (fun a453 hz454 up455 => ?_)
 have s0_456 := up455 0 _ (o4 rfl (o1 rfl s0_431))
 have s1_457 := up455 1 _ (o4 rfl (o1 rfl s1_432))
 have s18_458 := up455 18 _ (o4 rfl (o1 rfl s18_433))
 have s24_459 := up455 24 _ (o4 rfl (o1 rfl s24_435))
 have s25_460 := up455 25 _ (o4 rfl (o1 rfl s25_436))
 have s26_461 := up455 26 _ (o4 rfl (o1 rfl s26_437))
 clear up455
 refine V.seq (fun K462 hK463 => ?_)
 refine V.rg ?_
 refine V.go (V.ld ⟨b399, 0, none⟩ (.bool false) (s18_458) (by kernel_rfl) (hB409_451.at 0 rfl) ?_)
 refine V.nil ?_
 refine V.then_n (hK463 _ _ ?_)
 refine V.cond_f (sm hz454 rfl) ?_
 refine V.skip ?_
 refine V.blk_n ?_
 refine V.then_n (hK247 _ _ ?_)
 refine V.rg ?_
 refine V.ge_ [(26, .int .i64 1)] ⟨(o1 rfl s26_461), trivial⟩ (.int .i64 2) ?_
 refine V.gm (sm hz454.p1 rfl) ?_
 refine V.nil ?_
 refine V.then_n ?_
 refine V.rnd ?_
 refine V.seq (fun K464 hK465 => ?_)
 refine V.rg ?_
 refine V.ge_ [(26, .int .i64 2), (25, .int .i64 2)] ⟨(sm hz454.p2 rfl), (o2 rfl (o1 rfl s25_460)), trivial⟩ (.bool false) ?_
 refine V.nil ?_
 refine V.then_n (hK465 _ _ ?_)
 refine V.flushW hz454.p4 (fun a466 hz467 up468 => ?_)
 have s0_469 := up468 0 _ (o4 rfl s0_456)
 have s1_470 := up468 1 _ (o4 rfl s1_457)
 have s24_471 := up468 24 _ (o4 rfl s24_459)
 have s25_472 := up468 25 _ (o4 rfl s25_460)
 have s26_473 := up468 26 _ (o1 rfl (sm hz454.p2 rfl))
 have s27_474 := up468 27 _ (sm hz454.p2.p1 rfl)
 clear up468
 refine V.seq (fun K475 hK476 => ?_)
 refine V.cond_f (s27_474) ?_
 refine V.exit ?_
 refine V.then_e ?_
 refine V.then_e ?_
 refine V.blk_hit ?_
 refine V.then_n (hK6 _ _ ?_)
 refine V.seq (fun K477 hK478 => ?_)
 refine V.rg ?_
 refine V.go (V.call 14 #[] #[.int .u64 1] evf (args1 evc) (Go.Proofs.enters_of Try.func14 (by kernel_rfl) rfl) (new_any w445 [] (by simp) 1 (by omega)) ?_)
 rintro _ w482 ⟨t479, rfl, hT480, hF481⟩
 refine ⟨_, rfl, ?_⟩
 have hsw482 := hF481.size
 have hF_483 := hF_446.new hF481
 have hB11_484 := hB11_447.fr0 hF481
 have hB16_485 := hB16_448.fr0 hF481
 have hB184_486 := hB184_449.fr0 hF481
 have hB192_487 := hB192_450.fr0 hF481
 have hB409_488 := hB409_451.fr0 hF481
 have hB419_489 := hB419_452.fr0 hF481
 refine V.ga (v := (.pointer (some ⟨t479, 0, none⟩))) (sm hz467 rfl) ?_
 refine V.nil ?_
 refine V.then_n (hK478 _ _ ?_)
 refine V.seq (fun K490 hK491 => ?_)
 refine V.rg ?_
 refine V.gm (v := (.pointer (some ⟨t479, 0, none⟩))) (sm hz467.p1 rfl) ?_
 refine V.go (V.call 41 #[] #[.pointer (some ⟨t479, 0, none⟩), .nilFunc] evf (args2 (sm hz467.p2 rfl) evc) (Go.Proofs.enters_of Try.func41 (by kernel_rfl) rfl) (mapnil_any w482 (gr (fun _ => False) w445 w482) ([]) t479 (newT 1) hT480) ?_)
 rintro _ w493 ⟨rfl, hF492⟩
 refine ⟨_, rfl, ?_⟩
 have hsw493 := hF492.size
 have hF_494 := hF_483.new hF492
 have hB11_495 := hB11_484.fr0 hF492
 have hB16_496 := hB16_485.fr0 hF492
 have hB184_497 := hB184_486.fr0 hF492
 have hB192_498 := hB192_487.fr0 hF492
 have hB409_499 := hB409_488.fr0 hF492
 have hB419_500 := hB419_489.fr0 hF492
 have hT480_501 := hT480.fr0 hF492
 refine V.ge_ [(103, .pointer none)] ⟨(sm hz467.p2.p1 rfl), trivial⟩ (.bool true) ?_
 refine V.gm (sm hz467.p4 rfl) ?_
 refine V.go_on 105 (by kernel_rfl) (sm hz467.p4.p1 rfl) (V.call 13 #[] #[] evf (args0) (Go.Proofs.enters_of Try.func13 (by kernel_rfl) rfl) (alive_any w493) ?_)
 rintro _ w503 ⟨rfl, hF502⟩
 refine ⟨_, rfl, ?_⟩
 have hsw503 := hF502.size
 have hF_504 := hF_494.new hF502
 have hB11_505 := hB11_495.fr0 hF502
 have hB16_506 := hB16_496.fr0 hF502
 have hB184_507 := hB184_497.fr0 hF502
 have hB192_508 := hB192_498.fr0 hF502
 have hB409_509 := hB409_499.fr0 hF502
 have hB419_510 := hB419_500.fr0 hF502
 have hT480_511 := hT480_501.fr0 hF502
 refine V.go (V.pk_t (o1 rfl (sm hz467.p4.p1 rfl)) (v := (.bool true)) (sm hz467.p4.p2 rfl) ?_)
 refine V.ga (v := (.bool true)) (sm hz467.p4.p2.p1 rfl) ?_
 refine V.nil ?_
 refine V.then_n (hK491 _ _ ?_)
 refine V.flushW hz467.p8.p1 (fun a512 hz513 up514 => ?_)
 have s4_515 : a512.eval (.tmp 4) = (.bool true) := up514 _ _ (sm hz467.p8 rfl)
 clear up514
 refine V.ret ?_
 refine V.ret1 hz513 rfl (s4_515) ?_
 exact ⟨rfl, hF_504⟩
end Go.Proofs.Ytalhmegjomfbaaa
