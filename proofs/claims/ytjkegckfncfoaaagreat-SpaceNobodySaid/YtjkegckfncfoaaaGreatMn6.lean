/- Joined texts: Na, Nb, Opn, Hn, Hp. -/
import Derived.Test.YtjkegckfncfoaaaGreatProg
import Derived.Test.YtjkegckfncfoaaaGreatRows
import Derived.Deep.Slices
import Derived.Lib.SmallJoins
import Derived.ProofKit
import Derived.ChangeSame
import Derived.Test.YtjkegckfncfoaaaGreatMn5
section
namespace Go.Proofs.YtjkegckfncfoaaaGreat
open Go.V Go.Base
open Go.RowKit (Below)
attribute [local irreducible] Act.put Act.eval
set_option linter.unusedVariables false
set_option linter.unusedSimpArgs false
set_option maxHeartbeats 4000000 in
set_option maxRecDepth 20000 in
theorem nis_n (w : World)   : Calls Tryz.prog 29 #[.pointer none] w (fun e w' => e = .returned (.bool false) ∧ Fr [] w w') := by
 have hF := Fr.refl [] w
 refine V.en 12 Tryz.func29 fun a h1 => ?_
 refine V.sr h1 [] 2 2 [] fun a h4 => ?_
 refine V.sr h4 [] 3 11 [(2, .bool false)] fun a h7 => ?_
 refine V.ret ?_
 refine V.r1 h7 (.bool false) ?_
 exact ⟨rfl, hF⟩
set_option maxHeartbeats 4000000 in
set_option maxRecDepth 20000 in
theorem nis_s (w : World) (sp : Nat) (hB : Blk w sp [.pointer none] 63)  : Calls Tryz.prog 29 #[.pointer (some ⟨sp, 0, none⟩)] w (fun e w' => e = .returned (.bool false) ∧ Fr [] w w') := by
 have hF := Fr.refl [] w
 have hspl := hB.lt
 refine V.en 12 Tryz.func29 fun a h1 => ?_
 refine V.sr h1 [] 2 2 [] fun a h4 => ?_
 refine V.sr h4 [(6, .b hB 0)] 3 11 [(2, .bool false)] fun a h7 => ?_
 refine V.ret ?_
 refine V.r1 h7 (.bool false) ?_
 exact ⟨rfl, hF⟩
set_option maxHeartbeats 4000000 in
set_option maxRecDepth 20000 in
theorem nget_n (w : World)  (now dr role : Int) (Aa : Option Addr) (na ca : Nat) (key : ByteArray) : Calls Tryz.prog 10 #[.pointer none, .agg #[.int .i64 now, .int .u64 dr, .int .i64 role, .slice Aa na ca], .string key] w (fun e w' => e = .returned (.tuple #[.agg #[.int .i64 0, .string ⟨#[]⟩, .slice none 0 0, .slice none 0 0, .slice none 0 0], .bool false, .slice none 0 0]) ∧ Fr [] w w') := by
 have hF := Fr.refl [] w
 refine V.en 39 Tryz.func10 fun a h1 => ?_
 refine V.sg fun K2 k3 => ?_
 refine V.go (V.mk [(1, .agg #[.int .i64 now, .int .u64 dr, .int .i64 role, .slice Aa na ca])] ⟨h1.e, trivial⟩ (by kernel_rfl) [.int .i64 now, .int .u64 dr, .int .i64 role, .slice Aa na ca] 27 (fun b => .pointer (some ⟨b, 0, none⟩)) (by kernel_rfl) ?_)
 intro w5 b4 heb4 hB6 hF7 hsb4
 have hF_8 := hF.new hF7
 refine V.pt h1 fun a h9 => ?_
 refine V.go (V.mk [] trivial (by kernel_rfl) [.int .i64 0, .string ⟨#[]⟩, .slice none 0 0, .slice none 0 0, .slice none 0 0] 37 (fun b => .pointer (some ⟨b, 0, none⟩)) (by kernel_rfl) ?_)
 intro w11 b10 heb10 hB12 hF13 hsb10
 have hF_14 := hF_8.new hF13
 have hB6_15 := hB6.fr0 hF13
 refine V.pt h9 fun a h16 => ?_
 refine V.re h16 [] 7 8 [] fun a h17 => k3 _ _ ?_
 refine V.seq fun K18 k19 => ?_
 refine V.sg fun K20 k21 => ?_
 refine V.run h17 [] 1 1 0 [(11, .pointer none)] fun a h22 => ?_
 refine V.cl h22 (Go.Proofs.enters_of Tryz.func29 (by kernel_rfl) rfl) (nis_n w11) ?_
 rintro _ w24 ⟨rfl, hF23⟩
 refine ⟨_, rfl, fun a h25 => ?_⟩
 have hsw24 := hF23.size
 have hF_26 := hF_14.new hF23
 have hB6_27 := hB6_15.fr0 hF23
 have hB12_28 := hB12.fr0 hF23
 refine V.re h25 [] 1 0 [(13, .bool true)] fun a h29 => k21 _ _ ?_
 refine V.ct h29 ?_
 refine V.sg fun K30 k31 => ?_
 refine V.run h29 [] 1 1 0 [(14, .agg #[.int .i64 0, .string ⟨#[]⟩, .slice none 0 0, .slice none 0 0, .slice none 0 0])] fun a h35 => ?_
 refine V.go (V.stn b10 0 (.agg #[.int .i64 0, .string ⟨#[]⟩, .slice none 0 0, .slice none 0 0, .slice none 0 0]) [.int .i64 0, .string ⟨#[]⟩, .slice none 0 0, .slice none 0 0, .slice none 0 0] h35.e h35.e rfl rfl (by kernel_rfl) hB12_28 (by simp) [.int .i64 0, .string ⟨#[]⟩, .slice none 0 0, .slice none 0 0, .slice none 0 0] rfl ?_)
 intro w32 hB33 hF34 hsw32
 have hF_36 := hF_26.own hF34 (by simp <;> omega)
 have hB6_37 := hB6_27.fr1 hF34 (by omega)
 refine V.re h35 [] 1 0 [(7, .bool false), (8, .slice none 0 0)] fun a h38 => k31 _ _ ?_
 refine V.ret ?_
 refine V.then_r ?_
 refine V.retCTT h38.sd rfl _ (h38.e (v := (.pointer (some ⟨b10, 0, none⟩)))) (V.run_loadVar_agg (cs := [.int .i64 0, .string ⟨#[]⟩, .slice none 0 0, .slice none 0 0, .slice none 0 0]) (by kernel_rfl) (blk_cells hB33 0 _ rfl)) (h38.e (v := (.bool false))) (h38.e (v := (.slice none 0 0))) ?_
 exact ⟨rfl, hF_36⟩
set_option maxHeartbeats 4000000 in
set_option maxRecDepth 20000 in
theorem nget_s (w : World) (sp : Nat) (hB : Blk w sp [.pointer none] 63) (now dr role : Int) (Aa : Option Addr) (na ca : Nat) (key : ByteArray) : Calls Tryz.prog 10 #[.pointer (some ⟨sp, 0, none⟩), .agg #[.int .i64 now, .int .u64 dr, .int .i64 role, .slice Aa na ca], .string key] w (fun e w' => e = .returned (.tuple #[.agg #[.int .i64 0, .string ⟨#[]⟩, .slice none 0 0, .slice none 0 0, .slice none 0 0], .bool false, .slice none 0 0]) ∧ Fr [] w w') := by
 have hF := Fr.refl [] w
 have hspl := hB.lt
 refine V.en 39 Tryz.func10 fun a h1 => ?_
 refine V.sg fun K2 k3 => ?_
 refine V.go (V.mk [(1, .agg #[.int .i64 now, .int .u64 dr, .int .i64 role, .slice Aa na ca])] ⟨h1.e, trivial⟩ (by kernel_rfl) [.int .i64 now, .int .u64 dr, .int .i64 role, .slice Aa na ca] 27 (fun b => .pointer (some ⟨b, 0, none⟩)) (by kernel_rfl) ?_)
 intro w5 b4 heb4 hB6 hF7 hsb4
 have hF_8 := hF.new hF7
 have hB_9 := hB.fr0 hF7
 refine V.pt h1 fun a h10 => ?_
 refine V.go (V.mk [] trivial (by kernel_rfl) [.int .i64 0, .string ⟨#[]⟩, .slice none 0 0, .slice none 0 0, .slice none 0 0] 37 (fun b => .pointer (some ⟨b, 0, none⟩)) (by kernel_rfl) ?_)
 intro w12 b11 heb11 hB13 hF14 hsb11
 have hF_15 := hF_8.new hF14
 have hB_16 := hB_9.fr0 hF14
 have hB6_17 := hB6.fr0 hF14
 refine V.pt h10 fun a h18 => ?_
 refine V.re h18 [] 7 8 [] fun a h19 => k3 _ _ ?_
 refine V.seq fun K20 k21 => ?_
 refine V.sg fun K22 k23 => ?_
 refine V.run h19 [] 1 1 0 [(11, .pointer (some ⟨sp, 0, none⟩))] fun a h24 => ?_
 refine V.cl h24 (Go.Proofs.enters_of Tryz.func29 (by kernel_rfl) rfl) (nis_s w12 sp hB_16) ?_
 rintro _ w26 ⟨rfl, hF25⟩
 refine ⟨_, rfl, fun a h27 => ?_⟩
 have hsw26 := hF25.size
 have hF_28 := hF_15.new hF25
 have hB_29 := hB_16.fr0 hF25
 have hB6_30 := hB6_17.fr0 hF25
 have hB13_31 := hB13.fr0 hF25
 refine V.re h27 [] 1 0 [(13, .bool true)] fun a h32 => k23 _ _ ?_
 refine V.ct h32 ?_
 refine V.sg fun K33 k34 => ?_
 refine V.run h32 [] 1 1 0 [(14, .agg #[.int .i64 0, .string ⟨#[]⟩, .slice none 0 0, .slice none 0 0, .slice none 0 0])] fun a h38 => ?_
 refine V.go (V.stn b11 0 (.agg #[.int .i64 0, .string ⟨#[]⟩, .slice none 0 0, .slice none 0 0, .slice none 0 0]) [.int .i64 0, .string ⟨#[]⟩, .slice none 0 0, .slice none 0 0, .slice none 0 0] h38.e h38.e rfl rfl (by kernel_rfl) hB13_31 (by simp) [.int .i64 0, .string ⟨#[]⟩, .slice none 0 0, .slice none 0 0, .slice none 0 0] rfl ?_)
 intro w35 hB36 hF37 hsw35
 have hF_39 := hF_28.own hF37 (by simp <;> omega)
 have hB_40 := hB_29.fr1 hF37 (by omega)
 have hB6_41 := hB6_30.fr1 hF37 (by omega)
 refine V.re h38 [] 1 0 [(7, .bool false), (8, .slice none 0 0)] fun a h42 => k34 _ _ ?_
 refine V.ret ?_
 refine V.then_r ?_
 refine V.retCTT h42.sd rfl _ (h42.e (v := (.pointer (some ⟨b11, 0, none⟩)))) (V.run_loadVar_agg (cs := [.int .i64 0, .string ⟨#[]⟩, .slice none 0 0, .slice none 0 0, .slice none 0 0]) (by kernel_rfl) (blk_cells hB36 0 _ rfl)) (h42.e (v := (.bool false))) (h42.e (v := (.slice none 0 0))) ?_
 exact ⟨rfl, hF_39⟩
set_option maxHeartbeats 4000000 in
set_option maxRecDepth 20000 in
theorem nlook_n (w : World)  (key : ByteArray) : Calls Tryz.prog 19 #[.pointer none, .string key] w (fun e w' => e = .returned (.tuple #[.agg #[.string ⟨#[]⟩, .int .i64 0, .string ⟨#[]⟩, .slice none 0 0, .slice none 0 0, .slice none 0 0, .int .i64 0], .bool false]) ∧ Fr [] w w') := by
 have hF := Fr.refl [] w
 refine V.en 31 Tryz.func19 fun a h1 => ?_
 refine V.sg fun K2 k3 => ?_
 refine V.go (V.mk [] trivial (by kernel_rfl) [.string ⟨#[]⟩, .int .i64 0, .string ⟨#[]⟩, .slice none 0 0, .slice none 0 0, .slice none 0 0, .int .i64 0] 39 (fun b => .pointer (some ⟨b, 0, none⟩)) (by kernel_rfl) ?_)
 intro w5 b4 heb4 hB6 hF7 hsb4
 have hF_8 := hF.new hF7
 refine V.pt h1 fun a h9 => ?_
 refine V.re h9 [] 5 5 [] fun a h10 => k3 _ _ ?_
 refine V.seq fun K11 k12 => ?_
 refine V.sg fun K13 k14 => ?_
 refine V.run h10 [] 1 1 0 [(8, .pointer none)] fun a h15 => ?_
 refine V.cl h15 (Go.Proofs.enters_of Tryz.func29 (by kernel_rfl) rfl) (nis_n w5) ?_
 rintro _ w17 ⟨rfl, hF16⟩
 refine ⟨_, rfl, fun a h18 => ?_⟩
 have hsw17 := hF16.size
 have hF_19 := hF_8.new hF16
 have hB6_20 := hB6.fr0 hF16
 refine V.re h18 [] 1 0 [(10, .bool true)] fun a h21 => k14 _ _ ?_
 refine V.ct h21 ?_
 refine V.sg fun K22 k23 => ?_
 refine V.run h21 [] 1 1 0 [(11, .agg #[.string ⟨#[]⟩, .int .i64 0, .string ⟨#[]⟩, .slice none 0 0, .slice none 0 0, .slice none 0 0, .int .i64 0])] fun a h27 => ?_
 refine V.go (V.stn b4 0 (.agg #[.string ⟨#[]⟩, .int .i64 0, .string ⟨#[]⟩, .slice none 0 0, .slice none 0 0, .slice none 0 0, .int .i64 0]) [.string ⟨#[]⟩, .int .i64 0, .string ⟨#[]⟩, .slice none 0 0, .slice none 0 0, .slice none 0 0, .int .i64 0] h27.e h27.e rfl rfl (by kernel_rfl) hB6_20 (by simp) [.string ⟨#[]⟩, .int .i64 0, .string ⟨#[]⟩, .slice none 0 0, .slice none 0 0, .slice none 0 0, .int .i64 0] rfl ?_)
 intro w24 hB25 hF26 hsw24
 have hF_28 := hF_19.own hF26 (by simp <;> omega)
 refine V.re h27 [] 1 0 [(5, .bool false)] fun a h29 => k23 _ _ ?_
 refine V.ret ?_
 refine V.then_r ?_
 refine V.retCT h29.sd rfl _ (h29.e (v := (.pointer (some ⟨b4, 0, none⟩)))) (V.run_loadVar_agg (cs := [.string ⟨#[]⟩, .int .i64 0, .string ⟨#[]⟩, .slice none 0 0, .slice none 0 0, .slice none 0 0, .int .i64 0]) (by kernel_rfl) (blk_cells hB25 0 _ rfl)) (h29.e (v := (.bool false))) ?_
 exact ⟨rfl, hF_28⟩
set_option maxHeartbeats 4000000 in
set_option maxRecDepth 20000 in
theorem nlook_s (w : World) (sp : Nat) (hB : Blk w sp [.pointer none] 63) (key : ByteArray) : Calls Tryz.prog 19 #[.pointer (some ⟨sp, 0, none⟩), .string key] w (fun e w' => e = .returned (.tuple #[.agg #[.string ⟨#[]⟩, .int .i64 0, .string ⟨#[]⟩, .slice none 0 0, .slice none 0 0, .slice none 0 0, .int .i64 0], .bool false]) ∧ Fr [] w w') := by
 have hF := Fr.refl [] w
 have hspl := hB.lt
 refine V.en 31 Tryz.func19 fun a h1 => ?_
 refine V.sg fun K2 k3 => ?_
 refine V.go (V.mk [] trivial (by kernel_rfl) [.string ⟨#[]⟩, .int .i64 0, .string ⟨#[]⟩, .slice none 0 0, .slice none 0 0, .slice none 0 0, .int .i64 0] 39 (fun b => .pointer (some ⟨b, 0, none⟩)) (by kernel_rfl) ?_)
 intro w5 b4 heb4 hB6 hF7 hsb4
 have hF_8 := hF.new hF7
 have hB_9 := hB.fr0 hF7
 refine V.pt h1 fun a h10 => ?_
 refine V.re h10 [] 5 5 [] fun a h11 => k3 _ _ ?_
 refine V.seq fun K12 k13 => ?_
 refine V.sg fun K14 k15 => ?_
 refine V.run h11 [] 1 1 0 [(8, .pointer (some ⟨sp, 0, none⟩))] fun a h16 => ?_
 refine V.cl h16 (Go.Proofs.enters_of Tryz.func29 (by kernel_rfl) rfl) (nis_s w5 sp hB_9) ?_
 rintro _ w18 ⟨rfl, hF17⟩
 refine ⟨_, rfl, fun a h19 => ?_⟩
 have hsw18 := hF17.size
 have hF_20 := hF_8.new hF17
 have hB_21 := hB_9.fr0 hF17
 have hB6_22 := hB6.fr0 hF17
 refine V.re h19 [] 1 0 [(10, .bool true)] fun a h23 => k15 _ _ ?_
 refine V.ct h23 ?_
 refine V.sg fun K24 k25 => ?_
 refine V.run h23 [] 1 1 0 [(11, .agg #[.string ⟨#[]⟩, .int .i64 0, .string ⟨#[]⟩, .slice none 0 0, .slice none 0 0, .slice none 0 0, .int .i64 0])] fun a h29 => ?_
 refine V.go (V.stn b4 0 (.agg #[.string ⟨#[]⟩, .int .i64 0, .string ⟨#[]⟩, .slice none 0 0, .slice none 0 0, .slice none 0 0, .int .i64 0]) [.string ⟨#[]⟩, .int .i64 0, .string ⟨#[]⟩, .slice none 0 0, .slice none 0 0, .slice none 0 0, .int .i64 0] h29.e h29.e rfl rfl (by kernel_rfl) hB6_22 (by simp) [.string ⟨#[]⟩, .int .i64 0, .string ⟨#[]⟩, .slice none 0 0, .slice none 0 0, .slice none 0 0, .int .i64 0] rfl ?_)
 intro w26 hB27 hF28 hsw26
 have hF_30 := hF_20.own hF28 (by simp <;> omega)
 have hB_31 := hB_21.fr1 hF28 (by omega)
 refine V.re h29 [] 1 0 [(5, .bool false)] fun a h32 => k25 _ _ ?_
 refine V.ret ?_
 refine V.then_r ?_
 refine V.retCT h32.sd rfl _ (h32.e (v := (.pointer (some ⟨b4, 0, none⟩)))) (V.run_loadVar_agg (cs := [.string ⟨#[]⟩, .int .i64 0, .string ⟨#[]⟩, .slice none 0 0, .slice none 0 0, .slice none 0 0, .int .i64 0]) (by kernel_rfl) (blk_cells hB27 0 _ rfl)) (h32.e (v := (.bool false))) ?_
 exact ⟨rfl, hF_30⟩
set_option maxHeartbeats 4000000 in
set_option maxRecDepth 20000 in
theorem nput_n (w : World)  (key : ByteArray) (m0 m1 m2 m3 m4 : Value) (at' : Int) : Calls Tryz.prog 20 #[.pointer none, .string key, .agg #[m0, m1, m2, m3, m4], .int .i64 at'] w (fun e w' => e = .returned (.int .i64 4) ∧ Fr [] w w') := by
 have hF := Fr.refl [] w
 refine V.en 53 Tryz.func20 fun a h1 => ?_
 refine V.sg fun K2 k3 => ?_
 refine V.go (V.mk [(2, .agg #[m0, m1, m2, m3, m4])] ⟨h1.e, trivial⟩ (by kernel_rfl) [m0, m1, m2, m3, m4] 37 (fun b => .pointer (some ⟨b, 0, none⟩)) (by kernel_rfl) ?_)
 intro w5 b4 heb4 hB6 hF7 hsb4
 have hF_8 := hF.new hF7
 refine V.pt h1 fun a h9 => ?_
 refine V.re h9 [] 8 8 [] fun a h10 => k3 _ _ ?_
 refine V.seq fun K11 k12 => ?_
 refine V.sg fun K13 k14 => ?_
 refine V.run h10 [] 1 1 0 [(12, .pointer none)] fun a h15 => ?_
 refine V.cl h15 (Go.Proofs.enters_of Tryz.func29 (by kernel_rfl) rfl) (nis_n w5) ?_
 rintro _ w17 ⟨rfl, hF16⟩
 refine ⟨_, rfl, fun a h18 => ?_⟩
 have hsw17 := hF16.size
 have hF_19 := hF_8.new hF16
 have hB6_20 := hB6.fr0 hF16
 refine V.re h18 [] 1 0 [(14, .bool true)] fun a h21 => k14 _ _ ?_
 refine V.ct h21 ?_
 refine V.sr h21 [] 1 0 [(8, .int .i64 4)] fun a h24 => ?_
 refine V.ret ?_
 refine V.then_r ?_
 refine V.r1 h24 (.int .i64 4) ?_
 exact ⟨rfl, hF_19⟩
set_option maxHeartbeats 4000000 in
set_option maxRecDepth 20000 in
theorem nput_s (w : World) (sp : Nat) (hB : Blk w sp [.pointer none] 63) (key : ByteArray) (m0 m1 m2 m3 m4 : Value) (at' : Int) : Calls Tryz.prog 20 #[.pointer (some ⟨sp, 0, none⟩), .string key, .agg #[m0, m1, m2, m3, m4], .int .i64 at'] w (fun e w' => e = .returned (.int .i64 4) ∧ Fr [] w w') := by
 have hF := Fr.refl [] w
 have hspl := hB.lt
 refine V.en 53 Tryz.func20 fun a h1 => ?_
 refine V.sg fun K2 k3 => ?_
 refine V.go (V.mk [(2, .agg #[m0, m1, m2, m3, m4])] ⟨h1.e, trivial⟩ (by kernel_rfl) [m0, m1, m2, m3, m4] 37 (fun b => .pointer (some ⟨b, 0, none⟩)) (by kernel_rfl) ?_)
 intro w5 b4 heb4 hB6 hF7 hsb4
 have hF_8 := hF.new hF7
 have hB_9 := hB.fr0 hF7
 refine V.pt h1 fun a h10 => ?_
 refine V.re h10 [] 8 8 [] fun a h11 => k3 _ _ ?_
 refine V.seq fun K12 k13 => ?_
 refine V.sg fun K14 k15 => ?_
 refine V.run h11 [] 1 1 0 [(12, .pointer (some ⟨sp, 0, none⟩))] fun a h16 => ?_
 refine V.cl h16 (Go.Proofs.enters_of Tryz.func29 (by kernel_rfl) rfl) (nis_s w5 sp hB_9) ?_
 rintro _ w18 ⟨rfl, hF17⟩
 refine ⟨_, rfl, fun a h19 => ?_⟩
 have hsw18 := hF17.size
 have hF_20 := hF_8.new hF17
 have hB_21 := hB_9.fr0 hF17
 have hB6_22 := hB6.fr0 hF17
 refine V.re h19 [] 1 0 [(14, .bool true)] fun a h23 => k15 _ _ ?_
 refine V.ct h23 ?_
 refine V.sr h23 [] 1 0 [(8, .int .i64 4)] fun a h26 => ?_
 refine V.ret ?_
 refine V.then_r ?_
 refine V.r1 h26 (.int .i64 4) ?_
 exact ⟨rfl, hF_20⟩
set_option maxHeartbeats 4000000 in
set_option maxRecDepth 20000 in
theorem nsorted_n (w : World)  (fi : _) (fa fb : Array Value) : Calls Tryz.prog 34 #[.pointer none, .func fi fa fb] w (fun e w' => e = .returned (.slice none 0 0) ∧ Fr [] w w') := by
 have hF := Fr.refl [] w
 refine V.en 28 Tryz.func34 fun a h1 => ?_
 refine V.sg fun K2 k3 => ?_
 refine V.go (V.mk [(1, .func fi fa fb)] ⟨h1.e, trivial⟩ (by kernel_rfl) [.func fi fa fb] 86 (fun b => .pointer (some ⟨b, 0, none⟩)) (by kernel_rfl) ?_)
 intro w5 b4 heb4 hB6 hF7 hsb4
 have hF_8 := hF.new hF7
 refine V.pt h1 fun a h9 => ?_
 refine V.re h9 [] 4 4 [] fun a h10 => k3 _ _ ?_
 refine V.sg fun K11 k12 => ?_
 refine V.go (V.mk [] trivial (by kernel_rfl) [.slice none 0 0] 25 (fun b => .pointer (some ⟨b, 0, none⟩)) (by kernel_rfl) ?_)
 intro w14 b13 heb13 hB15 hF16 hsb13
 have hF_17 := hF_8.new hF16
 have hB6_18 := hB6.fr0 hF16
 refine V.pt h10 fun a h19 => ?_
 refine V.nt (k12 _ _ ?_)
 refine V.seq fun K20 k21 => ?_
 refine V.sg fun K22 k23 => ?_
 refine V.run h19 [] 1 1 0 [(8, .pointer none)] fun a h24 => ?_
 refine V.cl h24 (Go.Proofs.enters_of Tryz.func29 (by kernel_rfl) rfl) (nis_n w14) ?_
 rintro _ w26 ⟨rfl, hF25⟩
 refine ⟨_, rfl, fun a h27 => ?_⟩
 have hsw26 := hF25.size
 have hF_28 := hF_17.new hF25
 have hB6_29 := hB6_18.fr0 hF25
 have hB15_30 := hB15.fr0 hF25
 refine V.re h27 [] 1 0 [(10, .bool true)] fun a h31 => k23 _ _ ?_
 refine V.ct h31 ?_
 refine V.sr h31 [] 1 0 [(4, .slice none 0 0)] fun a h34 => ?_
 refine V.ret ?_
 refine V.then_r ?_
 refine V.r1 h34 (.slice none 0 0) ?_
 exact ⟨rfl, hF_28⟩
set_option maxHeartbeats 4000000 in
set_option maxRecDepth 20000 in
theorem nsorted_s (w : World) (sp : Nat) (hB : Blk w sp [.pointer none] 63) (fi : _) (fa fb : Array Value) : Calls Tryz.prog 34 #[.pointer (some ⟨sp, 0, none⟩), .func fi fa fb] w (fun e w' => e = .returned (.slice none 0 0) ∧ Fr [] w w') := by
 have hF := Fr.refl [] w
 have hspl := hB.lt
 refine V.en 28 Tryz.func34 fun a h1 => ?_
 refine V.sg fun K2 k3 => ?_
 refine V.go (V.mk [(1, .func fi fa fb)] ⟨h1.e, trivial⟩ (by kernel_rfl) [.func fi fa fb] 86 (fun b => .pointer (some ⟨b, 0, none⟩)) (by kernel_rfl) ?_)
 intro w5 b4 heb4 hB6 hF7 hsb4
 have hF_8 := hF.new hF7
 have hB_9 := hB.fr0 hF7
 refine V.pt h1 fun a h10 => ?_
 refine V.re h10 [] 4 4 [] fun a h11 => k3 _ _ ?_
 refine V.sg fun K12 k13 => ?_
 refine V.go (V.mk [] trivial (by kernel_rfl) [.slice none 0 0] 25 (fun b => .pointer (some ⟨b, 0, none⟩)) (by kernel_rfl) ?_)
 intro w15 b14 heb14 hB16 hF17 hsb14
 have hF_18 := hF_8.new hF17
 have hB_19 := hB_9.fr0 hF17
 have hB6_20 := hB6.fr0 hF17
 refine V.pt h11 fun a h21 => ?_
 refine V.nt (k13 _ _ ?_)
 refine V.seq fun K22 k23 => ?_
 refine V.sg fun K24 k25 => ?_
 refine V.run h21 [] 1 1 0 [(8, .pointer (some ⟨sp, 0, none⟩))] fun a h26 => ?_
 refine V.cl h26 (Go.Proofs.enters_of Tryz.func29 (by kernel_rfl) rfl) (nis_s w15 sp hB_19) ?_
 rintro _ w28 ⟨rfl, hF27⟩
 refine ⟨_, rfl, fun a h29 => ?_⟩
 have hsw28 := hF27.size
 have hF_30 := hF_18.new hF27
 have hB_31 := hB_19.fr0 hF27
 have hB6_32 := hB6_20.fr0 hF27
 have hB16_33 := hB16.fr0 hF27
 refine V.re h29 [] 1 0 [(10, .bool true)] fun a h34 => k25 _ _ ?_
 refine V.ct h34 ?_
 refine V.sr h34 [] 1 0 [(4, .slice none 0 0)] fun a h37 => ?_
 refine V.ret ?_
 refine V.then_r ?_
 refine V.r1 h37 (.slice none 0 0) ?_
 exact ⟨rfl, hF_30⟩
set_option maxHeartbeats 4000000 in
set_option maxRecDepth 20000 in
theorem nlen_n (w : World)   : Calls Tryz.prog 17 #[.pointer none] w (fun e w' => e = .returned (.int .i64 0) ∧ Fr [] w w') := by
 have hF := Fr.refl [] w
 refine V.en 11 Tryz.func17 fun a h1 => ?_
 refine V.sr h1 [] 2 2 [] fun a h4 => ?_
 refine V.seq fun K5 k6 => ?_
 refine V.sg fun K7 k8 => ?_
 refine V.run h4 [] 1 1 0 [(3, .pointer none)] fun a h9 => ?_
 refine V.cl h9 (Go.Proofs.enters_of Tryz.func29 (by kernel_rfl) rfl) (nis_n w) ?_
 rintro _ w11 ⟨rfl, hF10⟩
 refine ⟨_, rfl, fun a h12 => ?_⟩
 have hsw11 := hF10.size
 have hF_13 := hF.new hF10
 refine V.re h12 [] 1 0 [(5, .bool true)] fun a h14 => k8 _ _ ?_
 refine V.ct h14 ?_
 refine V.sr h14 [] 1 0 [(2, .int .i64 0)] fun a h17 => ?_
 refine V.ret ?_
 refine V.then_r ?_
 refine V.r1 h17 (.int .i64 0) ?_
 exact ⟨rfl, hF_13⟩
set_option maxHeartbeats 4000000 in
set_option maxRecDepth 20000 in
theorem nlen_s (w : World) (sp : Nat) (hB : Blk w sp [.pointer none] 63)  : Calls Tryz.prog 17 #[.pointer (some ⟨sp, 0, none⟩)] w (fun e w' => e = .returned (.int .i64 0) ∧ Fr [] w w') := by
 have hF := Fr.refl [] w
 have hspl := hB.lt
 refine V.en 11 Tryz.func17 fun a h1 => ?_
 refine V.sr h1 [] 2 2 [] fun a h4 => ?_
 refine V.seq fun K5 k6 => ?_
 refine V.sg fun K7 k8 => ?_
 refine V.run h4 [] 1 1 0 [(3, .pointer (some ⟨sp, 0, none⟩))] fun a h9 => ?_
 refine V.cl h9 (Go.Proofs.enters_of Tryz.func29 (by kernel_rfl) rfl) (nis_s w sp hB) ?_
 rintro _ w11 ⟨rfl, hF10⟩
 refine ⟨_, rfl, fun a h12 => ?_⟩
 have hsw11 := hF10.size
 have hF_13 := hF.new hF10
 have hB_14 := hB.fr0 hF10
 refine V.re h12 [] 1 0 [(5, .bool true)] fun a h15 => k8 _ _ ?_
 refine V.ct h15 ?_
 refine V.sr h15 [] 1 0 [(2, .int .i64 0)] fun a h18 => ?_
 refine V.ret ?_
 refine V.then_r ?_
 refine V.r1 h18 (.int .i64 0) ?_
 exact ⟨rfl, hF_13⟩
set_option maxHeartbeats 4000000 in
set_option maxRecDepth 20000 in
theorem npick_n (w : World)  (now dr role : Int) (Aa : Option Addr) (na ca : Nat) : Calls Tryz.prog 11 #[.pointer none, .agg #[.int .i64 now, .int .u64 dr, .int .i64 role, .slice Aa na ca]] w (fun e w' => e = .returned (.tuple #[.string ⟨#[]⟩, .bool false, .slice none 0 0]) ∧ Fr [] w w') := by
 have hF := Fr.refl [] w
 refine V.en 79 Tryz.func11 fun a h1 => ?_
 refine V.sg fun K2 k3 => ?_
 refine V.go (V.mk [(1, .agg #[.int .i64 now, .int .u64 dr, .int .i64 role, .slice Aa na ca])] ⟨h1.e, trivial⟩ (by kernel_rfl) [.int .i64 now, .int .u64 dr, .int .i64 role, .slice Aa na ca] 27 (fun b => .pointer (some ⟨b, 0, none⟩)) (by kernel_rfl) ?_)
 intro w5 b4 heb4 hB6 hF7 hsb4
 have hF_8 := hF.new hF7
 refine V.pt h1 fun a h9 => ?_
 refine V.re h9 [] 4 6 [] fun a h10 => k3 _ _ ?_
 refine V.sg fun K11 k12 => ?_
 refine V.run h10 [] 1 1 0 [(13, .pointer none)] fun a h13 => ?_
 refine V.cl h13 (Go.Proofs.enters_of Tryz.func34 (by kernel_rfl) rfl) (nsorted_n w5 (.func 35) #[] #[]) ?_
 rintro _ w15 ⟨rfl, hF14⟩
 refine ⟨_, rfl, fun a h16 => ?_⟩
 have hsw15 := hF14.size
 have hF_17 := hF_8.new hF14
 have hB6_18 := hB6.fr0 hF14
 refine V.re h16 [] 1 0 [(7, .slice none 0 0)] fun a h19 => k12 _ _ ?_
 refine V.sr h19 [] 1 0 [(8, .slice none 0 0)] fun a h22 => ?_
 refine V.seq fun K23 k24 => ?_
 refine V.sr h22 [(1, .b hB6_18 1)] 15 16 [(9, .int .u64 dr)] fun a h27 => ?_
 refine V.block ?_
 refine V.loopR 1 ?_
 refine V.rnd ?_
 refine V.seq fun K28 k29 => ?_
 refine V.sr h27 [] 17 18 [(19, .bool false)] fun a h32 => ?_
 refine V.cf h32 ?_
 refine V.exit ?_
 refine V.then_e ?_
 refine V.then_e ?_
 refine V.blk_hit ?_
 refine V.then_n (k24 _ _ ?_)
 refine V.sr h32 [] 78 78 [(4, .string ⟨#[]⟩), (5, .bool false), (6, .slice none 0 0)] fun a h35 => ?_
 refine V.ret ?_
 refine V.r3 h35 (.string ⟨#[]⟩) (.bool false) (.slice none 0 0) ?_
 exact ⟨rfl, hF_17⟩
set_option maxHeartbeats 4000000 in
set_option maxRecDepth 20000 in
theorem npick_s (w : World) (sp : Nat) (hB : Blk w sp [.pointer none] 63) (now dr role : Int) (Aa : Option Addr) (na ca : Nat) : Calls Tryz.prog 11 #[.pointer (some ⟨sp, 0, none⟩), .agg #[.int .i64 now, .int .u64 dr, .int .i64 role, .slice Aa na ca]] w (fun e w' => e = .returned (.tuple #[.string ⟨#[]⟩, .bool false, .slice none 0 0]) ∧ Fr [] w w') := by
 have hF := Fr.refl [] w
 have hspl := hB.lt
 refine V.en 79 Tryz.func11 fun a h1 => ?_
 refine V.sg fun K2 k3 => ?_
 refine V.go (V.mk [(1, .agg #[.int .i64 now, .int .u64 dr, .int .i64 role, .slice Aa na ca])] ⟨h1.e, trivial⟩ (by kernel_rfl) [.int .i64 now, .int .u64 dr, .int .i64 role, .slice Aa na ca] 27 (fun b => .pointer (some ⟨b, 0, none⟩)) (by kernel_rfl) ?_)
 intro w5 b4 heb4 hB6 hF7 hsb4
 have hF_8 := hF.new hF7
 have hB_9 := hB.fr0 hF7
 refine V.pt h1 fun a h10 => ?_
 refine V.re h10 [] 4 6 [] fun a h11 => k3 _ _ ?_
 refine V.sg fun K12 k13 => ?_
 refine V.run h11 [] 1 1 0 [(13, .pointer (some ⟨sp, 0, none⟩))] fun a h14 => ?_
 refine V.cl h14 (Go.Proofs.enters_of Tryz.func34 (by kernel_rfl) rfl) (nsorted_s w5 sp hB_9 (.func 35) #[] #[]) ?_
 rintro _ w16 ⟨rfl, hF15⟩
 refine ⟨_, rfl, fun a h17 => ?_⟩
 have hsw16 := hF15.size
 have hF_18 := hF_8.new hF15
 have hB_19 := hB_9.fr0 hF15
 have hB6_20 := hB6.fr0 hF15
 refine V.re h17 [] 1 0 [(7, .slice none 0 0)] fun a h21 => k13 _ _ ?_
 refine V.sr h21 [] 1 0 [(8, .slice none 0 0)] fun a h24 => ?_
 refine V.seq fun K25 k26 => ?_
 refine V.sr h24 [(1, .b hB6_20 1)] 15 16 [(9, .int .u64 dr)] fun a h29 => ?_
 refine V.block ?_
 refine V.loopR 1 ?_
 refine V.rnd ?_
 refine V.seq fun K30 k31 => ?_
 refine V.sr h29 [] 17 18 [(19, .bool false)] fun a h34 => ?_
 refine V.cf h34 ?_
 refine V.exit ?_
 refine V.then_e ?_
 refine V.then_e ?_
 refine V.blk_hit ?_
 refine V.then_n (k26 _ _ ?_)
 refine V.sr h34 [] 78 78 [(4, .string ⟨#[]⟩), (5, .bool false), (6, .slice none 0 0)] fun a h37 => ?_
 refine V.ret ?_
 refine V.r3 h37 (.string ⟨#[]⟩) (.bool false) (.slice none 0 0) ?_
 exact ⟨rfl, hF_18⟩
set_option maxHeartbeats 4000000 in
set_option maxRecDepth 20000 in
theorem nend_n (w : World)  (key : ByteArray) (at' : Int) : Calls Tryz.prog 21 #[.pointer none, .string key, .int .i64 at'] w (fun e w' => e = .returned (.bool false) ∧ Fr [] w w') := by
 have hF := Fr.refl [] w
 refine V.en 45 Tryz.func21 fun a h1 => ?_
 refine V.sr h1 [] 6 6 [] fun a h4 => ?_
 refine V.seq fun K5 k6 => ?_
 refine V.sg fun K7 k8 => ?_
 refine V.run h4 [] 1 1 0 [(9, .pointer none)] fun a h9 => ?_
 refine V.cl h9 (Go.Proofs.enters_of Tryz.func29 (by kernel_rfl) rfl) (nis_n w) ?_
 rintro _ w11 ⟨rfl, hF10⟩
 refine ⟨_, rfl, fun a h12 => ?_⟩
 have hsw11 := hF10.size
 have hF_13 := hF.new hF10
 refine V.re h12 [] 11 22 [(23, .bool true)] fun a h14 => k8 _ _ ?_
 refine V.ct h14 ?_
 refine V.sr h14 [] 1 0 [(6, .bool false)] fun a h17 => ?_
 refine V.ret ?_
 refine V.then_r ?_
 refine V.r1 h17 (.bool false) ?_
 exact ⟨rfl, hF_13⟩
set_option maxHeartbeats 4000000 in
set_option maxRecDepth 20000 in
theorem nend_s (w : World) (sp : Nat) (hB : Blk w sp [.pointer none] 63) (key : ByteArray) (at' : Int) : Calls Tryz.prog 21 #[.pointer (some ⟨sp, 0, none⟩), .string key, .int .i64 at'] w (fun e w' => e = .returned (.bool false) ∧ Fr [] w w') := by
 have hF := Fr.refl [] w
 have hspl := hB.lt
 refine V.en 45 Tryz.func21 fun a h1 => ?_
 refine V.sr h1 [] 6 6 [] fun a h4 => ?_
 refine V.seq fun K5 k6 => ?_
 refine V.sg fun K7 k8 => ?_
 refine V.run h4 [] 1 1 0 [(9, .pointer (some ⟨sp, 0, none⟩))] fun a h9 => ?_
 refine V.cl h9 (Go.Proofs.enters_of Tryz.func29 (by kernel_rfl) rfl) (nis_s w sp hB) ?_
 rintro _ w11 ⟨rfl, hF10⟩
 refine ⟨_, rfl, fun a h12 => ?_⟩
 have hsw11 := hF10.size
 have hF_13 := hF.new hF10
 have hB_14 := hB.fr0 hF10
 refine V.re h12 [] 11 22 [(23, .bool true)] fun a h15 => k8 _ _ ?_
 refine V.ct h15 ?_
 refine V.sr h15 [] 1 0 [(6, .bool false)] fun a h18 => ?_
 refine V.ret ?_
 refine V.then_r ?_
 refine V.r1 h18 (.bool false) ?_
 exact ⟨rfl, hF_13⟩
set_option maxHeartbeats 4000000 in
set_option maxRecDepth 20000 in
theorem ndel_n (w : World)  (key : ByteArray) : Calls Tryz.prog 18 #[.pointer none, .string key] w (fun e w' => e = .returned (.bool false) ∧ Fr [] w w') := by
 have hF := Fr.refl [] w
 refine V.en 15 Tryz.func18 fun a h1 => ?_
 refine V.sr h1 [] 4 4 [] fun a h4 => ?_
 refine V.sg fun K5 k6 => ?_
 refine V.run h4 [] 1 1 0 [(5, .pointer none)] fun a h7 => ?_
 refine V.cl h7 (Go.Proofs.enters_of Tryz.func29 (by kernel_rfl) rfl) (nis_n w) ?_
 rintro _ w9 ⟨rfl, hF8⟩
 refine ⟨_, rfl, fun a h10 => ?_⟩
 have hsw9 := hF8.size
 have hF_11 := hF.new hF8
 refine V.re h10 [] 7 14 [(4, .bool false)] fun a h12 => k6 _ _ ?_
 refine V.ret ?_
 refine V.r1 h12 (.bool false) ?_
 exact ⟨rfl, hF_11⟩
set_option maxHeartbeats 4000000 in
set_option maxRecDepth 20000 in
theorem ndel_s (w : World) (sp : Nat) (hB : Blk w sp [.pointer none] 63) (key : ByteArray) : Calls Tryz.prog 18 #[.pointer (some ⟨sp, 0, none⟩), .string key] w (fun e w' => e = .returned (.bool false) ∧ Fr [] w w') := by
 have hF := Fr.refl [] w
 have hspl := hB.lt
 refine V.en 15 Tryz.func18 fun a h1 => ?_
 refine V.sr h1 [] 4 4 [] fun a h4 => ?_
 refine V.sg fun K5 k6 => ?_
 refine V.run h4 [] 1 1 0 [(5, .pointer (some ⟨sp, 0, none⟩))] fun a h7 => ?_
 refine V.cl h7 (Go.Proofs.enters_of Tryz.func29 (by kernel_rfl) rfl) (nis_s w sp hB) ?_
 rintro _ w9 ⟨rfl, hF8⟩
 refine ⟨_, rfl, fun a h10 => ?_⟩
 have hsw9 := hF8.size
 have hF_11 := hF.new hF8
 have hB_12 := hB.fr0 hF8
 refine V.re h10 [] 7 14 [(4, .bool false)] fun a h13 => k6 _ _ ?_
 refine V.ret ?_
 refine V.r1 h13 (.bool false) ?_
 exact ⟨rfl, hF_11⟩
set_option maxHeartbeats 4000000 in
set_option maxRecDepth 20000 in
theorem nimage_n (w : World)   : Calls Tryz.prog 14 #[.pointer none] w (fun e w' => e = .returned (.slice none 0 0) ∧ Fr [] w w') := by
 have hF := Fr.refl [] w
 refine V.en 29 Tryz.func14 fun a h1 => ?_
 refine V.sr h1 [] 2 2 [] fun a h4 => ?_
 refine V.seq fun K5 k6 => ?_
 refine V.sg fun K7 k8 => ?_
 refine V.run h4 [] 1 1 0 [(6, .pointer none)] fun a h9 => ?_
 refine V.cl h9 (Go.Proofs.enters_of Tryz.func29 (by kernel_rfl) rfl) (nis_n w) ?_
 rintro _ w11 ⟨rfl, hF10⟩
 refine ⟨_, rfl, fun a h12 => ?_⟩
 have hsw11 := hF10.size
 have hF_13 := hF.new hF10
 refine V.re h12 [] 1 0 [(8, .bool true)] fun a h14 => k8 _ _ ?_
 refine V.ct h14 ?_
 refine V.sr h14 [] 1 0 [(2, .slice none 0 0)] fun a h17 => ?_
 refine V.ret ?_
 refine V.then_r ?_
 refine V.r1 h17 (.slice none 0 0) ?_
 exact ⟨rfl, hF_13⟩
set_option maxHeartbeats 4000000 in
set_option maxRecDepth 20000 in
theorem nimage_s (w : World) (sp : Nat) (hB : Blk w sp [.pointer none] 63)  : Calls Tryz.prog 14 #[.pointer (some ⟨sp, 0, none⟩)] w (fun e w' => e = .returned (.slice none 0 0) ∧ Fr [] w w') := by
 have hF := Fr.refl [] w
 have hspl := hB.lt
 refine V.en 29 Tryz.func14 fun a h1 => ?_
 refine V.sr h1 [] 2 2 [] fun a h4 => ?_
 refine V.seq fun K5 k6 => ?_
 refine V.sg fun K7 k8 => ?_
 refine V.run h4 [] 1 1 0 [(6, .pointer (some ⟨sp, 0, none⟩))] fun a h9 => ?_
 refine V.cl h9 (Go.Proofs.enters_of Tryz.func29 (by kernel_rfl) rfl) (nis_s w sp hB) ?_
 rintro _ w11 ⟨rfl, hF10⟩
 refine ⟨_, rfl, fun a h12 => ?_⟩
 have hsw11 := hF10.size
 have hF_13 := hF.new hF10
 have hB_14 := hB.fr0 hF10
 refine V.re h12 [] 1 0 [(8, .bool true)] fun a h15 => k8 _ _ ?_
 refine V.ct h15 ?_
 refine V.sr h15 [] 1 0 [(2, .slice none 0 0)] fun a h18 => ?_
 refine V.ret ?_
 refine V.then_r ?_
 refine V.r1 h18 (.slice none 0 0) ?_
 exact ⟨rfl, hF_13⟩
set_option maxHeartbeats 4000000 in
set_option maxRecDepth 20000 in
theorem nclear_n (w : World)   : Calls Tryz.prog 22 #[.pointer none] w (fun e w' => e = .returned (.int .i64 0) ∧ Fr [] w w') := by
 have hF := Fr.refl [] w
 refine V.en 13 Tryz.func22 fun a h1 => ?_
 refine V.sr h1 [] 2 2 [] fun a h4 => ?_
 refine V.sg fun K5 k6 => ?_
 refine V.run h4 [] 1 1 0 [(4, .pointer none)] fun a h7 => ?_
 refine V.cl h7 (Go.Proofs.enters_of Tryz.func17 (by kernel_rfl) rfl) (nlen_n w) ?_
 rintro _ w9 ⟨rfl, hF8⟩
 refine ⟨_, rfl, fun a h10 => ?_⟩
 have hsw9 := hF8.size
 have hF_11 := hF.new hF8
 refine V.re h10 [] 1 0 [(3, .int .i64 0)] fun a h12 => k6 _ _ ?_
 refine V.seq fun K13 k14 => ?_
 refine V.sr h12 [] 6 6 [(7, .bool false)] fun a h17 => ?_
 refine V.cf h17 ?_
 refine V.skip ?_
 refine V.then_n (k14 _ _ ?_)
 refine V.sr h17 [] 12 12 [(2, .int .i64 0)] fun a h20 => ?_
 refine V.ret ?_
 refine V.r1 h20 (.int .i64 0) ?_
 exact ⟨rfl, hF_11⟩
set_option maxHeartbeats 4000000 in
set_option maxRecDepth 20000 in
theorem nclear_s (w : World) (sp : Nat) (hB : Blk w sp [.pointer none] 63)  : Calls Tryz.prog 22 #[.pointer (some ⟨sp, 0, none⟩)] w (fun e w' => e = .returned (.int .i64 0) ∧ Fr [] w w') := by
 have hF := Fr.refl [] w
 have hspl := hB.lt
 refine V.en 13 Tryz.func22 fun a h1 => ?_
 refine V.sr h1 [] 2 2 [] fun a h4 => ?_
 refine V.sg fun K5 k6 => ?_
 refine V.run h4 [] 1 1 0 [(4, .pointer (some ⟨sp, 0, none⟩))] fun a h7 => ?_
 refine V.cl h7 (Go.Proofs.enters_of Tryz.func17 (by kernel_rfl) rfl) (nlen_s w sp hB) ?_
 rintro _ w9 ⟨rfl, hF8⟩
 refine ⟨_, rfl, fun a h10 => ?_⟩
 have hsw9 := hF8.size
 have hF_11 := hF.new hF8
 have hB_12 := hB.fr0 hF8
 refine V.re h10 [] 1 0 [(3, .int .i64 0)] fun a h13 => k6 _ _ ?_
 refine V.seq fun K14 k15 => ?_
 refine V.sr h13 [] 6 6 [(7, .bool false)] fun a h18 => ?_
 refine V.cf h18 ?_
 refine V.skip ?_
 refine V.then_n (k15 _ _ ?_)
 refine V.sr h18 [] 12 12 [(2, .int .i64 0)] fun a h21 => ?_
 refine V.ret ?_
 refine V.r1 h21 (.int .i64 0) ?_
 exact ⟨rfl, hF_11⟩
set_option maxHeartbeats 4000000 in
set_option maxRecDepth 20000 in
theorem nover_n (w : World)  (now : Int) : Calls Tryz.prog 23 #[.pointer none, .int .i64 now] w (fun e w' => e = .returned (.int .i64 0) ∧ Fr [] w w') := by
 have hF := Fr.refl [] w
 refine V.en 9 Tryz.func23 fun a h1 => ?_
 refine V.sg fun K2 k3 => ?_
 refine V.go (V.mk [(1, .int .i64 now)] ⟨h1.e, trivial⟩ (by kernel_rfl) [.int .i64 now] 3 (fun b => .pointer (some ⟨b, 0, none⟩)) (by kernel_rfl) ?_)
 intro w5 b4 heb4 hB6 hF7 hsb4
 have hF_8 := hF.new hF7
 refine V.pt h1 fun a h9 => ?_
 refine V.re h9 [] 4 4 [] fun a h10 => k3 _ _ ?_
 refine V.sg fun K11 k12 => ?_
 refine V.run h10 [] 2 1 0 [(5, .pointer none), (6, .func (.func 55) #[] #[.pointer (some ⟨b4, 0, none⟩)])] fun a h13 => ?_
 refine V.cl h13 (Go.Proofs.enters_of Tryz.func34 (by kernel_rfl) rfl) (nsorted_n w5 (.func 55) #[] #[.pointer (some ⟨b4, 0, none⟩)]) ?_
 rintro _ w15 ⟨rfl, hF14⟩
 refine ⟨_, rfl, fun a h16 => ?_⟩
 have hsw15 := hF14.size
 have hF_17 := hF_8.new hF14
 have hB6_18 := hB6.fr0 hF14
 refine V.re h16 [] 8 8 [(4, .int .i64 0)] fun a h19 => k12 _ _ ?_
 refine V.ret ?_
 refine V.r1 h19 (.int .i64 0) ?_
 exact ⟨rfl, hF_17⟩
set_option maxHeartbeats 4000000 in
set_option maxRecDepth 20000 in
theorem nover_s (w : World) (sp : Nat) (hB : Blk w sp [.pointer none] 63) (now : Int) : Calls Tryz.prog 23 #[.pointer (some ⟨sp, 0, none⟩), .int .i64 now] w (fun e w' => e = .returned (.int .i64 0) ∧ Fr [] w w') := by
 have hF := Fr.refl [] w
 have hspl := hB.lt
 refine V.en 9 Tryz.func23 fun a h1 => ?_
 refine V.sg fun K2 k3 => ?_
 refine V.go (V.mk [(1, .int .i64 now)] ⟨h1.e, trivial⟩ (by kernel_rfl) [.int .i64 now] 3 (fun b => .pointer (some ⟨b, 0, none⟩)) (by kernel_rfl) ?_)
 intro w5 b4 heb4 hB6 hF7 hsb4
 have hF_8 := hF.new hF7
 have hB_9 := hB.fr0 hF7
 refine V.pt h1 fun a h10 => ?_
 refine V.re h10 [] 4 4 [] fun a h11 => k3 _ _ ?_
 refine V.sg fun K12 k13 => ?_
 refine V.run h11 [] 2 1 0 [(5, .pointer (some ⟨sp, 0, none⟩)), (6, .func (.func 55) #[] #[.pointer (some ⟨b4, 0, none⟩)])] fun a h14 => ?_
 refine V.cl h14 (Go.Proofs.enters_of Tryz.func34 (by kernel_rfl) rfl) (nsorted_s w5 sp hB_9 (.func 55) #[] #[.pointer (some ⟨b4, 0, none⟩)]) ?_
 rintro _ w16 ⟨rfl, hF15⟩
 refine ⟨_, rfl, fun a h17 => ?_⟩
 have hsw16 := hF15.size
 have hF_18 := hF_8.new hF15
 have hB_19 := hB_9.fr0 hF15
 have hB6_20 := hB6.fr0 hF15
 refine V.re h17 [] 8 8 [(4, .int .i64 0)] fun a h21 => k13 _ _ ?_
 refine V.ret ?_
 refine V.r1 h21 (.int .i64 0) ?_
 exact ⟨rfl, hF_18⟩
set_option maxHeartbeats 4000000 in
set_option maxRecDepth 20000 in
theorem nkeys_n (w : World)  (now dr role : Int) (Aa : Option Addr) (na ca : Nat) : Calls Tryz.prog 12 #[.pointer none, .agg #[.int .i64 now, .int .u64 dr, .int .i64 role, .slice Aa na ca]] w (fun e w' => e = .returned (.slice none 0 0) ∧ Fr [] w w') := by
 have hF := Fr.refl [] w
 refine V.en 8 Tryz.func12 fun a h1 => ?_
 refine V.sg fun K2 k3 => ?_
 refine V.go (V.mk [(1, .agg #[.int .i64 now, .int .u64 dr, .int .i64 role, .slice Aa na ca])] ⟨h1.e, trivial⟩ (by kernel_rfl) [.int .i64 now, .int .u64 dr, .int .i64 role, .slice Aa na ca] 27 (fun b => .pointer (some ⟨b, 0, none⟩)) (by kernel_rfl) ?_)
 intro w5 b4 heb4 hB6 hF7 hsb4
 have hF_8 := hF.new hF7
 refine V.pt h1 fun a h9 => ?_
 refine V.re h9 [] 4 4 [] fun a h10 => k3 _ _ ?_
 refine V.sg fun K11 k12 => ?_
 refine V.run h10 [] 2 1 0 [(5, .pointer none), (6, .func (.func 39) #[] #[.pointer (some ⟨b4, 0, none⟩)])] fun a h13 => ?_
 refine V.cl h13 (Go.Proofs.enters_of Tryz.func34 (by kernel_rfl) rfl) (nsorted_n w5 (.func 39) #[] #[.pointer (some ⟨b4, 0, none⟩)]) ?_
 rintro _ w15 ⟨rfl, hF14⟩
 refine ⟨_, rfl, fun a h16 => ?_⟩
 have hsw15 := hF14.size
 have hF_17 := hF_8.new hF14
 have hB6_18 := hB6.fr0 hF14
 refine V.re h16 [] 1 0 [(4, .slice none 0 0)] fun a h19 => k12 _ _ ?_
 refine V.ret ?_
 refine V.r1 h19 (.slice none 0 0) ?_
 exact ⟨rfl, hF_17⟩
set_option maxHeartbeats 4000000 in
set_option maxRecDepth 20000 in
theorem nkeys_s (w : World) (sp : Nat) (hB : Blk w sp [.pointer none] 63) (now dr role : Int) (Aa : Option Addr) (na ca : Nat) : Calls Tryz.prog 12 #[.pointer (some ⟨sp, 0, none⟩), .agg #[.int .i64 now, .int .u64 dr, .int .i64 role, .slice Aa na ca]] w (fun e w' => e = .returned (.slice none 0 0) ∧ Fr [] w w') := by
 have hF := Fr.refl [] w
 have hspl := hB.lt
 refine V.en 8 Tryz.func12 fun a h1 => ?_
 refine V.sg fun K2 k3 => ?_
 refine V.go (V.mk [(1, .agg #[.int .i64 now, .int .u64 dr, .int .i64 role, .slice Aa na ca])] ⟨h1.e, trivial⟩ (by kernel_rfl) [.int .i64 now, .int .u64 dr, .int .i64 role, .slice Aa na ca] 27 (fun b => .pointer (some ⟨b, 0, none⟩)) (by kernel_rfl) ?_)
 intro w5 b4 heb4 hB6 hF7 hsb4
 have hF_8 := hF.new hF7
 have hB_9 := hB.fr0 hF7
 refine V.pt h1 fun a h10 => ?_
 refine V.re h10 [] 4 4 [] fun a h11 => k3 _ _ ?_
 refine V.sg fun K12 k13 => ?_
 refine V.run h11 [] 2 1 0 [(5, .pointer (some ⟨sp, 0, none⟩)), (6, .func (.func 39) #[] #[.pointer (some ⟨b4, 0, none⟩)])] fun a h14 => ?_
 refine V.cl h14 (Go.Proofs.enters_of Tryz.func34 (by kernel_rfl) rfl) (nsorted_s w5 sp hB_9 (.func 39) #[] #[.pointer (some ⟨b4, 0, none⟩)]) ?_
 rintro _ w16 ⟨rfl, hF15⟩
 refine ⟨_, rfl, fun a h17 => ?_⟩
 have hsw16 := hF15.size
 have hF_18 := hF_8.new hF15
 have hB_19 := hB_9.fr0 hF15
 have hB6_20 := hB6.fr0 hF15
 refine V.re h17 [] 1 0 [(4, .slice none 0 0)] fun a h21 => k13 _ _ ?_
 refine V.ret ?_
 refine V.r1 h21 (.slice none 0 0) ?_
 exact ⟨rfl, hF_18⟩
end Go.Proofs.YtjkegckfncfoaaaGreat
end
section
namespace Go.Proofs.YtjkegckfncfoaaaGreat
open Go.V Go.Base
open Go.RowKit (Below)
attribute [local irreducible] Act.put Act.eval
set_option linter.unusedVariables false
set_option linter.unusedSimpArgs false
set_option maxHeartbeats 4000000 in
set_option maxRecDepth 20000 in
theorem ins0_any (w : World) (fv : Value) : Calls Tryz.prog 116 #[.slice none 0 0, .int .i64 0, .int .i64 0, fv] w (fun e w' => e = .returned (.tuple #[]) ∧ Fr [] w w') := by
 have hF := Fr.refl [] w
 refine V.en 53 Tryz.func116 fun a h1 => ?_
 refine V.sr h1 [] 10 11 [(8, .int .i64 1)] fun a h4 => ?_
 refine V.block ?_
 refine V.loopR 1 ?_
 refine V.rnd ?_
 refine V.seq fun K5 k6 => ?_
 refine V.sr h4 [] 12 13 [(14, .bool false)] fun a h9 => ?_
 refine V.cf h9 ?_
 refine V.exit ?_
 refine V.then_e ?_
 refine V.then_e ?_
 refine V.blk_hit ?_
 refine V.e0 h9 ?_
 exact ⟨rfl, hF⟩
set_option maxHeartbeats 4000000 in
set_option maxRecDepth 20000 in
theorem stb0_any (w : World) (fv : Value) : Calls Tryz.prog 85 #[.slice none 0 0, .int .i64 0, fv] w (fun e w' => e = .returned (.tuple #[]) ∧ Fr [] w w') := by
 have hF := Fr.refl [] w
 refine V.en 63 Tryz.func85 fun a h1 => ?_
 refine V.sr h1 [] 1 0 [(6, .int .i64 20)] fun a h4 => ?_
 refine V.sr h4 [] 10 10 [(7, .int .i64 0), (8, .int .i64 20)] fun a h7 => ?_
 refine V.seq fun K8 k9 => ?_
 refine V.block ?_
 refine V.loopR 1 ?_
 refine V.rnd ?_
 refine V.seq fun K10 k11 => ?_
 refine V.sr h7 [] 11 12 [(13, .bool false)] fun a h14 => ?_
 refine V.cf h14 ?_
 refine V.exit ?_
 refine V.then_e ?_
 refine V.then_e ?_
 refine V.blk_hit ?_
 refine V.then_n (k9 _ _ ?_)
 refine V.sg fun K15 k16 => ?_
 refine V.run h14 [] 4 1 0 [(23, .slice none 0 0), (24, .int .i64 0), (25, .int .i64 0), (26, fv)] fun a h17 => ?_
 refine V.cl h17 (Go.Proofs.enters_of Tryz.func116 (by kernel_rfl) rfl) (ins0_any w (fv)) ?_
 rintro _ w19 ⟨rfl, hF18⟩
 refine ⟨_, rfl, fun a h20 => ?_⟩
 have hsw19 := hF18.size
 have hF_21 := hF.new hF18
 refine V.nt (k16 _ _ ?_)
 refine V.block ?_
 refine V.loopR 1 ?_
 refine V.rnd ?_
 refine V.seq fun K22 k23 => ?_
 refine V.sr h20 [] 28 29 [(30, .bool false)] fun a h26 => ?_
 refine V.cf h26 ?_
 refine V.exit ?_
 refine V.then_e ?_
 refine V.then_e ?_
 refine V.blk_hit ?_
 refine V.e0 h26 ?_
 exact ⟨rfl, hF_21⟩
set_option maxHeartbeats 4000000 in
set_option maxRecDepth 20000 in
theorem sst0_any (w : World) (fv : Value) : Calls Tryz.prog 49 #[.slice none 0 0, fv] w (fun e w' => e = .returned (.tuple #[]) ∧ Fr [] w w') := by
 have hF := Fr.refl [] w
 refine V.en 9 Tryz.func49 fun a h1 => ?_
 refine V.rg ?_
 refine V.run h1 [] 4 5 5 [(4, .slice none 0 0), (6, .int .i64 0), (7, fv)] fun a h2 => ?_
 refine V.cl h2 (Go.Proofs.enters_of Tryz.func85 (by kernel_rfl) rfl) (stb0_any w (fv)) ?_
 rintro _ w4 ⟨rfl, hF3⟩
 refine ⟨_, rfl, fun a h5 => ?_⟩
 have hsw4 := hF3.size
 have hF_6 := hF.new hF3
 refine V.nil ?_
 refine V.e0 h5 ?_
 exact ⟨rfl, hF_6⟩
set_option maxHeartbeats 4000000 in
set_option maxRecDepth 20000 in
theorem nexpire_n (w : World)  (now most : Int) : Calls Tryz.prog 16 #[.pointer none, .int .i64 now, .int .i64 most] w (fun e w' => e = .returned (.slice none 0 0) ∧ Fr [] w w') := by
 have hF := Fr.refl [] w
 refine V.en 42 Tryz.func16 fun a h1 => ?_
 refine V.sg fun K2 k3 => ?_
 refine V.go (V.mk [(0, .pointer none)] ⟨h1.e, trivial⟩ (by kernel_rfl) [.pointer none] 29 (fun b => .pointer (some ⟨b, 0, none⟩)) (by kernel_rfl) ?_)
 intro w5 b4 heb4 hB6 hF7 hsb4
 have hF_8 := hF.new hF7
 refine V.pt h1 fun a h9 => ?_
 refine V.go (V.mk [(1, .int .i64 now)] ⟨h9.e, trivial⟩ (by kernel_rfl) [.int .i64 now] 3 (fun b => .pointer (some ⟨b, 0, none⟩)) (by kernel_rfl) ?_)
 intro w11 b10 heb10 hB12 hF13 hsb10
 have hF_14 := hF_8.new hF13
 have hB6_15 := hB6.fr0 hF13
 refine V.pt h9 fun a h16 => ?_
 refine V.re h16 [] 6 6 [] fun a h17 => k3 _ _ ?_
 refine V.sg fun K18 k19 => ?_
 refine V.run h17 [(0, .b hB6_15 0)] 2 1 0 [(11, .pointer none), (12, .func (.func 47) #[] #[.pointer (some ⟨b10, 0, none⟩)])] fun a h20 => ?_
 refine V.cl h20 (Go.Proofs.enters_of Tryz.func34 (by kernel_rfl) rfl) (nsorted_n w11 (.func 47) #[] #[.pointer (some ⟨b10, 0, none⟩)]) ?_
 rintro _ w22 ⟨rfl, hF21⟩
 refine ⟨_, rfl, fun a h23 => ?_⟩
 have hsw22 := hF21.size
 have hF_24 := hF_14.new hF21
 have hB6_25 := hB6_15.fr0 hF21
 have hB12_26 := hB12.fr0 hF21
 refine V.re h23 [] 1 0 [(7, .slice none 0 0)] fun a h27 => k19 _ _ ?_
 refine V.sg fun K28 k29 => ?_
 refine V.run h27 [] 2 1 0 [(14, .slice none 0 0), (15, .func (.func 50) #[] #[.pointer (some ⟨b4, 0, none⟩)])] fun a h30 => ?_
 refine V.cl h30 (Go.Proofs.enters_of Tryz.func49 (by kernel_rfl) rfl) (sst0_any w22 (.func (.func 50) #[] #[.pointer (some ⟨b4, 0, none⟩)])) ?_
 rintro _ w32 ⟨rfl, hF31⟩
 refine ⟨_, rfl, fun a h33 => ?_⟩
 have hsw32 := hF31.size
 have hF_34 := hF_24.new hF31
 have hB6_35 := hB6_25.fr0 hF31
 have hB12_36 := hB12_26.fr0 hF31
 refine V.nt (k29 _ _ ?_)
 refine V.sr h33 [] 1 0 [(8, .slice none 0 0)] fun a h39 => ?_
 refine V.seq fun K40 k41 => ?_
 refine V.sr h39 [(4, .q (.int .i64 (min most 0)) V.min_int), (0, .q (.int .i64 0) (V.max_int.trans (V.int_eq (show max (0 : Int) (min most 0) = 0 by omega))))] 17 22 [(23, .slice none 0 0), (24, .int .i64 0), (25, .int .i64 0)] fun a h44 => ?_
 refine V.block ?_
 refine V.loopR 1 ?_
 refine V.rnd ?_
 refine V.sr h44 [] 1 0 [(26, .bool false)] fun a h47 => ?_
 refine V.seq fun K48 k49 => ?_
 refine V.cf h47 ?_
 refine V.exit ?_
 refine V.then_e ?_
 refine V.then_e ?_
 refine V.blk_hit ?_
 refine V.then_n (k41 _ _ ?_)
 refine V.sr h47 [] 41 41 [(6, .slice none 0 0)] fun a h52 => ?_
 refine V.ret ?_
 refine V.r1 h52 (.slice none 0 0) ?_
 exact ⟨rfl, hF_34⟩
set_option maxHeartbeats 4000000 in
set_option maxRecDepth 20000 in
theorem nexpire_s (w : World) (sp : Nat) (hB : Blk w sp [.pointer none] 63) (now most : Int) : Calls Tryz.prog 16 #[.pointer (some ⟨sp, 0, none⟩), .int .i64 now, .int .i64 most] w (fun e w' => e = .returned (.slice none 0 0) ∧ Fr [] w w') := by
 have hF := Fr.refl [] w
 have hspl := hB.lt
 refine V.en 42 Tryz.func16 fun a h1 => ?_
 refine V.sg fun K2 k3 => ?_
 refine V.go (V.mk [(0, .pointer (some ⟨sp, 0, none⟩))] ⟨h1.e, trivial⟩ (by kernel_rfl) [.pointer (some ⟨sp, 0, none⟩)] 29 (fun b => .pointer (some ⟨b, 0, none⟩)) (by kernel_rfl) ?_)
 intro w5 b4 heb4 hB6 hF7 hsb4
 have hF_8 := hF.new hF7
 have hB_9 := hB.fr0 hF7
 refine V.pt h1 fun a h10 => ?_
 refine V.go (V.mk [(1, .int .i64 now)] ⟨h10.e, trivial⟩ (by kernel_rfl) [.int .i64 now] 3 (fun b => .pointer (some ⟨b, 0, none⟩)) (by kernel_rfl) ?_)
 intro w12 b11 heb11 hB13 hF14 hsb11
 have hF_15 := hF_8.new hF14
 have hB_16 := hB_9.fr0 hF14
 have hB6_17 := hB6.fr0 hF14
 refine V.pt h10 fun a h18 => ?_
 refine V.re h18 [] 6 6 [] fun a h19 => k3 _ _ ?_
 refine V.sg fun K20 k21 => ?_
 refine V.run h19 [(0, .b hB6_17 0)] 2 1 0 [(11, .pointer (some ⟨sp, 0, none⟩)), (12, .func (.func 47) #[] #[.pointer (some ⟨b11, 0, none⟩)])] fun a h22 => ?_
 refine V.cl h22 (Go.Proofs.enters_of Tryz.func34 (by kernel_rfl) rfl) (nsorted_s w12 sp hB_16 (.func 47) #[] #[.pointer (some ⟨b11, 0, none⟩)]) ?_
 rintro _ w24 ⟨rfl, hF23⟩
 refine ⟨_, rfl, fun a h25 => ?_⟩
 have hsw24 := hF23.size
 have hF_26 := hF_15.new hF23
 have hB_27 := hB_16.fr0 hF23
 have hB6_28 := hB6_17.fr0 hF23
 have hB13_29 := hB13.fr0 hF23
 refine V.re h25 [] 1 0 [(7, .slice none 0 0)] fun a h30 => k21 _ _ ?_
 refine V.sg fun K31 k32 => ?_
 refine V.run h30 [] 2 1 0 [(14, .slice none 0 0), (15, .func (.func 50) #[] #[.pointer (some ⟨b4, 0, none⟩)])] fun a h33 => ?_
 refine V.cl h33 (Go.Proofs.enters_of Tryz.func49 (by kernel_rfl) rfl) (sst0_any w24 (.func (.func 50) #[] #[.pointer (some ⟨b4, 0, none⟩)])) ?_
 rintro _ w35 ⟨rfl, hF34⟩
 refine ⟨_, rfl, fun a h36 => ?_⟩
 have hsw35 := hF34.size
 have hF_37 := hF_26.new hF34
 have hB_38 := hB_27.fr0 hF34
 have hB6_39 := hB6_28.fr0 hF34
 have hB13_40 := hB13_29.fr0 hF34
 refine V.nt (k32 _ _ ?_)
 refine V.sr h36 [] 1 0 [(8, .slice none 0 0)] fun a h43 => ?_
 refine V.seq fun K44 k45 => ?_
 refine V.sr h43 [(4, .q (.int .i64 (min most 0)) V.min_int), (0, .q (.int .i64 0) (V.max_int.trans (V.int_eq (show max (0 : Int) (min most 0) = 0 by omega))))] 17 22 [(23, .slice none 0 0), (24, .int .i64 0), (25, .int .i64 0)] fun a h48 => ?_
 refine V.block ?_
 refine V.loopR 1 ?_
 refine V.rnd ?_
 refine V.sr h48 [] 1 0 [(26, .bool false)] fun a h51 => ?_
 refine V.seq fun K52 k53 => ?_
 refine V.cf h51 ?_
 refine V.exit ?_
 refine V.then_e ?_
 refine V.then_e ?_
 refine V.blk_hit ?_
 refine V.then_n (k45 _ _ ?_)
 refine V.sr h51 [] 41 41 [(6, .slice none 0 0)] fun a h56 => ?_
 refine V.ret ?_
 refine V.r1 h56 (.slice none 0 0) ?_
 exact ⟨rfl, hF_37⟩
set_option maxHeartbeats 4000000 in
set_option maxRecDepth 20000 in
theorem spaceNobody_any (w : World) (now dr role : Int) (Aa : Option Addr) (na ca : Nat) (key : ByteArray) (at' : Int) : Calls Tryz.prog 5 #[.agg #[.int .i64 now, .int .u64 dr, .int .i64 role, .slice Aa na ca], .string key, .int .i64 at'] w (fun e w' => e = .returned (.bool true) ∧ Fr [] w w') := by
 have hF := Fr.refl [] w
 refine V.en 113 Tryz.func5 fun a h1 => ?_
 refine V.sg fun K2 k3 => ?_
 refine V.go (V.mk [(0, .agg #[.int .i64 now, .int .u64 dr, .int .i64 role, .slice Aa na ca])] ⟨h1.e, trivial⟩ (by kernel_rfl) [.int .i64 now, .int .u64 dr, .int .i64 role, .slice Aa na ca] 27 (fun b => .pointer (some ⟨b, 0, none⟩)) (by kernel_rfl) ?_)
 intro w5 b4 heb4 hB6 hF7 hsb4
 have hF_8 := hF.new hF7
 refine V.pt h1 fun a h9 => ?_
 refine V.re h9 [] 6 6 [] fun a h10 => k3 _ _ ?_
 refine V.sr h10 [] 1 0 [(7, .pointer none)] fun a h13 => ?_
 refine V.seq fun K14 k15 => ?_
 refine V.sg fun K16 k17 => ?_
 refine V.run h13 [] 2 1 0 [(19, .pointer none), (20, .agg #[.pointer none])] fun a h18 => ?_
 refine V.go (V.mk [(20, .agg #[.pointer none])] ⟨h18.e, trivial⟩ (by kernel_rfl) [.pointer none] 63 (fun b => .pointer (some ⟨b, 0, none⟩)) (by kernel_rfl) ?_)
 intro w20 b19 heb19 hB21 hF22 hsb19
 have hF_23 := hF_8.new hF22
 have hB6_24 := hB6.fr0 hF22
 refine V.pt h18 fun a h25 => ?_
 refine V.go (V.mk [(19, .pointer none), (21, .pointer (some ⟨b19, 0, none⟩))] ⟨h25.e, h25.e, trivial⟩ (by kernel_rfl) [.pointer none, .pointer (some ⟨b19, 0, none⟩)] 29 (fun b => .slice (some ⟨b, 0, none⟩) 2 2) (by kernel_rfl) ?_)
 intro w27 b26 heb26 hB28 hF29 hsb26
 have hF_30 := hF_23.new hF29
 have hB6_31 := hB6_24.fr0 hF29
 have hB21_32 := hB21.fr0 hF29
 refine V.pt h25 fun a h33 => ?_
 refine V.re h33 [] 1 0 [(23, .int .i64 2), (24, .int .i64 0)] fun a h34 => k17 _ _ ?_
 refine V.block ?_
 refine V.loopR 3 ?_
 refine V.rnd ?_
 refine V.sr h34 [] 1 0 [(25, .bool true)] fun a h37 => ?_
 refine V.seq fun K38 k39 => ?_
 refine V.ct h37 ?_
 refine V.skip ?_
 refine V.then_n (k39 _ _ ?_)
 refine V.seq fun K40 k41 => ?_
 refine V.block ?_
 refine V.sr h37 [(0, .ix b26 0 2 2 .i64 0 1 rfl), (0, .b hB28 0)] 26 27 [(9, .pointer none)] fun a h44 => ?_
 refine V.sg fun K45 k46 => ?_
 refine V.run h44 [(1, .bs hB6_31 0 [.int .i64 now, .int .u64 dr, .int .i64 role, .slice Aa na ca])] 3 1 0 [(29, .pointer none), (30, .agg #[.int .i64 now, .int .u64 dr, .int .i64 role, .slice Aa na ca]), (31, .string key)] fun a h47 => ?_
 refine V.cl h47 (Go.Proofs.enters_of Tryz.func10 (by kernel_rfl) rfl) (nget_n w27 now dr role Aa na ca key) ?_
 rintro _ w49 ⟨rfl, hF48⟩
 refine ⟨_, rfl, fun a h50 => ?_⟩
 have hsw49 := hF48.size
 have hF_51 := hF_30.new hF48
 have hB6_52 := hB6_31.fr0 hF48
 have hB21_53 := hB21_32.fr0 hF48
 have hB28_54 := hB28.fr0 hF48
 refine V.run h50 [] 4 28 28 [(33, .agg #[.int .i64 0, .string ⟨#[]⟩, .slice none 0 0, .slice none 0 0, .slice none 0 0]), (34, .bool false), (35, .slice none 0 0)] fun a h59 => ?_
 refine V.go (V.mk [] trivial (by kernel_rfl) [.int .i64 0, .string ⟨#[]⟩, .slice none 0 0, .slice none 0 0, .slice none 0 0] 37 (fun b => .pointer (some ⟨b, 0, none⟩)) (by kernel_rfl) ?_)
 intro w56 b55 heb55 hB57 hF58 hsb55
 have hF_60 := hF_51.new hF58
 have hB6_61 := hB6_52.fr0 hF58
 have hB21_62 := hB21_53.fr0 hF58
 have hB28_63 := hB28_54.fr0 hF58
 refine V.pt h59 fun a h64 => ?_
 refine V.go (V.stn b55 0 (.agg #[.int .i64 0, .string ⟨#[]⟩, .slice none 0 0, .slice none 0 0, .slice none 0 0]) [.int .i64 0, .string ⟨#[]⟩, .slice none 0 0, .slice none 0 0, .slice none 0 0] h64.e h64.e rfl rfl (by kernel_rfl) hB57 (by simp) [.int .i64 0, .string ⟨#[]⟩, .slice none 0 0, .slice none 0 0, .slice none 0 0] rfl ?_)
 intro w65 hB66 hF67 hsw65
 have hF_68 := hF_60.own hF67 (by simp <;> omega)
 have hB6_69 := hB6_61.fr1 hF67 (by omega)
 have hB21_70 := hB21_62.fr1 hF67 (by omega)
 have hB28_71 := hB28_63.fr1 hF67 (by omega)
 refine V.re h64 [] 1 0 [(11, .bool false), (12, .slice none 0 0)] fun a h72 => k46 _ _ ?_
 refine V.sg fun K73 k74 => ?_
 refine V.run h72 [] 2 1 0 [(37, .pointer none), (38, .string key)] fun a h75 => ?_
 refine V.cl h75 (Go.Proofs.enters_of Tryz.func19 (by kernel_rfl) rfl) (nlook_n w65 key) ?_
 rintro _ w77 ⟨rfl, hF76⟩
 refine ⟨_, rfl, fun a h78 => ?_⟩
 have hsw77 := hF76.size
 have hF_79 := hF_68.new hF76
 have hB6_80 := hB6_69.fr0 hF76
 have hB21_81 := hB21_70.fr0 hF76
 have hB28_82 := hB28_71.fr0 hF76
 have hB66_83 := hB66.fr0 hF76
 refine V.run h78 [] 3 36 36 [(40, .agg #[.string ⟨#[]⟩, .int .i64 0, .string ⟨#[]⟩, .slice none 0 0, .slice none 0 0, .slice none 0 0, .int .i64 0]), (41, .bool false)] fun a h88 => ?_
 refine V.go (V.mk [] trivial (by kernel_rfl) [.string ⟨#[]⟩, .int .i64 0, .string ⟨#[]⟩, .slice none 0 0, .slice none 0 0, .slice none 0 0, .int .i64 0] 39 (fun b => .pointer (some ⟨b, 0, none⟩)) (by kernel_rfl) ?_)
 intro w85 b84 heb84 hB86 hF87 hsb84
 have hF_89 := hF_79.new hF87
 have hB6_90 := hB6_80.fr0 hF87
 have hB21_91 := hB21_81.fr0 hF87
 have hB28_92 := hB28_82.fr0 hF87
 have hB66_93 := hB66_83.fr0 hF87
 refine V.pt h88 fun a h94 => ?_
 refine V.go (V.stn b84 0 (.agg #[.string ⟨#[]⟩, .int .i64 0, .string ⟨#[]⟩, .slice none 0 0, .slice none 0 0, .slice none 0 0, .int .i64 0]) [.string ⟨#[]⟩, .int .i64 0, .string ⟨#[]⟩, .slice none 0 0, .slice none 0 0, .slice none 0 0, .int .i64 0] h94.e h94.e rfl rfl (by kernel_rfl) hB86 (by simp) [.string ⟨#[]⟩, .int .i64 0, .string ⟨#[]⟩, .slice none 0 0, .slice none 0 0, .slice none 0 0, .int .i64 0] rfl ?_)
 intro w95 hB96 hF97 hsw95
 have hF_98 := hF_89.own hF97 (by simp <;> omega)
 have hB6_99 := hB6_90.fr1 hF97 (by omega)
 have hB21_100 := hB21_91.fr1 hF97 (by omega)
 have hB28_101 := hB28_92.fr1 hF97 (by omega)
 have hB66_102 := hB66_93.fr1 hF97 (by omega)
 refine V.re h94 [] 1 0 [(14, .bool false)] fun a h103 => k74 _ _ ?_
 refine V.sg fun K104 k105 => ?_
 refine V.run h103 [] 3 1 0 [(42, .pointer none), (43, .string key), (44, .agg #[.int .i64 1, .string ⟨#[]⟩, .slice none 0 0, .slice none 0 0, .slice none 0 0])] fun a h106 => ?_
 refine V.cl h106 (Go.Proofs.enters_of Tryz.func20 (by kernel_rfl) rfl) (nput_n w95 key (.int .i64 1) (.string ⟨#[]⟩) (.slice none 0 0) (.slice none 0 0) (.slice none 0 0) (-1)) ?_
 rintro _ w108 ⟨rfl, hF107⟩
 refine ⟨_, rfl, fun a h109 => ?_⟩
 have hsw108 := hF107.size
 have hF_110 := hF_98.new hF107
 have hB6_111 := hB6_99.fr0 hF107
 have hB21_112 := hB21_100.fr0 hF107
 have hB28_113 := hB28_101.fr0 hF107
 have hB66_114 := hB66_102.fr0 hF107
 have hB96_115 := hB96.fr0 hF107
 refine V.re h109 [] 1 0 [(15, .int .i64 4)] fun a h116 => k105 _ _ ?_
 refine V.sg fun K117 k118 => ?_
 refine V.run h116 [(1, .bs hB6_111 0 [.int .i64 now, .int .u64 dr, .int .i64 role, .slice Aa na ca])] 2 1 0 [(47, .pointer none), (48, .agg #[.int .i64 now, .int .u64 dr, .int .i64 role, .slice Aa na ca])] fun a h119 => ?_
 refine V.cl h119 (Go.Proofs.enters_of Tryz.func11 (by kernel_rfl) rfl) (npick_n w108 now dr role Aa na ca) ?_
 rintro _ w121 ⟨rfl, hF120⟩
 refine ⟨_, rfl, fun a h122 => ?_⟩
 have hsw121 := hF120.size
 have hF_123 := hF_110.new hF120
 have hB6_124 := hB6_111.fr0 hF120
 have hB21_125 := hB21_112.fr0 hF120
 have hB28_126 := hB28_113.fr0 hF120
 have hB66_127 := hB66_114.fr0 hF120
 have hB96_128 := hB96_115.fr0 hF120
 refine V.re h122 [] 46 52 [(16, .string ⟨#[]⟩), (17, .bool false), (18, .slice none 0 0)] fun a h129 => k118 _ _ ?_
 have h130 := h129.only [(1, .string key), (2, .int .i64 at'), (3, .pointer (some ⟨b4, 0, none⟩)), (9, .pointer none), (11, .bool false), (12, .slice none 0 0), (14, .bool false), (15, .int .i64 4), (16, .string ⟨#[]⟩), (17, .bool false), (18, .slice none 0 0), (22, .slice (some ⟨b26, 0, none⟩) 2 2), (23, .int .i64 2), (24, .int .i64 0)]
 refine V.seq fun K131 k132 => ?_
 refine V.pl [([0,1,2,3,4,5,6,7,8,9,10,11,12,13,14],some (15,[])),([16,17,18,19],some (20,[])),([21,22,23,24,25,26,27,28,29,30,31,32,36,39,42,43,46,47,51,52],some (33,[52])),([34,35],some (37,[52])),([38],some (40,[52])),([41],some (44,[52])),([45],some (48,[52])),([49,50],some (53,[])),([54,55,56,57],none)] fun w133 hF134 hsw133 => ?_
 have hF_135 := hF_123.new hF134
 have hB6_136 := hB6_124.fr0 hF134
 have hB21_137 := hB21_125.fr0 hF134
 have hB28_138 := hB28_126.fr0 hF134
 have hB66_139 := hB66_127.fr0 hF134
 have hB96_140 := hB96_128.fr0 hF134
 refine V.pe h130 [] 53 63 [(64, .bool false), (65, .pointer none), (66, .string key), (67, .int .i64 at')] fun a h141 => ?_
 refine V.clg h141 (Go.Proofs.enters_of Tryz.func21 (by kernel_rfl) rfl) (nend_n w133 key at') ?_
 rintro _ w143 ⟨rfl, hF142⟩
 refine ⟨_, rfl, fun a h144 => ?_⟩
 have hsw143 := hF142.size
 have hF_145 := hF_135.new hF142
 have hB6_146 := hB6_136.fr0 hF142
 have hB21_147 := hB21_137.fr0 hF142
 have hB28_148 := hB28_138.fr0 hF142
 have hB66_149 := hB66_139.fr0 hF142
 have hB96_150 := hB96_140.fr0 hF142
 refine V.eh trivial ?_
 refine V.pe h144 [] 69 69 [(70, .bool false), (71, .pointer none), (72, .string key)] fun a h151 => ?_
 refine V.clg h151 (Go.Proofs.enters_of Tryz.func18 (by kernel_rfl) rfl) (ndel_n w143 key) ?_
 rintro _ w153 ⟨rfl, hF152⟩
 refine ⟨_, rfl, fun a h154 => ?_⟩
 have hsw153 := hF152.size
 have hF_155 := hF_145.new hF152
 have hB6_156 := hB6_146.fr0 hF152
 have hB21_157 := hB21_147.fr0 hF152
 have hB28_158 := hB28_148.fr0 hF152
 have hB66_159 := hB66_149.fr0 hF152
 have hB96_160 := hB96_150.fr0 hF152
 refine V.eh trivial ?_
 refine V.pe h154 [(3, .q (.bool false) (V.t_snsame ⟨#[]⟩)), (15, .bs hB6_156 0 [.int .i64 now, .int .u64 dr, .int .i64 role, .slice Aa na ca])] 74 83 [(79, .bool false), (84, .int .i64 0), (85, .pointer none), (89, .pointer none), (92, .pointer none), (95, .pointer none), (96, .int .i64 at'), (99, .pointer none), (100, .int .i64 at'), (104, .pointer none), (105, .agg #[.int .i64 now, .int .u64 dr, .int .i64 role, .slice Aa na ca])] fun a h161 => ?_
 refine V.clg h161 (Go.Proofs.enters_of Tryz.func14 (by kernel_rfl) rfl) (nimage_n w153) ?_
 rintro _ w163 ⟨rfl, hF162⟩
 refine ⟨_, rfl, fun a h164 => ?_⟩
 have hsw163 := hF162.size
 have hF_165 := hF_155.new hF162
 have hB6_166 := hB6_156.fr0 hF162
 have hB21_167 := hB21_157.fr0 hF162
 have hB28_168 := hB28_158.fr0 hF162
 have hB66_169 := hB66_159.fr0 hF162
 have hB96_170 := hB96_160.fr0 hF162
 refine V.eh (fun _ => held_blk (n := 4) (hx := (h161.e (v := (.pointer (some ⟨b4, 0, none⟩))))) hB6_156 hB6_166 (by kernel_rfl) rfl (by simp only [List.length]; omega)) ?_
 refine V.pe h164 [] 87 87 [(88, .int .i64 0)] fun a h171 => ?_
 refine V.clg h171 (Go.Proofs.enters_of Tryz.func17 (by kernel_rfl) rfl) (nlen_n w163) ?_
 rintro _ w173 ⟨rfl, hF172⟩
 refine ⟨_, rfl, fun a h174 => ?_⟩
 have hsw173 := hF172.size
 have hF_175 := hF_165.new hF172
 have hB6_176 := hB6_166.fr0 hF172
 have hB21_177 := hB21_167.fr0 hF172
 have hB28_178 := hB28_168.fr0 hF172
 have hB66_179 := hB66_169.fr0 hF172
 have hB96_180 := hB96_170.fr0 hF172
 refine V.eh (fun _ => held_blk (n := 4) (hx := (h171.e (v := (.pointer (some ⟨b4, 0, none⟩))))) hB6_166 hB6_176 (by kernel_rfl) rfl (by simp only [List.length]; omega)) ?_
 refine V.pe h174 [] 1 0 [(91, .int .i64 0)] fun a h181 => ?_
 refine V.clg h181 (Go.Proofs.enters_of Tryz.func22 (by kernel_rfl) rfl) (nclear_n w173) ?_
 rintro _ w183 ⟨rfl, hF182⟩
 refine ⟨_, rfl, fun a h184 => ?_⟩
 have hsw183 := hF182.size
 have hF_185 := hF_175.new hF182
 have hB6_186 := hB6_176.fr0 hF182
 have hB21_187 := hB21_177.fr0 hF182
 have hB28_188 := hB28_178.fr0 hF182
 have hB66_189 := hB66_179.fr0 hF182
 have hB96_190 := hB96_180.fr0 hF182
 refine V.eh (fun _ => held_blk (n := 4) (hx := (h181.e (v := (.pointer (some ⟨b4, 0, none⟩))))) hB6_176 hB6_186 (by kernel_rfl) rfl (by simp only [List.length]; omega)) ?_
 refine V.pe h184 [] 1 0 [(94, .int .i64 0)] fun a h191 => ?_
 refine V.clg h191 (Go.Proofs.enters_of Tryz.func23 (by kernel_rfl) rfl) (nover_n w183 at') ?_
 rintro _ w193 ⟨rfl, hF192⟩
 refine ⟨_, rfl, fun a h194 => ?_⟩
 have hsw193 := hF192.size
 have hF_195 := hF_185.new hF192
 have hB6_196 := hB6_186.fr0 hF192
 have hB21_197 := hB21_187.fr0 hF192
 have hB28_198 := hB28_188.fr0 hF192
 have hB66_199 := hB66_189.fr0 hF192
 have hB96_200 := hB96_190.fr0 hF192
 refine V.eh (fun _ => held_blk (n := 4) (hx := (h191.e (v := (.pointer (some ⟨b4, 0, none⟩))))) hB6_186 hB6_196 (by kernel_rfl) rfl (by simp only [List.length]; omega)) ?_
 refine V.pe h194 [] 1 0 [(98, .int .i64 0)] fun a h201 => ?_
 refine V.clg h201 (Go.Proofs.enters_of Tryz.func16 (by kernel_rfl) rfl) (nexpire_n w193 at' 9) ?_
 rintro _ w203 ⟨rfl, hF202⟩
 refine ⟨_, rfl, fun a h204 => ?_⟩
 have hsw203 := hF202.size
 have hF_205 := hF_195.new hF202
 have hB6_206 := hB6_196.fr0 hF202
 have hB21_207 := hB21_197.fr0 hF202
 have hB28_208 := hB28_198.fr0 hF202
 have hB66_209 := hB66_199.fr0 hF202
 have hB96_210 := hB96_200.fr0 hF202
 refine V.eh (fun _ => held_blk (n := 4) (hx := (h201.e (v := (.pointer (some ⟨b4, 0, none⟩))))) hB6_196 hB6_206 (by kernel_rfl) rfl (by simp only [List.length]; omega)) ?_
 refine V.pe h204 [] 102 102 [(103, .int .i64 0)] fun a h211 => ?_
 refine V.clg h211 (Go.Proofs.enters_of Tryz.func12 (by kernel_rfl) rfl) (nkeys_n w203 now dr role Aa na ca) ?_
 rintro _ w213 ⟨rfl, hF212⟩
 refine ⟨_, rfl, fun a h214 => ?_⟩
 have hsw213 := hF212.size
 have hF_215 := hF_205.new hF212
 have hB6_216 := hB6_206.fr0 hF212
 have hB21_217 := hB21_207.fr0 hF212
 have hB28_218 := hB28_208.fr0 hF212
 have hB66_219 := hB66_209.fr0 hF212
 have hB96_220 := hB96_210.fr0 hF212
 refine V.eh trivial ?_
 refine V.pz h214 [] 107 109 [(110, .bool false)] fun a h221 => k132 _ _ ?_
 have h222 := h221.only [(1, .string key), (2, .int .i64 at'), (3, .pointer (some ⟨b4, 0, none⟩)), (22, .slice (some ⟨b26, 0, none⟩) 2 2), (23, .int .i64 2), (24, .int .i64 0), (110, .bool false)]
 refine V.cf h222 ?_
 refine V.skip ?_
 refine V.blk_n ?_
 refine V.then_n (k41 _ _ ?_)
 refine V.rr h222 [] 111 111 [(24, .int .i64 1)] fun a h223 => ?_
 refine V.then_n ?_
 refine V.rnd ?_
 refine V.sr h223 [] 1 0 [(25, .bool true)] fun a h226 => ?_
 refine V.seq fun K227 k228 => ?_
 refine V.ct h226 ?_
 refine V.skip ?_
 refine V.then_n (k228 _ _ ?_)
 refine V.seq fun K229 k230 => ?_
 refine V.block ?_
 refine V.sr h226 [(0, .ix b26 0 2 2 .i64 1 1 rfl), (0, .b hB28_218 1)] 26 27 [(9, .pointer (some ⟨b19, 0, none⟩))] fun a h233 => ?_
 refine V.sg fun K234 k235 => ?_
 refine V.run h233 [(1, .bs hB6_216 0 [.int .i64 now, .int .u64 dr, .int .i64 role, .slice Aa na ca])] 3 1 0 [(29, .pointer (some ⟨b19, 0, none⟩)), (30, .agg #[.int .i64 now, .int .u64 dr, .int .i64 role, .slice Aa na ca]), (31, .string key)] fun a h236 => ?_
 refine V.cl h236 (Go.Proofs.enters_of Tryz.func10 (by kernel_rfl) rfl) (nget_s w213 b19 hB21_217 now dr role Aa na ca key) ?_
 rintro _ w238 ⟨rfl, hF237⟩
 refine ⟨_, rfl, fun a h239 => ?_⟩
 have hsw238 := hF237.size
 have hF_240 := hF_215.new hF237
 have hB6_241 := hB6_216.fr0 hF237
 have hB21_242 := hB21_217.fr0 hF237
 have hB28_243 := hB28_218.fr0 hF237
 have hB66_244 := hB66_219.fr0 hF237
 have hB96_245 := hB96_220.fr0 hF237
 refine V.run h239 [] 4 28 28 [(33, .agg #[.int .i64 0, .string ⟨#[]⟩, .slice none 0 0, .slice none 0 0, .slice none 0 0]), (34, .bool false), (35, .slice none 0 0)] fun a h250 => ?_
 refine V.go (V.mk [] trivial (by kernel_rfl) [.int .i64 0, .string ⟨#[]⟩, .slice none 0 0, .slice none 0 0, .slice none 0 0] 37 (fun b => .pointer (some ⟨b, 0, none⟩)) (by kernel_rfl) ?_)
 intro w247 b246 heb246 hB248 hF249 hsb246
 have hF_251 := hF_240.new hF249
 have hB6_252 := hB6_241.fr0 hF249
 have hB21_253 := hB21_242.fr0 hF249
 have hB28_254 := hB28_243.fr0 hF249
 have hB66_255 := hB66_244.fr0 hF249
 have hB96_256 := hB96_245.fr0 hF249
 refine V.pt h250 fun a h257 => ?_
 refine V.go (V.stn b246 0 (.agg #[.int .i64 0, .string ⟨#[]⟩, .slice none 0 0, .slice none 0 0, .slice none 0 0]) [.int .i64 0, .string ⟨#[]⟩, .slice none 0 0, .slice none 0 0, .slice none 0 0] h257.e h257.e rfl rfl (by kernel_rfl) hB248 (by simp) [.int .i64 0, .string ⟨#[]⟩, .slice none 0 0, .slice none 0 0, .slice none 0 0] rfl ?_)
 intro w258 hB259 hF260 hsw258
 have hF_261 := hF_251.own hF260 (by simp <;> omega)
 have hB6_262 := hB6_252.fr1 hF260 (by omega)
 have hB21_263 := hB21_253.fr1 hF260 (by omega)
 have hB28_264 := hB28_254.fr1 hF260 (by omega)
 have hB66_265 := hB66_255.fr1 hF260 (by omega)
 have hB96_266 := hB96_256.fr1 hF260 (by omega)
 refine V.re h257 [] 1 0 [(11, .bool false), (12, .slice none 0 0)] fun a h267 => k235 _ _ ?_
 refine V.sg fun K268 k269 => ?_
 refine V.run h267 [] 2 1 0 [(37, .pointer (some ⟨b19, 0, none⟩)), (38, .string key)] fun a h270 => ?_
 refine V.cl h270 (Go.Proofs.enters_of Tryz.func19 (by kernel_rfl) rfl) (nlook_s w258 b19 hB21_263 key) ?_
 rintro _ w272 ⟨rfl, hF271⟩
 refine ⟨_, rfl, fun a h273 => ?_⟩
 have hsw272 := hF271.size
 have hF_274 := hF_261.new hF271
 have hB6_275 := hB6_262.fr0 hF271
 have hB21_276 := hB21_263.fr0 hF271
 have hB28_277 := hB28_264.fr0 hF271
 have hB66_278 := hB66_265.fr0 hF271
 have hB96_279 := hB96_266.fr0 hF271
 have hB259_280 := hB259.fr0 hF271
 refine V.run h273 [] 3 36 36 [(40, .agg #[.string ⟨#[]⟩, .int .i64 0, .string ⟨#[]⟩, .slice none 0 0, .slice none 0 0, .slice none 0 0, .int .i64 0]), (41, .bool false)] fun a h285 => ?_
 refine V.go (V.mk [] trivial (by kernel_rfl) [.string ⟨#[]⟩, .int .i64 0, .string ⟨#[]⟩, .slice none 0 0, .slice none 0 0, .slice none 0 0, .int .i64 0] 39 (fun b => .pointer (some ⟨b, 0, none⟩)) (by kernel_rfl) ?_)
 intro w282 b281 heb281 hB283 hF284 hsb281
 have hF_286 := hF_274.new hF284
 have hB6_287 := hB6_275.fr0 hF284
 have hB21_288 := hB21_276.fr0 hF284
 have hB28_289 := hB28_277.fr0 hF284
 have hB66_290 := hB66_278.fr0 hF284
 have hB96_291 := hB96_279.fr0 hF284
 have hB259_292 := hB259_280.fr0 hF284
 refine V.pt h285 fun a h293 => ?_
 refine V.go (V.stn b281 0 (.agg #[.string ⟨#[]⟩, .int .i64 0, .string ⟨#[]⟩, .slice none 0 0, .slice none 0 0, .slice none 0 0, .int .i64 0]) [.string ⟨#[]⟩, .int .i64 0, .string ⟨#[]⟩, .slice none 0 0, .slice none 0 0, .slice none 0 0, .int .i64 0] h293.e h293.e rfl rfl (by kernel_rfl) hB283 (by simp) [.string ⟨#[]⟩, .int .i64 0, .string ⟨#[]⟩, .slice none 0 0, .slice none 0 0, .slice none 0 0, .int .i64 0] rfl ?_)
 intro w294 hB295 hF296 hsw294
 have hF_297 := hF_286.own hF296 (by simp <;> omega)
 have hB6_298 := hB6_287.fr1 hF296 (by omega)
 have hB21_299 := hB21_288.fr1 hF296 (by omega)
 have hB28_300 := hB28_289.fr1 hF296 (by omega)
 have hB66_301 := hB66_290.fr1 hF296 (by omega)
 have hB96_302 := hB96_291.fr1 hF296 (by omega)
 have hB259_303 := hB259_292.fr1 hF296 (by omega)
 refine V.re h293 [] 1 0 [(14, .bool false)] fun a h304 => k269 _ _ ?_
 refine V.sg fun K305 k306 => ?_
 refine V.run h304 [] 3 1 0 [(42, .pointer (some ⟨b19, 0, none⟩)), (43, .string key), (44, .agg #[.int .i64 1, .string ⟨#[]⟩, .slice none 0 0, .slice none 0 0, .slice none 0 0])] fun a h307 => ?_
 refine V.cl h307 (Go.Proofs.enters_of Tryz.func20 (by kernel_rfl) rfl) (nput_s w294 b19 hB21_299 key (.int .i64 1) (.string ⟨#[]⟩) (.slice none 0 0) (.slice none 0 0) (.slice none 0 0) (-1)) ?_
 rintro _ w309 ⟨rfl, hF308⟩
 refine ⟨_, rfl, fun a h310 => ?_⟩
 have hsw309 := hF308.size
 have hF_311 := hF_297.new hF308
 have hB6_312 := hB6_298.fr0 hF308
 have hB21_313 := hB21_299.fr0 hF308
 have hB28_314 := hB28_300.fr0 hF308
 have hB66_315 := hB66_301.fr0 hF308
 have hB96_316 := hB96_302.fr0 hF308
 have hB259_317 := hB259_303.fr0 hF308
 have hB295_318 := hB295.fr0 hF308
 refine V.re h310 [] 1 0 [(15, .int .i64 4)] fun a h319 => k306 _ _ ?_
 refine V.sg fun K320 k321 => ?_
 refine V.run h319 [(1, .bs hB6_312 0 [.int .i64 now, .int .u64 dr, .int .i64 role, .slice Aa na ca])] 2 1 0 [(47, .pointer (some ⟨b19, 0, none⟩)), (48, .agg #[.int .i64 now, .int .u64 dr, .int .i64 role, .slice Aa na ca])] fun a h322 => ?_
 refine V.cl h322 (Go.Proofs.enters_of Tryz.func11 (by kernel_rfl) rfl) (npick_s w309 b19 hB21_313 now dr role Aa na ca) ?_
 rintro _ w324 ⟨rfl, hF323⟩
 refine ⟨_, rfl, fun a h325 => ?_⟩
 have hsw324 := hF323.size
 have hF_326 := hF_311.new hF323
 have hB6_327 := hB6_312.fr0 hF323
 have hB21_328 := hB21_313.fr0 hF323
 have hB28_329 := hB28_314.fr0 hF323
 have hB66_330 := hB66_315.fr0 hF323
 have hB96_331 := hB96_316.fr0 hF323
 have hB259_332 := hB259_317.fr0 hF323
 have hB295_333 := hB295_318.fr0 hF323
 refine V.re h325 [] 46 52 [(16, .string ⟨#[]⟩), (17, .bool false), (18, .slice none 0 0)] fun a h334 => k321 _ _ ?_
 refine V.seq fun K335 k336 => ?_
 refine V.pl [([0,1,2,3,4,5,6,7,8,9,10,11,12,13,14],some (15,[])),([16,17,18,19],some (20,[])),([21,22,23,24,25,26,27,28,29,30,31,32,36,39,42,43,46,47,51,52],some (33,[52])),([34,35],some (37,[52])),([38],some (40,[52])),([41],some (44,[52])),([45],some (48,[52])),([49,50],some (53,[])),([54,55,56,57],none)] fun w337 hF338 hsw337 => ?_
 have hF_339 := hF_326.new hF338
 have hB6_340 := hB6_327.fr0 hF338
 have hB21_341 := hB21_328.fr0 hF338
 have hB28_342 := hB28_329.fr0 hF338
 have hB66_343 := hB66_330.fr0 hF338
 have hB96_344 := hB96_331.fr0 hF338
 have hB259_345 := hB259_332.fr0 hF338
 have hB295_346 := hB295_333.fr0 hF338
 refine V.pe h334 [] 53 63 [(64, .bool false), (65, .pointer (some ⟨b19, 0, none⟩)), (66, .string key), (67, .int .i64 at')] fun a h347 => ?_
 refine V.clg h347 (Go.Proofs.enters_of Tryz.func21 (by kernel_rfl) rfl) (nend_s w337 b19 hB21_341 key at') ?_
 rintro _ w349 ⟨rfl, hF348⟩
 refine ⟨_, rfl, fun a h350 => ?_⟩
 have hsw349 := hF348.size
 have hF_351 := hF_339.new hF348
 have hB6_352 := hB6_340.fr0 hF348
 have hB21_353 := hB21_341.fr0 hF348
 have hB28_354 := hB28_342.fr0 hF348
 have hB66_355 := hB66_343.fr0 hF348
 have hB96_356 := hB96_344.fr0 hF348
 have hB259_357 := hB259_345.fr0 hF348
 have hB295_358 := hB295_346.fr0 hF348
 refine V.eh trivial ?_
 refine V.pe h350 [] 69 69 [(70, .bool false), (71, .pointer (some ⟨b19, 0, none⟩)), (72, .string key)] fun a h359 => ?_
 refine V.clg h359 (Go.Proofs.enters_of Tryz.func18 (by kernel_rfl) rfl) (ndel_s w349 b19 hB21_353 key) ?_
 rintro _ w361 ⟨rfl, hF360⟩
 refine ⟨_, rfl, fun a h362 => ?_⟩
 have hsw361 := hF360.size
 have hF_363 := hF_351.new hF360
 have hB6_364 := hB6_352.fr0 hF360
 have hB21_365 := hB21_353.fr0 hF360
 have hB28_366 := hB28_354.fr0 hF360
 have hB66_367 := hB66_355.fr0 hF360
 have hB96_368 := hB96_356.fr0 hF360
 have hB259_369 := hB259_357.fr0 hF360
 have hB295_370 := hB295_358.fr0 hF360
 refine V.eh trivial ?_
 refine V.pe h362 [(3, .q (.bool false) (V.t_snsame ⟨#[]⟩)), (15, .bs hB6_364 0 [.int .i64 now, .int .u64 dr, .int .i64 role, .slice Aa na ca])] 74 83 [(79, .bool false), (84, .int .i64 0), (85, .pointer (some ⟨b19, 0, none⟩)), (89, .pointer (some ⟨b19, 0, none⟩)), (92, .pointer (some ⟨b19, 0, none⟩)), (95, .pointer (some ⟨b19, 0, none⟩)), (96, .int .i64 at'), (99, .pointer (some ⟨b19, 0, none⟩)), (100, .int .i64 at'), (104, .pointer (some ⟨b19, 0, none⟩)), (105, .agg #[.int .i64 now, .int .u64 dr, .int .i64 role, .slice Aa na ca])] fun a h371 => ?_
 refine V.clg h371 (Go.Proofs.enters_of Tryz.func14 (by kernel_rfl) rfl) (nimage_s w361 b19 hB21_365) ?_
 rintro _ w373 ⟨rfl, hF372⟩
 refine ⟨_, rfl, fun a h374 => ?_⟩
 have hsw373 := hF372.size
 have hF_375 := hF_363.new hF372
 have hB6_376 := hB6_364.fr0 hF372
 have hB21_377 := hB21_365.fr0 hF372
 have hB28_378 := hB28_366.fr0 hF372
 have hB66_379 := hB66_367.fr0 hF372
 have hB96_380 := hB96_368.fr0 hF372
 have hB259_381 := hB259_369.fr0 hF372
 have hB295_382 := hB295_370.fr0 hF372
 refine V.eh (fun _ => held_blk (n := 4) (hx := (h371.e (v := (.pointer (some ⟨b4, 0, none⟩))))) hB6_364 hB6_376 (by kernel_rfl) rfl (by simp only [List.length]; omega)) ?_
 refine V.pe h374 [] 87 87 [(88, .int .i64 0)] fun a h383 => ?_
 refine V.clg h383 (Go.Proofs.enters_of Tryz.func17 (by kernel_rfl) rfl) (nlen_s w373 b19 hB21_377) ?_
 rintro _ w385 ⟨rfl, hF384⟩
 refine ⟨_, rfl, fun a h386 => ?_⟩
 have hsw385 := hF384.size
 have hF_387 := hF_375.new hF384
 have hB6_388 := hB6_376.fr0 hF384
 have hB21_389 := hB21_377.fr0 hF384
 have hB28_390 := hB28_378.fr0 hF384
 have hB66_391 := hB66_379.fr0 hF384
 have hB96_392 := hB96_380.fr0 hF384
 have hB259_393 := hB259_381.fr0 hF384
 have hB295_394 := hB295_382.fr0 hF384
 refine V.eh (fun _ => held_blk (n := 4) (hx := (h383.e (v := (.pointer (some ⟨b4, 0, none⟩))))) hB6_376 hB6_388 (by kernel_rfl) rfl (by simp only [List.length]; omega)) ?_
 refine V.pe h386 [] 1 0 [(91, .int .i64 0)] fun a h395 => ?_
 refine V.clg h395 (Go.Proofs.enters_of Tryz.func22 (by kernel_rfl) rfl) (nclear_s w385 b19 hB21_389) ?_
 rintro _ w397 ⟨rfl, hF396⟩
 refine ⟨_, rfl, fun a h398 => ?_⟩
 have hsw397 := hF396.size
 have hF_399 := hF_387.new hF396
 have hB6_400 := hB6_388.fr0 hF396
 have hB21_401 := hB21_389.fr0 hF396
 have hB28_402 := hB28_390.fr0 hF396
 have hB66_403 := hB66_391.fr0 hF396
 have hB96_404 := hB96_392.fr0 hF396
 have hB259_405 := hB259_393.fr0 hF396
 have hB295_406 := hB295_394.fr0 hF396
 refine V.eh (fun _ => held_blk (n := 4) (hx := (h395.e (v := (.pointer (some ⟨b4, 0, none⟩))))) hB6_388 hB6_400 (by kernel_rfl) rfl (by simp only [List.length]; omega)) ?_
 refine V.pe h398 [] 1 0 [(94, .int .i64 0)] fun a h407 => ?_
 refine V.clg h407 (Go.Proofs.enters_of Tryz.func23 (by kernel_rfl) rfl) (nover_s w397 b19 hB21_401 at') ?_
 rintro _ w409 ⟨rfl, hF408⟩
 refine ⟨_, rfl, fun a h410 => ?_⟩
 have hsw409 := hF408.size
 have hF_411 := hF_399.new hF408
 have hB6_412 := hB6_400.fr0 hF408
 have hB21_413 := hB21_401.fr0 hF408
 have hB28_414 := hB28_402.fr0 hF408
 have hB66_415 := hB66_403.fr0 hF408
 have hB96_416 := hB96_404.fr0 hF408
 have hB259_417 := hB259_405.fr0 hF408
 have hB295_418 := hB295_406.fr0 hF408
 refine V.eh (fun _ => held_blk (n := 4) (hx := (h407.e (v := (.pointer (some ⟨b4, 0, none⟩))))) hB6_400 hB6_412 (by kernel_rfl) rfl (by simp only [List.length]; omega)) ?_
 refine V.pe h410 [] 1 0 [(98, .int .i64 0)] fun a h419 => ?_
 refine V.clg h419 (Go.Proofs.enters_of Tryz.func16 (by kernel_rfl) rfl) (nexpire_s w409 b19 hB21_413 at' 9) ?_
 rintro _ w421 ⟨rfl, hF420⟩
 refine ⟨_, rfl, fun a h422 => ?_⟩
 have hsw421 := hF420.size
 have hF_423 := hF_411.new hF420
 have hB6_424 := hB6_412.fr0 hF420
 have hB21_425 := hB21_413.fr0 hF420
 have hB28_426 := hB28_414.fr0 hF420
 have hB66_427 := hB66_415.fr0 hF420
 have hB96_428 := hB96_416.fr0 hF420
 have hB259_429 := hB259_417.fr0 hF420
 have hB295_430 := hB295_418.fr0 hF420
 refine V.eh (fun _ => held_blk (n := 4) (hx := (h419.e (v := (.pointer (some ⟨b4, 0, none⟩))))) hB6_412 hB6_424 (by kernel_rfl) rfl (by simp only [List.length]; omega)) ?_
 refine V.pe h422 [] 102 102 [(103, .int .i64 0)] fun a h431 => ?_
 refine V.clg h431 (Go.Proofs.enters_of Tryz.func12 (by kernel_rfl) rfl) (nkeys_s w421 b19 hB21_425 now dr role Aa na ca) ?_
 rintro _ w433 ⟨rfl, hF432⟩
 refine ⟨_, rfl, fun a h434 => ?_⟩
 have hsw433 := hF432.size
 have hF_435 := hF_423.new hF432
 have hB6_436 := hB6_424.fr0 hF432
 have hB21_437 := hB21_425.fr0 hF432
 have hB28_438 := hB28_426.fr0 hF432
 have hB66_439 := hB66_427.fr0 hF432
 have hB96_440 := hB96_428.fr0 hF432
 have hB259_441 := hB259_429.fr0 hF432
 have hB295_442 := hB295_430.fr0 hF432
 refine V.eh trivial ?_
 refine V.pz h434 [] 107 109 [(110, .bool false)] fun a h443 => k336 _ _ ?_
 have h444 := h443.only [(1, .string key), (2, .int .i64 at'), (3, .pointer (some ⟨b4, 0, none⟩)), (22, .slice (some ⟨b26, 0, none⟩) 2 2), (23, .int .i64 2), (24, .int .i64 1), (110, .bool false)]
 refine V.cf h444 ?_
 refine V.skip ?_
 refine V.blk_n ?_
 refine V.then_n (k230 _ _ ?_)
 refine V.rr h444 [] 111 111 [(24, .int .i64 2)] fun a h445 => ?_
 refine V.then_n ?_
 refine V.rnd ?_
 refine V.sr h445 [] 1 0 [(25, .bool false)] fun a h448 => ?_
 refine V.seq fun K449 k450 => ?_
 refine V.cf h448 ?_
 refine V.exit ?_
 refine V.then_e ?_
 refine V.then_e ?_
 refine V.blk_hit ?_
 refine V.then_n (k15 _ _ ?_)
 refine V.sg fun K451 k452 => ?_
 refine V.cl h448 (Go.Proofs.enters_of Tryz.func7 (by kernel_rfl) rfl) (awake_any w433) ?_
 rintro _ w454 ⟨rfl, hF453⟩
 refine ⟨_, rfl, fun a h455 => ?_⟩
 have hsw454 := hF453.size
 have hF_456 := hF_435.new hF453
 have hB6_457 := hB6_436.fr0 hF453
 have hB21_458 := hB21_437.fr0 hF453
 have hB28_459 := hB28_438.fr0 hF453
 have hB66_460 := hB66_439.fr0 hF453
 have hB96_461 := hB96_440.fr0 hF453
 have hB259_462 := hB259_441.fr0 hF453
 have hB295_463 := hB295_442.fr0 hF453
 refine V.re h455 [] 1 0 [(6, .bool true)] fun a h464 => k452 _ _ ?_
 refine V.ret ?_
 refine V.r1 h464 (.bool true) ?_
 exact ⟨rfl, hF_456⟩
end Go.Proofs.YtjkegckfncfoaaaGreat
end
section
namespace Go.Proofs.YtjkegckfncfoaaaGreat
open Go.V Go.Base Go.RowKit Go.WideShapes Go.ChangeShapes Go.Deep
set_option linter.unusedVariables false
section
variable {H : Type}
theorem bulk_pos (d : DataW H) : 1 ≤ Rows.uptoBulk d := by
  cases d with
  | lit l => cases l <;> simp [Rows.uptoBulk]
  | nil => simp [Rows.uptoBulk]
  | ptr d => simp [Rows.uptoBulk]
  | slice a b => simp [Rows.uptoBulk]
  | agg a => simp [Rows.uptoBulk]
  | iface t d => simp [Rows.uptoBulk]
  | map a => simp [Rows.uptoBulk]
  | held h => simp [Rows.uptoBulk]
theorem bulk_len : ∀ (l : List (DataW H)), l.length ≤ Rows.uptoBulkAll l
  | [] => by simp [Rows.uptoBulkAll]
  | d :: l => by
    have h1 := bulk_pos d
    have h2 := bulk_len l
    simp only [List.length_cons, Rows.uptoBulkAll]
    omega
theorem bulk_mem : ∀ {l : List (DataW H)} {d : DataW H}, d ∈ l → Rows.uptoBulk d ≤ Rows.uptoBulkAll l
  | e :: l, d, h => by
    simp only [Rows.uptoBulkAll]
    rcases List.mem_cons.1 h with rfl | h
    · omega
    · have := bulk_mem h; omega
end
def Opn {α : Type} {H : Type} (enc : TypeId × Value → H) (P : Program) (W : World) (t : TypeId) (R : Rp α) (K : α → Nat → Prop) : Prop :=
  ∀ (n : Nat) (cs : List Value) (x : DataW H × List MemPlace), DataW.trod enc P W 0 (fun _ => true) true n t cs = some x → (∀ p ∈ x.2, p.block < W.heap.size) → ∃ d : α, R.ok (fun b => b < W.heap.size) W d cs ∧ K d (Rows.uptoBulk x.1)
section
variable {α : Type} {R : Rp α} {K : α → Nat → Prop} {H : Type} {enc : TypeId × Value → H} {P : Program} {W : World} {t e : TypeId}
theorem opn_i {n : Nat} {cs : List Value} {x : DataW H × List MemPlace} (ht : P.underlying t = some (.int .i64)) (h : DataW.trod enc P W 0 (fun _ => true) true n t cs = some x) : ∃ n : Int, cs = [.int .i64 n] ∧ -9223372036854775808 ≤ n ∧ n ≤ 9223372036854775807 := by
  obtain ⟨n, q, _, w⟩ := DataW.trod_int ht h
  unfold Lit.wf at w
  have h1 : IntKind.i64.min = -9223372036854775808 := by decide
  have h2 : IntKind.i64.max = 9223372036854775807 := by decide
  simp [h1, h2] at w
  exact ⟨n, q, w.1, w.2⟩
theorem opn_w {n : Nat} {cs : List Value} {x : DataW H × List MemPlace} (ht : P.underlying t = some (.int .u64)) (h : DataW.trod enc P W 0 (fun _ => true) true n t cs = some x) : ∃ n : Nat, cs = [.int .u64 (n : Int)] ∧ n < 18446744073709551616 := by
  obtain ⟨n, q, _, w⟩ := DataW.trod_int ht h
  unfold Lit.wf at w
  have h1 : IntKind.u64.min = 0 := by decide
  have h2 : IntKind.u64.max = 18446744073709551615 := by decide
  simp [h1, h2] at w
  exact ⟨n.toNat, by rw [q, Int.toNat_of_nonneg w.1], by omega⟩
theorem opn_s {n : Nat} {cs : List Value} {x : DataW H × List MemPlace} (ht : P.underlying t = some .string) (h : DataW.trod enc P W 0 (fun _ => true) true n t cs = some x) : ∃ s : ByteArray, cs = [.string s] ∧ s.size ≤ Rows.uptoBulk x.1 := by
  obtain ⟨s, q, rfl, w⟩ := DataW.trod_string ht h
  exact ⟨s, q, by simp [Rows.uptoBulk]⟩
theorem Opn.str (ht : P.underlying t = some .string) : Opn enc P W t Rp.str fun s b => s.size ≤ b := fun n cs x h hp => by
  obtain ⟨s, rfl, h1⟩ := opn_s ht h
  exact ⟨s, rfl, h1⟩
/-- A slice of what can be opened. -/
theorem Opn.sl (ht : P.underlying t = some (.slice e)) (hc : P.cellsOf e = R.sz) (hpos : 0 < R.sz) (hK : ∀ d b b', b ≤ b' → K d b → K d b') (hel : Opn enc P W e R K) {n : Nat} {cs : List Value} {x : DataW H × List MemPlace} (hf : DataW.trod enc P W 0 (fun _ => true) true n t cs = some x) (hlt : ∀ p ∈ x.2, p.block < W.heap.size) :
    ∃ A c l, cs = [.slice A l.length c] ∧ SlR R (fun b => b < W.heap.size) W (.slice A l.length c) l ∧ l.length ≤ Rows.uptoBulk x.1 ∧ ∀ y ∈ l, K y (Rows.uptoBulk x.1) := by
  rcases open_slice ht hf with ⟨rfl, rfl⟩ | ⟨a, len, cap, m, k, D, Pl, rfl, _, hl, hm, hmm, rfl, hall⟩
  · exact ⟨none, 0, [], rfl, SlR.nil _ _ _, Nat.zero_le _, fun y hy => by simp at hy⟩
  · simp only [if_true] at hmm
    subst hmm
    have hone : ∀ i, i < m → ∃ (x : α) (cs : List Value), R.ok (fun b => b < W.heap.size) W x cs ∧ K x (Rows.uptoBulk (D i)) ∧ ∀ j u, cs[j]? = some u → W.cell? (a.add (i * R.sz + j)) = some u := fun i hi => by
      obtain ⟨cs', h1, h2⟩ := hall i hi
      obtain ⟨x, hx, hkx⟩ := hel k cs' _ h2 fun p hp => hlt p (List.mem_append_right _ (List.mem_flatMap.2 ⟨i, List.mem_range.2 hi, hp⟩))
      obtain ⟨_, hlen, hcell⟩ := World.cells?_some h1
      refine ⟨x, cs', hx, hkx, fun j u hj => ?_⟩
      have hjl : j < P.cellsOf e := by rw [← hlen]; exact (List.getElem?_eq_some_iff.1 hj).1
      have := hcell j hjl
      rw [hj, hc] at this
      rw [← this, add_add]
    have hex : ∀ q, q ≤ m → ∃ l : List α, l.length = q ∧ ∀ i x, l[i]? = some x → K x (Rows.uptoBulk (D i)) ∧ ∃ cs, R.ok (fun b => b < W.heap.size) W x cs ∧ ∀ j u, cs[j]? = some u → W.cell? (a.add (i * R.sz + j)) = some u := by
      intro q
      induction q with
      | zero => exact fun _ => ⟨[], rfl, fun i x h => by simp at h⟩
      | succ q ih =>
        intro hq
        obtain ⟨l, hll, hli⟩ := ih (by omega)
        obtain ⟨x, cs, h1, hk1, h2⟩ := hone q (by omega)
        refine ⟨l ++ [x], by simp [hll], fun i y hy => ?_⟩
        rcases Nat.lt_or_ge i l.length with hi | hi
        · rw [List.getElem?_append_left hi] at hy; exact hli i y hy
        · rw [List.getElem?_append_right hi] at hy
          have : i - l.length = 0 := by
            have := (List.getElem?_eq_some_iff.1 hy).1; simp at this; omega
          rw [this] at hy
          simp at hy; subst hy
          have hiq : i = q := by omega
          subst hiq
          exact ⟨hk1, cs, h1, h2⟩
    obtain ⟨l, hll, hli⟩ := hex len hl
    subst hll
    have hb : ∀ i, i < l.length → Rows.uptoBulk (D i) ≤ Rows.uptoBulkAll ((List.range l.length).map D) := fun i hi => bulk_mem (List.mem_map.2 ⟨i, List.mem_range.2 hi, rfl⟩)
    have hlb := bulk_len ((List.range l.length).map D)
    rw [List.length_map, List.length_range] at hlb
    have hbb : Rows.uptoBulkAll ((List.range l.length).map D) ≤ Rows.uptoBulk (DataW.slice ((List.range l.length).map D) ((List.range (m - l.length)).map fun j => D (l.length + j))) := by simp only [Rows.uptoBulk]; omega
    refine ⟨some a, m, l, rfl, ⟨_, _, rfl, hl, by unfold maxLen at hm; omega, fun i x hi => ?_⟩, Nat.le_trans hlb hbb, fun y hy => ?_⟩
    · obtain ⟨_, cs, h1, h2⟩ := hli i x hi
      have hin : i < l.length := (List.getElem?_eq_some_iff.1 hi).1
      obtain ⟨b, off, spot⟩ := a
      have hcl := R.len h1
      obtain ⟨u0, hu0⟩ : ∃ u, cs[0]? = some u := ⟨cs[0]'(by omega), List.getElem?_eq_getElem (by omega)⟩
      obtain ⟨_, cz, z1, z2⟩ := hli 0 _ (List.getElem?_eq_getElem (by omega))
      have hzl := R.len z1
      have hspot : spot = none := by simpa [Addr.add] using World.cell?_spot (z2 0 _ (List.getElem?_eq_getElem (by omega)))
      subst hspot
      have hbW : b < W.heap.size := by
        have hmem : MemPlace.cell b off ∈ MemPlace.row ⟨b, off, none⟩ (m * P.cellsOf e) := MemPlace.mem_row.2 ⟨0, by rw [hc]; exact Nat.mul_pos (by omega) hpos, by simp⟩
        exact hlt _ (List.mem_append_left _ hmem)
      refine ⟨b, off, cs, rfl, hbW, hbW, h1, fun j u hj => ?_⟩
      have := h2 j u hj
      rwa [show (⟨b, off, none⟩ : Addr).add (i * R.sz + j) = ⟨b, off + i * R.sz + j, none⟩ by unfold Addr.add; split <;> simp_all [Nat.add_assoc]] at this
    · obtain ⟨i, hi⟩ := List.mem_iff_getElem?.1 hy
      exact hK _ _ _ (Nat.le_trans (hb i (List.getElem?_eq_some_iff.1 hi).1) hbb) (hli i y hi).1
/-- A struct's parts. -/
theorem opn_st {fs : Array Field} (ht : P.underlying t = some (.struct fs)) {k : Nat} (hk : P.cellsOf t = k) {n : Nat} {cs : List Value} {x : DataW H × List MemPlace} (h : DataW.trod enc P W 0 (fun _ => true) true n t cs = some x) (hlt : ∀ p ∈ x.2, p.block < W.heap.size) :
    cs.length = k ∧ ∀ (i : Nat) (f : Field), fs[i]? = some f → ∃ m y, DataW.trod enc P W 0 (fun _ => true) true m f.type ((cs.drop f.offset).take (P.cellsOf f.type)) = some y ∧ Rows.uptoBulk y.1 ≤ Rows.uptoBulk x.1 ∧ ∀ p ∈ y.2, p.block < W.heap.size := by
  obtain ⟨xs, m, _, rfl, hl, hlen, hf⟩ := DataW.trod_struct ht h
  refine ⟨hl.trans hk, fun i f hi => ?_⟩
  have hil : i < xs.length := by
    have := (Array.getElem?_eq_some_iff.1 hi).1
    omega
  refine ⟨m, xs[i], (hf i f hi).trans (List.getElem?_eq_getElem hil), ?_, fun p hp => hlt p (List.mem_flatMap.2 ⟨xs[i], List.getElem_mem hil, hp⟩)⟩
  have := bulk_mem (l := xs.map (·.1)) (List.mem_map.2 ⟨xs[i], List.getElem_mem hil, rfl⟩)
  simp only [Rows.uptoBulk]
  omega
end
theorem okw_st {P : Program} {W : World} {r : Reach} {b : Nat} {t : TypeId} {v : Value} {fs : Array Field} (ht : P.underlying t = some (.struct fs)) (h : Value.okWide P W r b t v) : ∃ cs, v = .agg cs := by
  unfold Value.okWide at h
  rw [ht] at h
  obtain ⟨cs, h1, _⟩ := h
  exact ⟨cs, h1⟩
theorem list2 {β : Type} {cs : List β} (h : cs.length = 2) : ∃ a b, cs = [a, b] := by
  match cs, h with
  | [a, b], _ => exact ⟨a, b, rfl⟩
theorem list4 {β : Type} {cs : List β} (h : cs.length = 4) : ∃ a b c d, cs = [a, b, c, d] := by
  match cs, h with
  | [a, b, c, d], _ => exact ⟨a, b, c, d, rfl⟩
theorem list5 {β : Type} {cs : List β} (h : cs.length = 5) : ∃ a b c d e, cs = [a, b, c, d, e] := by
  match cs, h with
  | [a, b, c, d, e], _ => exact ⟨a, b, c, d, e, rfl⟩
theorem list7 {β : Type} {cs : List β} (h : cs.length = 7) : ∃ a b c d e f g, cs = [a, b, c, d, e, f, g] := by
  match cs, h with
  | [a, b, c, d, e, f, g], _ => exact ⟨a, b, c, d, e, f, g, rfl⟩
end Go.Proofs.YtjkegckfncfoaaaGreat
end
section
namespace Go.Proofs.YtjkegckfncfoaaaGreat
open Go.V Go.Base
open Go.RowKit (Below)
attribute [local irreducible] Act.put Act.eval
set_option linter.unusedVariables false
set_option linter.unusedSimpArgs false
open Go.WideShapes Go.ChangeShapes Go.Deep
/-! A value that is an argument. -/
def ScK (y : ByteArray × Int) (b : Nat) : Prop := y.1.size ≤ b ∧ -9223372036854775808 ≤ y.2 ∧ y.2 ≤ 9223372036854775807
def FdK (y : ByteArray × ByteArray) (b : Nat) : Prop := y.1.size ≤ b ∧ y.2.size ≤ b
def ValK (k : Int) (s : ByteArray) (l : List ByteArray) (z : List (ByteArray × Int)) (h : List (ByteArray × ByteArray)) (b : Nat) : Prop :=
  (-9223372036854775808 ≤ k ∧ k ≤ 9223372036854775807) ∧ s.size ≤ b ∧ (l.length ≤ b ∧ ∀ y ∈ l, y.size ≤ b) ∧ (z.length ≤ b ∧ ∀ y ∈ z, ScK y b) ∧ h.length ≤ b ∧ ∀ y ∈ h, FdK y b
theorem cells9 : Tryz.prog.cellsOf 9 = 1 := by kernel_rfl
theorem cells2 : Tryz.prog.cellsOf 2 = 1 := by kernel_rfl
theorem cells22 : Tryz.prog.cellsOf 33 = 1 := by kernel_rfl
theorem cells23 : Tryz.prog.cellsOf 25 = 1 := by kernel_rfl
theorem cells24 : Tryz.prog.cellsOf 34 = 1 := by kernel_rfl
theorem cells25 : Tryz.prog.cellsOf 35 = 1 := by kernel_rfl
theorem cells27 : Tryz.prog.cellsOf 37 = 5 := by kernel_rfl
theorem cells37 : Tryz.prog.cellsOf 107 = 2 := by kernel_rfl
theorem cells35 : Tryz.prog.cellsOf 110 = 2 := by kernel_rfl
section
variable {H : Type} {enc : TypeId × Value → H} {W : World}
theorem sc_el : Opn enc Tryz.prog W 107 scR ScK := fun n cs x h hp => by
  obtain ⟨hl, hf⟩ := opn_st Tryz.underlying107 cells37 h hp
  obtain ⟨c0, c1, rfl⟩ := list2 hl
  obtain ⟨_, y0, h0, b0, _⟩ := hf 0 _ rfl
  obtain ⟨_, y1, h1, b1, _⟩ := hf 1 _ rfl
  obtain ⟨s, q0, k0⟩ := opn_s Tryz.underlying9 h0
  obtain ⟨n, q1, k1⟩ := opn_i Tryz.underlying2 h1
  simp [cells9, cells2] at q0 q1
  subst q0; subst q1
  exact ⟨(s, n), rfl, Nat.le_trans k0 b0, k1⟩
theorem fd_el : Opn enc Tryz.prog W 110 fdR FdK := fun n cs x h hp => by
  obtain ⟨hl, hf⟩ := opn_st Tryz.underlying110 cells35 h hp
  obtain ⟨c0, c1, rfl⟩ := list2 hl
  obtain ⟨_, y0, h0, b0, _⟩ := hf 0 _ rfl
  obtain ⟨_, y1, h1, b1, _⟩ := hf 1 _ rfl
  obtain ⟨s, q0, k0⟩ := opn_s Tryz.underlying9 h0
  obtain ⟨n, q1, k1⟩ := opn_s Tryz.underlying9 h1
  simp [cells9] at q0 q1
  subst q0; subst q1
  exact ⟨(s, n), rfl, Nat.le_trans k0 b0, Nat.le_trans k1 b1⟩
theorem val_el {n : Nat} {cs : List Value} {x : DataW H × List MemPlace} (h : DataW.trod enc Tryz.prog W 0 (fun _ => true) true n 37 cs = some x) (hp : ∀ p ∈ x.2, p.block < W.heap.size) :
    ∃ k s Al cl l Az cz z Ah ch h', cs = [.int .i64 k, .string s, .slice Al l.length cl, .slice Az z.length cz, .slice Ah h'.length ch] ∧ SlR Rp.str (fun b => b < W.heap.size) W (.slice Al l.length cl) l ∧ SlR scR (fun b => b < W.heap.size) W (.slice Az z.length cz) z ∧ SlR fdR (fun b => b < W.heap.size) W (.slice Ah h'.length ch) h' ∧ ValK k s l z h' (Rows.uptoBulk x.1) := by
  obtain ⟨hl, hf⟩ := opn_st Tryz.underlying37 cells27 h hp
  obtain ⟨c0, c1, c2, c3, c4, rfl⟩ := list5 hl
  obtain ⟨_, y0, h0, b0, p0⟩ := hf 0 _ rfl
  obtain ⟨_, y1, h1, b1, p1⟩ := hf 1 _ rfl
  obtain ⟨_, y2, h2, b2, p2⟩ := hf 2 _ rfl
  obtain ⟨_, y3, h3, b3, p3⟩ := hf 3 _ rfl
  obtain ⟨_, y4, h4, b4, p4⟩ := hf 4 _ rfl
  obtain ⟨k, q0, k0⟩ := opn_i Tryz.underlying33 h0
  obtain ⟨s, q1, k1⟩ := opn_s Tryz.underlying9 h1
  obtain ⟨Al, cl, l, q2, s2, k2, m2⟩ := Opn.sl (R := Rp.str) (K := fun s b => s.size ≤ b) Tryz.underlying25 cells9 (by decide) (fun d b b' h q => Nat.le_trans q h) (Opn.str Tryz.underlying9) h2 p2
  obtain ⟨Az, cz, z, q3, s3, k3, m3⟩ := Opn.sl (R := scR) (K := ScK) Tryz.underlying34 cells37 (by decide) (fun d b b' h q => ⟨Nat.le_trans q.1 h, q.2⟩) sc_el h3 p3
  obtain ⟨Ah, ch, h', q4, s4, k4, m4⟩ := Opn.sl (R := fdR) (K := FdK) Tryz.underlying35 cells35 (by decide) (fun d b b' h q => ⟨Nat.le_trans q.1 h, Nat.le_trans q.2 h⟩) fd_el h4 p4
  simp [cells9, cells22, cells23, cells24, cells25] at q0 q1 q2 q3 q4
  subst q0; subst q1; subst q2; subst q3; subst q4
  exact ⟨k, s, Al, cl, l, Az, cz, z, Ah, ch, h', rfl, s2, s3, s4, k0, by omega, ⟨by omega, fun y hy => Nat.le_trans (m2 y hy) b2⟩, ⟨by omega, fun y hy => ⟨Nat.le_trans (m3 y hy).1 b3, (m3 y hy).2⟩⟩, by omega, fun y hy => ⟨Nat.le_trans (m4 y hy).1 b4, Nat.le_trans (m4 y hy).2 b4⟩⟩
end
end Go.Proofs.YtjkegckfncfoaaaGreat
end
section
namespace Go.Proofs.YtjkegckfncfoaaaGreat
open Go.V Go.Base
open Go.RowKit (Below)
attribute [local irreducible] Act.put Act.eval
set_option linter.unusedVariables false
set_option linter.unusedSimpArgs false
open Go.WideShapes Go.ChangeShapes Go.Deep
/-! A call that is an argument. -/
def CallK (now : Int) (dr : Nat) (role : Int) (b : Nat) : Prop := (-9223372036854775808 ≤ now ∧ now ≤ 9223372036854775807) ∧ dr < 18446744073709551616 ∧ -9223372036854775808 ≤ role ∧ role ≤ 9223372036854775807
theorem cellsC : Tryz.prog.cellsOf 27 = 4 := by kernel_rfl
theorem cellsI : Tryz.prog.cellsOf 3 = 1 := by kernel_rfl
theorem cellsU : Tryz.prog.cellsOf 23 = 1 := by kernel_rfl
theorem cellsR : Tryz.prog.cellsOf 24 = 1 := by kernel_rfl
section
variable {H : Type} {enc : TypeId × Value → H} {W : World}
theorem call_el {n : Nat} {cs : List Value} {x : DataW H × List MemPlace} (h : DataW.trod enc Tryz.prog W 0 (fun _ => true) true n 27 cs = some x) (hp : ∀ p ∈ x.2, p.block < W.heap.size) :
    ∃ now dr role Aa na ca, cs = [.int .i64 now, .int .u64 ((dr : Nat) : Int), .int .i64 role, .slice Aa na ca] ∧ CallK now dr role (Rows.uptoBulk x.1) := by
  obtain ⟨hl, hf⟩ := opn_st Tryz.underlying27 cellsC h hp
  obtain ⟨c0, c1, c2, c3, rfl⟩ := list4 hl
  obtain ⟨_, y0, h0, b0, p0⟩ := hf 0 _ rfl
  obtain ⟨_, y1, h1, b1, p1⟩ := hf 1 _ rfl
  obtain ⟨_, y2, h2, b2, p2⟩ := hf 2 _ rfl
  obtain ⟨_, y3, h3, b3, p3⟩ := hf 3 _ rfl
  obtain ⟨now, q0, k0⟩ := opn_i Tryz.underlying3 h0
  obtain ⟨dr, q1, k1⟩ := opn_w Tryz.underlying23 h1
  obtain ⟨role, q2, k2⟩ := opn_i Tryz.underlying24 h2
  obtain ⟨A, c, l, q3, s3, k3, m3⟩ := Opn.sl (R := Rp.str) (K := fun s b => s.size ≤ b) Tryz.underlying25 cells9 (by decide) (fun d b b' h q => Nat.le_trans q h) (Opn.str Tryz.underlying9) h3 p3
  simp [cellsI, cellsU, cellsR, cells23] at q0 q1 q2 q3
  subst q0; subst q1; subst q2; subst q3
  exact ⟨now, dr, role, A, l.length, c, rfl, k0, k1, k2⟩
/-! Entries that are an argument. -/
def EnK (x : EnD) (b : Nat) : Prop := x.key.size ≤ b ∧ ValK x.k x.s x.l x.z x.h b ∧ -9223372036854775808 ≤ x.till ∧ x.till ≤ 9223372036854775807
theorem ValK.mono {k : Int} {s : ByteArray} {l : List ByteArray} {z : List (ByteArray × Int)} {h : List (ByteArray × ByteArray)} {b b' : Nat} (q : ValK k s l z h b) (hb : b ≤ b') : ValK k s l z h b' :=
  ⟨q.1, Nat.le_trans q.2.1 hb, ⟨Nat.le_trans q.2.2.1.1 hb, fun y hy => Nat.le_trans (q.2.2.1.2 y hy) hb⟩, ⟨Nat.le_trans q.2.2.2.1.1 hb, fun y hy => ⟨Nat.le_trans (q.2.2.2.1.2 y hy).1 hb, (q.2.2.2.1.2 y hy).2⟩⟩, Nat.le_trans q.2.2.2.2.1 hb, fun y hy => ⟨Nat.le_trans (q.2.2.2.2.2 y hy).1 hb, Nat.le_trans (q.2.2.2.2.2 y hy).2 hb⟩⟩
theorem EnK.mono {x : EnD} {b b' : Nat} (q : EnK x b) (hb : b ≤ b') : EnK x b' := ⟨Nat.le_trans q.1 hb, q.2.1.mono hb, q.2.2⟩
theorem cellsE : Tryz.prog.cellsOf 39 = 7 := by kernel_rfl
theorem en_el : Opn enc Tryz.prog W 39 enR EnK := fun n cs x h hp => by
  obtain ⟨hl, hf⟩ := opn_st Tryz.underlying39 cellsE h hp
  obtain ⟨c0, c1, c2, c3, c4, c5, c6, rfl⟩ := list7 hl
  obtain ⟨_, y0, h0, b0, p0⟩ := hf 0 _ rfl
  obtain ⟨_, y1, h1, b1, p1⟩ := hf 1 _ rfl
  obtain ⟨_, y2, h2, b2, p2⟩ := hf 2 _ rfl
  obtain ⟨s, q0, k0⟩ := opn_s Tryz.underlying9 h0
  obtain ⟨k, s', Al, cl, l, Az, cz, z, Ah, ch, h', q1, s1, s2, s3, k1⟩ := val_el h1 p1
  obtain ⟨t, q2, k2⟩ := opn_i Tryz.underlying3 h2
  simp [cells9, cellsI, cells27] at q0 q1 q2
  obtain ⟨rfl, rfl, rfl, rfl, rfl⟩ := q1
  subst q0; subst q2
  exact ⟨⟨s, k, s', l, z, h', t⟩, ⟨_, _, _, rfl, s1, s2, s3⟩, Nat.le_trans k0 b0, k1.mono b1, k2⟩
theorem open_en {A : Option Addr} {n c : Nat} {d : DataW H} {ps : List MemPlace} (hd : DataW.Trod enc Tryz.prog W 0 (fun _ => true) true 22 (.slice A n c) d ps) (hlt : ∀ x ∈ ps, x.block < W.heap.size) :
    ∃ l : List EnD, n = l.length ∧ SlR enR (fun b => b < W.heap.size) W (.slice A n c) l ∧ l.length ≤ Rows.uptoBulk d ∧ ∀ x ∈ l, EnK x (Rows.uptoBulk d) := by
  obtain ⟨fu, hf⟩ := hd
  obtain ⟨A', c', l, q, s, k, m⟩ := Opn.sl (R := enR) (K := EnK) Tryz.underlying22 cellsE (by decide) (fun d b b' h q => q.mono h) en_el hf hlt
  simp [Value.cells] at q
  obtain ⟨rfl, rfl, rfl⟩ := q
  exact ⟨l, rfl, s, k, m⟩
end
end Go.Proofs.YtjkegckfncfoaaaGreat
end
