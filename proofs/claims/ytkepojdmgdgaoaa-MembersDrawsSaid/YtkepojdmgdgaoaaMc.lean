/- Walks: Pick. -/
import Derived.Test.YtkepojdmgdgaoaaProg
import Derived.Test.YtkepojdmgdgaoaaMa
namespace Go.Proofs.Ytkepojdmgdgaoaa
open Go.V Go.Base
open Go.RowKit (Below)
attribute [local irreducible] Act.put Act.eval
set_option linter.unusedVariables false
set_option linter.unusedSimpArgs false
set_option maxHeartbeats 4000000 in
set_option maxRecDepth 20000 in
theorem pick_any (w : World) (Al : Option Addr) (cl : Nat) (l : List ByteArray) (hSl : SlR Rp.str (fun k => k < w.heap.size) w (.slice Al l.length cl) l) (d : Nat) (hd : d < 18446744073709551616) (hl : l.length ≤ 1099511627776) : Calls Try.prog 15 #[.slice Al l.length cl, .int .u64 ((d : Nat) : Int)] w (fun e w' => e = .returned (.tuple #[.string (pickS l d), .bool (pickB l), .int .i64 (chkN l)]) ∧ Fr [] w w') := by
 have hF := Fr.refl [] w
 refine V.en 27 Try.func15 fun a h1 => ?_
 refine V.sr h1 [] 4 6 [] fun a h4 => ?_
 refine V.seq fun K5 k6 => ?_
 refine V.sg fun K7 k8 => ?_
 refine V.run h4 [] 1 1 0 [(8, .slice Al l.length cl)] fun a h9 => ?_
 refine V.go (V.mk [(8, .slice Al l.length cl)] ⟨h9.e, trivial⟩ (by kernel_rfl) [.slice Al l.length cl] 22 (fun b => .slice (some ⟨b, 0, none⟩) 1 1) (by kernel_rfl) ?_)
 intro w11 b10 heb10 hB12 hF13 hsb10
 have hF_14 := hF.new hF13
 have hSl_15 := hSl.fr0 hF13
 refine V.pt h9 fun a h16 => ?_
 refine V.cl h16 (Go.Proofs.enters_of Try.func38 (by kernel_rfl) rfl) (checks_any w11 _ _ [l] (sl_one hB12 hSl_15).old) ?_
 rintro _ w19 ⟨rfl, hF17⟩
 refine ⟨_, rfl, fun a h20 => ?_⟩
 have hsw19 := hF17.size
 have hF_21 := hF_14.new hF17
 have hSl_22 := hSl_15.fr0 hF17
 have hB12_23 := hB12.fr0 hF17
 have hq18 := chkL_one l
 refine V.re h20 [] 1 0 [(7, .int .i64 (chkL [l]))] fun a h24 => k8 _ _ ?_
 refine V.sg fun K25 k26 => ?_
 refine V.run h24 [(1, .ne (chkL [l]) 0)] 3 11 12 [(13, .bool (decide (¬ (chkL [l]) = 0)))] fun a h27 => ?_
 by_cases hg28 : ¬ (chkL [l]) = 0
 ·
  have h29 := h27.kt 13 hg28
  refine V.re h29 [] 14 16 [(17, .bool true)] fun a h30 => k26 _ _ ?_
  refine V.ct h30 ?_
  refine V.sr h30 [] 18 18 [(4, .string ⟨#[]⟩), (5, .bool false), (6, .int .i64 (chkL [l]))] fun a h33 => ?_
  refine V.ret ?_
  refine V.then_r ?_
  refine V.r3 h33 (.string ⟨#[]⟩) (.bool false) (.int .i64 (chkL [l])) ?_
  rcases chkN_cases l with ⟨hz, hi⟩ | ⟨hz, hi⟩ <;> first | omega | (obtain ⟨hp1, hp2⟩ := pick_no (l := l) (by first | exact .inl hi | exact .inr (by omega)) d; rw [hp1, hp2]; exact ⟨congrArg (fun e => Ending.returned (.tuple #[.string ⟨#[]⟩, .bool false, .int .i64 e])) (by omega), hF_21⟩)
 ·
  have h34 := h27.kf 13 hg28
  refine V.re h34 [(2, .eq ((l.length : Nat) : Int) 0)] 14 16 [(17, .bool (decide (((l.length : Nat) : Int) = 0)))] fun a h35 => k26 _ _ ?_
  refine V.cp h35 (((l.length : Nat) : Int) = 0) (fun ht36 => ?_) (fun ht36 => ?_)
  ·
   refine V.sr h35 [] 18 18 [(4, .string ⟨#[]⟩), (5, .bool false), (6, .int .i64 (chkL [l]))] fun a h39 => ?_
   refine V.ret ?_
   refine V.then_r ?_
   refine V.r3 h39 (.string ⟨#[]⟩) (.bool false) (.int .i64 (chkL [l])) ?_
   rcases chkN_cases l with ⟨hz, hi⟩ | ⟨hz, hi⟩ <;> first | omega | (obtain ⟨hp1, hp2⟩ := pick_no (l := l) (by first | exact .inl hi | exact .inr (by omega)) d; rw [hp1, hp2]; exact ⟨congrArg (fun e => Ending.returned (.tuple #[.string ⟨#[]⟩, .bool false, .int .i64 e])) (by omega), hF_21⟩)
  ·
   refine V.skip ?_
   refine V.then_n (k6 _ _ ?_)
   refine V.seq fun K40 k41 => ?_
   have hmm := Nat.mod_lt (d) (show 0 < l.length by omega)
   obtain ⟨g42, o43, hA44, hA44l, hA44z⟩ := hSl_22.addr (by omega)
   obtain ⟨cs45, hok46, hE47⟩ := hSl_22.els hA44 ((d % l.length : Nat) : Int) (by omega) (by omega)
   obtain rfl : cs45 = [.string (at_ Rp.str l ((d % l.length : Nat) : Int))] := hok46
   refine V.rr h35 [(4, .q (.int .u64 ((l.length : Nat) : Int)) (V.w_u64 (by omega) (by omega))), (0, .remN .u64 d l.length), (0, .ix g42 o43 l.length cl .u64 ((d % l.length : Nat) : Int) 1 hA44), (0, .l ⟨g42, o43 + ((d % l.length : Nat) : Int).toNat * 1, none⟩ (.string (at_ Rp.str l ((d % l.length : Nat) : Int))) (hE47.at 0 rfl))] 19 26 [(4, .string (at_ Rp.str l ((d % l.length : Nat) : Int))), (5, .bool true), (6, .int .i64 0)] fun a h48 => ?_
   refine V.then_n (k41 _ _ ?_)
   refine V.ret ?_
   refine V.r3 h48 (.string (at_ Rp.str l ((d % l.length : Nat) : Int))) (.bool true) (.int .i64 0) ?_
   obtain ⟨hp1, hp2⟩ := pick_yes (l := l) (by rcases chkN_cases l with h | h; exact h.2; omega) (by omega) d
   rw [hp1, hp2, chk_inc (by rcases chkN_cases l with h | h; exact h.2; omega)]; exact ⟨rfl, hF_21⟩
set_option maxHeartbeats 4000000 in
set_option maxRecDepth 20000 in
theorem rpick_any (w : World) (Al : Option Addr) (cl : Nat) (l : List ByteArray) (hSl : SlR Rp.str (fun k => k < w.heap.size) w (.slice Al l.length cl) l) (d : Nat) (hd : d < 18446744073709551616) (hl : l.length ≤ 1099511627776) : Calls Try.prog 16 #[.slice Al l.length cl, .int .u64 ((d : Nat) : Int)] w (fun e w' => e = .returned (.tuple #[.string (pickS l d), .bool (pickB l), .int .i64 (chkN l)]) ∧ Fr [] w w') := by
 have hF := Fr.refl [] w
 refine V.en 22 Try.func16 fun a h1 => ?_
 refine V.sr h1 [] 4 6 [] fun a h4 => ?_
 refine V.seq fun K5 k6 => ?_
 refine V.sg fun K7 k8 => ?_
 refine V.run h4 [] 1 1 0 [(7, .slice Al l.length cl)] fun a h9 => ?_
 refine V.cl h9 (Go.Proofs.enters_of Try.func23 (by kernel_rfl) rfl) (rcheck_any w Al cl l hSl.old ) ?_
 rintro _ w11 ⟨rfl, hF10⟩
 refine ⟨_, rfl, fun a h12 => ?_⟩
 have hsw11 := hF10.size
 have hF_13 := hF.new hF10
 have hSl_14 := hSl.fr0 hF10
 have hq10 := chkN_cases l
 refine V.re h12 [(0, .ne (chkN l) 0)] 1 0 [(9, .bool (decide (¬ (chkN l) = 0)))] fun a h15 => k8 _ _ ?_
 refine V.cp h15 (¬ (chkN l) = 0) (fun ht16 => ?_) (fun ht16 => ?_)
 ·
  refine V.sr h15 [] 1 0 [(4, .string ⟨#[]⟩), (5, .bool false), (6, .int .i64 80)] fun a h19 => ?_
  refine V.ret ?_
  refine V.then_r ?_
  refine V.r3 h19 (.string ⟨#[]⟩) (.bool false) (.int .i64 80) ?_
  rcases chkN_cases l with ⟨hz, hi⟩ | ⟨hz, hi⟩ <;> first | omega | (obtain ⟨hp1, hp2⟩ := pick_no (l := l) (by first | exact .inl hi | exact .inr (by omega)) d; rw [hp1, hp2]; exact ⟨congrArg (fun e => Ending.returned (.tuple #[.string ⟨#[]⟩, .bool false, .int .i64 e])) (by omega), hF_13⟩)
 ·
  refine V.skip ?_
  refine V.then_n (k6 _ _ ?_)
  refine V.seq fun K20 k21 => ?_
  refine V.sr h15 [(2, .eq ((l.length : Nat) : Int) 0)] 10 11 [(12, .bool (decide (((l.length : Nat) : Int) = 0)))] fun a h24 => ?_
  refine V.cp h24 (((l.length : Nat) : Int) = 0) (fun ht25 => ?_) (fun ht25 => ?_)
  ·
   refine V.sr h24 [] 1 0 [(4, .string ⟨#[]⟩), (5, .bool false), (6, .int .i64 0)] fun a h28 => ?_
   refine V.ret ?_
   refine V.then_r ?_
   refine V.r3 h28 (.string ⟨#[]⟩) (.bool false) (.int .i64 0) ?_
   rcases chkN_cases l with ⟨hz, hi⟩ | ⟨hz, hi⟩ <;> first | omega | (obtain ⟨hp1, hp2⟩ := pick_no (l := l) (by first | exact .inl hi | exact .inr (by omega)) d; rw [hp1, hp2]; exact ⟨congrArg (fun e => Ending.returned (.tuple #[.string ⟨#[]⟩, .bool false, .int .i64 e])) (by omega), hF_13⟩)
  ·
   refine V.skip ?_
   refine V.then_n (k21 _ _ ?_)
   refine V.seq fun K29 k30 => ?_
   have hmm := Nat.mod_lt (d) (show 0 < l.length by omega)
   obtain ⟨g31, o32, hA33, hA33l, hA33z⟩ := hSl_14.addr (by omega)
   obtain ⟨cs34, hok35, hE36⟩ := hSl_14.els hA33 ((d % l.length : Nat) : Int) (by omega) (by omega)
   obtain rfl : cs34 = [.string (at_ Rp.str l ((d % l.length : Nat) : Int))] := hok35
   refine V.rr h24 [(4, .q (.int .u64 ((l.length : Nat) : Int)) (V.w_u64 (by omega) (by omega))), (0, .remN .u64 d l.length), (0, .q (.int .i64 ((d % l.length : Nat) : Int)) (V.w_i64 (by omega) (by omega))), (0, .ix g31 o32 l.length cl .i64 ((d % l.length : Nat) : Int) 1 hA33), (0, .l ⟨g31, o32 + ((d % l.length : Nat) : Int).toNat * 1, none⟩ (.string (at_ Rp.str l ((d % l.length : Nat) : Int))) (hE36.at 0 rfl))] 13 21 [(4, .string (at_ Rp.str l ((d % l.length : Nat) : Int))), (5, .bool true), (6, .int .i64 0)] fun a h37 => ?_
   refine V.then_n (k30 _ _ ?_)
   refine V.ret ?_
   refine V.r3 h37 (.string (at_ Rp.str l ((d % l.length : Nat) : Int))) (.bool true) (.int .i64 0) ?_
   obtain ⟨hp1, hp2⟩ := pick_yes (l := l) (by rcases chkN_cases l with h | h; exact h.2; omega) (by omega) d
   rw [hp1, hp2, chk_inc (by rcases chkN_cases l with h | h; exact h.2; omega)]; exact ⟨rfl, hF_13⟩
end Go.Proofs.Ytkepojdmgdgaoaa
