/- Joined texts: Ks, Kt, Ku, Lk, Lf, Lh, Li, Lm. -/
import Derived.Test.YtdebkbfnngkdlaaGreatDoorProg
import Derived.Test.YtdebkbfnngkdlaaGreatDoorIa5
section
namespace Go.Proofs.YtdebkbfnngkdlaaGreatDoor
open Go.V Go.Base
open Go.RowKit (Below)
attribute [local irreducible] Act.put Act.eval
set_option linter.unusedVariables false
set_option linter.unusedSimpArgs false
set_option maxHeartbeats 4000000
set_option maxRecDepth 20000
theorem known_any (w : World)  : Calls Tryz.prog 47 #[] w (fun e w' => ∃ A c, e = .returned (.slice A knownD.length c) ∧ SlR enR (fun k => w.heap.size ≤ k) w' (.slice A knownD.length c) knownD ∧ Fr [] w w') := by
 have hF := Fr.refl [] w
 refine V.en 7 Tryz.func47 fun a h1 => ?_
 refine V.sr h1 [] 0 0 [] fun a h4 => ?_
 refine V.sg fun K5 k6 => ?_
 refine V.run h4 [] 2 1 0 [(1, .agg #[.string ⟨#[98]⟩, .int .i64 (-1)]), (2, .agg #[.string ⟨#[97]⟩, .int .i64 3])] fun a h7 => ?_
 refine V.go (V.mk [(1, .agg #[.string ⟨#[98]⟩, .int .i64 (-1)]), (2, .agg #[.string ⟨#[97]⟩, .int .i64 3])] ⟨h7.e, h7.e, trivial⟩ (by kernel_rfl) [.string ⟨#[98]⟩, .int .i64 (-1), .string ⟨#[97]⟩, .int .i64 3] 98 (fun b => .slice (some ⟨b, 0, none⟩) 2 2) (by kernel_rfl) ?_)
 intro w9 b8 heb8 hB10 hF11 hsb8
 have hF_12 := hF.new hF11
 refine V.pt h7 fun a h13 => ?_
 refine V.run h13 [] 2 4 4 [(5, .agg #[.string ⟨#[107]⟩, .int .i64 4, .string ⟨#[]⟩, .slice none 0 0, .slice (some ⟨b8, 0, none⟩) 2 2, .slice none 0 0, .int .i64 (-1)])] fun a h14 => ?_
 refine V.go (V.mk [(5, .agg #[.string ⟨#[107]⟩, .int .i64 4, .string ⟨#[]⟩, .slice none 0 0, .slice (some ⟨b8, 0, none⟩) 2 2, .slice none 0 0, .int .i64 (-1)])] ⟨h14.e, trivial⟩ (by kernel_rfl) [.string ⟨#[107]⟩, .int .i64 4, .string ⟨#[]⟩, .slice none 0 0, .slice (some ⟨b8, 0, none⟩) 2 2, .slice none 0 0, .int .i64 (-1)] 55 (fun b => .slice (some ⟨b, 0, none⟩) 1 1) (by kernel_rfl) ?_)
 intro w16 b15 heb15 hB17 hF18 hsb15
 have hF_19 := hF_12.new hF18
 have hB10_20 := hB10.fr0 hF18
 refine V.pt h14 fun a h21 => ?_
 refine V.re h21 [] 1 0 [(0, .slice (some ⟨b15, 0, none⟩) 1 1)] fun a h22 => k6 _ _ ?_
 refine V.ret ?_
 refine V.r1 h22 (.slice (some ⟨b15, 0, none⟩) 1 1) ?_
 have hz : SlR scR (fun k => w.heap.size ≤ k) w16 (.slice (some ⟨b8, 0, none⟩) 2 2) [(⟨#[98]⟩, -1), (⟨#[97]⟩, 3)] := slr_blk (R := scR) hB10_20 rfl (by omega) (by decide) ⟨_, _, rfl, rfl, _, _, rfl, rfl, rfl⟩
 exact ⟨_, _, rfl, slr_blk (R := enR) hB17 rfl (by omega) (by decide) ⟨_, [], rfl, ⟨_, _, _, rfl, SlR.nil _ _ _, hz, SlR.nil _ _ _⟩, rfl⟩, hF_19⟩
/-! ### alive's two constants -/
theorem two_set : (setOf (mTx [((⟨#[98]⟩ : ByteArray), (-1 : Int)), (⟨#[97]⟩, 3)] 2)).length = 2 := by
  have hm : mTx [((⟨#[98]⟩ : ByteArray), (-1 : Int)), (⟨#[97]⟩, 3)] 2 = [⟨#[98]⟩, ⟨#[97]⟩] := rfl
  rw [hm]
  have h1 := (setOf_mem [⟨#[98]⟩, ⟨#[97]⟩] ⟨#[98]⟩).2 (by simp)
  have h2 := (setOf_mem [⟨#[98]⟩, ⟨#[97]⟩] ⟨#[97]⟩).2 (by simp)
  have h3 := setOf_len [(⟨#[98]⟩ : ByteArray), ⟨#[97]⟩]
  have h4 : ([⟨#[98]⟩, ⟨#[97]⟩] : List ByteArray).length = 2 := rfl
  generalize setOf [⟨#[98]⟩, ⟨#[97]⟩] = S at h1 h2 h3
  match S, h1, h2, h3 with
  | [x], h1, h2, _ =>
    have e1 := List.mem_singleton.1 h1
    have e2 := List.mem_singleton.1 h2
    exact absurd (e1.trans e2.symm) (by decide)
  | [x, y], _, _, _ => rfl
  | x :: y :: z :: t, _, _, h3 => simp at h3
theorem known_img : imgN knownD = 0 := by
  refine imgN_ok (by decide) fun i hi => ?_
  have hi' : i < 1 := hi
  obtain rfl : i = 0 := by omega
  refine ⟨⟨by decide, .inl rfl, ?_⟩, fun h => absurd h (by omega)⟩
  show okV 4 ⟨#[]⟩ [] [(⟨#[98]⟩, -1), (⟨#[97]⟩, 3)] []
  unfold okV
  rw [if_neg (by decide), if_neg (by decide), if_neg (by decide), if_pos rfl]
  refine ⟨rfl, rfl, rfl, ⟨by decide, by decide⟩, fun j hj => ?_, two_set⟩
  have hj' : j < 2 := hj
  match j, hj' with
  | 0, _ => exact ⟨by decide, fun h => absurd h (by omega)⟩
  | 1, _ => exact ⟨by decide, fun _ => .inl (by decide)⟩
theorem known_bnd : (∀ x ∈ knownD, bndE x) ∧ ∀ e ∈ knownD, ∀ x ∈ e.z, i64 x.2 := by
  constructor
  · intro x hx
    obtain rfl := List.mem_singleton.1 hx
    refine ⟨by decide, by decide, by decide, fun y hy => ?_⟩
    rcases List.mem_cons.1 hy with rfl | hy
    · show 1 ≤ maxLen; unfold maxLen; omega
    · obtain rfl := List.mem_singleton.1 hy
      show 1 ≤ maxLen; unfold maxLen; omega
  · intro e he x hx
    obtain rfl := List.mem_singleton.1 he
    rcases List.mem_cons.1 hx with rfl | hx
    · unfold i64; decide
    · obtain rfl := List.mem_singleton.1 hx
      unfold i64; decide
def knownT : ByteArray := ⟨#[122, 115, 101, 116, 32, 54, 98, 32, 45, 32, 54, 50, 58, 45, 49, 32, 54, 49, 58, 51, 10]⟩
theorem known_tx : txN knownD = 0 ∧ txS knownD = knownT := by
  obtain ⟨h1, h2⟩ := tx_yes known_img (by rw [known_txt]; decide)
  exact ⟨h1, by rw [h2, known_txt]; rfl⟩
theorem textk_any (w : World) (A : Option Addr) (c : Nat) (hS : SlR enR (fun k => k < w.heap.size) w (.slice A knownD.length c) knownD) (hV : Vs w) : Calls Tryz.prog 9 #[.slice A knownD.length c] w fun e w' => e = .returned (.tuple #[.string knownT, .int .i64 0]) ∧ Fr [] w w' :=
  (text_any w A c knownD hS known_bnd.1 known_bnd.2 hV).mono fun e w' ⟨h1, h2⟩ => ⟨by rw [h1, known_tx.1, known_tx.2], h2⟩
def oneT : ByteArray := ⟨#[115, 116, 114, 105, 110, 103, 32, 54, 98, 32, 53, 32, 46, 10]⟩
theorem one_lines : lineN oneT 0 = oneL ∧ restN oneT 1 = ⟨#[]⟩ ∧ cuF (restN oneT 0) 10 = true := by
  refine ⟨?_, ?_, ?_⟩ <;> decide +kernel
theorem one_gd : gdN oneT 0 := by
  refine ⟨?_, by decide, fun h => absurd h (by omega), one_lines.2.2⟩
  rw [one_lines.1]; exact one_ok
theorem one_rd {l : List EnD} {i c : Int} (h : RdR oneT l i c) : l = [oneE] ∧ i = 0 ∧ c = 0 := by
  rcases h with ⟨h, _⟩ | ⟨_, n, h1, h2⟩
  · exact absurd h (by decide)
  match n with
  | 0 =>
    rcases h2 with ⟨h2, _⟩ | ⟨_, h2, _⟩
    · exact absurd h2 (by decide +kernel)
    · exact absurd one_gd h2
  | 1 =>
    rcases h2 with ⟨_, h3, h4, h5⟩ | ⟨h2, _⟩
    · refine ⟨?_, h4, h5⟩
      rw [h3]
      show [rdE (lineN oneT 0)] = _
      rw [one_lines.1, one_rdE]
    · exact absurd one_lines.2.1 h2
  | n + 2 => exact absurd one_lines.2.1 (h1 1 (by omega)).1
theorem reado_any (w : World) (hV : Vs w) : Calls Tryz.prog 13 #[.string oneT] w fun e w' => ∃ A c, e = .returned (.tuple #[.slice A 1 c, .int .i64 0, .int .i64 0]) ∧ SlR enR (fun k => w.heap.size ≤ k) w' (.slice A 1 c) [oneE] ∧ Fr [] w w' :=
  (reads_any w oneT (by decide) hV).mono fun e w' ⟨l, i, c, A, c', h1, h2, h3, h4⟩ => by
    obtain ⟨rfl, rfl, rfl⟩ := one_rd h3
    exact ⟨A, c', h1, h2, h4⟩
theorem alive_any (w : World)  (hV : Vs w) : Calls Tryz.prog 16 #[] w (fun e w' => e = .returned (.bool (true)) ∧ Fr [] w w') := by
 have hF := Fr.refl [] w
 refine V.en 53 Tryz.func16 fun a h1 => ?_
 refine V.sr h1 [] 0 0 [] fun a h4 => ?_
 refine V.sg fun K5 k6 => ?_
 refine V.cl h4 (Go.Proofs.enters_of Tryz.func47 (by kernel_rfl) rfl) (known_any w) ?_
 rintro _ w11 ⟨A7, c8, rfl, hS9, hF10⟩
 refine ⟨_, rfl, fun a h12 => ?_⟩
 have hsw11 := hF10.size
 have hF_13 := hF.new hF10
 refine V.cl h12 (Go.Proofs.enters_of Tryz.func9 (by kernel_rfl) rfl) (textk_any w11 A7 c8 hS9.old (hV.fr hF_13)) ?_
 rintro _ w15 ⟨rfl, hF14⟩
 refine ⟨_, rfl, fun a h16 => ?_⟩
 have hsw15 := hF14.size
 have hF_17 := hF_13.new hF14
 refine V.re h16 [] 6 10 [(1, .string knownT), (2, .int .i64 0)] fun a h19 => k6 _ _ ?_
 refine V.sg fun K20 k21 => ?_
 refine V.cl h19 (Go.Proofs.enters_of Tryz.func13 (by kernel_rfl) rfl) (reado_any w15 (hV.fr hF_17)) ?_
 rintro _ w26 ⟨A22, c23, rfl, hS24, hF25⟩
 refine ⟨_, rfl, fun a h27 => ?_⟩
 have hsw26 := hF25.size
 have hF_28 := hF_17.new hF25
 refine V.re h27 [] 4 15 [(3, .slice A22 ([oneE].length) c23), (5, .int .i64 0)] fun a h30 => k21 _ _ ?_
 refine V.sg fun K31 k32 => ?_
 refine V.run h30 [(1, .q (.bool true) (V.t_same 0)), (2, .q (.bool true) (V.t_same 0)), (3, .seq knownT ⟨#[122, 115, 101, 116, 32, 54, 98, 32, 45, 32, 54, 50, 58, 45, 49, 32, 54, 49, 58, 51, 10]⟩)] 11 16 25 [(26, .bool (decide (knownT = ⟨#[122, 115, 101, 116, 32, 54, 98, 32, 45, 32, 54, 50, 58, 45, 49, 32, 54, 49, 58, 51, 10]⟩)))] fun a h33 => ?_
 by_cases hg34 : knownT = ⟨#[122, 115, 101, 116, 32, 54, 98, 32, 45, 32, 54, 50, 58, 45, 49, 32, 54, 49, 58, 51, 10]⟩
 ·
  have h35 := h33.kt 26 hg34
  refine V.run h35 [(2, .eq (([oneE].length : Nat) : Int) 1)] 5 27 30 [(31, .bool (decide ((([oneE].length : Nat) : Int) = 1)))] fun a h36 => ?_
  by_cases hg37 : (([oneE].length : Nat) : Int) = 1
  ·
   have h38 := h36.kt 31 hg37
   obtain ⟨g39, o40, hA41, hA41l, hA41z⟩ := hS24.addr (by omega)
   try dsimp only at hA41z
   obtain ⟨cs42, hok43, hE44⟩ := hS24.els hA41 (0 : Int) (by omega) (by omega)
   obtain ⟨Al45, cl46, Az47, cz48, Ah49, ch50, rfl, hS51, hS52, hS53⟩ := en_open hok43
   refine V.run h38 [(1, .ix g39 o40 ([oneE].length) c23 .i64 0 7 hA41), (1, .l ⟨g39, o40 + (0 : Int).toNat * 7, none⟩ (.string ((at_ enR ([oneE]) (0 : Int)).key)) (hE44.at 0 rfl)), (0, .seq ((at_ enR ([oneE]) (0 : Int)).key) ⟨#[107]⟩)] 7 32 37 [(38, .bool (decide (((at_ enR ([oneE]) (0 : Int)).key) = ⟨#[107]⟩)))] fun a h54 => ?_
   by_cases hg55 : ((at_ enR ([oneE]) (0 : Int)).key) = ⟨#[107]⟩
   ·
    have h56 := h54.kt 38 hg55
    refine V.run h56 [(1, .ix g39 o40 ([oneE].length) c23 .i64 0 7 hA41), (1, .l ⟨g39, (o40 + (0 : Int).toNat * 7) + 6, none⟩ (.int .i64 ((at_ enR ([oneE]) (0 : Int)).till)) (hE44.at 6 rfl)), (0, .eq ((at_ enR ([oneE]) (0 : Int)).till) 5)] 7 39 44 [(45, .bool (decide (((at_ enR ([oneE]) (0 : Int)).till) = 5)))] fun a h57 => ?_
    by_cases hg58 : ((at_ enR ([oneE]) (0 : Int)).till) = 5
    ·
     have h59 := h57.kt 45 hg58
     refine V.re h59 [(1, .ix g39 o40 ([oneE].length) c23 .i64 0 7 hA41), (2, .l ⟨g39, (o40 + (0 : Int).toNat * 7) + 1, none⟩ (.int .i64 ((at_ enR ([oneE]) (0 : Int)).k)) (hE44.at 1 rfl)), (0, .eq ((at_ enR ([oneE]) (0 : Int)).k) 1)] 46 52 [(0, .bool (decide (((at_ enR ([oneE]) (0 : Int)).k) = 1)))] fun a h60 => k32 _ _ ?_
     have h61 := h60.only [(0, .bool (decide (((at_ enR ([oneE]) (0 : Int)).k) = 1)))]
     refine V.ret ?_
     refine V.r1 h61 (.bool (decide (((at_ enR ([oneE]) (0 : Int)).k) = 1))) ?_
     exact ⟨congrArg (fun b => Ending.returned (Value.bool b)) (by first | rfl | exact decide_eq_true (by rfl)), hF_28⟩
    ·
     have h62 := h57.kf 45 hg58
     refine V.re h62 [] 46 52 [(0, .bool false)] fun a h63 => k32 _ _ ?_
     have h64 := h63.only [(0, .bool false)]
     refine V.ret ?_
     refine V.r1 h64 (.bool false) ?_
     exact absurd (by first | rfl | decide | kernel_rfl) hg58
   ·
    have h65 := h54.kf 38 hg55
    refine V.re h65 [] 39 52 [(0, .bool false)] fun a h66 => k32 _ _ ?_
    have h67 := h66.only [(0, .bool false)]
    refine V.ret ?_
    refine V.r1 h67 (.bool false) ?_
    exact absurd (by first | rfl | decide | kernel_rfl) hg55
  ·
   have h68 := h36.kf 31 hg37
   refine V.re h68 [] 32 52 [(0, .bool false)] fun a h69 => k32 _ _ ?_
   have h70 := h69.only [(0, .bool false)]
   refine V.ret ?_
   refine V.r1 h70 (.bool false) ?_
   exact absurd (by first | rfl | decide | kernel_rfl) hg37
 ·
  have h71 := h33.kf 26 hg34
  refine V.re h71 [] 27 52 [(0, .bool false)] fun a h72 => k32 _ _ ?_
  have h73 := h72.only [(0, .bool false)]
  refine V.ret ?_
  refine V.r1 h73 (.bool false) ?_
  exact absurd (by first | rfl | decide | kernel_rfl) hg34
theorem cutz_any (w : World) (m : Nat) (hm : m ≤ w.heap.size) (Al : Option Addr) (cl : Nat) (l : List EnD) (hSl : SlR enR (fun k => k < m) w (.slice Al l.length cl) l) : Calls Tryz.prog 8 #[.slice Al l.length cl] w (fun e w' => ∃ A' c', e = .returned (.slice A' (cutD l).length c') ∧ OwR enR (fun k => k < m) w' w.heap.size 55 (.slice A' (cutD l).length c') (cutD l) ∧ Fr [] w w') := by
 have hF := Fr.refl [] w
 have hlen0 := hSl.len_le
 refine V.en 29 Tryz.func8 fun a h1 => ?_
 refine V.sr h1 [] 2 2 [] fun a h4 => ?_
 refine V.sr h4 [] 1 0 [(3, .slice none 0 0)] fun a h7 => ?_
 refine V.seq fun K8 k9 => ?_
 refine V.sr h7 [] 1 0 [(4, .int .i64 0)] fun a h12 => ?_
 refine V.block ?_
 refine V.loop3 (fun (i : Nat) (A2 : Option Addr) (c2 : Nat) a_ w_ => En 29 [] a_ [(0, .slice Al l.length cl), (3, .slice A2 (((l.take i).map fewD).length) c2), (4, .int .i64 (i : Int))] ∧ OwR enR (fun k => k < m) w_ w.heap.size 55 (.slice A2 (((l.take i).map fewD).length) c2) ((l.take i).map fewD) ∧ Fr [] w w_ ∧ SlR enR (fun k => k < m) w_ (.slice Al l.length cl) l ∧ (i ≤ l.length ∧ i ≤ 20)) (fun (i : Nat) (A2 : Option Addr) (c2 : Nat) => l.length - i) 0 none 0 ?_ ?_
 ·
  refine ⟨((h12.eq 3 (v := (.slice none 0 0)) (u := (.slice none (((l.take 0).map fewD).length) 0)) (rfl)).eq 4 (v := (.int .i64 0)) (u := (.int .i64 (0 : Int))) (V.int_eq (by omega))).only _, (OwR.nil ..), hF, hSl, (by omega)⟩
 ·
  rintro i A2 c2 a13 w14 ⟨h15, hO_16, hF_17, hSl_18, hi⟩
  have hfs19 := hF_17.size
  have hfl : ((l.take i).map fewD).length = i := by rw [List.length_map, List.length_take]; omega
  refine V.seq fun K20 k21 => ?_
  refine V.sg fun K22 k23 => ?_
  refine V.run h15 [] 5 6 9 [(10, .bool (decide ((i : Int) < ((l.length : Nat) : Int))))] fun a h24 => ?_
  by_cases hg25 : (i : Int) < ((l.length : Nat) : Int)
  ·
   have h26 := h24.kt 10 hg25
   refine V.re h26 [] 11 12 [(13, .bool (decide ((i : Int) < 20)))] fun a h27 => k23 _ _ ?_
   refine V.cp h27 ((i : Int) < 20) (fun ht28 => ?_) (fun ht28 => ?_)
   ·
    refine V.skip ?_
    refine V.then_n (k21 _ _ ?_)
    refine V.seq fun K29 k30 => ?_
    refine V.block ?_
    obtain ⟨g33, o34, hA35, hA35l, hA35z⟩ := hSl_18.addr (by omega)
    obtain ⟨cs36, hok37, hE38⟩ := hSl_18.els hA35 (i : Int) (by omega) (by omega)
    obtain ⟨Al39, cl40, Az41, cz42, Ah43, ch44, rfl, hS45, hS46, hS47⟩ := en_open hok37
    refine V.sg fun K31 k32 => ?_
    refine V.run h27 [(2, .ix g33 o34 l.length cl .i64 (i : Int) 7 hA35), (0, .ls ⟨g33, o34 + (i : Int).toNat * 7, none⟩ [.string ((at_ enR l (i : Int)).key), .int .i64 ((at_ enR l (i : Int)).k), .string ((at_ enR l (i : Int)).s), .slice Al39 ((at_ enR l (i : Int)).l.length) cl40, .slice Az41 ((at_ enR l (i : Int)).z.length) cz42, .slice Ah43 ((at_ enR l (i : Int)).h.length) ch44, .int .i64 ((at_ enR l (i : Int)).till)] (hE38.cells 0 _ rfl))] 4 16 18 [(19, .agg #[.string ((at_ enR l (i : Int)).key), .int .i64 ((at_ enR l (i : Int)).k), .string ((at_ enR l (i : Int)).s), .slice Al39 ((at_ enR l (i : Int)).l.length) cl40, .slice Az41 ((at_ enR l (i : Int)).z.length) cz42, .slice Ah43 ((at_ enR l (i : Int)).h.length) ch44, .int .i64 ((at_ enR l (i : Int)).till)])] fun a h52 => ?_
    refine V.go (V.mk [] trivial (by kernel_rfl) [.string ⟨#[]⟩, .int .i64 0, .string ⟨#[]⟩, .slice none 0 0, .slice none 0 0, .slice none 0 0, .int .i64 0] 55 (fun b => .pointer (some ⟨b, 0, none⟩)) (by kernel_rfl) ?_)
    intro w49 b48 heb48 hB50 hF51 hsb48
    have hO_53 := hO_16.fr0 hF51
    have hF_54 := hF_17.new hF51
    have hSl_55 := hSl_18.fr0 hF51
    have hS45_56 := hS45.fr0 hF51
    have hS46_57 := hS46.fr0 hF51
    have hS47_58 := hS47.fr0 hF51
    refine V.pt h52 fun a h60 => ?_
    refine V.go (V.stn b48 0 (.agg #[.string ((at_ enR l (i : Int)).key), .int .i64 ((at_ enR l (i : Int)).k), .string ((at_ enR l (i : Int)).s), .slice Al39 ((at_ enR l (i : Int)).l.length) cl40, .slice Az41 ((at_ enR l (i : Int)).z.length) cz42, .slice Ah43 ((at_ enR l (i : Int)).h.length) ch44, .int .i64 ((at_ enR l (i : Int)).till)]) [.string ((at_ enR l (i : Int)).key), .int .i64 ((at_ enR l (i : Int)).k), .string ((at_ enR l (i : Int)).s), .slice Al39 ((at_ enR l (i : Int)).l.length) cl40, .slice Az41 ((at_ enR l (i : Int)).z.length) cz42, .slice Ah43 ((at_ enR l (i : Int)).h.length) ch44, .int .i64 ((at_ enR l (i : Int)).till)] h60.e h60.e rfl rfl (by kernel_rfl) hB50 (by simp) [.string ((at_ enR l (i : Int)).key), .int .i64 ((at_ enR l (i : Int)).k), .string ((at_ enR l (i : Int)).s), .slice Al39 ((at_ enR l (i : Int)).l.length) cl40, .slice Az41 ((at_ enR l (i : Int)).z.length) cz42, .slice Ah43 ((at_ enR l (i : Int)).h.length) ch44, .int .i64 ((at_ enR l (i : Int)).till)] rfl ?_)
    intro w61 hB62 hF63 hsw61
    have hO_64 := hO_53.frn hF63 (by simp <;> omega) (by first | exact own_ne hO_53 (by omega) | exact own_ne2 hO_16 (by omega))
    have hF_65 := hF_54.own hF63 (by simp <;> omega)
    have hSl_66 := hSl_55.fr hF63 (by simp <;> omega)
    have hS45_67 := hS45_56.fr hF63 (by simp <;> omega)
    have hS46_68 := hS46_57.fr hF63 (by simp <;> omega)
    have hS47_69 := hS47_58.fr hF63 (by simp <;> omega)
    refine V.nt (k32 _ _ ?_)
    refine V.sg fun K71 k72 => ?_
    refine V.run h60 [(1, .bs hB62 1 [.int .i64 ((at_ enR l (i : Int)).k), .string ((at_ enR l (i : Int)).s), .slice Al39 ((at_ enR l (i : Int)).l.length) cl40, .slice Az41 ((at_ enR l (i : Int)).z.length) cz42, .slice Ah43 ((at_ enR l (i : Int)).h.length) ch44])] 2 20 20 [(21, .agg #[.int .i64 ((at_ enR l (i : Int)).k), .string ((at_ enR l (i : Int)).s), .slice Al39 ((at_ enR l (i : Int)).l.length) cl40, .slice Az41 ((at_ enR l (i : Int)).z.length) cz42, .slice Ah43 ((at_ enR l (i : Int)).h.length) ch44])] fun a h73 => ?_
    refine V.cl h73 (Go.Proofs.enters_of Tryz.func17 (by kernel_rfl) rfl) (few_any w61 ((at_ enR l (i : Int)).k) ((at_ enR l (i : Int)).s) Al39 cl40 ((at_ enR l (i : Int)).l) hS45_67.old Az41 cz42 ((at_ enR l (i : Int)).z) hS46_68.old Ah43 ch44 ((at_ enR l (i : Int)).h) hS47_69.old) ?_
    rintro _ w78 ⟨rfl, hF74⟩
    refine ⟨_, rfl, fun a h79 => ?_⟩
    have hsw78 := hF74.size
    have hO_80 := hO_64.fr0 hF74
    have hF_81 := hF_65.new hF74
    have hSl_82 := hSl_66.fr0 hF74
    have hB62_87 := hB62.fr0 hF74
    have hS75o := hS45_67.fr0 hF74
    have hS75 := hS75o.tke 40
    have hS76o := hS46_68.fr0 hF74
    have hS76 := hS76o.tke 40
    have hS77o := hS47_69.fr0 hF74
    have hS77 := hS77o.tke 40
    refine V.run h79 [] 1 1 0 [(23, .pointer (some ⟨b48, 1, none⟩))] fun a h91 => ?_
    refine V.go (V.stn b48 1 (.agg #[.int .i64 ((at_ enR l (i : Int)).k), .string ((at_ enR l (i : Int)).s), .slice Al39 ((((at_ enR l (i : Int)).l).take 40).length) cl40, .slice Az41 ((((at_ enR l (i : Int)).z).take 40).length) cz42, .slice Ah43 ((((at_ enR l (i : Int)).h).take 40).length) ch44]) [.int .i64 ((at_ enR l (i : Int)).k), .string ((at_ enR l (i : Int)).s), .slice Al39 ((((at_ enR l (i : Int)).l).take 40).length) cl40, .slice Az41 ((((at_ enR l (i : Int)).z).take 40).length) cz42, .slice Ah43 ((((at_ enR l (i : Int)).h).take 40).length) ch44] h91.e h91.e rfl rfl (by kernel_rfl) hB62_87 (by simp) [.string ((at_ enR l (i : Int)).key), .int .i64 ((at_ enR l (i : Int)).k), .string ((at_ enR l (i : Int)).s), .slice Al39 ((((at_ enR l (i : Int)).l).take 40).length) cl40, .slice Az41 ((((at_ enR l (i : Int)).z).take 40).length) cz42, .slice Ah43 ((((at_ enR l (i : Int)).h).take 40).length) ch44, .int .i64 ((at_ enR l (i : Int)).till)] rfl ?_)
    intro w88 hB89 hF90 hsw88
    have hO_92 := hO_80.frn hF90 (by simp <;> omega) (by first | exact own_ne hO_80 (by omega) | exact own_ne2 hO_16 (by omega))
    have hF_93 := hF_81.own hF90 (by simp <;> omega)
    have hSl_94 := hSl_82.fr hF90 (by simp <;> omega)
    have hS75_99 := hS75.fr hF90 (by simp <;> omega)
    have hS76_100 := hS76.fr hF90 (by simp <;> omega)
    have hS77_101 := hS77.fr hF90 (by simp <;> omega)
    refine V.nt (k72 _ _ ?_)
    refine V.rg ?_
    refine V.run h91 [(1, .bs hB89 0 [.string ((at_ enR l (i : Int)).key), .int .i64 ((at_ enR l (i : Int)).k), .string ((at_ enR l (i : Int)).s), .slice Al39 ((((at_ enR l (i : Int)).l).take 40).length) cl40, .slice Az41 ((((at_ enR l (i : Int)).z).take 40).length) cz42, .slice Ah43 ((((at_ enR l (i : Int)).h).take 40).length) ch44, .int .i64 ((at_ enR l (i : Int)).till)])] 2 1 0 [(24, .slice A2 (((l.take i).map fewD).length) c2), (25, .agg #[.string ((at_ enR l (i : Int)).key), .int .i64 ((at_ enR l (i : Int)).k), .string ((at_ enR l (i : Int)).s), .slice Al39 ((((at_ enR l (i : Int)).l).take 40).length) cl40, .slice Az41 ((((at_ enR l (i : Int)).z).take 40).length) cz42, .slice Ah43 ((((at_ enR l (i : Int)).h).take 40).length) ch44, .int .i64 ((at_ enR l (i : Int)).till)])] fun a h102 => ?_
    refine V.go (V.mk [(25, .agg #[.string ((at_ enR l (i : Int)).key), .int .i64 ((at_ enR l (i : Int)).k), .string ((at_ enR l (i : Int)).s), .slice Al39 ((((at_ enR l (i : Int)).l).take 40).length) cl40, .slice Az41 ((((at_ enR l (i : Int)).z).take 40).length) cz42, .slice Ah43 ((((at_ enR l (i : Int)).h).take 40).length) ch44, .int .i64 ((at_ enR l (i : Int)).till)])] ⟨h102.e, trivial⟩ (by kernel_rfl) [.string ((at_ enR l (i : Int)).key), .int .i64 ((at_ enR l (i : Int)).k), .string ((at_ enR l (i : Int)).s), .slice Al39 ((((at_ enR l (i : Int)).l).take 40).length) cl40, .slice Az41 ((((at_ enR l (i : Int)).z).take 40).length) cz42, .slice Ah43 ((((at_ enR l (i : Int)).h).take 40).length) ch44, .int .i64 ((at_ enR l (i : Int)).till)] 55 (fun b => .slice (some ⟨b, 0, none⟩) 1 1) (by kernel_rfl) ?_)
    intro w104 b103 heb103 hB105 hF106 hsb103
    have hO_107 := hO_92.fr0 hF106
    have hF_108 := hF_93.new hF106
    have hSl_109 := hSl_94.fr0 hF106
    have hS75_114 := hS75_99.fr0 hF106
    have hS76_115 := hS76_100.fr0 hF106
    have hS77_116 := hS77_101.fr0 hF106
    refine V.pt h102 fun a h118 => ?_
    refine V.go (V.app (R := enR) (ys := ([fewD ((at_ enR l (i : Int)))])) (news := [(.string ((at_ enR l (i : Int)).key)), (.int .i64 ((at_ enR l (i : Int)).k)), (.string ((at_ enR l (i : Int)).s)), (.slice Al39 ((((at_ enR l (i : Int)).l).take 40).length) cl40), (.slice Az41 ((((at_ enR l (i : Int)).z).take 40).length) cz42), (.slice Ah43 ((((at_ enR l (i : Int)).h).take 40).length) ch44), (.int .i64 ((at_ enR l (i : Int)).till))]) (h118.e (v := (.slice A2 (((l.take i).map fewD).length) c2))) ⟨b103, 0, none⟩ 1 1 (h118.e (v := (.slice (some ⟨b103, 0, none⟩) 1 1))) (by kernel_rfl) (info55) (by kernel_rfl) (by decide) hO_107 rfl ⟨_, [], rfl, (⟨_, _, _, rfl, hS75_114, hS76_115, hS77_116⟩ : enR.ok _ _ (fewD ((at_ enR l (i : Int)))) _), rfl⟩ (blk_cells hB105 0 _ rfl) (by first | omega | (simp; omega)) (by decide) (by omega) ?_)
    intro A119 c120 w121 hO122z hF123 hatw121
    have hsw121 := hF123.size
    have hF_124 := hF_108.own hF123 (own_ge hO_107 (by omega))
    have hSl_125 := hSl_109.fr hF123 (by intro b hb hz; have := own_ge hO_107 (Nat.le_refl _) b hb; (try dsimp only at hz); omega)
    have hO122 := hO122z.zone (Z' := (fun k => k < m)) (fun _ _ q => q.1) (fun b hb hz => by have := (hO122z.lt b hb).1; (try dsimp only at hz); omega)
    refine V.pt h118 fun a h134 => ?_
    refine V.re h134 [] 1 0 [(3, .slice A119 ((((l.take i).map fewD).length) + 1) c120)] fun a h135 => ?_
    refine V.blk_n ?_
    refine V.then_n (k30 _ _ ?_)
    refine V.rr h135 [(1, .i ((i : Int) + 1))] 14 15 [(4, .int .i64 ((i : Int) + 1))] fun a h136 => ?_
    refine V.then_n ?_
    have hqs := fewM_next (show i < l.length by omega)
    refine ⟨i + 1, A119, c120, by omega, ?_⟩
    refine ⟨((h136.eq 3 (v := (.slice A119 ((((l.take i).map fewD).length) + 1) c120)) (u := (.slice A119 (((l.take (i + 1)).map fewD).length) c120)) (V.sl_eq (by rw [hqs]; simp))).eq 4 (v := (.int .i64 ((i : Int) + 1))) (u := (.int .i64 ((i + 1) : Int))) (V.int_eq (by omega))).only _, (by rw [hqs]; simpa using hO122), hF_124, hSl_125, (by omega)⟩
   ·
    refine V.exit (V.then_e (V.then_e (V.blk_hit ?_)))
    refine V.then_n (k9 _ _ ?_)
    refine V.sr h27 [] 28 28 [(2, .slice A2 (((l.take i).map fewD).length) c2)] fun a h139 => ?_
    refine V.ret ?_
    refine V.r1 h139 (.slice A2 (((l.take i).map fewD).length) c2) ?_
    have hce : (l.take i).map fewD = cutD l := by unfold cutD; rw [show l.take i = l.take 20 from by first | (rw [show i = 20 by omega]) | (rw [List.take_of_length_le (by omega), List.take_of_length_le (by omega)])]
    rw [hce] at hO_16
    rw [hce]
    exact ⟨_, _, rfl, hO_16, hF_17⟩
  ·
   have h140 := h24.kf 10 hg25
   refine V.re h140 [] 11 12 [(13, .bool false)] fun a h141 => k23 _ _ ?_
   refine V.cf h141 ?_
   refine V.exit (V.then_e (V.then_e (V.blk_hit ?_)))
   refine V.then_n (k9 _ _ ?_)
   refine V.sr h141 [] 28 28 [(2, .slice A2 (((l.take i).map fewD).length) c2)] fun a h144 => ?_
   refine V.ret ?_
   refine V.r1 h144 (.slice A2 (((l.take i).map fewD).length) c2) ?_
   have hce : (l.take i).map fewD = cutD l := by unfold cutD; rw [show l.take i = l.take 20 from by first | (rw [show i = 20 by omega]) | (rw [List.take_of_length_le (by omega), List.take_of_length_le (by omega)])]
   rw [hce] at hO_16
   rw [hce]
   exact ⟨_, _, rfl, hO_16, hF_17⟩
section
variable {k : Int} {s : ByteArray} {l : List ByteArray} {z : List (ByteArray × Int)} {h : List (ByteArray × ByteArray)}
end
theorem cutS_any (w : World) (m : Nat) (hm : m ≤ w.heap.size) (Al : Option Addr) (cl : Nat) (l : List EnD) (hSl : SlR enR (fun k => k < m) w (.slice Al l.length cl) l) : Calls Tryz.prog 8 #[.slice Al l.length cl] w fun e w' => ∃ A' c', e = .returned (.slice A' (cutD l).length c') ∧ SlR enR (fun k => k < m ∨ (w.heap.size ≤ k ∧ k < w'.heap.size)) w' (.slice A' (cutD l).length c') (cutD l) ∧ Fr [] w w' :=
  (cutz_any w m hm Al cl l hSl).mono fun e w' ⟨A', c', h1, h2, h3⟩ => ⟨A', c', h1, h2.read (fun b _ hb => .inl hb) (fun b hb hb2 => .inr ⟨hb, hb2⟩), h3⟩
/-! ### the reference's Put, Del -/
theorem rplaceP_any (w : World) (A : Option Addr) (c : Nat) (ps : List EnQ) (hS : SlR prE (fun k => k < w.heap.size) w (.slice A ps.length c) ps) (hP : PsOk (fun k => k < w.heap.size) w ps) (key : ByteArray) :
    Calls Tryz.prog 67 #[.slice A ps.length c, .string key] w fun e w' => e = .returned (.int .i64 (plN (datE ps) key)) ∧ Fr [] w w' := by
  have h := rplace_any w A c (datE ps) (by rw [datE_len]; exact SlR.dat hS hP) key
  rw [datE_len] at h
  exact h
theorem rcheckP_any (w : World) (A : Option Addr) (c : Nat) (ps : List EnQ) (hS : SlR prE (fun k => k < w.heap.size) w (.slice A ps.length c) ps) (hP : PsOk (fun k => k < w.heap.size) w ps) :
    Calls Tryz.prog 21 #[.slice A ps.length c] w fun e w' => e = .returned (.int .i64 (imgN (datE ps))) ∧ Fr [] w w' := by
  have h := rcheck_any w A c (datE ps) (by rw [datE_len]; exact SlR.dat hS hP)
  rw [datE_len] at h
  exact h
theorem PsOk.old {Z : Nat → Prop} {w : World} {ps : List EnQ} (h : PsOk Z w ps) : PsOk (fun k => k < w.heap.size) w ps := h.zone fun _ hb _ => hb
theorem plN_lt2 {ps : List EnQ} {key : ByteArray} (h : ¬ plN (datE ps) key < 0) : ∃ i : Nat, plN (datE ps) key = i ∧ i < ps.length := by
  obtain ⟨i, h1, h2, _⟩ := plN_lt h
  exact ⟨i, h1, by rw [datE_len] at h2; exact h2⟩
theorem dat_del {ps : List EnQ} {key : ByteArray} {i : Nat} (h : plN (datE ps) key = i) : datE (([] ++ ps.take i) ++ ps.drop (i + 1)) = delL (datE ps) key := by
  rw [del_at h, List.nil_append, List.eraseIdx_eq_take_drop_succ]
  unfold datE
  rw [List.map_append, List.map_take, List.map_drop]
theorem t_ne65 {n : Nat} (h : n ≤ 20) : Value.bool (((n : Nat) : Int) == 65536) = .bool false := by
  have e : (((n : Nat) : Int) == 65536) = false := by
    rw [beq_eq_false_iff_ne]; omega
  rw [e]
theorem rput_raw (w : World) (A : Option Addr) (c : Nat) (ps : List EnQ) (hSp : SlR prE (fun k => k < w.heap.size) w (.slice A ps.length c) ps) (hPp : PsOk (fun k => k < w.heap.size) w ps) (hl : ps.length ≤ 1073741824) (hrl : ps.length ≤ 20) (key : ByteArray) (k : Int) (s : ByteArray) (Al : Option Addr) (cl : Nat) (l : List ByteArray) (hSl : SlR Rp.str (fun k => k < w.heap.size) w (.slice Al l.length cl) l) (Az : Option Addr) (cz : Nat) (z : List (ByteArray × Int)) (hSz : SlR scR (fun k => k < w.heap.size) w (.slice Az z.length cz) z) (Ah : Option Addr) (ch : Nat) (h : List (ByteArray × ByteArray)) (hSh : SlR fdR (fun k => k < w.heap.size) w (.slice Ah h.length ch) h) (at' : Int) : Calls Tryz.prog 29 #[.slice A ps.length c, .agg #[.string key, .int .i64 k, .string s, .slice Al l.length cl, .slice Az z.length cz, .slice Ah h.length ch, .int .i64 at']] w (fun e w' => ∃ A' c', e = .returned (.tuple #[.slice A' (putL (datE ps) ⟨key, k, s, l, z, h, at'⟩).length c', .int .i64 (putN (datE ps) ⟨key, k, s, l, z, h, at'⟩)]) ∧ SlR enR (fun k => k < w'.heap.size) w' (.slice A' (putL (datE ps) ⟨key, k, s, l, z, h, at'⟩).length c') (putL (datE ps) ⟨key, k, s, l, z, h, at'⟩) ∧ Fr [] w w') := by
 have hF := Fr.refl [] w
 have hlen0 := hSp.len_le
 refine V.en 28 Tryz.func29 fun a h1 => ?_
 refine V.sg fun K2 k3 => ?_
 refine V.go (V.mk [(1, .agg #[.string key, .int .i64 k, .string s, .slice Al l.length cl, .slice Az z.length cz, .slice Ah h.length ch, .int .i64 at'])] ⟨h1.e, trivial⟩ (by kernel_rfl) [.string key, .int .i64 k, .string s, .slice Al l.length cl, .slice Az z.length cz, .slice Ah h.length ch, .int .i64 at'] 55 (fun b => .pointer (some ⟨b, 0, none⟩)) (by kernel_rfl) ?_)
 intro w5 b4 heb4 hB6 hF7 hsb4
 have hF_8 := hF.new hF7
 have hSp_9 := hSp.fr0 hF7
 have hPp_10 := hPp.fr0 hF7
 have hSl_11 := hSl.fr0 hF7
 have hSz_12 := hSz.fr0 hF7
 have hSh_13 := hSh.fr0 hF7
 refine V.pt h1 fun a h14 => ?_
 refine V.re h14 [] 4 5 [] fun a h15 => k3 _ _ ?_
 refine V.sg fun K16 k17 => ?_
 refine V.run h15 [] 1 1 0 [(7, .slice A ps.length c)] fun a h18 => ?_
 refine V.cl h18 (Go.Proofs.enters_of Tryz.func21 (by kernel_rfl) rfl) (rcheckP_any w5 A c ps hSp_9.old hPp_10.old) ?_
 rintro _ w20 ⟨rfl, hF19⟩
 refine ⟨_, rfl, fun a h21 => ?_⟩
 have hsw20 := hF19.size
 have hF_22 := hF_8.new hF19
 have hSp_23 := hSp_9.fr0 hF19
 have hPp_24 := hPp_10.fr0 hF19
 have hSl_25 := hSl_11.fr0 hF19
 have hSz_26 := hSz_12.fr0 hF19
 have hSh_27 := hSh_13.fr0 hF19
 have hB6_28 := hB6.fr0 hF19
 refine V.re h21 [] 1 0 [(6, .int .i64 (imgN (datE ps)))] fun a h29 => k17 _ _ ?_
 refine V.seq fun K30 k31 => ?_
 refine V.sr h29 [(1, .ne (imgN (datE ps)) 0)] 9 9 [(10, .bool (decide (¬ (imgN (datE ps)) = 0)))] fun a h34 => ?_
 refine V.cp h34 (¬ (imgN (datE ps)) = 0) (fun ht35 => ?_) (fun ht35 => ?_)
 ·
  refine V.sr h34 [] 11 11 [(4, .slice none 0 0), (5, .int .i64 (imgN (datE ps)))] fun a h38 => ?_
  refine V.ret (V.then_r ?_)
  refine V.r2 h38 (.slice none 0 0) (.int .i64 (imgN (datE ps))) ?_
  have hq := put_bad (x := (⟨key, k, s, l, z, h, at'⟩ : EnD)) (show ¬ imgN (datE ps) = 0 by assumption)
  exact ⟨none, 0, by rw [hq.1, hq.2]; rfl, by rw [hq.2]; exact SlR.nil _ _ _, hF_22⟩
 ·
  refine V.skip ?_
  refine V.then_n (k31 _ _ ?_)
  refine V.seq fun K39 k40 => ?_
  refine V.sg fun K41 k42 => ?_
  refine V.run h34 [(0, .bs hB6_28 0 [.string key, .int .i64 k, .string s, .slice Al l.length cl, .slice Az z.length cz, .slice Ah h.length ch, .int .i64 at'])] 1 1 0 [(12, .agg #[.string key, .int .i64 k, .string s, .slice Al l.length cl, .slice Az z.length cz, .slice Ah h.length ch, .int .i64 at'])] fun a h43 => ?_
  refine V.cl h43 (Go.Proofs.enters_of Tryz.func55 (by kernel_rfl) rfl) (rentry_any w20 key k s Al cl l hSl_25.old Az cz z hSz_26.old Ah ch h hSh_27.old at') ?_
  rintro _ w45 ⟨rfl, hF44⟩
  refine ⟨_, rfl, fun a h46 => ?_⟩
  have hsw45 := hF44.size
  have hF_47 := hF_22.new hF44
  have hSp_48 := hSp_23.fr0 hF44
  have hPp_49 := hPp_24.fr0 hF44
  have hSl_50 := hSl_25.fr0 hF44
  have hSz_51 := hSz_26.fr0 hF44
  have hSh_52 := hSh_27.fr0 hF44
  have hB6_53 := hB6_28.fr0 hF44
  refine V.re h46 [] 1 0 [(14, .bool (!(bP (okE key at' (okV k s l z h)))))] fun a h54 => k42 _ _ ?_
  refine V.cb h54 (!(bP (okE key at' (okV k s l z h)))) (fun ht55 => ?_) (fun ht55 => ?_)
  ·
   refine V.sr h54 [] 1 0 [(4, .slice none 0 0), (5, .int .i64 90)] fun a h58 => ?_
   refine V.ret (V.then_r ?_)
   refine V.r2 h58 (.slice none 0 0) (.int .i64 90) ?_
   have hq := put_no (x := (⟨key, k, s, l, z, h, at'⟩ : EnD)) (show imgN (datE ps) = 0 by first | assumption | exact Decidable.of_not_not (by assumption)) (fun q => nb_no (by assumption) (show okE key at' (okV k s l z h) from q))
   exact ⟨none, 0, by rw [hq.1, hq.2]; rfl, by rw [hq.2]; exact SlR.nil _ _ _, hF_47⟩
  ·
   refine V.skip ?_
   refine V.then_n (k40 _ _ ?_)
   refine V.seq fun K59 k60 => ?_
   refine V.sr h54 [(2, .q (.bool false) (t_ne65 hrl))] 15 23 [(24, .bool false)] fun a h63 => ?_
   refine V.cf h63 ?_
   refine V.skip ?_
   refine V.then_n (k60 _ _ ?_)
   refine V.sg fun K64 k65 => ?_
   refine V.run h63 [(1, .bs hB6_53 0 [.string key, .int .i64 k, .string s, .slice Al l.length cl, .slice Az z.length cz, .slice Ah h.length ch, .int .i64 at'])] 2 1 0 [(25, .slice A ps.length c), (26, .agg #[.string key, .int .i64 k, .string s, .slice Al l.length cl, .slice Az z.length cz, .slice Ah h.length ch, .int .i64 at'])] fun a h66 => ?_
   refine V.cl h66 (Go.Proofs.enters_of Tryz.func69 (by kernel_rfl) rfl) (rset_any w45 A c ps hSp_48.old hPp_49.old (by omega) key k s Al cl l hSl_50.old Az cz z hSz_51.old Ah ch h hSh_52.old at') ?_
   rintro _ w74 ⟨A67, c68, qs69, rfl, hd70, hO71, hP72, hF73⟩
   refine ⟨_, rfl, fun a h75 => ?_⟩
   have hsw74 := hF73.size
   have hF_76 := hF_47.new hF73
   refine V.re h75 [] 1 0 [(4, .slice A67 qs69.length c68), (5, .int .i64 0)] fun a h83 => k65 _ _ ?_
   refine V.ret ?_
   refine V.r2 h83 (.slice A67 qs69.length c68) (.int .i64 0) ?_
   have hq := put_yes (x := (⟨key, k, s, l, z, h, at'⟩ : EnD)) (show imgN (datE ps) = 0 by first | assumption | exact Decidable.of_not_not (by assumption)) (show okE key at' (okV k s l z h) from nb_yes (by assumption))
   have hSq := OwR.dat hO71 hP72
   rw [hd70] at hSq
   have hn9 : qs69.length = (putD (datE ps) (⟨key, k, s, l, z, h, at'⟩ : EnD)).length := by rw [← hd70, datE_len]
   rw [hn9] at hSq
   exact ⟨_, _, by rw [hq.1, hq.2, hn9], by rw [hq.2]; exact hSq, hF_76⟩
theorem rdel_raw (w : World) (A : Option Addr) (c : Nat) (ps : List EnQ) (hSp : SlR prE (fun k => k < w.heap.size) w (.slice A ps.length c) ps) (hPp : PsOk (fun k => k < w.heap.size) w ps) (hl : ps.length ≤ 1073741824) (key2 : ByteArray) : Calls Tryz.prog 30 #[.slice A ps.length c, .string key2] w (fun e w' => ∃ A' c', e = .returned (.tuple #[.slice A' (delL (datE ps) key2).length c', .bool (decide (¬ plN (datE ps) key2 < 0))]) ∧ SlR enR (fun k => k < w'.heap.size) w' (.slice A' (delL (datE ps) key2).length c') (delL (datE ps) key2) ∧ Fr [] w w') := by
 have hF := Fr.refl [] w
 have hlen0 := hSp.len_le
 have hcp0 := hSp.cp.2
 refine V.en 25 Tryz.func30 fun a h1 => ?_
 refine V.sr h1 [] 4 5 [] fun a h4 => ?_
 refine V.sg fun K5 k6 => ?_
 refine V.run h4 [] 2 1 0 [(7, .slice A ps.length c), (8, .string key2)] fun a h7 => ?_
 refine V.cl h7 (Go.Proofs.enters_of Tryz.func67 (by kernel_rfl) rfl) (rplaceP_any w A c ps hSp.old hPp.old key2) ?_
 rintro _ w9 ⟨rfl, hF8⟩
 refine ⟨_, rfl, fun a h10 => ?_⟩
 have hsw9 := hF8.size
 have hF_11 := hF.new hF8
 have hSp_12 := hSp.fr0 hF8
 have hPp_13 := hPp.fr0 hF8
 refine V.re h10 [] 1 0 [(6, .int .i64 (plN (datE ps) key2))] fun a h14 => k6 _ _ ?_
 refine V.seq fun K15 k16 => ?_
 refine V.sr h14 [] 10 10 [(11, .bool (decide ((plN (datE ps) key2) < 0)))] fun a h19 => ?_
 refine V.cp h19 ((plN (datE ps) key2) < 0) (fun ht20 => ?_) (fun ht20 => ?_)
 ·
  refine V.sg fun K21 k22 => ?_
  refine V.go (V.mk [] trivial (by kernel_rfl) [] 55 (fun b => .slice (some ⟨b, 0, none⟩) 0 0) (by kernel_rfl) ?_)
  intro w24 b23 heb23 hB25 hF26 hsb23
  have hF_27 := hF_11.new hF26
  have hSp_28 := hSp_12.fr0 hF26
  have hPp_29 := hPp_13.fr0 hF26
  refine V.pt h19 fun a h30 => ?_
  have hO31 := OwR.empty (R := prE) (base := b23) hB25 (Nat.le_refl _)
  refine V.run h30 [] 1 1 0 [(13, .slice A ps.length c)] fun a h37 => ?_
  refine V.go (V.appS (R := prE) (h37.e (v := (.slice (some ⟨b23, 0, none⟩) 0 0))) (h37.e (v := (.slice A ps.length c))) (by kernel_rfl) info55 (by kernel_rfl) (by decide) hO31 hSp_28 (fun _ _ h => h) (by (simp only [List.length_append, List.length_take, List.length_drop, List.length_nil]); omega) (by decide) (by omega) ?_)
  intro A32 c33 w34 hO35 hF36
  have hsw34 := hF36.size
  have hF_38 := hF_27.own hF36 (own_ge hO31 (by omega))
  have hPp_40 := hPp_29.fr hF36 (by intro b hb hz; have := own_ge hO31 (Nat.le_refl _) b hb; (try dsimp only at hz); omega)
  refine V.pt h37 fun a h41 => ?_
  refine V.re h41 [] 1 0 [(4, .slice A32 ((([] : List EnQ)).length + (ps).length) c33), (5, .bool false)] fun a h42 => k22 _ _ ?_
  refine V.ret (V.then_r ?_)
  refine V.r2 h42 (.slice A32 ((([] : List EnQ)).length + (ps).length) c33) (.bool false) ?_
  have hSq := OwR.dat hO35 (hPp_40.sub fun q hq => by simpa using hq)
  have hdd : datE (([] : List EnQ) ++ ps) = delL (datE ps) key2 := by rw [del_no (by assumption), List.nil_append]
  rw [hdd] at hSq
  have hn9 : (([] : List EnQ)).length + (ps).length = (delL (datE ps) key2).length := by rw [← hdd, datE_len]; simp only [List.length_append, List.length_take, List.length_drop, List.length_nil]; try omega
  rw [hn9] at hSq
  exact ⟨_, _, by rw [hn9]; exact congrArg (fun q => Ending.returned (Value.tuple #[_, Value.bool q])) (decide_eq_false (by omega)).symm, hSq, hF_38⟩
 ·
  refine V.skip ?_
  refine V.then_n (k16 _ _ ?_)
  refine V.seq fun K43 k44 => ?_
  obtain ⟨i, hpi, hil⟩ := plN_lt2 (ps := ps) (key := key2) (by assumption)
  have h45 := h19.eq 6 (v := (.int .i64 (plN (datE ps) key2))) (u := (.int .i64 (i : Int))) (V.int_eq (by omega))
  refine V.pl [([1,2,3,5,6,7,8],some (0,[])),([],some (4,[])),([],some (9,[])),([10,11],none)] fun w46 hF47 hsw46 => ?_
  have hF_48 := hF_11.new hF47
  have hSp_49 := hSp_12.fr0 hF47
  have hPp_50 := hPp_13.fr0 hF47
  have hS51 := hSp_49.tk (i := i) (by omega)
  have hS52 := hSp_49.dr (i := i + 1) (by omega)
  refine V.pe h45 [(2, .cut0 A ps.length c (i : Int) i 7), (2, .i ((i : Int) + 1)), (0, .cutE A ps.length c ((i : Int) + 1) (i + 1) 7)] 16 22 [(18, .slice A i c), (23, .slice (cutA A (i + 1) c 7) (ps.length - (i + 1)) (c - (i + 1)))] fun a h53 => ?_
  refine V.go (V.mk [] trivial (by kernel_rfl) [] 55 (fun b => .slice (some ⟨b, 0, none⟩) 0 0) (by kernel_rfl) ?_)
  intro w55 b54 heb54 hB56 hF57 hsb54
  have hF_58 := hF_48.new hF57
  have hPp_60 := hPp_50.fr0 hF57
  have hS51_61 := hS51.fr0 hF57
  have hS52_62 := hS52.fr0 hF57
  refine V.pt h53 fun a h63 => ?_
  have hO64 := OwR.empty (R := prE) (base := b54) hB56 (Nat.le_refl _)
  refine V.eh trivial ?_
  refine V.pe h63 [] 1 0 [] fun a h65 => ?_
  refine V.go (V.appS (R := prE) (h65.e (v := (.slice (some ⟨b54, 0, none⟩) 0 0))) (h65.e (v := (.slice A i c))) (by kernel_rfl) info55 (by kernel_rfl) (by decide) hO64 hS51_61 (fun _ _ h => h) (by (simp only [List.length_append, List.length_take, List.length_drop, List.length_nil]); omega) (by decide) (by omega) ?_)
  intro A66 c67 w68 hO69 hF70
  have hsw68 := hF70.size
  have hF_71 := hF_58.own hF70 (own_ge hO64 (by omega))
  have hPp_73 := hPp_60.fr hF70 (by intro b hb hz; have := own_ge hO64 (Nat.le_refl _) b hb; (try dsimp only at hz); omega)
  have hS52_75 := hS52_62.fr hF70 (by intro b hb hz; have := own_ge hO64 (Nat.le_refl _) b hb; (try dsimp only at hz); omega)
  refine V.pt h65 fun a h76 => ?_
  refine V.eh trivial ?_
  refine V.pe h76 [] 1 0 [] fun a h77 => ?_
  refine V.go (V.appS (R := prE) (h77.e (v := (.slice A66 ((([] : List EnQ)).length + (ps.take i).length) c67))) (h77.e (v := (.slice (cutA A (i + 1) c 7) (ps.length - (i + 1)) (c - (i + 1))))) (by kernel_rfl) info55 (by kernel_rfl) (by decide) hO69 hS52_75 (fun _ _ h => h) (by (simp only [List.length_append, List.length_take, List.length_drop, List.length_nil]); omega) (by decide) (by omega) ?_)
  intro A78 c79 w80 hO81 hF82
  have hsw80 := hF82.size
  have hF_83 := hF_71.own hF82 (own_ge hO69 (by omega))
  have hPp_85 := hPp_73.fr hF82 (by intro b hb hz; have := own_ge hO69 (Nat.le_refl _) b hb; (try dsimp only at hz); omega)
  refine V.pt h77 fun a h88 => ?_
  refine V.eh trivial ?_
  refine V.pz h88 [] 1 0 [(4, .slice A78 ((([] : List EnQ) ++ (ps.take i)).length + (ps.drop (i + 1)).length) c79), (5, .bool true)] fun a h89 => k44 _ _ ?_
  refine V.ret ?_
  refine V.r2 h89 (.slice A78 ((([] : List EnQ) ++ (ps.take i)).length + (ps.drop (i + 1)).length) c79) (.bool true) ?_
  have hSq := OwR.dat hO81 (hPp_85.sub fun q hq => by simp only [List.nil_append, List.mem_append] at hq; rcases hq with hq | hq; exact List.mem_of_mem_take hq; exact List.mem_of_mem_drop hq)
  have hdd : datE ((([] : List EnQ) ++ (ps.take i)) ++ (ps.drop (i + 1))) = delL (datE ps) key2 := dat_del hpi
  rw [hdd] at hSq
  have hn9 : (([] : List EnQ) ++ (ps.take i)).length + (ps.drop (i + 1)).length = (delL (datE ps) key2).length := by rw [← hdd, datE_len]; simp only [List.length_append, List.length_take, List.length_drop, List.length_nil]; try omega
  rw [hn9] at hSq
  exact ⟨_, _, by rw [hn9]; exact congrArg (fun q => Ending.returned (Value.tuple #[_, Value.bool q])) (decide_eq_true (by omega)).symm, hSq, hF_83⟩
theorem rput_any (w : World) (A : Option Addr) (c : Nat) (r : List EnD) (hS : SlR enR (fun k => k < w.heap.size) w (.slice A r.length c) r) (hrl : r.length ≤ 20) (key : ByteArray) (k : Int) (s : ByteArray) (Al : Option Addr) (cl : Nat) (l : List ByteArray) (hSl : SlR Rp.str (fun k => k < w.heap.size) w (.slice Al l.length cl) l) (Az : Option Addr) (cz : Nat) (z : List (ByteArray × Int)) (hSz : SlR scR (fun k => k < w.heap.size) w (.slice Az z.length cz) z) (Ah : Option Addr) (ch : Nat) (h : List (ByteArray × ByteArray)) (hSh : SlR fdR (fun k => k < w.heap.size) w (.slice Ah h.length ch) h) (at' : Int) :
    Calls Tryz.prog 29 #[.slice A r.length c, .agg #[.string key, .int .i64 k, .string s, .slice Al l.length cl, .slice Az z.length cz, .slice Ah h.length ch, .int .i64 at']] w fun e w' => ∃ A' c', e = .returned (.tuple #[.slice A' (putL r ⟨key, k, s, l, z, h, at'⟩).length c', .int .i64 (putN r ⟨key, k, s, l, z, h, at'⟩)]) ∧ SlR enR (fun k => k < w'.heap.size) w' (.slice A' (putL r ⟨key, k, s, l, z, h, at'⟩).length c') (putL r ⟨key, k, s, l, z, h, at'⟩) ∧ Fr [] w w' := by
  obtain ⟨ps, rfl, h1, h2⟩ := SlR.raw hS
  rw [datE_len] at h1 hrl ⊢
  exact rput_raw w A c ps h1 h2 (by omega) hrl key k s Al cl l hSl Az cz z hSz Ah ch h hSh at'
theorem rdel_any (w : World) (A : Option Addr) (c : Nat) (l : List EnD) (hS : SlR enR (fun k => k < w.heap.size) w (.slice A l.length c) l) (hl : l.length ≤ 1073741824) (key2 : ByteArray) :
    Calls Tryz.prog 30 #[.slice A l.length c, .string key2] w fun e w' => ∃ A' c', e = .returned (.tuple #[.slice A' (delL l key2).length c', .bool (decide (¬ plN l key2 < 0))]) ∧ SlR enR (fun k => k < w'.heap.size) w' (.slice A' (delL l key2).length c') (delL l key2) ∧ Fr [] w w' := by
  obtain ⟨ps, rfl, h1, h2⟩ := SlR.raw hS
  rw [datE_len] at h1 hl ⊢
  exact rdel_raw w A c ps h1 h2 hl key2
theorem put_any (w : World) (Ar : Option Addr) (cr : Nat) (r : List EnD) (hSr : SlR enR (fun k => k < w.heap.size) w (.slice Ar r.length cr) r) (hsm : ∀ x ∈ r, smE x) (hbn : ∀ x ∈ r, bndE x) (hrl : r.length ≤ 20) (key : ByteArray) (k : Int) (s : ByteArray) (Al : Option Addr) (cl : Nat) (l : List ByteArray) (hSl : SlR Rp.str (fun k => k < w.heap.size) w (.slice Al l.length cl) l) (Az : Option Addr) (cz : Nat) (z : List (ByteArray × Int)) (hSz : SlR scR (fun k => k < w.heap.size) w (.slice Az z.length cz) z) (Ah : Option Addr) (ch : Nat) (h : List (ByteArray × ByteArray)) (hSh : SlR fdR (fun k => k < w.heap.size) w (.slice Ah h.length ch) h) (at' : Int) (hll : l.length ≤ 1099511627776) (hlz : z.length ≤ 1099511627776) (hlh : h.length ≤ 1099511627776) (hz : ∀ x ∈ z, x.1.size ≤ maxLen) : Calls Tryz.prog 25 #[.slice Ar r.length cr, .agg #[.string key, .int .i64 k, .string s, .slice Al l.length cl, .slice Az z.length cz, .slice Ah h.length ch, .int .i64 at']] w (fun e w' => ∃ A' c', e = .returned (.tuple #[.slice A' (putL r ⟨key, k, s, l, z, h, at'⟩).length c', .int .i64 (putN r ⟨key, k, s, l, z, h, at'⟩)]) ∧ SlR enR (fun k => k < w'.heap.size) w' (.slice A' (putL r ⟨key, k, s, l, z, h, at'⟩).length c') (putL r ⟨key, k, s, l, z, h, at'⟩) ∧ Fr [] w w') := by
 have hF := Fr.refl [] w
 refine V.en 44 Tryz.func25 fun a h1 => ?_
 refine V.sg fun K2 k3 => ?_
 refine V.go (V.mk [(1, .agg #[.string key, .int .i64 k, .string s, .slice Al l.length cl, .slice Az z.length cz, .slice Ah h.length ch, .int .i64 at'])] ⟨h1.e, trivial⟩ (by kernel_rfl) [.string key, .int .i64 k, .string s, .slice Al l.length cl, .slice Az z.length cz, .slice Ah h.length ch, .int .i64 at'] 55 (fun b => .pointer (some ⟨b, 0, none⟩)) (by kernel_rfl) ?_)
 intro w5 b4 heb4 hB6 hF7 hsb4
 have hF_8 := hF.new hF7
 have hSr_9 := hSr.fr0 hF7
 have hSl_10 := hSl.fr0 hF7
 have hSz_11 := hSz.fr0 hF7
 have hSh_12 := hSh.fr0 hF7
 refine V.pt h1 fun a h13 => ?_
 refine V.re h13 [] 4 5 [] fun a h14 => k3 _ _ ?_
 refine V.seq fun K15 k16 => ?_
 refine V.sg fun K17 k18 => ?_
 refine V.run h14 [] 1 1 0 [(10, .slice Ar r.length cr)] fun a h19 => ?_
 refine V.cl h19 (Go.Proofs.enters_of Tryz.func20 (by kernel_rfl) rfl) (check_any w5 Ar cr r hSr_9.old hbn) ?_
 rintro _ w21 ⟨rfl, hF20⟩
 refine ⟨_, rfl, fun a h22 => ?_⟩
 have hsw21 := hF20.size
 have hF_23 := hF_8.new hF20
 have hSr_24 := hSr_9.fr0 hF20
 have hSl_25 := hSl_10.fr0 hF20
 have hSz_26 := hSz_11.fr0 hF20
 have hSh_27 := hSh_12.fr0 hF20
 have hB6_28 := hB6.fr0 hF20
 refine V.re h22 [] 1 0 [(6, .int .i64 (imgN r))] fun a h29 => k18 _ _ ?_
 refine V.sr h29 [(1, .ne (imgN r) 0)] 12 12 [(13, .bool (decide (¬ (imgN r) = 0)))] fun a h32 => ?_
 refine V.cp h32 (¬ (imgN r) = 0) (fun ht33 => ?_) (fun ht33 => ?_)
 ·
  refine V.sr h32 [] 14 14 [(4, .slice none 0 0), (5, .int .i64 (imgN r))] fun a h36 => ?_
  refine V.ret (V.then_r ?_)
  refine V.r2 h36 (.slice none 0 0) (.int .i64 (imgN r)) ?_
  have hq := put_bad (x := (⟨key, k, s, l, z, h, at'⟩ : EnD)) (show ¬ imgN r = 0 by assumption)
  exact ⟨none, 0, by rw [hq.1, hq.2]; rfl, by rw [hq.2]; exact SlR.nil _ _ _, hF_23⟩
 ·
  refine V.skip ?_
  refine V.then_n (k16 _ _ ?_)
  refine V.seq fun K37 k38 => ?_
  refine V.sg fun K39 k40 => ?_
  refine V.run h32 [(0, .bs hB6_28 0 [.string key, .int .i64 k, .string s, .slice Al l.length cl, .slice Az z.length cz, .slice Ah h.length ch, .int .i64 at'])] 1 1 0 [(15, .agg #[.string key, .int .i64 k, .string s, .slice Al l.length cl, .slice Az z.length cz, .slice Ah h.length ch, .int .i64 at'])] fun a h41 => ?_
  refine V.cl h41 (Go.Proofs.enters_of Tryz.func54 (by kernel_rfl) rfl) (entry_any w21 key k s Al cl l hSl_25.old Az cz z hSz_26.old Ah ch h hSh_27.old at' (by omega) (by omega) (by omega) hz) ?_
  rintro _ w43 ⟨rfl, hF42⟩
  refine ⟨_, rfl, fun a h44 => ?_⟩
  have hsw43 := hF42.size
  have hF_45 := hF_23.new hF42
  have hSr_46 := hSr_24.fr0 hF42
  have hSl_47 := hSl_25.fr0 hF42
  have hSz_48 := hSz_26.fr0 hF42
  have hSh_49 := hSh_27.fr0 hF42
  have hB6_50 := hB6_28.fr0 hF42
  refine V.re h44 [] 1 0 [(17, .bool (!(bP (okE key at' (okV k s l z h)))))] fun a h51 => k40 _ _ ?_
  refine V.cb h51 (!(bP (okE key at' (okV k s l z h)))) (fun ht52 => ?_) (fun ht52 => ?_)
  ·
   refine V.sr h51 [] 1 0 [(4, .slice none 0 0), (5, .int .i64 90)] fun a h55 => ?_
   refine V.ret (V.then_r ?_)
   refine V.r2 h55 (.slice none 0 0) (.int .i64 90) ?_
   have hq := put_no (x := (⟨key, k, s, l, z, h, at'⟩ : EnD)) (show imgN r = 0 by first | assumption | exact Decidable.of_not_not (by assumption)) (fun q => nb_no (by assumption) (show okE key at' (okV k s l z h) from q))
   exact ⟨none, 0, by rw [hq.1, hq.2]; rfl, by rw [hq.2]; exact SlR.nil _ _ _, hF_45⟩
  ·
   refine V.skip ?_
   refine V.then_n (k38 _ _ ?_)
   refine V.sg fun K56 k57 => ?_
   refine V.run h51 [] 1 1 0 [(18, .slice Ar r.length cr)] fun a h58 => ?_
   refine V.cl h58 (Go.Proofs.enters_of Tryz.func62 (by kernel_rfl) rfl) (owned_any w43 Ar cr r.length r (by first | rfl | (simp only [List.length_take, List.length_drop]; omega)) hSr_46.old (by omega) hsm) ?_
   rintro _ w69 ⟨A59, c60, qs61, rfl, hd62, hO63, hP64, hF65⟩
   refine ⟨_, rfl, fun a h70 => ?_⟩
   have hsw69 := hF65.size
   have hF_71 := hF_45.new hF65
   have hSl_73 := hSl_47.fr0 hF65
   have hSz_74 := hSz_48.fr0 hF65
   have hSh_75 := hSh_49.fr0 hF65
   have hB6_76 := hB6_50.fr0 hF65
   have hql67 : qs61.length = r.length := by rw [← datE_len, hd62]
   have hS66 := hO63.read (Z' := fun k => w43.heap.size ≤ k) (fun _ _ h => h.elim) (fun _ h _ => h)
   have hol68 := hO63.lt
   refine V.re h70 [] 1 0 [(7, .slice A59 qs61.length c60)] fun a h77 => k57 _ _ ?_
   refine V.sg fun K78 k79 => ?_
   refine V.run h77 [(1, .bs hB6_76 1 [.int .i64 k, .string s, .slice Al l.length cl, .slice Az z.length cz, .slice Ah h.length ch])] 2 20 20 [(21, .agg #[.int .i64 k, .string s, .slice Al l.length cl, .slice Az z.length cz, .slice Ah h.length ch])] fun a h80 => ?_
   refine V.cl h80 (Go.Proofs.enters_of Tryz.func63 (by kernel_rfl) rfl) (own_any w69 k s Al cl l hSl_73.old Az cz z hSz_74.old Ah ch h hSh_75.old (by omega) (by omega) (by omega)) ?_
   rintro _ w95 ⟨Al81, cl82, Az83, cz84, Ah85, ch86, rfl, hO88, hO89, hO90, hd91, hF87⟩
   refine ⟨_, rfl, fun a h96 => ?_⟩
   have hsw95 := hF87.size
   have hF_97 := hF_71.new hF87
   have hB6_102 := hB6_76.fr0 hF87
   have hO63_103 := hO63.fr0 hF87
   have hP64_104 := hP64.fr0 hF87
   have hS66_105 := hS66.fr0 hF87
   have hS92 := hO88.read (Z' := fun k => w69.heap.size ≤ k ∧ k < w95.heap.size) (fun _ _ q => q.elim) (fun _ q q2 => ⟨q, q2⟩)
   have hS93 := hO89.read (Z' := fun k => w69.heap.size ≤ k ∧ k < w95.heap.size) (fun _ _ q => q.elim) (fun _ q q2 => ⟨q, q2⟩)
   have hS94 := hO90.read (Z' := fun k => w69.heap.size ≤ k ∧ k < w95.heap.size) (fun _ _ q => q.elim) (fun _ q q2 => ⟨q, q2⟩)
   refine V.run h96 [] 1 1 0 [(23, .pointer (some ⟨b4, 1, none⟩))] fun a h109 => ?_
   refine V.go (V.stn b4 1 (.agg #[.int .i64 k, .string s, .slice Al81 ((l).length) cl82, .slice Az83 ((z).length) cz84, .slice Ah85 ((h).length) ch86]) [.int .i64 k, .string s, .slice Al81 ((l).length) cl82, .slice Az83 ((z).length) cz84, .slice Ah85 ((h).length) ch86] h109.e h109.e rfl rfl (by kernel_rfl) hB6_102 (by simp) [.string key, .int .i64 k, .string s, .slice Al81 ((l).length) cl82, .slice Az83 ((z).length) cz84, .slice Ah85 ((h).length) ch86, .int .i64 at'] rfl ?_)
   intro w106 hB107 hF108 hsw106
   have hF_110 := hF_97.own hF108 (by simp <;> omega)
   have hO63_115 := hO63_103.frn hF108 (fun h => h) (by first | exact own_ne hO63_103 (by omega))
   have hP64_116 := hP64_104.fr hF108 (by intro k hk hz; simp only [List.mem_singleton] at hk; subst hk; have := hz.1; have := hz.2.1; first | omega | exact hz.2.2 rfl)
   have hS66_117 := hS66_105.fr hF108 (by simp <;> omega)
   have hS92_118 := hS92.fr hF108 (by simp <;> omega)
   have hS93_119 := hS93.fr hF108 (by simp <;> omega)
   have hS94_120 := hS94.fr hF108 (by simp <;> omega)
   refine V.nt (k79 _ _ ?_)
   refine V.sg fun K121 k122 => ?_
   refine V.run h109 [(1, .bs hB107 0 [.string key, .int .i64 k, .string s, .slice Al81 ((l).length) cl82, .slice Az83 ((z).length) cz84, .slice Ah85 ((h).length) ch86, .int .i64 at'])] 2 1 0 [(25, .slice A59 qs61.length c60), (26, .agg #[.string key, .int .i64 k, .string s, .slice Al81 ((l).length) cl82, .slice Az83 ((z).length) cz84, .slice Ah85 ((h).length) ch86, .int .i64 at'])] fun a h123 => ?_
   refine V.cl h123 (Go.Proofs.enters_of Tryz.func64 (by kernel_rfl) rfl) (bsfQ_any w106 w43.heap.size c60 A59 _ qs61 r hd62 hO63_115 hP64_116 (srt_img (by first | assumption | exact Decidable.of_not_not (by assumption))) (by omega) key k at' s Al81 Az83 Ah85 ((l).length) cl82 ((z).length) cz84 ((h).length) ch86 ) ?_
   rintro _ w125 ⟨rfl, hF124⟩
   refine ⟨_, rfl, fun a h126 => ?_⟩
   have hsw125 := hF124.size
   have hF_127 := hF_110.new hF124
   have hO63_132 := hO63_115.fr0 hF124
   have hP64_133 := hP64_116.fr0 hF124
   have hS66_134 := hS66_117.fr0 hF124
   have hS92_135 := hS92_118.fr0 hF124
   have hS93_136 := hS93_119.fr0 hF124
   have hS94_137 := hS94_120.fr0 hF124
   have hB107_138 := hB107.fr0 hF124
   refine V.re h126 [] 24 29 [(8, .int .i64 ((lbN r key : Nat) : Int)), (9, .bool (decide (thR r key)))] fun a h139 => k122 _ _ ?_
   refine V.seq fun K140 k141 => ?_
   refine V.sr h139 [] 1 0 [(30, .bool (decide (thR r key)))] fun a h144 => ?_
   refine V.cp h144 (thR r key) (fun ht145 => ?_) (fun ht145 => ?_)
   ·
    refine V.seq fun K146 k147 => ?_
    have hlt : lbN r key < qs61.length := by have := (show thR r key by assumption).1; omega
    obtain ⟨g148, o149, hA150, hA150l, hA150z⟩ := hS66_134.addr (by omega)
    try dsimp only at hA150z
    refine V.rg ?_
    refine V.run h144 [(2, .bs hB107_138 0 [.string key, .int .i64 k, .string s, .slice Al81 ((l).length) cl82, .slice Az83 ((z).length) cz84, .slice Ah85 ((h).length) ch86, .int .i64 at']), (0, .ix g148 o149 qs61.length c60 .i64 ((lbN r key : Nat) : Int) 7 hA150)] 4 31 32 [(33, .agg #[.string key, .int .i64 k, .string s, .slice Al81 ((l).length) cl82, .slice Az83 ((z).length) cz84, .slice Ah85 ((h).length) ch86, .int .i64 at']), (34, .pointer (some ⟨g148, o149 + ((lbN r key : Nat) : Int).toNat * 7, none⟩))] fun a h153 => ?_
    have hp151 : EnR (Zi w43.heap.size w125.heap.size (.slice A59 qs61.length c60)) w125 (rawE (⟨key, k, s, l, z, h, at'⟩ : EnD) Al81 cl82 Az83 cz84 Ah85 ch86, (⟨key, k, s, l, z, h, at'⟩ : EnD)) := ⟨_, _, _, rfl, hS92_135.zone (fun k _ hz => ⟨by omega, by omega, fun e => by have := (hol68 _ e).2; omega⟩), hS93_136.zone (fun k _ hz => ⟨by omega, by omega, fun e => by have := (hol68 _ e).2; omega⟩), hS94_137.zone (fun k _ hz => ⟨by omega, by omega, fun e => by have := (hol68 _ e).2; omega⟩)⟩
    have hN152 := (hP64_133.raise (M := w125.heap.size) (by omega)).app (PsOk.one hp151)
    refine V.go (V.stoWa (dβ := enR.dflt) (lbN r key) (rawE (⟨key, k, s, l, z, h, at'⟩ : EnD) Al81 cl82 Az83 cz84 Ah85 ch86, (⟨key, k, s, l, z, h, at'⟩ : EnD)) hO63_132 (by omega) hA150 (h153.e (v := (.pointer (some ⟨g148, o149 + ((lbN r key : Nat) : Int).toNat * 7, none⟩)))) (h153.e (v := (.agg #[.string key, .int .i64 k, .string s, .slice Al81 ((l).length) cl82, .slice Az83 ((z).length) cz84, .slice Ah85 ((h).length) ch86, .int .i64 at']))) rfl (by kernel_rfl) ?_)
    intro w154 hO155 hF156 hsw154
    have hF_157 := hF_127.own hF156 (own_ge hO63_132 (by omega))
    have hN152_163 := hN152.own hF156 (by intro k hk; simpa using hk)
    refine V.nt (k147 _ _ ?_)
    refine V.sr h153 [] 35 35 [(4, .slice A59 qs61.length c60), (5, .int .i64 0)] fun a h166 => ?_
    refine V.ret (V.then_r ?_)
    refine V.r2 h166 (.slice A59 qs61.length c60) (.int .i64 0) ?_
    have hq := put_yes (x := (⟨key, k, s, l, z, h, at'⟩ : EnD)) (show imgN r = 0 by first | assumption | exact Decidable.of_not_not (by assumption)) (show okE key at' (okV k s l z h) from nb_yes (by assumption))
    have hdq := dat_put (x := (⟨key, k, s, l, z, h, at'⟩ : EnD)) (p := (rawE (⟨key, k, s, l, z, h, at'⟩ : EnD) Al81 cl82 Az83 cz84 Ah85 ch86, (⟨key, k, s, l, z, h, at'⟩ : EnD))) hd62 rfl ht145
    have hlq := putD_len2 (x := (⟨key, k, s, l, z, h, at'⟩ : EnD)) ht145
    have hSq := OwR.dat hO155 (hN152_163.sub fun q hq => mem_setP hq)
    rw [hdq] at hSq
    have hn9 : qs61.length = (putD r (⟨key, k, s, l, z, h, at'⟩ : EnD)).length := by rw [hlq]; omega
    rw [hn9] at hSq
    exact ⟨_, _, by rw [hq.1, hq.2, hn9], by rw [hq.2]; exact hSq, hF_157⟩
   ·
    refine V.skip ?_
    refine V.then_n (k141 _ _ ?_)
    refine V.seq fun K167 k168 => ?_
    refine V.sr h144 [(2, .eq ((r.length : Nat) : Int) 65536)] 36 37 [(38, .bool (decide (((r.length : Nat) : Int) = 65536)))] fun a h171 => ?_
    refine V.cp h171 (((r.length : Nat) : Int) = 65536) (fun ht172 => ?_) (fun ht172 => ?_)
    · exact absurd ht172 (by omega)
    ·
     refine V.skip ?_
     refine V.then_n (k168 _ _ ?_)
     refine V.sg fun K173 k174 => ?_
     refine V.run h171 [(2, .bs hB107_138 0 [.string key, .int .i64 k, .string s, .slice Al81 ((l).length) cl82, .slice Az83 ((z).length) cz84, .slice Ah85 ((h).length) ch86, .int .i64 at'])] 3 1 0 [(39, .slice A59 qs61.length c60), (40, .int .i64 ((lbN r key : Nat) : Int)), (41, .agg #[.string key, .int .i64 k, .string s, .slice Al81 ((l).length) cl82, .slice Az83 ((z).length) cz84, .slice Ah85 ((h).length) ch86, .int .i64 at'])] fun a h175 => ?_
     refine V.go (V.mk [(41, .agg #[.string key, .int .i64 k, .string s, .slice Al81 ((l).length) cl82, .slice Az83 ((z).length) cz84, .slice Ah85 ((h).length) ch86, .int .i64 at'])] ⟨h175.e, trivial⟩ (by kernel_rfl) [.string key, .int .i64 k, .string s, .slice Al81 ((l).length) cl82, .slice Az83 ((z).length) cz84, .slice Ah85 ((h).length) ch86, .int .i64 at'] 55 (fun b => .slice (some ⟨b, 0, none⟩) 1 1) (by kernel_rfl) ?_)
     intro w177 b176 heb176 hB178 hF179 hsb176
     have hF_180 := hF_127.new hF179
     have hO63_185 := hO63_132.fr0 hF179
     have hP64_186 := hP64_133.fr0 hF179
     have hS92_188 := hS92_135.fr0 hF179
     have hS93_189 := hS93_136.fr0 hF179
     have hS94_190 := hS94_137.fr0 hF179
     refine V.pt h175 fun a h192 => ?_
     have hp193 : EnR (Zi w43.heap.size w177.heap.size (.slice A59 qs61.length c60)) w177 (rawE (⟨key, k, s, l, z, h, at'⟩ : EnD) Al81 cl82 Az83 cz84 Ah85 ch86, (⟨key, k, s, l, z, h, at'⟩ : EnD)) := ⟨_, _, _, rfl, hS92_188.zone (fun k _ hz => ⟨by omega, by omega, fun e => by have := (hol68 _ e).2; omega⟩), hS93_189.zone (fun k _ hz => ⟨by omega, by omega, fun e => by have := (hol68 _ e).2; omega⟩), hS94_190.zone (fun k _ hz => ⟨by omega, by omega, fun e => by have := (hol68 _ e).2; omega⟩)⟩
     have hN194 := (hP64_186.raise (M := w177.heap.size) (by omega)).app (PsOk.one hp193)
     refine V.cl h192 (Go.Proofs.enters_of Tryz.func65 (by kernel_rfl) rfl) (ins_any w177 w43.heap.size b176 c60 (lbN r key) A59 qs61 (rawE (⟨key, k, s, l, z, h, at'⟩ : EnD) Al81 cl82 Az83 cz84 Ah85 ch86, (⟨key, k, s, l, z, h, at'⟩ : EnD)) hO63_185 (by omega) hB178 (fun e => by have := (hol68 _ e).2; omega) (by have := lb_le (l := r) (key := key); omega) (by omega)) ?_
     rintro _ w199 ⟨A195, c196, rfl, hO197, hF198⟩
     refine ⟨_, rfl, fun a h200 => ?_⟩
     have hsw199 := hF198.size
     have hF_201 := hF_180.own hF198 (own_ge hO63_185 (by omega))
     have hN194_207 := hN194.own hF198 (by intro k hk; simpa using hk)
     refine V.re h200 [] 1 0 [(4, .slice A195 (qs61.length + 1) c196), (5, .int .i64 0)] fun a h208 => k174 _ _ ?_
     refine V.ret ?_
     refine V.r2 h208 (.slice A195 (qs61.length + 1) c196) (.int .i64 0) ?_
     have hq := put_yes (x := (⟨key, k, s, l, z, h, at'⟩ : EnD)) (show imgN r = 0 by first | assumption | exact Decidable.of_not_not (by assumption)) (show okE key at' (okV k s l z h) from nb_yes (by assumption))
     have hdq := dat_ins (x := (⟨key, k, s, l, z, h, at'⟩ : EnD)) (p := (rawE (⟨key, k, s, l, z, h, at'⟩ : EnD) Al81 cl82 Az83 cz84 Ah85 ch86, (⟨key, k, s, l, z, h, at'⟩ : EnD))) hd62 rfl ht145
     have hlq := putD_len (x := (⟨key, k, s, l, z, h, at'⟩ : EnD)) ht145
     have hSq := OwR.dat hO197 (hN194_207.sub fun q hq => mem_insP hq)
     rw [hdq] at hSq
     have hn9 : qs61.length + 1 = (putD r (⟨key, k, s, l, z, h, at'⟩ : EnD)).length := by rw [hlq]; omega
     rw [hn9] at hSq
     exact ⟨_, _, by rw [hq.1, hq.2, hn9], by rw [hq.2]; exact hSq, hF_201⟩
section
variable {l : List EnD} {x y : EnD} {key : ByteArray}
end
/-! ### what ImagePut asks -/
theorem find_to (w : World) (A : Option Addr) (c : Nat) (l : List EnD) (hS : SlR enR (fun k => k < w.heap.size) w (.slice A l.length c) l) (key2 : ByteArray) (hsm : ∀ x ∈ l, smE x) (b : Bool) (x : EnD) (hb : decide (¬ plN l key2 < 0) = b) (hx : fdE l key2 = x) :
    Calls Tryz.prog 26 #[.slice A l.length c, .string key2] w fun e w' => ∃ key k sv Al nl cl Az nz cz Ah nh ch t, e = .returned (.tuple #[.agg #[.string key, .int .i64 k, .string sv, .slice Al nl cl, .slice Az nz cz, .slice Ah nh ch, .int .i64 t], .bool b]) ∧ Fr [] w w' ∧ enR.ok (fun k => k < w'.heap.size) w' x [.string key, .int .i64 k, .string sv, .slice Al nl cl, .slice Az nz cz, .slice Ah nh ch, .int .i64 t] := by
  subst hb; subst hx
  exact find_any w A c l hS key2 hsm
theorem rfind_to (w : World) (A : Option Addr) (c : Nat) (l : List EnD) (hS : SlR enR (fun k => k < w.heap.size) w (.slice A l.length c) l) (key2 : ByteArray) (b : Bool) (x : EnD) (hb : decide (¬ plN l key2 < 0) = b) (hx : fdE l key2 = x) :
    Calls Tryz.prog 27 #[.slice A l.length c, .string key2] w fun e w' => ∃ key k sv Al nl cl Az nz cz Ah nh ch t, e = .returned (.tuple #[.agg #[.string key, .int .i64 k, .string sv, .slice Al nl cl, .slice Az nz cz, .slice Ah nh ch, .int .i64 t], .bool b]) ∧ Fr [] w w' ∧ enR.ok (fun k => k < w'.heap.size) w' x [.string key, .int .i64 k, .string sv, .slice Al nl cl, .slice Az nz cz, .slice Ah nh ch, .int .i64 t] := by
  subst hb; subst hx
  exact rfind_any w A c l hS key2
theorem one_row {w : World} {b : Nat} {cs : List Value} {x : EnD} (hB : Blk w b cs 55) (h : enR.ok (fun k => k < w.heap.size) w x cs) : SlR enR (fun k => k < w.heap.size) w (.slice (some ⟨b, 0, none⟩) 1 1) [x] :=
  slr_blk (R := enR) (xs := [x]) hB rfl hB.lt (by show 1 ≤ 9223372036854775807; omega) ⟨cs, [], (List.append_nil _).symm, h, rfl⟩
theorem rsame1_to (w : World) (b1 b2 : Nat) (cs1 cs2 : List Value) (x : EnD) (hB1 : Blk w b1 cs1 55) (hB2 : Blk w b2 cs2 55) (h1 : enR.ok (fun k => k < w.heap.size) w x cs1) (h2 : enR.ok (fun k => k < w.heap.size) w x cs2) : Calls Tryz.prog 15 #[.slice (some ⟨b1, 0, none⟩) 1 1, .slice (some ⟨b2, 0, none⟩) 1 1] w fun e w' => e = .returned (.bool true) ∧ Fr [] w w' :=
  (rsames_any w _ 1 [x] (one_row hB1 h1) _ 1 [x] (one_row hB2 h2)).mono fun e w' ⟨q1, q2⟩ => ⟨by rw [q1, bP_yes rfl], q2⟩
theorem en_old {w : World} {Z : Nat → Prop} {x : EnD} {cs : List Value} (h : enR.ok Z w x cs) : enR.ok (fun k => k < w.heap.size) w x cs := enR.mono (fun b hb _ => ⟨hb, rfl⟩) (Nat.le_refl _) h
theorem few_sm (x : EnD) : smE (fewD x) := by
  have h1 : (fewD x).l.length ≤ 40 := List.length_take_le ..
  have h2 : (fewD x).z.length ≤ 40 := List.length_take_le ..
  have h3 : (fewD x).h.length ≤ 40 := List.length_take_le ..
  exact ⟨by omega, by omega, by omega⟩
theorem cut_sm (l : List EnD) : ∀ x ∈ cutD l, smE x := fun x hx => by
  unfold cutD at hx
  obtain ⟨y, _, rfl⟩ := List.mem_map.1 hx
  exact few_sm y
/-! ### what ImageActs asks -/
theorem rliveS_any (w : World) (Al : Option Addr) (cl : Nat) (l : List EnD) (hSl : SlR enR (fun k => k < w.heap.size) w (.slice Al l.length cl) l) (now : Int) (hl : l.length ≤ 1099511627776) : Calls Tryz.prog 32 #[.slice Al l.length cl, .int .i64 now] w fun e w' => ∃ A' c', e = .returned (.slice A' (l.filter (lvP now)).length c') ∧ SlR enR (fun k => k < w'.heap.size) w' (.slice A' (l.filter (lvP now)).length c') (l.filter (lvP now)) ∧ Fr [] w w' :=
  (rlive_any w Al cl l hSl now hl).mono fun e w' ⟨A', c', h1, h2, h3⟩ => ⟨A', c', h1, h2.old, h3⟩
theorem rsame_eq (w : World) (A : Option Addr) (c : Nat) (A2 : Option Addr) (c2 : Nat) (l : List EnD) (hS : SlR enR (fun k => k < w.heap.size) w (.slice A l.length c) l) (hS2 : SlR enR (fun k => k < w.heap.size) w (.slice A2 l.length c2) l) : Calls Tryz.prog 15 #[.slice A l.length c, .slice A2 l.length c2] w fun e w' => e = .returned (.bool true) ∧ Fr [] w w' :=
  (rsames_any w A c l hS A2 c2 l hS2).mono fun e w' ⟨h1, h2⟩ => ⟨by rw [h1, bP_yes rfl], h2⟩
theorem imageActs_any (w : World) (Ap : Option Addr) (cp : Nat) (p : List EnD) (hSp : SlR enR (fun k => k < w.heap.size) w (.slice Ap p.length cp) p) (hEp : ∀ x ∈ p, EnM x) (key : ByteArray) (k : Int) (s : ByteArray) (Al : Option Addr) (cl : Nat) (l : List ByteArray) (hSl : SlR Rp.str (fun k => k < w.heap.size) w (.slice Al l.length cl) l) (Az : Option Addr) (cz : Nat) (z : List (ByteArray × Int)) (hSz : SlR scR (fun k => k < w.heap.size) w (.slice Az z.length cz) z) (Ah : Option Addr) (ch : Nat) (h : List (ByteArray × ByteArray)) (hSh : SlR fdR (fun k => k < w.heap.size) w (.slice Ah h.length ch) h) (at' : Int) (hE : EnM ⟨key, k, s, l, z, h, at'⟩) (key2 : ByteArray) (now : Int) (hnow : i64 now) (hV : Vs w) : Calls Tryz.prog 6 #[.slice Ap p.length cp, .agg #[.string key, .int .i64 k, .string s, .slice Al l.length cl, .slice Az z.length cz, .slice Ah h.length ch, .int .i64 at'], .string key2, .int .i64 now] w (fun e w' => e = .returned (.bool (true)) ∧ Fr [] w w') := by
 have hF := Fr.refl [] w
 refine V.en 106 Tryz.func6 fun a h1 => ?_
 refine V.sg fun K2 k3 => ?_
 refine V.go (V.mk [(1, .agg #[.string key, .int .i64 k, .string s, .slice Al l.length cl, .slice Az z.length cz, .slice Ah h.length ch, .int .i64 at'])] ⟨h1.e, trivial⟩ (by kernel_rfl) [.string key, .int .i64 k, .string s, .slice Al l.length cl, .slice Az z.length cz, .slice Ah h.length ch, .int .i64 at'] 55 (fun b => .pointer (some ⟨b, 0, none⟩)) (by kernel_rfl) ?_)
 intro w5 b4 heb4 hB6 hF7 hsb4
 have hF_8 := hF.new hF7
 have hSp_9 := hSp.fr0 hF7
 have hSl_10 := hSl.fr0 hF7
 have hSz_11 := hSz.fr0 hF7
 have hSh_12 := hSh.fr0 hF7
 refine V.pt h1 fun a h13 => ?_
 refine V.re h13 [] 8 8 [] fun a h14 => k3 _ _ ?_
 refine V.sg fun K15 k16 => ?_
 refine V.run h14 [] 1 1 0 [(21, .slice Ap p.length cp)] fun a h17 => ?_
 refine V.cl h17 (Go.Proofs.enters_of Tryz.func8 (by kernel_rfl) rfl) (cutS_any w5 w.heap.size (by omega) Ap cp p hSp_9) ?_
 rintro _ w22 ⟨A18, c19, rfl, hS20, hF21⟩
 refine ⟨_, rfl, fun a h23 => ?_⟩
 have hsw22 := hF21.size
 have hF_24 := hF_8.new hF21
 have hSl_26 := hSl_10.fr0 hF21
 have hSz_27 := hSz_11.fr0 hF21
 have hSh_28 := hSh_12.fr0 hF21
 have hB6_29 := hB6.fr0 hF21
 refine V.re h23 [] 1 0 [(0, .slice A18 ((cutD p).length) c19)] fun a h30 => k16 _ _ ?_
 refine V.sg fun K31 k32 => ?_
 refine V.run h30 [(1, .bs hB6_29 1 [.int .i64 k, .string s, .slice Al l.length cl, .slice Az z.length cz, .slice Ah h.length ch])] 2 23 23 [(24, .agg #[.int .i64 k, .string s, .slice Al l.length cl, .slice Az z.length cz, .slice Ah h.length ch])] fun a h33 => ?_
 refine V.cl h33 (Go.Proofs.enters_of Tryz.func17 (by kernel_rfl) rfl) (few_any w22 k s Al cl l hSl_26.old Az cz z hSz_27.old Ah ch h hSh_28.old) ?_
 rintro _ w38 ⟨rfl, hF34⟩
 refine ⟨_, rfl, fun a h39 => ?_⟩
 have hsw38 := hF34.size
 have hF_40 := hF_24.new hF34
 have hB6_45 := hB6_29.fr0 hF34
 have hS20_46 := hS20.fr0 hF34
 have hS35o := hSl_26.fr0 hF34
 have hS35 := hS35o.tke 40
 have hS36o := hSz_27.fr0 hF34
 have hS36 := hS36o.tke 40
 have hS37o := hSh_28.fr0 hF34
 have hS37 := hS37o.tke 40
 refine V.run h39 [] 1 1 0 [(26, .pointer (some ⟨b4, 1, none⟩))] fun a h50 => ?_
 refine V.go (V.stn b4 1 (.agg #[.int .i64 k, .string s, .slice Al ((l.take 40).length) cl, .slice Az ((z.take 40).length) cz, .slice Ah ((h.take 40).length) ch]) [.int .i64 k, .string s, .slice Al ((l.take 40).length) cl, .slice Az ((z.take 40).length) cz, .slice Ah ((h.take 40).length) ch] h50.e h50.e rfl rfl (by kernel_rfl) hB6_45 (by simp) [.string key, .int .i64 k, .string s, .slice Al ((l.take 40).length) cl, .slice Az ((z.take 40).length) cz, .slice Ah ((h.take 40).length) ch, .int .i64 at'] rfl ?_)
 intro w47 hB48 hF49 hsw47
 have hF_51 := hF_40.own hF49 (by simp <;> omega)
 have hS20_56 := hS20_46.fr hF49 (by simp <;> omega)
 have hS35_57 := hS35.fr hF49 (by simp <;> omega)
 have hS36_58 := hS36.fr hF49 (by simp <;> omega)
 have hS37_59 := hS37.fr hF49 (by simp <;> omega)
 refine V.nt (k32 _ _ ?_)
 refine V.sg fun K60 k61 => ?_
 refine V.run h50 [] 2 1 0 [(28, .slice A18 ((cutD p).length) c19), (29, .string key2)] fun a h62 => ?_
 refine V.cl h62 (Go.Proofs.enters_of Tryz.func26 (by kernel_rfl) rfl) (find_to w47 A18 c19 (cutD p) hS20_56.old key2 (cut_sm p) (decide (¬ plN (cutD p) key2 < 0)) (fdE (cutD p) key2) rfl rfl) ?_
 rintro _ w79 ⟨key63, k64, sv65, Al66, nl67, cl68, Az69, nz70, cz71, Ah72, nh73, ch74, t75, rfl, hF76, hr78⟩
 refine ⟨_, rfl, fun a h80 => ?_⟩
 have hsw79 := hF76.size
 have hF_81 := hF_51.new hF76
 have hS20_86 := hS20_56.fr0 hF76
 have hS35_87 := hS35_57.fr0 hF76
 have hS36_88 := hS36_58.fr0 hF76
 have hS37_89 := hS37_59.fr0 hF76
 have hB48_90 := hB48.fr0 hF76
 have hq77 := fun (_ : True) => hr78
 refine V.run h80 [] 3 27 27 [(31, .agg #[.string key63, .int .i64 k64, .string sv65, .slice Al66 nl67 cl68, .slice Az69 nz70 cz71, .slice Ah72 nh73 ch74, .int .i64 t75]), (32, .bool (decide (¬ plN (cutD p) key2 < 0)))] fun a h95 => ?_
 refine V.go (V.mk [] trivial (by kernel_rfl) [.string ⟨#[]⟩, .int .i64 0, .string ⟨#[]⟩, .slice none 0 0, .slice none 0 0, .slice none 0 0, .int .i64 0] 55 (fun b => .pointer (some ⟨b, 0, none⟩)) (by kernel_rfl) ?_)
 intro w92 b91 heb91 hB93 hF94 hsb91
 have hF_96 := hF_81.new hF94
 have hS20_101 := hS20_86.fr0 hF94
 have hS35_102 := hS35_87.fr0 hF94
 have hS36_103 := hS36_88.fr0 hF94
 have hS37_104 := hS37_89.fr0 hF94
 have hB48_105 := hB48_90.fr0 hF94
 have hq77_106 := fun hp => enR.mono (fun k hk hz => ⟨hz, hF94.block k hk (by simp)⟩) hF94.size (hq77 hp)
 refine V.pt h95 fun a h107 => ?_
 refine V.go (V.stn b91 0 (.agg #[.string key63, .int .i64 k64, .string sv65, .slice Al66 nl67 cl68, .slice Az69 nz70 cz71, .slice Ah72 nh73 ch74, .int .i64 t75]) [.string key63, .int .i64 k64, .string sv65, .slice Al66 nl67 cl68, .slice Az69 nz70 cz71, .slice Ah72 nh73 ch74, .int .i64 t75] h107.e h107.e rfl rfl (by kernel_rfl) hB93 (by simp) [.string key63, .int .i64 k64, .string sv65, .slice Al66 nl67 cl68, .slice Az69 nz70 cz71, .slice Ah72 nh73 ch74, .int .i64 t75] rfl ?_)
 intro w108 hB109 hF110 hsw108
 have hF_111 := hF_96.own hF110 (by simp <;> omega)
 have hS20_116 := hS20_101.fr hF110 (by simp <;> omega)
 have hS35_117 := hS35_102.fr hF110 (by simp <;> omega)
 have hS36_118 := hS36_103.fr hF110 (by simp <;> omega)
 have hS37_119 := hS37_104.fr hF110 (by simp <;> omega)
 have hB48_120 := hB48_105.fr1 hF110 (by omega)
 have hq77_121 := fun hp => enR.mono (fun k hk hz => ⟨hz, hF110.block k hk (by (try dsimp only at hz); simp <;> omega)⟩) hF110.size (hq77_106 hp)
 refine V.re h107 [] 1 0 [(10, .bool (decide (¬ plN (cutD p) key2 < 0)))] fun a h122 => k61 _ _ ?_
 refine V.sg fun K123 k124 => ?_
 refine V.run h122 [] 2 1 0 [(34, .slice A18 ((cutD p).length) c19), (35, .string key2)] fun a h125 => ?_
 refine V.cl h125 (Go.Proofs.enters_of Tryz.func27 (by kernel_rfl) rfl) (rfind_to w108 A18 c19 (cutD p) hS20_116.old key2 (decide (¬ plN (cutD p) key2 < 0)) (fdE (cutD p) key2) rfl rfl) ?_
 rintro _ w142 ⟨key126, k127, sv128, Al129, nl130, cl131, Az132, nz133, cz134, Ah135, nh136, ch137, t138, rfl, hF139, hr141⟩
 refine ⟨_, rfl, fun a h143 => ?_⟩
 have hsw142 := hF139.size
 have hF_144 := hF_111.new hF139
 have hS20_149 := hS20_116.fr0 hF139
 have hS35_150 := hS35_117.fr0 hF139
 have hS36_151 := hS36_118.fr0 hF139
 have hS37_152 := hS37_119.fr0 hF139
 have hB48_153 := hB48_120.fr0 hF139
 have hq77_154 := fun hp => enR.mono (fun k hk hz => ⟨hz, hF139.block k hk (by simp)⟩) hF139.size (hq77_121 hp)
 have hB109_155 := hB109.fr0 hF139
 have hq140 := fun (_ : True) => hr141
 refine V.run h143 [] 3 33 33 [(37, .agg #[.string key126, .int .i64 k127, .string sv128, .slice Al129 nl130 cl131, .slice Az132 nz133 cz134, .slice Ah135 nh136 ch137, .int .i64 t138]), (38, .bool (decide (¬ plN (cutD p) key2 < 0)))] fun a h160 => ?_
 refine V.go (V.mk [] trivial (by kernel_rfl) [.string ⟨#[]⟩, .int .i64 0, .string ⟨#[]⟩, .slice none 0 0, .slice none 0 0, .slice none 0 0, .int .i64 0] 55 (fun b => .pointer (some ⟨b, 0, none⟩)) (by kernel_rfl) ?_)
 intro w157 b156 heb156 hB158 hF159 hsb156
 have hF_161 := hF_144.new hF159
 have hS20_166 := hS20_149.fr0 hF159
 have hS35_167 := hS35_150.fr0 hF159
 have hS36_168 := hS36_151.fr0 hF159
 have hS37_169 := hS37_152.fr0 hF159
 have hB48_170 := hB48_153.fr0 hF159
 have hq77_171 := fun hp => enR.mono (fun k hk hz => ⟨hz, hF159.block k hk (by simp)⟩) hF159.size (hq77_154 hp)
 have hB109_172 := hB109_155.fr0 hF159
 have hq140_173 := fun hp => enR.mono (fun k hk hz => ⟨hz, hF159.block k hk (by simp)⟩) hF159.size (hq140 hp)
 refine V.pt h160 fun a h174 => ?_
 refine V.go (V.stn b156 0 (.agg #[.string key126, .int .i64 k127, .string sv128, .slice Al129 nl130 cl131, .slice Az132 nz133 cz134, .slice Ah135 nh136 ch137, .int .i64 t138]) [.string key126, .int .i64 k127, .string sv128, .slice Al129 nl130 cl131, .slice Az132 nz133 cz134, .slice Ah135 nh136 ch137, .int .i64 t138] h174.e h174.e rfl rfl (by kernel_rfl) hB158 (by simp) [.string key126, .int .i64 k127, .string sv128, .slice Al129 nl130 cl131, .slice Az132 nz133 cz134, .slice Ah135 nh136 ch137, .int .i64 t138] rfl ?_)
 intro w175 hB176 hF177 hsw175
 have hF_178 := hF_161.own hF177 (by simp <;> omega)
 have hS20_183 := hS20_166.fr hF177 (by simp <;> omega)
 have hS35_184 := hS35_167.fr hF177 (by simp <;> omega)
 have hS36_185 := hS36_168.fr hF177 (by simp <;> omega)
 have hS37_186 := hS37_169.fr hF177 (by simp <;> omega)
 have hB48_187 := hB48_170.fr1 hF177 (by omega)
 have hq77_188 := fun hp => enR.mono (fun k hk hz => ⟨hz, hF177.block k hk (by (try dsimp only at hz); simp <;> omega)⟩) hF177.size (hq77_171 hp)
 have hB109_189 := hB109_172.fr1 hF177 (by omega)
 have hq140_190 := fun hp => enR.mono (fun k hk hz => ⟨hz, hF177.block k hk (by (try dsimp only at hz); simp <;> omega)⟩) hF177.size (hq140_173 hp)
 refine V.re h174 [] 1 0 [(12, .bool (decide (¬ plN (cutD p) key2 < 0)))] fun a h191 => k124 _ _ ?_
 refine V.sg fun K192 k193 => ?_
 refine V.run h191 [(1, .bs hB48_187 0 [.string key, .int .i64 k, .string s, .slice Al ((l.take 40).length) cl, .slice Az ((z.take 40).length) cz, .slice Ah ((h.take 40).length) ch, .int .i64 at'])] 2 1 0 [(40, .slice A18 ((cutD p).length) c19), (41, .agg #[.string key, .int .i64 k, .string s, .slice Al ((l.take 40).length) cl, .slice Az ((z.take 40).length) cz, .slice Ah ((h.take 40).length) ch, .int .i64 at'])] fun a h194 => ?_
 refine V.cl h194 (Go.Proofs.enters_of Tryz.func25 (by kernel_rfl) rfl) (put_any w175 A18 c19 (cutD p) hS20_183.old (cut_sm p) (cut_bnd hEp).1 (cut_len p) key k s Al cl (l.take 40) hS35_184.old Az cz (z.take 40) hS36_185.old Ah ch (h.take 40) hS37_186.old at' (by simp only [List.length_take]; omega) (by simp only [List.length_take]; omega) (by simp only [List.length_take]; omega) (fun y hy => (hE.2.1.z y (List.mem_of_mem_take hy)).1)) ?_
 rintro _ w199 ⟨A195, c196, rfl, hS197, hF198⟩
 refine ⟨_, rfl, fun a h200 => ?_⟩
 have hsw199 := hF198.size
 have hF_201 := hF_178.new hF198
 have hS20_206 := hS20_183.fr0 hF198
 have hS35_207 := hS35_184.fr0 hF198
 have hS36_208 := hS36_185.fr0 hF198
 have hS37_209 := hS37_186.fr0 hF198
 have hB48_210 := hB48_187.fr0 hF198
 have hq77_211 := fun hp => enR.mono (fun k hk hz => ⟨hz, hF198.block k hk (by simp)⟩) hF198.size (hq77_188 hp)
 have hB109_212 := hB109_189.fr0 hF198
 have hq140_213 := fun hp => enR.mono (fun k hk hz => ⟨hz, hF198.block k hk (by simp)⟩) hF198.size (hq140_190 hp)
 have hB176_214 := hB176.fr0 hF198
 refine V.re h200 [] 39 44 [(13, .slice A195 ((putL (cutD p) (⟨key, k, s, l.take 40, z.take 40, h.take 40, at'⟩ : EnD)).length) c196), (14, .int .i64 (putN (cutD p) (⟨key, k, s, l.take 40, z.take 40, h.take 40, at'⟩ : EnD)))] fun a h215 => k193 _ _ ?_
 refine V.sg fun K216 k217 => ?_
 refine V.run h215 [(1, .bs hB48_210 0 [.string key, .int .i64 k, .string s, .slice Al ((l.take 40).length) cl, .slice Az ((z.take 40).length) cz, .slice Ah ((h.take 40).length) ch, .int .i64 at'])] 2 1 0 [(46, .slice A18 ((cutD p).length) c19), (47, .agg #[.string key, .int .i64 k, .string s, .slice Al ((l.take 40).length) cl, .slice Az ((z.take 40).length) cz, .slice Ah ((h.take 40).length) ch, .int .i64 at'])] fun a h218 => ?_
 refine V.cl h218 (Go.Proofs.enters_of Tryz.func29 (by kernel_rfl) rfl) (rput_any w199 A18 c19 (cutD p) hS20_206.old (cut_len p) key k s Al cl (l.take 40) hS35_207.old Az cz (z.take 40) hS36_208.old Ah ch (h.take 40) hS37_209.old at') ?_
 rintro _ w223 ⟨A219, c220, rfl, hS221, hF222⟩
 refine ⟨_, rfl, fun a h224 => ?_⟩
 have hsw223 := hF222.size
 have hF_225 := hF_201.new hF222
 have hS20_230 := hS20_206.fr0 hF222
 have hq77_235 := fun hp => enR.mono (fun k hk hz => ⟨hz, hF222.block k hk (by simp)⟩) hF222.size (hq77_211 hp)
 have hB109_236 := hB109_212.fr0 hF222
 have hq140_237 := fun hp => enR.mono (fun k hk hz => ⟨hz, hF222.block k hk (by simp)⟩) hF222.size (hq140_213 hp)
 have hB176_238 := hB176_214.fr0 hF222
 have hS197_239 := hS197.fr0 hF222
 refine V.re h224 [] 45 50 [(15, .slice A219 ((putL (cutD p) (⟨key, k, s, l.take 40, z.take 40, h.take 40, at'⟩ : EnD)).length) c220), (16, .int .i64 (putN (cutD p) (⟨key, k, s, l.take 40, z.take 40, h.take 40, at'⟩ : EnD)))] fun a h240 => k217 _ _ ?_
 have h241 := h240.only [(0, .slice A18 ((cutD p).length) c19), (2, .string key2), (3, .int .i64 now), (9, .pointer (some ⟨b91, 0, none⟩)), (10, .bool (decide (¬ plN (cutD p) key2 < 0))), (11, .pointer (some ⟨b156, 0, none⟩)), (12, .bool (decide (¬ plN (cutD p) key2 < 0))), (13, .slice A195 ((putL (cutD p) (⟨key, k, s, l.take 40, z.take 40, h.take 40, at'⟩ : EnD)).length) c196), (14, .int .i64 (putN (cutD p) (⟨key, k, s, l.take 40, z.take 40, h.take 40, at'⟩ : EnD))), (15, .slice A219 ((putL (cutD p) (⟨key, k, s, l.take 40, z.take 40, h.take 40, at'⟩ : EnD)).length) c220), (16, .int .i64 (putN (cutD p) (⟨key, k, s, l.take 40, z.take 40, h.take 40, at'⟩ : EnD)))]
 refine V.sg fun K242 k243 => ?_
 refine V.run h241 [] 2 1 0 [(52, .slice A18 ((cutD p).length) c19), (53, .string key2)] fun a h244 => ?_
 refine V.cl h244 (Go.Proofs.enters_of Tryz.func28 (by kernel_rfl) rfl) (dele_any w223 A18 c19 (cutD p) hS20_230.old key2 (cut_sm p) (by have := cut_len p; omega)) ?_
 rintro _ w249 ⟨A245, c246, rfl, hS247, hF248⟩
 refine ⟨_, rfl, fun a h250 => ?_⟩
 have hsw249 := hF248.size
 have hF_251 := hF_225.new hF248
 have hS20_256 := hS20_230.fr0 hF248
 have hq77_261 := fun hp => enR.mono (fun k hk hz => ⟨hz, hF248.block k hk (by simp)⟩) hF248.size (hq77_235 hp)
 have hB109_262 := hB109_236.fr0 hF248
 have hq140_263 := fun hp => enR.mono (fun k hk hz => ⟨hz, hF248.block k hk (by simp)⟩) hF248.size (hq140_237 hp)
 have hB176_264 := hB176_238.fr0 hF248
 have hS197_265 := hS197_239.fr0 hF248
 have hS221_266 := hS221.fr0 hF248
 refine V.re h250 [] 51 56 [(17, .slice A245 ((delL (cutD p) key2).length) c246), (18, .bool (decide (¬ plN (cutD p) key2 < 0)))] fun a h267 => k243 _ _ ?_
 refine V.sg fun K268 k269 => ?_
 refine V.run h267 [] 2 1 0 [(58, .slice A18 ((cutD p).length) c19), (59, .string key2)] fun a h270 => ?_
 refine V.cl h270 (Go.Proofs.enters_of Tryz.func30 (by kernel_rfl) rfl) (rdel_any w249 A18 c19 (cutD p) hS20_256.old (by have := cut_len p; omega) key2) ?_
 rintro _ w275 ⟨A271, c272, rfl, hS273, hF274⟩
 refine ⟨_, rfl, fun a h276 => ?_⟩
 have hsw275 := hF274.size
 have hF_277 := hF_251.new hF274
 have hS20_282 := hS20_256.fr0 hF274
 have hq77_287 := fun hp => enR.mono (fun k hk hz => ⟨hz, hF274.block k hk (by simp)⟩) hF274.size (hq77_261 hp)
 have hB109_288 := hB109_262.fr0 hF274
 have hq140_289 := fun hp => enR.mono (fun k hk hz => ⟨hz, hF274.block k hk (by simp)⟩) hF274.size (hq140_263 hp)
 have hB176_290 := hB176_264.fr0 hF274
 have hS197_291 := hS197_265.fr0 hF274
 have hS221_292 := hS221_266.fr0 hF274
 have hS247_293 := hS247.fr0 hF274
 refine V.re h276 [] 57 62 [(19, .slice A271 ((delL (cutD p) key2).length) c272), (20, .bool (decide (¬ plN (cutD p) key2 < 0)))] fun a h294 => k269 _ _ ?_
 refine V.seq fun K295 k296 => ?_
 refine V.sg fun K297 k298 => ?_
 refine V.run h294 [(2, .q (.bool false) (V.t_bnsame (decide (¬ plN (cutD p) key2 < 0)))), (1, .bs hB109_288 0 [.string key63, .int .i64 k64, .string sv65, .slice Al66 nl67 cl68, .slice Az69 nz70 cz71, .slice Ah72 nh73 ch74, .int .i64 t75])] 5 63 65 [(66, .bool false), (67, .agg #[.string key63, .int .i64 k64, .string sv65, .slice Al66 nl67 cl68, .slice Az69 nz70 cz71, .slice Ah72 nh73 ch74, .int .i64 t75])] fun a h299 => ?_
 refine V.gon h299 (V.mk [(67, .agg #[.string key63, .int .i64 k64, .string sv65, .slice Al66 nl67 cl68, .slice Az69 nz70 cz71, .slice Ah72 nh73 ch74, .int .i64 t75])] ⟨h299.e, trivial⟩ (by kernel_rfl) [.string key63, .int .i64 k64, .string sv65, .slice Al66 nl67 cl68, .slice Az69 nz70 cz71, .slice Ah72 nh73 ch74, .int .i64 t75] 55 (fun b => .slice (some ⟨b, 0, none⟩) 1 1) (by kernel_rfl) ?_)
 intro w301 b300 heb300 hB302 hF303 hsb300
 have hF_304 := hF_277.new hF303
 have hS20_309 := hS20_282.fr0 hF303
 have hq77_314 := fun hp => enR.mono (fun k hk hz => ⟨hz, hF303.block k hk (by simp)⟩) hF303.size (hq77_287 hp)
 have hq140_316 := fun hp => enR.mono (fun k hk hz => ⟨hz, hF303.block k hk (by simp)⟩) hF303.size (hq140_289 hp)
 have hB176_317 := hB176_290.fr0 hF303
 have hS197_318 := hS197_291.fr0 hF303
 have hS221_319 := hS221_292.fr0 hF303
 have hS247_320 := hS247_293.fr0 hF303
 have hS273_321 := hS273.fr0 hF303
 refine V.pt h299 fun a h322 => ?_
 refine V.run h322 [(0, .bs hB176_317 0 [.string key126, .int .i64 k127, .string sv128, .slice Al129 nl130 cl131, .slice Az132 nz133 cz134, .slice Ah135 nh136 ch137, .int .i64 t138])] 1 1 0 [(69, .agg #[.string key126, .int .i64 k127, .string sv128, .slice Al129 nl130 cl131, .slice Az132 nz133 cz134, .slice Ah135 nh136 ch137, .int .i64 t138])] fun a h323 => ?_
 refine V.gon h323 (V.mk [(69, .agg #[.string key126, .int .i64 k127, .string sv128, .slice Al129 nl130 cl131, .slice Az132 nz133 cz134, .slice Ah135 nh136 ch137, .int .i64 t138])] ⟨h323.e, trivial⟩ (by kernel_rfl) [.string key126, .int .i64 k127, .string sv128, .slice Al129 nl130 cl131, .slice Az132 nz133 cz134, .slice Ah135 nh136 ch137, .int .i64 t138] 55 (fun b => .slice (some ⟨b, 0, none⟩) 1 1) (by kernel_rfl) ?_)
 intro w325 b324 heb324 hB326 hF327 hsb324
 have hF_328 := hF_304.new hF327
 have hS20_333 := hS20_309.fr0 hF327
 have hq77_338 := fun hp => enR.mono (fun k hk hz => ⟨hz, hF327.block k hk (by simp)⟩) hF327.size (hq77_314 hp)
 have hq140_340 := fun hp => enR.mono (fun k hk hz => ⟨hz, hF327.block k hk (by simp)⟩) hF327.size (hq140_316 hp)
 have hS197_342 := hS197_318.fr0 hF327
 have hS221_343 := hS221_319.fr0 hF327
 have hS247_344 := hS247_320.fr0 hF327
 have hS273_345 := hS273_321.fr0 hF327
 have hB302_346 := hB302.fr0 hF327
 refine V.pt h323 fun a h347 => ?_
 refine V.clg h347 (Go.Proofs.enters_of Tryz.func15 (by kernel_rfl) rfl) (rsame1_to w325 b300 b324 [.string key63, .int .i64 k64, .string sv65, .slice Al66 nl67 cl68, .slice Az69 nz70 cz71, .slice Ah72 nh73 ch74, .int .i64 t75] [.string key126, .int .i64 k127, .string sv128, .slice Al129 nl130 cl131, .slice Az132 nz133 cz134, .slice Ah135 nh136 ch137, .int .i64 t138] (fdE (cutD p) key2) hB302_346 hB326 (en_old (hq77_338 trivial)) (en_old (hq140_340 trivial))) ?_
 rintro _ w349 ⟨rfl, hF348⟩
 refine ⟨_, rfl, fun a h350 => ?_⟩
 have hsw349 := hF348.size
 have hF_351 := hF_328.new hF348
 have hS20_356 := hS20_333.fr0 hF348
 have hq77_361 := fun hp => enR.mono (fun k hk hz => ⟨hz, hF348.block k hk (by simp)⟩) hF348.size (hq77_338 hp)
 have hq140_363 := fun hp => enR.mono (fun k hk hz => ⟨hz, hF348.block k hk (by simp)⟩) hF348.size (hq140_340 hp)
 have hS197_365 := hS197_342.fr0 hF348
 have hS221_366 := hS221_343.fr0 hF348
 have hS247_367 := hS247_344.fr0 hF348
 have hS273_368 := hS273_345.fr0 hF348
 refine V.run h350 [] 5 72 73 [(74, .bool false), (75, .slice A195 ((putL (cutD p) (⟨key, k, s, l.take 40, z.take 40, h.take 40, at'⟩ : EnD)).length) c196), (76, .slice A219 ((putL (cutD p) (⟨key, k, s, l.take 40, z.take 40, h.take 40, at'⟩ : EnD)).length) c220)] fun a h371 => ?_
 refine V.clg h371 (Go.Proofs.enters_of Tryz.func15 (by kernel_rfl) rfl) (rsame_eq w349 A195 c196 A219 c220 (putL (cutD p) (⟨key, k, s, l.take 40, z.take 40, h.take 40, at'⟩ : EnD)) hS197_365.old hS221_366.old) ?_
 rintro _ w373 ⟨rfl, hF372⟩
 refine ⟨_, rfl, fun a h374 => ?_⟩
 have hsw373 := hF372.size
 have hF_375 := hF_351.new hF372
 have hS20_380 := hS20_356.fr0 hF372
 have hq77_385 := fun hp => enR.mono (fun k hk hz => ⟨hz, hF372.block k hk (by simp)⟩) hF372.size (hq77_361 hp)
 have hq140_387 := fun hp => enR.mono (fun k hk hz => ⟨hz, hF372.block k hk (by simp)⟩) hF372.size (hq140_363 hp)
 have hS247_391 := hS247_367.fr0 hF372
 have hS273_392 := hS273_368.fr0 hF372
 refine V.run h374 [(5, .q (.bool false) (V.t_nsame (putN (cutD p) (⟨key, k, s, l.take 40, z.take 40, h.take 40, at'⟩ : EnD))))] 10 78 84 [(85, .bool false), (86, .slice A245 ((delL (cutD p) key2).length) c246), (87, .slice A271 ((delL (cutD p) key2).length) c272)] fun a h395 => ?_
 refine V.clg h395 (Go.Proofs.enters_of Tryz.func15 (by kernel_rfl) rfl) (rsame_eq w373 A245 c246 A271 c272 (delL (cutD p) key2) hS247_391.old hS273_392.old) ?_
 rintro _ w397 ⟨rfl, hF396⟩
 refine ⟨_, rfl, fun a h398 => ?_⟩
 have hsw397 := hF396.size
 have hF_399 := hF_375.new hF396
 have hS20_404 := hS20_380.fr0 hF396
 have hq77_409 := fun hp => enR.mono (fun k hk hz => ⟨hz, hF396.block k hk (by simp)⟩) hF396.size (hq77_385 hp)
 have hq140_411 := fun hp => enR.mono (fun k hk hz => ⟨hz, hF396.block k hk (by simp)⟩) hF396.size (hq140_387 hp)
 refine V.re h398 [(5, .q (.bool false) (V.t_bnsame (decide (¬ plN (cutD p) key2 < 0))))] 89 94 [(95, .bool false)] fun a h419 => k298 _ _ ?_
 have h420 := h419.only [(0, .slice A18 ((cutD p).length) c19), (3, .int .i64 now), (95, .bool false)]
 refine V.cf h420 ?_
 refine V.skip ?_
 refine V.then_n (k296 _ _ ?_)
 refine V.sg fun K421 k422 => ?_
 refine V.run h420 [] 2 1 0 [(96, .slice A18 ((cutD p).length) c19), (97, .int .i64 now)] fun a h423 => ?_
 refine V.cl h423 (Go.Proofs.enters_of Tryz.func31 (by kernel_rfl) rfl) (live_any w397 A18 c19 (cutD p) hS20_404.old now (cut_sm p) (by have := cut_len p; omega)) ?_
 rintro _ w428 ⟨A424, c425, rfl, hS426, hF427⟩
 refine ⟨_, rfl, fun a h429 => ?_⟩
 have hsw428 := hF427.size
 have hF_430 := hF_399.new hF427
 have hS20_435 := hS20_404.fr0 hF427
 have hq77_440 := fun hp => enR.mono (fun k hk hz => ⟨hz, hF427.block k hk (by simp)⟩) hF427.size (hq77_409 hp)
 have hq140_442 := fun hp => enR.mono (fun k hk hz => ⟨hz, hF427.block k hk (by simp)⟩) hF427.size (hq140_411 hp)
 refine V.run h429 [] 2 1 0 [(99, .slice A18 ((cutD p).length) c19), (100, .int .i64 now)] fun a h450 => ?_
 refine V.cl h450 (Go.Proofs.enters_of Tryz.func32 (by kernel_rfl) rfl) (rliveS_any w428 A18 c19 (cutD p) hS20_435.old now (by have := cut_len p; omega)) ?_
 rintro _ w455 ⟨A451, c452, rfl, hS453, hF454⟩
 refine ⟨_, rfl, fun a h456 => ?_⟩
 have hsw455 := hF454.size
 have hF_457 := hF_430.new hF454
 have hq77_467 := fun hp => enR.mono (fun k hk hz => ⟨hz, hF454.block k hk (by simp)⟩) hF454.size (hq77_440 hp)
 have hq140_469 := fun hp => enR.mono (fun k hk hz => ⟨hz, hF454.block k hk (by simp)⟩) hF454.size (hq140_442 hp)
 have hS426_477 := hS426.fr0 hF454
 refine V.cl h456 (Go.Proofs.enters_of Tryz.func15 (by kernel_rfl) rfl) (rsame_eq w455 A424 c425 A451 c452 ((cutD p).filter (lvP now)) hS426_477.old hS453.old) ?_
 rintro _ w479 ⟨rfl, hF478⟩
 refine ⟨_, rfl, fun a h480 => ?_⟩
 have hsw479 := hF478.size
 have hF_481 := hF_457.new hF478
 have hq77_491 := fun hp => enR.mono (fun k hk hz => ⟨hz, hF478.block k hk (by simp)⟩) hF478.size (hq77_467 hp)
 have hq140_493 := fun hp => enR.mono (fun k hk hz => ⟨hz, hF478.block k hk (by simp)⟩) hF478.size (hq140_469 hp)
 refine V.run h480 [] 1 1 0 [(103, .bool true)] fun a h503 => ?_
 refine V.clg h503 (Go.Proofs.enters_of Tryz.func16 (by kernel_rfl) rfl) (alive_any w479 (hV.fr hF_481)) ?_
 rintro _ w505 ⟨rfl, hF504⟩
 refine ⟨_, rfl, fun a h506 => ?_⟩
 have hsw505 := hF504.size
 have hF_507 := hF_481.new hF504
 have hq77_517 := fun hp => enR.mono (fun k hk hz => ⟨hz, hF504.block k hk (by simp)⟩) hF504.size (hq77_491 hp)
 have hq140_519 := fun hp => enR.mono (fun k hk hz => ⟨hz, hF504.block k hk (by simp)⟩) hF504.size (hq140_493 hp)
 refine V.re h506 [] 105 105 [(8, .bool true)] fun a h529 => k422 _ _ ?_
 refine V.ret ?_
 refine V.r1 h529 (.bool true) ?_
 exact ⟨rfl, hF_507⟩
end Go.Proofs.YtdebkbfnngkdlaaGreatDoor
end
