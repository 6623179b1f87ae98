/- Joined texts: Ko, Kp, Kq, Kr, Ks, Kt, Ku. -/
import Derived.Test.YtdebkbfnngkdlaaGreatDoorProg
import Derived.Test.YtdebkbfnngkdlaaGreatDoorIf4
section
namespace Go.Proofs.YtdebkbfnngkdlaaGreatDoor
open Go.V Go.Base
open Go.RowKit (Below)
attribute [local irreducible] Act.put Act.eval
set_option linter.unusedVariables false
set_option linter.unusedSimpArgs false
set_option maxHeartbeats 4000000
set_option maxRecDepth 20000
/-! ### The entry of a line -/
noncomputable def tillD (x : ByteArray) : Int := if x = ⟨#[45]⟩ then -1 else prN x
def tmOk (x : ByteArray) : Prop := x = ⟨#[45]⟩ ∨ (prOk x ∧ 0 ≤ prN x ∧ prN x ≤ 1099511627776)
noncomputable def rdE0 (s : ByteArray) : EnD := ⟨unhexS (at_ Rp.str (spl s) 1), kindI (at_ Rp.str (spl s) 0), ⟨#[]⟩, [], [], [], tillD (at_ Rp.str (spl s) 2)⟩
noncomputable def rdE (s : ByteArray) : EnD := ((spl s).drop 3).foldl ptE (rdE0 s)
def gP (s : ByteArray) (i : Nat) : Prop := ptOk (kindI (at_ Rp.str (spl s) 0)) (at_ Rp.str ((spl s).drop 3) (i : Int))
def rdPre (s : ByteArray) : Prop := 4 ≤ (spl s).length ∧ 1 ≤ kindI (at_ Rp.str (spl s) 0) ∧ uhOk (at_ Rp.str (spl s) 1) ∧ tmOk (at_ Rp.str (spl s) 2) ∧ AllG (gP s) ((spl s).length - 3)
def lnOf (e : EnD) : ByteArray := lnD e.key e.k e.s e.l e.z e.h e.till
def rdOk (s : ByteArray) : Prop := rdPre s ∧ okD (rdE s) ∧ lnOf (rdE s) = s
theorem bd0 (key s : ByteArray) (k t : Int) : BdE ⟨key, k, s, [], [], [], t⟩ 0 := ⟨Nat.le_refl _, Nat.le_refl _, Nat.le_refl _, fun x hx => by cases hx⟩
theorem enB_new {w : World} {b : Nat} {key s : ByteArray} {k t : Int} (h : Blk w b [.string key, .int .i64 k, .string s, .slice none 0 0, .slice none 0 0, .slice none 0 0, .int .i64 t] 55) : EnB w b ⟨key, k, s, [], [], [], t⟩ :=
  ⟨none, 0, none, 0, none, 0, h, OwR.nil .., OwR.nil .., OwR.nil .., fun _ => ⟨rfl, rfl, rfl⟩, fun _ => ⟨rfl, rfl, rfl⟩, fun _ => ⟨rfl, rfl, rfl⟩⟩
theorem wd_size {s : ByteArray} {i : Nat} (h : i < (spl s).length) : (at_ Rp.str (spl s) (i : Int)).size ≤ s.size := spl_size (at_in Rp.str h)
theorem wd3_size {s : ByteArray} {x : ByteArray} (h : x ∈ (spl s).drop 3) : x.size ≤ s.size := spl_size (List.mem_of_mem_drop h)
theorem ent_good {x : EnD} {n : Nat} (h : okE x.key x.till (okV x.k x.s x.l x.z x.h)) (hb : BdE x n) : x.key.size ≤ 65536 ∧ i64 x.till ∧ ShV x.s x.l x.z x.h :=
  ⟨h.1, by have := h.2.1; unfold i64; omega, shV_of h.2.2 fun y hy => (hb.x y hy).2⟩
theorem read_any (w : World) (s : ByteArray) (hs : s.size ≤ 67108864) (hV : Vs w) : Calls Tryz.prog 44 #[.string s] w (fun e w' => ∃ key k sv Al nl cl Az nz cz Ah nh ch t, e = .returned (.tuple #[.agg #[.string key, .int .i64 k, .string sv, .slice Al nl cl, .slice Az nz cz, .slice Ah nh ch, .int .i64 t], .bool (bP (rdOk s))]) ∧ Fr [] w w' ∧ (rdOk s → enR.ok (fun k => w.heap.size ≤ k) w' (rdE s) [.string key, .int .i64 k, .string sv, .slice Al nl cl, .slice Az nz cz, .slice Ah nh ch, .int .i64 t])) := by
 have hF := Fr.refl [] w
 have hlo := hV.lo
 refine V.en 88 Tryz.func44 fun a h1 => ?_
 refine V.sg fun K2 k3 => ?_
 refine V.go (V.mk [] trivial (by kernel_rfl) [.string ⟨#[]⟩, .int .i64 0, .string ⟨#[]⟩, .slice none 0 0, .slice none 0 0, .slice none 0 0, .int .i64 0] 55 (fun b => .pointer (some ⟨b, 0, none⟩)) (by kernel_rfl) ?_)
 intro w5 b4 heb4 hB6 hF7 hsb4
 have hF_8 := hF.new hF7
 refine V.pt h1 fun a h9 => ?_
 refine V.re h9 [] 3 3 [] fun a h10 => k3 _ _ ?_
 refine V.sg fun K11 k12 => ?_
 refine V.run h10 [] 1 1 0 [(13, .string s)] fun a h13 => ?_
 refine V.cl h13 (Go.Proofs.enters_of Tryz.func87 (by kernel_rfl) rfl) (sp_any w5 s (by omega) (hV.fr hF_8)) ?_
 rintro _ w17 ⟨b14, rfl, hS15, hF16⟩
 refine ⟨_, rfl, fun a h18 => ?_⟩
 have hsw17 := hF16.size
 have hF_19 := hF_8.new hF16
 have hB6_20 := hB6.fr0 hF16
 refine V.re h18 [] 1 0 [(4, .slice (some ⟨b14, 0, none⟩) ((spl s).length) ((spl s).length))] fun a h21 => k12 _ _ ?_
 refine V.seq fun K22 k23 => ?_
 refine V.sr h21 [] 15 16 [(17, .bool (decide ((((spl s).length : Nat) : Int) < 4)))] fun a h26 => ?_
 refine V.cp h26 ((((spl s).length : Nat) : Int) < 4) (fun ht27 => ?_) (fun ht27 => ?_)
 ·
  refine V.sg fun K28 k29 => ?_
  refine V.run h26 [] 1 1 0 [(18, .agg #[.string ⟨#[]⟩, .int .i64 0, .string ⟨#[]⟩, .slice none 0 0, .slice none 0 0, .slice none 0 0, .int .i64 0])] fun a h33 => ?_
  refine V.go (V.stn b4 0 (.agg #[.string ⟨#[]⟩, .int .i64 0, .string ⟨#[]⟩, .slice none 0 0, .slice none 0 0, .slice none 0 0, .int .i64 0]) [.string ⟨#[]⟩, .int .i64 0, .string ⟨#[]⟩, .slice none 0 0, .slice none 0 0, .slice none 0 0, .int .i64 0] h33.e h33.e rfl rfl (by kernel_rfl) hB6_20 (by simp) [.string ⟨#[]⟩, .int .i64 0, .string ⟨#[]⟩, .slice none 0 0, .slice none 0 0, .slice none 0 0, .int .i64 0] rfl ?_)
  intro w30 hB31 hF32 hsw30
  have hF_34 := hF_19.own hF32 (by simp <;> omega)
  refine V.re h33 [] 1 0 [(3, .bool false)] fun a h36 => k29 _ _ ?_
  refine V.ret (V.then_r ?_)
  refine V.retCT h36.sd rfl _ (h36.e (v := (.pointer (some ⟨b4, 0, none⟩)))) (V.run_loadVar_agg (cs := [.string ⟨#[]⟩, .int .i64 0, .string ⟨#[]⟩, .slice none 0 0, .slice none 0 0, .slice none 0 0, .int .i64 0]) (by kernel_rfl) (blk_cells hB31 0 _ rfl)) (h36.e (v := (.bool false))) ?_
  have hno : ¬ rdOk s := fun hq => by
    obtain ⟨⟨q1, q2, q3, q4, q5⟩, q6, q7⟩ := hq
    first | omega | exact nb_no (by assumption) q3 | exact nb_no (by assumption) (q5 i (by omega)) | (rcases q4 with q4 | ⟨q8, q9, q10⟩ <;> first | exact absurd q4 (by assumption) | omega | exact absurd (prC_0.2 q8) (by assumption))
  exact ⟨_, _, _, _, _, _, _, _, _, _, _, _, _, congrArg (fun b => Ending.returned (Value.tuple #[.agg #[.string ⟨#[]⟩, .int .i64 0, .string ⟨#[]⟩, .slice none 0 0, .slice none 0 0, .slice none 0 0, .int .i64 0], Value.bool b])) (bP_no hno), hF_34, fun h => absurd h hno⟩
 ·
  refine V.skip ?_
  refine V.then_n (k23 _ _ ?_)
  refine V.seq fun K37 k38 => ?_
  have hw0 : (at_ Rp.str (spl s) (0 : Int)).size ≤ s.size := wd_size (i := 0) (by omega)
  have hw1 : (at_ Rp.str (spl s) (1 : Int)).size ≤ s.size := wd_size (i := 1) (by omega)
  have hw2 : (at_ Rp.str (spl s) (2 : Int)).size ≤ s.size := wd_size (i := 2) (by omega)
  refine V.rg ?_
  refine V.go (V.mk [] trivial (by kernel_rfl) [.string ⟨#[]⟩, .string ⟨#[115, 116, 114, 105, 110, 103]⟩, .string ⟨#[108, 105, 115, 116]⟩, .string ⟨#[115, 101, 116]⟩, .string ⟨#[122, 115, 101, 116]⟩, .string ⟨#[104, 97, 115, 104]⟩] 9 (fun b => .slice (some ⟨b, 0, none⟩) 6 6) (by kernel_rfl) ?_)
  intro w40 b39 heb39 hB41 hF42 hsb39
  have hF_43 := hF_19.new hF42
  have hB6_44 := hB6_20.fr0 hF42
  have hS15_45 := hS15.fr0 hF42
  refine V.pt h26 fun a h46 => ?_
  obtain ⟨cs47, hok48, hE49⟩ := hS15_45.els rfl (0 : Int) (by omega) (by omega)
  obtain rfl : cs47 = [.string (at_ Rp.str (spl s) (0 : Int))] := hok48
  refine V.run h46 [(1, .ix b14 0 ((spl s).length) ((spl s).length) .i64 0 1 rfl), (0, .l ⟨b14, 0 + (0 : Int).toNat * 1, none⟩ (.string (at_ Rp.str (spl s) (0 : Int))) (hE49.at 0 rfl))] 3 20 21 [(22, .string (at_ Rp.str (spl s) (0 : Int)))] fun a h50 => ?_
  refine V.cl h50 (Go.Proofs.enters_of Tryz.func88 (by kernel_rfl) rfl) (ki_any w40 b39 (at_ Rp.str (spl s) (0 : Int)) hB41) ?_
  rintro _ _ ⟨rfl, rfl⟩
  refine ⟨_, rfl, fun a h51 => ?_⟩
  refine V.re h51 [] 1 0 [(5, .int .i64 (kindI (at_ Rp.str (spl s) (0 : Int))))] fun a h52 => k38 _ _ ?_
  obtain ⟨cs55, hok56, hE57⟩ := hS15_45.els rfl (1 : Int) (by omega) (by omega)
  obtain rfl : cs55 = [.string (at_ Rp.str (spl s) (1 : Int))] := hok56
  refine V.sg fun K53 k54 => ?_
  refine V.run h52 [(1, .ix b14 0 ((spl s).length) ((spl s).length) .i64 1 1 rfl), (0, .l ⟨b14, 0 + (1 : Int).toNat * 1, none⟩ (.string (at_ Rp.str (spl s) (1 : Int))) (hE57.at 0 rfl))] 3 25 26 [(27, .string (at_ Rp.str (spl s) (1 : Int)))] fun a h58 => ?_
  refine V.cl h58 (Go.Proofs.enters_of Tryz.func89 (by kernel_rfl) rfl) (unhex_any w40 (at_ Rp.str (spl s) (1 : Int)) (by omega)) ?_
  rintro _ w60 ⟨rfl, hF59⟩
  refine ⟨_, rfl, fun a h61 => ?_⟩
  have hsw60 := hF59.size
  have hF_62 := hF_43.new hF59
  have hB6_63 := hB6_44.fr0 hF59
  have hS15_64 := hS15_45.fr0 hF59
  refine V.re h61 [] 24 30 [(6, .string (unhexS (at_ Rp.str (spl s) (1 : Int)))), (7, .bool (bP (uhOk (at_ Rp.str (spl s) (1 : Int)))))] fun a h68 => k54 _ _ ?_
  refine V.seq fun K69 k70 => ?_
  refine V.sg fun K71 k72 => ?_
  refine V.run h68 [] 3 31 32 [(33, .bool (decide ((kindI (at_ Rp.str (spl s) (0 : Int))) < 1)))] fun a h73 => ?_
  by_cases hg74 : (kindI (at_ Rp.str (spl s) (0 : Int))) < 1
  ·
   have h75 := h73.kt 33 hg74
   refine V.re h75 [] 34 35 [(36, .bool true)] fun a h76 => k72 _ _ ?_
   refine V.ct h76 ?_
   refine V.sg fun K77 k78 => ?_
   refine V.run h76 [] 1 1 0 [(37, .agg #[.string ⟨#[]⟩, .int .i64 0, .string ⟨#[]⟩, .slice none 0 0, .slice none 0 0, .slice none 0 0, .int .i64 0])] fun a h82 => ?_
   refine V.go (V.stn b4 0 (.agg #[.string ⟨#[]⟩, .int .i64 0, .string ⟨#[]⟩, .slice none 0 0, .slice none 0 0, .slice none 0 0, .int .i64 0]) [.string ⟨#[]⟩, .int .i64 0, .string ⟨#[]⟩, .slice none 0 0, .slice none 0 0, .slice none 0 0, .int .i64 0] h82.e h82.e rfl rfl (by kernel_rfl) hB6_63 (by simp) [.string ⟨#[]⟩, .int .i64 0, .string ⟨#[]⟩, .slice none 0 0, .slice none 0 0, .slice none 0 0, .int .i64 0] rfl ?_)
   intro w79 hB80 hF81 hsw79
   have hF_83 := hF_62.own hF81 (by simp <;> omega)
   refine V.re h82 [] 1 0 [(3, .bool false)] fun a h86 => k78 _ _ ?_
   refine V.ret (V.then_r ?_)
   refine V.retCT h86.sd rfl _ (h86.e (v := (.pointer (some ⟨b4, 0, none⟩)))) (V.run_loadVar_agg (cs := [.string ⟨#[]⟩, .int .i64 0, .string ⟨#[]⟩, .slice none 0 0, .slice none 0 0, .slice none 0 0, .int .i64 0]) (by kernel_rfl) (blk_cells hB80 0 _ rfl)) (h86.e (v := (.bool false))) ?_
   have hno : ¬ rdOk s := fun hq => by
     obtain ⟨⟨q1, q2, q3, q4, q5⟩, q6, q7⟩ := hq
     first | omega | exact nb_no (by assumption) q3 | exact nb_no (by assumption) (q5 i (by omega)) | (rcases q4 with q4 | ⟨q8, q9, q10⟩ <;> first | exact absurd q4 (by assumption) | omega | exact absurd (prC_0.2 q8) (by assumption))
   exact ⟨_, _, _, _, _, _, _, _, _, _, _, _, _, congrArg (fun b => Ending.returned (Value.tuple #[.agg #[.string ⟨#[]⟩, .int .i64 0, .string ⟨#[]⟩, .slice none 0 0, .slice none 0 0, .slice none 0 0, .int .i64 0], Value.bool b])) (bP_no hno), hF_83, fun h => absurd h hno⟩
  ·
   have h87 := h73.kf 33 hg74
   refine V.re h87 [] 34 35 [(36, .bool (!(bP (uhOk (at_ Rp.str (spl s) (1 : Int))))))] fun a h88 => k72 _ _ ?_
   refine V.cb h88 (!(bP (uhOk (at_ Rp.str (spl s) (1 : Int))))) (fun ht89 => ?_) (fun ht89 => ?_)
   ·
    refine V.sg fun K90 k91 => ?_
    refine V.run h88 [] 1 1 0 [(37, .agg #[.string ⟨#[]⟩, .int .i64 0, .string ⟨#[]⟩, .slice none 0 0, .slice none 0 0, .slice none 0 0, .int .i64 0])] fun a h95 => ?_
    refine V.go (V.stn b4 0 (.agg #[.string ⟨#[]⟩, .int .i64 0, .string ⟨#[]⟩, .slice none 0 0, .slice none 0 0, .slice none 0 0, .int .i64 0]) [.string ⟨#[]⟩, .int .i64 0, .string ⟨#[]⟩, .slice none 0 0, .slice none 0 0, .slice none 0 0, .int .i64 0] h95.e h95.e rfl rfl (by kernel_rfl) hB6_63 (by simp) [.string ⟨#[]⟩, .int .i64 0, .string ⟨#[]⟩, .slice none 0 0, .slice none 0 0, .slice none 0 0, .int .i64 0] rfl ?_)
    intro w92 hB93 hF94 hsw92
    have hF_96 := hF_62.own hF94 (by simp <;> omega)
    refine V.re h95 [] 1 0 [(3, .bool false)] fun a h99 => k91 _ _ ?_
    refine V.ret (V.then_r ?_)
    refine V.retCT h99.sd rfl _ (h99.e (v := (.pointer (some ⟨b4, 0, none⟩)))) (V.run_loadVar_agg (cs := [.string ⟨#[]⟩, .int .i64 0, .string ⟨#[]⟩, .slice none 0 0, .slice none 0 0, .slice none 0 0, .int .i64 0]) (by kernel_rfl) (blk_cells hB93 0 _ rfl)) (h99.e (v := (.bool false))) ?_
    have hno : ¬ rdOk s := fun hq => by
      obtain ⟨⟨q1, q2, q3, q4, q5⟩, q6, q7⟩ := hq
      first | omega | exact nb_no (by assumption) q3 | exact nb_no (by assumption) (q5 i (by omega)) | (rcases q4 with q4 | ⟨q8, q9, q10⟩ <;> first | exact absurd q4 (by assumption) | omega | exact absurd (prC_0.2 q8) (by assumption))
    exact ⟨_, _, _, _, _, _, _, _, _, _, _, _, _, congrArg (fun b => Ending.returned (Value.tuple #[.agg #[.string ⟨#[]⟩, .int .i64 0, .string ⟨#[]⟩, .slice none 0 0, .slice none 0 0, .slice none 0 0, .int .i64 0], Value.bool b])) (bP_no hno), hF_96, fun h => absurd h hno⟩
   ·
    refine V.skip ?_
    refine V.then_n (k70 _ _ ?_)
    refine V.sg fun K100 k101 => ?_
    refine V.run h88 [] 4 38 40 [(41, .agg #[.string (unhexS (at_ Rp.str (spl s) (1 : Int))), .int .i64 (kindI (at_ Rp.str (spl s) (0 : Int))), .string ⟨#[]⟩, .slice none 0 0, .slice none 0 0, .slice none 0 0, .int .i64 (-1)])] fun a h106 => ?_
    refine V.go (V.mk [] trivial (by kernel_rfl) [.string ⟨#[]⟩, .int .i64 0, .string ⟨#[]⟩, .slice none 0 0, .slice none 0 0, .slice none 0 0, .int .i64 0] 55 (fun b => .pointer (some ⟨b, 0, none⟩)) (by kernel_rfl) ?_)
    intro w103 b102 heb102 hB104 hF105 hsb102
    have hF_107 := hF_62.new hF105
    have hB6_108 := hB6_63.fr0 hF105
    have hS15_109 := hS15_64.fr0 hF105
    refine V.pt h106 fun a h113 => ?_
    refine V.go (V.stn b102 0 (.agg #[.string (unhexS (at_ Rp.str (spl s) (1 : Int))), .int .i64 (kindI (at_ Rp.str (spl s) (0 : Int))), .string ⟨#[]⟩, .slice none 0 0, .slice none 0 0, .slice none 0 0, .int .i64 (-1)]) [.string (unhexS (at_ Rp.str (spl s) (1 : Int))), .int .i64 (kindI (at_ Rp.str (spl s) (0 : Int))), .string ⟨#[]⟩, .slice none 0 0, .slice none 0 0, .slice none 0 0, .int .i64 (-1)] h113.e h113.e rfl rfl (by kernel_rfl) hB104 (by simp) [.string (unhexS (at_ Rp.str (spl s) (1 : Int))), .int .i64 (kindI (at_ Rp.str (spl s) (0 : Int))), .string ⟨#[]⟩, .slice none 0 0, .slice none 0 0, .slice none 0 0, .int .i64 (-1)] rfl ?_)
    intro w114 hB115 hF116 hsw114
    have hF_117 := hF_107.own hF116 (by simp <;> omega)
    have hB6_118 := hB6_108.fr1 hF116 (by omega)
    have hS15_119 := hS15_109.fr hF116 (by simp <;> omega)
    refine V.nt (k101 _ _ ?_)
    refine V.seq fun K121 k122 => ?_
    obtain ⟨cs125, hok126, hE127⟩ := hS15_119.els rfl (2 : Int) (by omega) (by omega)
    obtain rfl : cs125 = [.string (at_ Rp.str (spl s) (2 : Int))] := hok126
    refine V.sr h113 [(1, .ix b14 0 ((spl s).length) ((spl s).length) .i64 2 1 rfl), (0, .l ⟨b14, 0 + (2 : Int).toNat * 1, none⟩ (.string (at_ Rp.str (spl s) (2 : Int))) (hE127.at 0 rfl)), (0, .sne (at_ Rp.str (spl s) (2 : Int)) ⟨#[45]⟩)] 42 44 [(45, .bool (decide (¬ (at_ Rp.str (spl s) (2 : Int)) = ⟨#[45]⟩)))] fun a h128 => ?_
    refine V.cp h128 (¬ (at_ Rp.str (spl s) (2 : Int)) = ⟨#[45]⟩) (fun ht129 => ?_) (fun ht129 => ?_)
    ·
     refine V.sg fun K130 k131 => ?_
     refine V.run h128 [(1, .ix b14 0 ((spl s).length) ((spl s).length) .i64 2 1 rfl), (0, .l ⟨b14, 0 + (2 : Int).toNat * 1, none⟩ (.string (at_ Rp.str (spl s) (2 : Int))) (hE127.at 0 rfl))] 3 47 48 [(49, .string (at_ Rp.str (spl s) (2 : Int)))] fun a h132 => ?_
     refine V.cl h132 (Go.Proofs.enters_of Tryz.func90 (by kernel_rfl) rfl) (parse_any w114 (at_ Rp.str (spl s) (2 : Int)) (by omega) (hV.fr hF_117)) ?_
     rintro _ w134 ⟨rfl, hF133⟩
     refine ⟨_, rfl, fun a h135 => ?_⟩
     have hsw134 := hF133.size
     have hF_136 := hF_117.new hF133
     have hB6_137 := hB6_118.fr0 hF133
     have hS15_138 := hS15_119.fr0 hF133
     have hB115_140 := hB115.fr0 hF133
     refine V.re h135 [] 46 52 [(9, .int .i64 (prN (at_ Rp.str (spl s) (2 : Int)))), (10, .int .i64 (prC (at_ Rp.str (spl s) (2 : Int))))] fun a h142 => k131 _ _ ?_
     have h143 := h142.only [(0, .string s), (2, .pointer (some ⟨b4, 0, none⟩)), (4, .slice (some ⟨b14, 0, none⟩) ((spl s).length) ((spl s).length)), (8, .pointer (some ⟨b102, 0, none⟩)), (9, .int .i64 (prN (at_ Rp.str (spl s) (2 : Int)))), (10, .int .i64 (prC (at_ Rp.str (spl s) (2 : Int))))]
     refine V.seq fun K144 k145 => ?_
     refine V.sg fun K146 k147 => ?_
     refine V.run h143 [(1, .ne (prC (at_ Rp.str (spl s) (2 : Int))) 0)] 3 53 54 [(55, .bool (decide (¬ (prC (at_ Rp.str (spl s) (2 : Int))) = 0)))] fun a h148 => ?_
     by_cases hg149 : ¬ (prC (at_ Rp.str (spl s) (2 : Int))) = 0
     ·
      have h150 := h148.kt 55 hg149
      refine V.re h150 [] 56 61 [(62, .bool true)] fun a h151 => k147 _ _ ?_
      refine V.ct h151 ?_
      refine V.sg fun K152 k153 => ?_
      refine V.run h151 [] 1 1 0 [(63, .agg #[.string ⟨#[]⟩, .int .i64 0, .string ⟨#[]⟩, .slice none 0 0, .slice none 0 0, .slice none 0 0, .int .i64 0])] fun a h157 => ?_
      refine V.go (V.stn b4 0 (.agg #[.string ⟨#[]⟩, .int .i64 0, .string ⟨#[]⟩, .slice none 0 0, .slice none 0 0, .slice none 0 0, .int .i64 0]) [.string ⟨#[]⟩, .int .i64 0, .string ⟨#[]⟩, .slice none 0 0, .slice none 0 0, .slice none 0 0, .int .i64 0] h157.e h157.e rfl rfl (by kernel_rfl) hB6_137 (by simp) [.string ⟨#[]⟩, .int .i64 0, .string ⟨#[]⟩, .slice none 0 0, .slice none 0 0, .slice none 0 0, .int .i64 0] rfl ?_)
      intro w154 hB155 hF156 hsw154
      have hF_158 := hF_136.own hF156 (by simp <;> omega)
      refine V.re h157 [] 1 0 [(3, .bool false)] fun a h162 => k153 _ _ ?_
      refine V.ret (V.then_r (V.then_r ?_))
      refine V.retCT h162.sd rfl _ (h162.e (v := (.pointer (some ⟨b4, 0, none⟩)))) (V.run_loadVar_agg (cs := [.string ⟨#[]⟩, .int .i64 0, .string ⟨#[]⟩, .slice none 0 0, .slice none 0 0, .slice none 0 0, .int .i64 0]) (by kernel_rfl) (blk_cells hB155 0 _ rfl)) (h162.e (v := (.bool false))) ?_
      have hno : ¬ rdOk s := fun hq => by
        obtain ⟨⟨q1, q2, q3, q4, q5⟩, q6, q7⟩ := hq
        first | omega | exact nb_no (by assumption) q3 | exact nb_no (by assumption) (q5 i (by omega)) | (rcases q4 with q4 | ⟨q8, q9, q10⟩ <;> first | exact absurd q4 (by assumption) | omega | exact absurd (prC_0.2 q8) (by assumption))
      exact ⟨_, _, _, _, _, _, _, _, _, _, _, _, _, congrArg (fun b => Ending.returned (Value.tuple #[.agg #[.string ⟨#[]⟩, .int .i64 0, .string ⟨#[]⟩, .slice none 0 0, .slice none 0 0, .slice none 0 0, .int .i64 0], Value.bool b])) (bP_no hno), hF_158, fun h => absurd h hno⟩
     ·
      have h163 := h148.kf 55 hg149
      refine V.run h163 [] 4 56 58 [(59, .bool (decide ((prN (at_ Rp.str (spl s) (2 : Int))) < 0)))] fun a h164 => ?_
      by_cases hg165 : (prN (at_ Rp.str (spl s) (2 : Int))) < 0
      ·
       have h166 := h164.kt 59 hg165
       refine V.re h166 [] 60 61 [(62, .bool true)] fun a h167 => k147 _ _ ?_
       refine V.ct h167 ?_
       refine V.sg fun K168 k169 => ?_
       refine V.run h167 [] 1 1 0 [(63, .agg #[.string ⟨#[]⟩, .int .i64 0, .string ⟨#[]⟩, .slice none 0 0, .slice none 0 0, .slice none 0 0, .int .i64 0])] fun a h173 => ?_
       refine V.go (V.stn b4 0 (.agg #[.string ⟨#[]⟩, .int .i64 0, .string ⟨#[]⟩, .slice none 0 0, .slice none 0 0, .slice none 0 0, .int .i64 0]) [.string ⟨#[]⟩, .int .i64 0, .string ⟨#[]⟩, .slice none 0 0, .slice none 0 0, .slice none 0 0, .int .i64 0] h173.e h173.e rfl rfl (by kernel_rfl) hB6_137 (by simp) [.string ⟨#[]⟩, .int .i64 0, .string ⟨#[]⟩, .slice none 0 0, .slice none 0 0, .slice none 0 0, .int .i64 0] rfl ?_)
       intro w170 hB171 hF172 hsw170
       have hF_174 := hF_136.own hF172 (by simp <;> omega)
       refine V.re h173 [] 1 0 [(3, .bool false)] fun a h178 => k169 _ _ ?_
       refine V.ret (V.then_r (V.then_r ?_))
       refine V.retCT h178.sd rfl _ (h178.e (v := (.pointer (some ⟨b4, 0, none⟩)))) (V.run_loadVar_agg (cs := [.string ⟨#[]⟩, .int .i64 0, .string ⟨#[]⟩, .slice none 0 0, .slice none 0 0, .slice none 0 0, .int .i64 0]) (by kernel_rfl) (blk_cells hB171 0 _ rfl)) (h178.e (v := (.bool false))) ?_
       have hno : ¬ rdOk s := fun hq => by
         obtain ⟨⟨q1, q2, q3, q4, q5⟩, q6, q7⟩ := hq
         first | omega | exact nb_no (by assumption) q3 | exact nb_no (by assumption) (q5 i (by omega)) | (rcases q4 with q4 | ⟨q8, q9, q10⟩ <;> first | exact absurd q4 (by assumption) | omega | exact absurd (prC_0.2 q8) (by assumption))
       exact ⟨_, _, _, _, _, _, _, _, _, _, _, _, _, congrArg (fun b => Ending.returned (Value.tuple #[.agg #[.string ⟨#[]⟩, .int .i64 0, .string ⟨#[]⟩, .slice none 0 0, .slice none 0 0, .slice none 0 0, .int .i64 0], Value.bool b])) (bP_no hno), hF_174, fun h => absurd h hno⟩
      ·
       have h179 := h164.kf 59 hg165
       refine V.re h179 [] 60 61 [(62, .bool (decide ((prN (at_ Rp.str (spl s) (2 : Int))) > 1099511627776)))] fun a h180 => k147 _ _ ?_
       refine V.cp h180 ((prN (at_ Rp.str (spl s) (2 : Int))) > 1099511627776) (fun ht181 => ?_) (fun ht181 => ?_)
       ·
        refine V.sg fun K182 k183 => ?_
        refine V.run h180 [] 1 1 0 [(63, .agg #[.string ⟨#[]⟩, .int .i64 0, .string ⟨#[]⟩, .slice none 0 0, .slice none 0 0, .slice none 0 0, .int .i64 0])] fun a h187 => ?_
        refine V.go (V.stn b4 0 (.agg #[.string ⟨#[]⟩, .int .i64 0, .string ⟨#[]⟩, .slice none 0 0, .slice none 0 0, .slice none 0 0, .int .i64 0]) [.string ⟨#[]⟩, .int .i64 0, .string ⟨#[]⟩, .slice none 0 0, .slice none 0 0, .slice none 0 0, .int .i64 0] h187.e h187.e rfl rfl (by kernel_rfl) hB6_137 (by simp) [.string ⟨#[]⟩, .int .i64 0, .string ⟨#[]⟩, .slice none 0 0, .slice none 0 0, .slice none 0 0, .int .i64 0] rfl ?_)
        intro w184 hB185 hF186 hsw184
        have hF_188 := hF_136.own hF186 (by simp <;> omega)
        refine V.re h187 [] 1 0 [(3, .bool false)] fun a h192 => k183 _ _ ?_
        refine V.ret (V.then_r (V.then_r ?_))
        refine V.retCT h192.sd rfl _ (h192.e (v := (.pointer (some ⟨b4, 0, none⟩)))) (V.run_loadVar_agg (cs := [.string ⟨#[]⟩, .int .i64 0, .string ⟨#[]⟩, .slice none 0 0, .slice none 0 0, .slice none 0 0, .int .i64 0]) (by kernel_rfl) (blk_cells hB185 0 _ rfl)) (h192.e (v := (.bool false))) ?_
        have hno : ¬ rdOk s := fun hq => by
          obtain ⟨⟨q1, q2, q3, q4, q5⟩, q6, q7⟩ := hq
          first | omega | exact nb_no (by assumption) q3 | exact nb_no (by assumption) (q5 i (by omega)) | (rcases q4 with q4 | ⟨q8, q9, q10⟩ <;> first | exact absurd q4 (by assumption) | omega | exact absurd (prC_0.2 q8) (by assumption))
        exact ⟨_, _, _, _, _, _, _, _, _, _, _, _, _, congrArg (fun b => Ending.returned (Value.tuple #[.agg #[.string ⟨#[]⟩, .int .i64 0, .string ⟨#[]⟩, .slice none 0 0, .slice none 0 0, .slice none 0 0, .int .i64 0], Value.bool b])) (bP_no hno), hF_188, fun h => absurd h hno⟩
       ·
        refine V.skip ?_
        refine V.then_n (k145 _ _ ?_)
        refine V.rg ?_
        refine V.run h180 [] 2 1 0 [(64, .int .i64 (prN (at_ Rp.str (spl s) (2 : Int)))), (65, .pointer (some ⟨b102, 6, none⟩))] fun a h196 => ?_
        refine V.go (V.stn b102 6 (.int .i64 (prN (at_ Rp.str (spl s) (2 : Int)))) [.int .i64 (prN (at_ Rp.str (spl s) (2 : Int)))] h196.e h196.e rfl rfl (by kernel_rfl) hB115_140 (by simp) [.string (unhexS (at_ Rp.str (spl s) (1 : Int))), .int .i64 (kindI (at_ Rp.str (spl s) (0 : Int))), .string ⟨#[]⟩, .slice none 0 0, .slice none 0 0, .slice none 0 0, .int .i64 (prN (at_ Rp.str (spl s) (2 : Int)))] rfl ?_)
        intro w193 hB194 hF195 hsw193
        have hF_197 := hF_136.own hF195 (by simp <;> omega)
        have hB6_198 := hB6_137.fr1 hF195 (by omega)
        have hS15_199 := hS15_138.fr hF195 (by simp <;> omega)
        refine V.nt (k122 _ _ ?_)
        refine V.seq fun K201 k202 => ?_
        have hS205 := hS15_199.dr (i := 3) (by omega)
        refine V.sr h196 [(1, .cutE (some ⟨b14, 0, none⟩) ((spl s).length) ((spl s).length) 3 3 1)] 66 66 [(67, .slice (cutA (some ⟨b14, 0, none⟩) 3 ((spl s).length) 1) (((spl s).length) - 3) (((spl s).length) - 3)), (68, .int .i64 ((((spl s).length) - 3 : Nat) : Int)), (69, .int .i64 0)] fun a h206 => ?_
        refine V.block ?_
        have hE207 : EnB w193 b102 (⟨unhexS (at_ Rp.str (spl s) (1 : Int)), kindI (at_ Rp.str (spl s) (0 : Int)), ⟨#[]⟩, [], [], [], prN (at_ Rp.str (spl s) (2 : Int))⟩ : EnD) := enB_new hB194
        refine V.loop1 (fun (i : Nat) a_ w_ => En 88 [] a_ [(0, .string s), (2, .pointer (some ⟨b4, 0, none⟩)), (8, .pointer (some ⟨b102, 0, none⟩)), (67, .slice (cutA (some ⟨b14, 0, none⟩) 3 ((spl s).length) 1) (((spl s).length) - 3) (((spl s).length) - 3)), (68, .int .i64 ((((spl s).length) - 3 : Nat) : Int)), (69, .int .i64 (i : Int))] ∧ EnB w_ b102 ((((spl s).drop 3).take i).foldl ptE (⟨unhexS (at_ Rp.str (spl s) (1 : Int)), kindI (at_ Rp.str (spl s) (0 : Int)), ⟨#[]⟩, [], [], [], prN (at_ Rp.str (spl s) (2 : Int))⟩ : EnD)) ∧ Fr [] w w_ ∧ Blk w_ b4 [.string ⟨#[]⟩, .int .i64 0, .string ⟨#[]⟩, .slice none 0 0, .slice none 0 0, .slice none 0 0, .int .i64 0] 55 ∧ SlR Rp.str (fun k => w5.heap.size ≤ k ∧ k < w17.heap.size) w_ (.slice (some ⟨b14, 0, none⟩) ((spl s).length) ((spl s).length)) (spl s) ∧ SlR Rp.str (fun k => w5.heap.size ≤ k ∧ k < w17.heap.size) w_ (.slice (cutA (some ⟨b14, 0, none⟩) 3 ((spl s).length) 1) (((spl s).length) - 3) (((spl s).length) - 3)) ((spl s).drop 3) ∧ (i ≤ (spl s).length - 3) ∧ (AllG (gP s) i)) (fun (i : Nat) => (spl s).length - i) 0 ?_ ?_
        ·
         refine ⟨(h206.eq 69 (v := (.int .i64 0)) (u := (.int .i64 (0 : Int))) (V.int_eq (by omega))).only _, hE207, hF_197, hB6_198, hS15_199, hS205, (by omega), (AllG.zero _)⟩
        ·
         rintro i a208 w209 ⟨h210, hE_211, hF_212, hB6_213, hS15_214, hS205_215, hi, hG⟩
         have hfs216 := hF_212.size
         have hlt217 := hB6_213.lt
         have hbd := fold_bd (((spl s).drop 3).take i) (⟨unhexS (at_ Rp.str (spl s) (1 : Int)), kindI (at_ Rp.str (spl s) (0 : Int)), ⟨#[]⟩, [], [], [], prN (at_ Rp.str (spl s) (2 : Int))⟩ : EnD) 0 (bd0 _ _ _ _) (fun x hx => by have := wd3_size (List.mem_of_mem_take hx); omega)
         have htl : (((spl s).drop 3).take i).length ≤ i := List.length_take_le ..
         have hsl := spl_le s
         have hdl : ((spl s).drop 3).length = (spl s).length - 3 := List.length_drop
         obtain ⟨hb1, hb2, hb3, hbx⟩ := hbd
         refine V.sr h210 [] 1 0 [(70, .bool (decide ((i : Int) < ((((spl s).length) - 3 : Nat) : Int))))] fun a h220 => ?_
         refine V.seq fun K221 k222 => ?_
         refine V.cp h220 ((i : Int) < ((((spl s).length) - 3 : Nat) : Int)) (fun ht223 => ?_) (fun ht223 => ?_)
         ·
          refine V.skip ?_
          refine V.then_n (k222 _ _ ?_)
          refine V.seq fun K224 k225 => ?_
          refine V.block ?_
          obtain ⟨g228, o229, hA230, hA230l, hA230z⟩ := hS205_215.addr (by omega)
          try dsimp only at hA230z
          obtain ⟨cs231, hok232, hE233⟩ := hS205_215.els hA230 (i : Int) (by omega) (by omega)
          obtain rfl : cs231 = [.string (at_ Rp.str ((spl s).drop 3) (i : Int))] := hok232
          refine V.sr h220 [(0, .ix g228 o229 (((spl s).length) - 3) (((spl s).length) - 3) .i64 (i : Int) 1 hA230), (0, .l ⟨g228, o229 + (i : Int).toNat * 1, none⟩ (.string (at_ Rp.str ((spl s).drop 3) (i : Int))) (hE233.at 0 rfl))] 71 72 [(12, .string (at_ Rp.str ((spl s).drop 3) (i : Int)))] fun a h234 => ?_
          refine V.seq fun K235 k236 => ?_
          have hxs := wd3_size (at_in Rp.str (l := ((spl s).drop 3)) (i := i) (by rw [List.length_drop]; omega))
          refine V.rg ?_
          refine V.run h234 [] 2 1 0 [(73, .pointer (some ⟨b102, 1, none⟩)), (74, .string (at_ Rp.str ((spl s).drop 3) (i : Int)))] fun a h237 => ?_
          refine V.cl (av := #[.pointer (some ⟨b102, 1, none⟩), .string (at_ Rp.str ((spl s).drop 3) (i : Int))]) h237 (Go.Proofs.enters_of Tryz.func91 (by kernel_rfl) rfl) (by have h := part_any w209 b102 ((((spl s).drop 3).take i).foldl ptE (⟨unhexS (at_ Rp.str (spl s) (1 : Int)), kindI (at_ Rp.str (spl s) (0 : Int)), ⟨#[]⟩, [], [], [], prN (at_ Rp.str (spl s) (2 : Int))⟩ : EnD)) (at_ Rp.str ((spl s).drop 3) (i : Int)) hE_211 (by omega) (by omega) (by omega) (by omega) (by omega) (hV.fr hF_212); rw [(fold_k _ _).1] at h; exact h) ?_
          rintro _ w240 ⟨rfl, hq238, hL239⟩
          refine ⟨_, rfl, fun a h241 => ?_⟩
          have hsw240 := hL239.size
          have hF_242 := V.Fr.bel hF_212 hL239 (by omega)
          have hB6_243 := hB6_213.below hL239 (by omega)
          have hS15_244 := hS15_214.mono (fun k hk hz => ⟨hz, hL239.block k (by (try dsimp only at hz); omega)⟩) hL239.size
          have hS205_245 := hS205_215.mono (fun k hk hz => ⟨hz, hL239.block k (by (try dsimp only at hz); omega)⟩) hL239.size
          refine V.re h241 [] 1 0 [(76, .bool (!(bP (ptOk (kindI (at_ Rp.str (spl s) 0)) (at_ Rp.str ((spl s).drop 3) (i : Int))))))] fun a h246 => k236 _ _ ?_
          refine V.cb h246 (!(bP (ptOk (kindI (at_ Rp.str (spl s) 0)) (at_ Rp.str ((spl s).drop 3) (i : Int))))) (fun ht247 => ?_) (fun ht247 => ?_)
          ·
           refine V.sg fun K248 k249 => ?_
           refine V.run h246 [] 1 1 0 [(77, .agg #[.string ⟨#[]⟩, .int .i64 0, .string ⟨#[]⟩, .slice none 0 0, .slice none 0 0, .slice none 0 0, .int .i64 0])] fun a h253 => ?_
           refine V.go (V.stn b4 0 (.agg #[.string ⟨#[]⟩, .int .i64 0, .string ⟨#[]⟩, .slice none 0 0, .slice none 0 0, .slice none 0 0, .int .i64 0]) [.string ⟨#[]⟩, .int .i64 0, .string ⟨#[]⟩, .slice none 0 0, .slice none 0 0, .slice none 0 0, .int .i64 0] h253.e h253.e rfl rfl (by kernel_rfl) hB6_243 (by simp) [.string ⟨#[]⟩, .int .i64 0, .string ⟨#[]⟩, .slice none 0 0, .slice none 0 0, .slice none 0 0, .int .i64 0] rfl ?_)
           intro w250 hB251 hF252 hsw250
           have hF_254 := hF_242.own hF252 (by simp <;> omega)
           refine V.re h253 [] 1 0 [(3, .bool false)] fun a h257 => k249 _ _ ?_
           refine V.ret (V.blk_r (V.then_r (V.then_r (V.blk_r (V.then_r ?_)))))
           refine V.retCT h257.sd rfl _ (h257.e (v := (.pointer (some ⟨b4, 0, none⟩)))) (V.run_loadVar_agg (cs := [.string ⟨#[]⟩, .int .i64 0, .string ⟨#[]⟩, .slice none 0 0, .slice none 0 0, .slice none 0 0, .int .i64 0]) (by kernel_rfl) (blk_cells hB251 0 _ rfl)) (h257.e (v := (.bool false))) ?_
           have hno : ¬ rdOk s := fun hq => by
             obtain ⟨⟨q1, q2, q3, q4, q5⟩, q6, q7⟩ := hq
             first | omega | exact nb_no (by assumption) q3 | exact nb_no (by assumption) (q5 i (by omega)) | (rcases q4 with q4 | ⟨q8, q9, q10⟩ <;> first | exact absurd q4 (by assumption) | omega | exact absurd (prC_0.2 q8) (by assumption))
           exact ⟨_, _, _, _, _, _, _, _, _, _, _, _, _, congrArg (fun b => Ending.returned (Value.tuple #[.agg #[.string ⟨#[]⟩, .int .i64 0, .string ⟨#[]⟩, .slice none 0 0, .slice none 0 0, .slice none 0 0, .int .i64 0], Value.bool b])) (bP_no hno), hF_254, fun h => absurd h hno⟩
          ·
           refine V.skip (V.blk_n ?_)
           refine V.then_n (k225 _ _ ?_)
           refine V.rr h246 [(0, .i ((i : Int) + 1))] 78 78 [(69, .int .i64 ((i : Int) + 1))] fun a h258 => ?_
           refine V.then_n ?_
           refine ⟨i + 1, by omega, ?_⟩
           refine ⟨(h258.eq 69 (v := (.int .i64 ((i : Int) + 1))) (u := (.int .i64 ((i + 1) : Int))) (V.int_eq (by omega))).only _, (by rw [fold_next _ (by rw [List.length_drop]; omega)]; exact hq238 (nb_yes (by assumption))), hF_242, hB6_243, hS15_244, hS205_245, (by omega), (hG.step (nb_yes (by assumption)))⟩
         ·
          refine V.exit (V.then_e (V.then_e (V.blk_hit ?_)))
          refine V.then_n (k202 _ _ ?_)
          refine V.seq fun K259 k260 => ?_
          obtain ⟨X, hX⟩ : ∃ X, X = ((((spl s).drop 3).take i).foldl ptE (⟨unhexS (at_ Rp.str (spl s) (1 : Int)), kindI (at_ Rp.str (spl s) (0 : Int)), ⟨#[]⟩, [], [], [], prN (at_ Rp.str (spl s) (2 : Int))⟩ : EnD)) := ⟨_, rfl⟩
          have hbX : BdE X (0 + (((spl s).drop 3).take i).length) := hX ▸ ⟨hb1, hb2, hb3, hbx⟩
          obtain ⟨hX1, hX2, hX3, hX4⟩ := hbX
          obtain ⟨Al261, cl262, Az263, cz264, Ah265, ch266, hB267, hO268, hO269, hO270, -⟩ := (show EnB w209 b102 X from hX ▸ hE_211)
          have hS271 := hO268.read (Z' := fun k => b102 + 1 ≤ k) (fun _ _ q => q.elim) (fun _ q _ => q)
          have hS272 := hO269.read (Z' := fun k => b102 + 1 ≤ k) (fun _ _ q => q.elim) (fun _ q _ => q)
          have hS273 := hO270.read (Z' := fun k => b102 + 1 ≤ k) (fun _ _ q => q.elim) (fun _ q _ => q)
          refine V.pl [([0,1],some (2,[0])),([3,4,6],some (5,[0])),([7,8],some (9,[])),([10],none)] fun w274 hF275 hsw274 => ?_
          have hF_276 := hF_212.new hF275
          have hB6_277 := hB6_213.fr0 hF275
          have hB267_280 := hB267.fr0 hF275
          have hS271_281 := hS271.fr0 hF275
          have hS272_282 := hS272.fr0 hF275
          have hS273_283 := hS273.fr0 hF275
          refine V.pe h220 [(0, .bs hB267_280 0 [.string X.key, .int .i64 X.k, .string X.s, .slice Al261 X.l.length cl262, .slice Az263 X.z.length cz264, .slice Ah265 X.h.length ch266, .int .i64 X.till]), (0, .bs hB267_280 0 [.string X.key, .int .i64 X.k, .string X.s, .slice Al261 X.l.length cl262, .slice Az263 X.z.length cz264, .slice Ah265 X.h.length ch266, .int .i64 X.till])] 1 0 [(79, .agg #[.string X.key, .int .i64 X.k, .string X.s, .slice Al261 X.l.length cl262, .slice Az263 X.z.length cz264, .slice Ah265 X.h.length ch266, .int .i64 X.till]), (80, .agg #[.string X.key, .int .i64 X.k, .string X.s, .slice Al261 X.l.length cl262, .slice Az263 X.z.length cz264, .slice Ah265 X.h.length ch266, .int .i64 X.till])] fun a h284 => ?_
          refine V.cl h284 (Go.Proofs.enters_of Tryz.func54 (by kernel_rfl) rfl) (entry_any w274 X.key X.k X.s Al261 cl262 X.l hS271_281.old Az263 cz264 X.z hS272_282.old Ah265 ch266 X.h hS273_283.old X.till (by omega) (by omega) (by omega) (fun y hy => by have := (hX4 y hy).1; unfold maxLen; omega)) ?_
          rintro _ w286 ⟨rfl, hF285⟩
          refine ⟨_, rfl, fun a h287 => ?_⟩
          have hsw286 := hF285.size
          have hF_288 := hF_276.new hF285
          have hB6_289 := hB6_277.fr0 hF285
          have hB267_292 := hB267_280.fr0 hF285
          have hS271_293 := hS271_281.fr0 hF285
          have hS272_294 := hS272_282.fr0 hF285
          have hS273_295 := hS273_283.fr0 hF285
          refine V.eh (fun _ => held_blk (n := 7) (hx := (h284.e (v := (.pointer (some ⟨b102, 0, none⟩))))) hB267_280 hB267_292 (by kernel_rfl) rfl (by simp only [List.length]; omega)) ?_
          refine V.pe0 ?_
          refine V.run h287 [] 1 1 0 [(82, .bool (bP (okE X.key X.till (okV X.k X.s X.l X.z X.h))))] fun a h296 => ?_
          by_cases hg297 : (bP (okE X.key X.till (okV X.k X.s X.l X.z X.h))) = true
          ·
           have h298 := h296.kbt 82 hg297
           refine V.se h298 [(0, .bs hB267_292 0 [.string X.key, .int .i64 X.k, .string X.s, .slice Al261 X.l.length cl262, .slice Az263 X.z.length cz264, .slice Ah265 X.h.length ch266, .int .i64 X.till])] 1 0 [(83, .agg #[.string X.key, .int .i64 X.k, .string X.s, .slice Al261 X.l.length cl262, .slice Az263 X.z.length cz264, .slice Ah265 X.h.length ch266, .int .i64 X.till]), (85, .string s)] fun a h299 => ?_
           obtain ⟨hek, het, heh⟩ := ent_good (x := X) (bP_of (by assumption)) ⟨hX1, hX2, hX3, hX4⟩
           have hll301 := lnD_len (k := X.k) hek het heh
           refine V.clg h299 (Go.Proofs.enters_of Tryz.func36 (by kernel_rfl) rfl) (line_any w286 X.key X.k X.s Al261 cl262 X.l hS271_293.old Az263 cz264 X.z hS272_294.old Ah265 ch266 X.h hS273_295.old X.till hek het heh (hV.fr hF_288)) ?_
           rintro _ w302 ⟨rfl, hF300⟩
           refine ⟨_, rfl, fun a h303 => ?_⟩
           have hsw302 := hF300.size
           have hF_304 := hF_288.new hF300
           have hB6_305 := hB6_289.fr0 hF300
           have hB267_308 := hB267_292.fr0 hF300
           have hS271_309 := hS271_293.fr0 hF300
           have hS272_310 := hS272_294.fr0 hF300
           have hS273_311 := hS273_295.fr0 hF300
           refine V.eh (fun _ => held_blk (n := 7) (hx := (h299.e (v := (.pointer (some ⟨b102, 0, none⟩))))) hB267_292 hB267_308 (by kernel_rfl) rfl (by simp only [List.length]; omega)) ?_
           refine V.pe h303 [(0, .seq (lnD X.key X.k X.s X.l X.z X.h X.till) s)] 86 86 [(87, .bool (decide ((lnD X.key X.k X.s X.l X.z X.h X.till) = s)))] fun a h312 => ?_
           refine V.go (V.stn b4 0 (.agg #[.string X.key, .int .i64 X.k, .string X.s, .slice Al261 X.l.length cl262, .slice Az263 X.z.length cz264, .slice Ah265 X.h.length ch266, .int .i64 X.till]) [.string X.key, .int .i64 X.k, .string X.s, .slice Al261 X.l.length cl262, .slice Az263 X.z.length cz264, .slice Ah265 X.h.length ch266, .int .i64 X.till] h312.e h312.e rfl rfl (by kernel_rfl) hB6_305 (by simp) [.string X.key, .int .i64 X.k, .string X.s, .slice Al261 X.l.length cl262, .slice Az263 X.z.length cz264, .slice Ah265 X.h.length ch266, .int .i64 X.till] rfl ?_)
           intro w313 hB314 hF315 hsw313
           have hF_316 := hF_304.own hF315 (by simp <;> omega)
           have hS271_320 := hS271_309.fr hF315 (by simp <;> omega)
           have hS272_321 := hS272_310.fr hF315 (by simp <;> omega)
           have hS273_322 := hS273_311.fr hF315 (by simp <;> omega)
           refine V.eh trivial ?_
           refine V.pz h312 [] 1 0 [(3, .bool (decide ((lnD X.key X.k X.s X.l X.z X.h X.till) = s)))] fun a h323 => k260 _ _ ?_
           refine V.ret ?_
           refine V.retCT h323.sd rfl _ (h323.e (v := (.pointer (some ⟨b4, 0, none⟩)))) (V.run_loadVar_agg (cs := [.string X.key, .int .i64 X.k, .string X.s, .slice Al261 X.l.length cl262, .slice Az263 X.z.length cz264, .slice Ah265 X.h.length ch266, .int .i64 X.till]) (by kernel_rfl) (blk_cells hB314 0 _ rfl)) (h323.e (v := (.bool (decide ((lnD X.key X.k X.s X.l X.z X.h X.till) = s))))) ?_
           have hXe : X = rdE s := by rw [hX, List.take_of_length_le (by rw [List.length_drop]; omega)]; unfold rdE rdE0 tillD; first | rw [if_pos (by first | assumption | exact Decidable.of_not_not (by assumption))] | rw [if_neg (by assumption)]
           have hpre : rdPre s := ⟨by omega, by omega, nb_yes (by assumption), by first | exact .inl (by assumption) | exact .inl (Decidable.of_not_not (by assumption)) | exact .inr ⟨prC_0.1 (by first | assumption | omega), by omega, by omega⟩, hG.le (by omega)⟩
           have hbb : (decide ((lnD X.key X.k X.s X.l X.z X.h X.till) = s)) = bP (rdOk s) := bP_dec.trans (congrArg bP (propext ⟨fun q => ⟨hpre, hXe ▸ (bP_of (by assumption) : okD X), hXe ▸ q⟩, fun q => hXe.symm ▸ q.2.2⟩))
           exact ⟨_, _, _, _, _, _, _, _, _, _, _, _, _, congrArg (fun b => Ending.returned (Value.tuple #[.agg #[.string X.key, .int .i64 X.k, .string X.s, .slice Al261 X.l.length cl262, .slice Az263 X.z.length cz264, .slice Ah265 X.h.length ch266, .int .i64 X.till], Value.bool b])) hbb, hF_316, fun _ => hXe ▸ (⟨_, _, _, rfl, hS271_320.zone (fun k _ h => by (try dsimp only at h); omega), hS272_321.zone (fun k _ h => by (try dsimp only at h); omega), hS273_322.zone (fun k _ h => by (try dsimp only at h); omega)⟩ : enR.ok _ _ X _)⟩
          ·
           have h324 := h296.kbf 82 hg297
           refine V.se h324 [] 1 0 [(83, undef), (85, undef)] fun a h325 => ?_
           refine V.run h325 [] 1 1 0 [(84, undef)] fun a h326 => ?_
           refine V.eh (fun _ => held_blk (n := 7) (hx := (h325.e (v := (.pointer (some ⟨b102, 0, none⟩))))) hB267_292 hB267_292 (by kernel_rfl) rfl (by simp only [List.length]; omega)) ?_
           refine V.pe h326 [] 86 86 [(87, .bool false)] fun a h327 => ?_
           refine V.go (V.stn b4 0 (.agg #[.string X.key, .int .i64 X.k, .string X.s, .slice Al261 X.l.length cl262, .slice Az263 X.z.length cz264, .slice Ah265 X.h.length ch266, .int .i64 X.till]) [.string X.key, .int .i64 X.k, .string X.s, .slice Al261 X.l.length cl262, .slice Az263 X.z.length cz264, .slice Ah265 X.h.length ch266, .int .i64 X.till] h327.e h327.e rfl rfl (by kernel_rfl) hB6_289 (by simp) [.string X.key, .int .i64 X.k, .string X.s, .slice Al261 X.l.length cl262, .slice Az263 X.z.length cz264, .slice Ah265 X.h.length ch266, .int .i64 X.till] rfl ?_)
           intro w328 hB329 hF330 hsw328
           have hF_331 := hF_288.own hF330 (by simp <;> omega)
           have hS271_335 := hS271_293.fr hF330 (by simp <;> omega)
           have hS272_336 := hS272_294.fr hF330 (by simp <;> omega)
           have hS273_337 := hS273_295.fr hF330 (by simp <;> omega)
           refine V.eh trivial ?_
           refine V.pz h327 [] 1 0 [(3, .bool false)] fun a h338 => k260 _ _ ?_
           refine V.ret ?_
           refine V.retCT h338.sd rfl _ (h338.e (v := (.pointer (some ⟨b4, 0, none⟩)))) (V.run_loadVar_agg (cs := [.string X.key, .int .i64 X.k, .string X.s, .slice Al261 X.l.length cl262, .slice Az263 X.z.length cz264, .slice Ah265 X.h.length ch266, .int .i64 X.till]) (by kernel_rfl) (blk_cells hB329 0 _ rfl)) (h338.e (v := (.bool false))) ?_
           have hXe : X = rdE s := by rw [hX, List.take_of_length_le (by rw [List.length_drop]; omega)]; unfold rdE rdE0 tillD; first | rw [if_pos (by first | assumption | exact Decidable.of_not_not (by assumption))] | rw [if_neg (by assumption)]
           have hpre : rdPre s := ⟨by omega, by omega, nb_yes (by assumption), by first | exact .inl (by assumption) | exact .inl (Decidable.of_not_not (by assumption)) | exact .inr ⟨prC_0.1 (by first | assumption | omega), by omega, by omega⟩, hG.le (by omega)⟩
           have hbb : false = bP (rdOk s) := bP_no (fun hq => absurd (bP_yes (show okE X.key X.till (okV X.k X.s X.l X.z X.h) from hXe ▸ hq.2.1)).symm (by assumption))
           exact ⟨_, _, _, _, _, _, _, _, _, _, _, _, _, congrArg (fun b => Ending.returned (Value.tuple #[.agg #[.string X.key, .int .i64 X.k, .string X.s, .slice Al261 X.l.length cl262, .slice Az263 X.z.length cz264, .slice Ah265 X.h.length ch266, .int .i64 X.till], Value.bool b])) hbb, hF_331, fun _ => hXe ▸ (⟨_, _, _, rfl, hS271_335.zone (fun k _ h => by (try dsimp only at h); omega), hS272_336.zone (fun k _ h => by (try dsimp only at h); omega), hS273_337.zone (fun k _ h => by (try dsimp only at h); omega)⟩ : enR.ok _ _ X _)⟩
    ·
     refine V.skip ?_
     refine V.then_n (k122 _ _ ?_)
     refine V.seq fun K339 k340 => ?_
     have hS343 := hS15_119.dr (i := 3) (by omega)
     refine V.sr h128 [(1, .cutE (some ⟨b14, 0, none⟩) ((spl s).length) ((spl s).length) 3 3 1)] 66 66 [(67, .slice (cutA (some ⟨b14, 0, none⟩) 3 ((spl s).length) 1) (((spl s).length) - 3) (((spl s).length) - 3)), (68, .int .i64 ((((spl s).length) - 3 : Nat) : Int)), (69, .int .i64 0)] fun a h344 => ?_
     refine V.block ?_
     have hE345 : EnB w114 b102 (⟨unhexS (at_ Rp.str (spl s) (1 : Int)), kindI (at_ Rp.str (spl s) (0 : Int)), ⟨#[]⟩, [], [], [], (-1)⟩ : EnD) := enB_new hB115
     refine V.loop1 (fun (i : Nat) a_ w_ => En 88 [] a_ [(0, .string s), (2, .pointer (some ⟨b4, 0, none⟩)), (8, .pointer (some ⟨b102, 0, none⟩)), (67, .slice (cutA (some ⟨b14, 0, none⟩) 3 ((spl s).length) 1) (((spl s).length) - 3) (((spl s).length) - 3)), (68, .int .i64 ((((spl s).length) - 3 : Nat) : Int)), (69, .int .i64 (i : Int))] ∧ EnB w_ b102 ((((spl s).drop 3).take i).foldl ptE (⟨unhexS (at_ Rp.str (spl s) (1 : Int)), kindI (at_ Rp.str (spl s) (0 : Int)), ⟨#[]⟩, [], [], [], (-1)⟩ : EnD)) ∧ Fr [] w w_ ∧ Blk w_ b4 [.string ⟨#[]⟩, .int .i64 0, .string ⟨#[]⟩, .slice none 0 0, .slice none 0 0, .slice none 0 0, .int .i64 0] 55 ∧ SlR Rp.str (fun k => w5.heap.size ≤ k ∧ k < w17.heap.size) w_ (.slice (some ⟨b14, 0, none⟩) ((spl s).length) ((spl s).length)) (spl s) ∧ SlR Rp.str (fun k => w5.heap.size ≤ k ∧ k < w17.heap.size) w_ (.slice (cutA (some ⟨b14, 0, none⟩) 3 ((spl s).length) 1) (((spl s).length) - 3) (((spl s).length) - 3)) ((spl s).drop 3) ∧ (i ≤ (spl s).length - 3) ∧ (AllG (gP s) i)) (fun (i : Nat) => (spl s).length - i) 0 ?_ ?_
     ·
      refine ⟨(h344.eq 69 (v := (.int .i64 0)) (u := (.int .i64 (0 : Int))) (V.int_eq (by omega))).only _, hE345, hF_117, hB6_118, hS15_119, hS343, (by omega), (AllG.zero _)⟩
     ·
      rintro i a346 w347 ⟨h348, hE_349, hF_350, hB6_351, hS15_352, hS343_353, hi, hG⟩
      have hfs354 := hF_350.size
      have hlt355 := hB6_351.lt
      have hbd := fold_bd (((spl s).drop 3).take i) (⟨unhexS (at_ Rp.str (spl s) (1 : Int)), kindI (at_ Rp.str (spl s) (0 : Int)), ⟨#[]⟩, [], [], [], (-1)⟩ : EnD) 0 (bd0 _ _ _ _) (fun x hx => by have := wd3_size (List.mem_of_mem_take hx); omega)
      have htl : (((spl s).drop 3).take i).length ≤ i := List.length_take_le ..
      have hsl := spl_le s
      have hdl : ((spl s).drop 3).length = (spl s).length - 3 := List.length_drop
      obtain ⟨hb1, hb2, hb3, hbx⟩ := hbd
      refine V.sr h348 [] 1 0 [(70, .bool (decide ((i : Int) < ((((spl s).length) - 3 : Nat) : Int))))] fun a h358 => ?_
      refine V.seq fun K359 k360 => ?_
      refine V.cp h358 ((i : Int) < ((((spl s).length) - 3 : Nat) : Int)) (fun ht361 => ?_) (fun ht361 => ?_)
      ·
       refine V.skip ?_
       refine V.then_n (k360 _ _ ?_)
       refine V.seq fun K362 k363 => ?_
       refine V.block ?_
       obtain ⟨g366, o367, hA368, hA368l, hA368z⟩ := hS343_353.addr (by omega)
       try dsimp only at hA368z
       obtain ⟨cs369, hok370, hE371⟩ := hS343_353.els hA368 (i : Int) (by omega) (by omega)
       obtain rfl : cs369 = [.string (at_ Rp.str ((spl s).drop 3) (i : Int))] := hok370
       refine V.sr h358 [(0, .ix g366 o367 (((spl s).length) - 3) (((spl s).length) - 3) .i64 (i : Int) 1 hA368), (0, .l ⟨g366, o367 + (i : Int).toNat * 1, none⟩ (.string (at_ Rp.str ((spl s).drop 3) (i : Int))) (hE371.at 0 rfl))] 71 72 [(12, .string (at_ Rp.str ((spl s).drop 3) (i : Int)))] fun a h372 => ?_
       refine V.seq fun K373 k374 => ?_
       have hxs := wd3_size (at_in Rp.str (l := ((spl s).drop 3)) (i := i) (by rw [List.length_drop]; omega))
       refine V.rg ?_
       refine V.run h372 [] 2 1 0 [(73, .pointer (some ⟨b102, 1, none⟩)), (74, .string (at_ Rp.str ((spl s).drop 3) (i : Int)))] fun a h375 => ?_
       refine V.cl (av := #[.pointer (some ⟨b102, 1, none⟩), .string (at_ Rp.str ((spl s).drop 3) (i : Int))]) h375 (Go.Proofs.enters_of Tryz.func91 (by kernel_rfl) rfl) (by have h := part_any w347 b102 ((((spl s).drop 3).take i).foldl ptE (⟨unhexS (at_ Rp.str (spl s) (1 : Int)), kindI (at_ Rp.str (spl s) (0 : Int)), ⟨#[]⟩, [], [], [], (-1)⟩ : EnD)) (at_ Rp.str ((spl s).drop 3) (i : Int)) hE_349 (by omega) (by omega) (by omega) (by omega) (by omega) (hV.fr hF_350); rw [(fold_k _ _).1] at h; exact h) ?_
       rintro _ w378 ⟨rfl, hq376, hL377⟩
       refine ⟨_, rfl, fun a h379 => ?_⟩
       have hsw378 := hL377.size
       have hF_380 := V.Fr.bel hF_350 hL377 (by omega)
       have hB6_381 := hB6_351.below hL377 (by omega)
       have hS15_382 := hS15_352.mono (fun k hk hz => ⟨hz, hL377.block k (by (try dsimp only at hz); omega)⟩) hL377.size
       have hS343_383 := hS343_353.mono (fun k hk hz => ⟨hz, hL377.block k (by (try dsimp only at hz); omega)⟩) hL377.size
       refine V.re h379 [] 1 0 [(76, .bool (!(bP (ptOk (kindI (at_ Rp.str (spl s) 0)) (at_ Rp.str ((spl s).drop 3) (i : Int))))))] fun a h384 => k374 _ _ ?_
       refine V.cb h384 (!(bP (ptOk (kindI (at_ Rp.str (spl s) 0)) (at_ Rp.str ((spl s).drop 3) (i : Int))))) (fun ht385 => ?_) (fun ht385 => ?_)
       ·
        refine V.sg fun K386 k387 => ?_
        refine V.run h384 [] 1 1 0 [(77, .agg #[.string ⟨#[]⟩, .int .i64 0, .string ⟨#[]⟩, .slice none 0 0, .slice none 0 0, .slice none 0 0, .int .i64 0])] fun a h391 => ?_
        refine V.go (V.stn b4 0 (.agg #[.string ⟨#[]⟩, .int .i64 0, .string ⟨#[]⟩, .slice none 0 0, .slice none 0 0, .slice none 0 0, .int .i64 0]) [.string ⟨#[]⟩, .int .i64 0, .string ⟨#[]⟩, .slice none 0 0, .slice none 0 0, .slice none 0 0, .int .i64 0] h391.e h391.e rfl rfl (by kernel_rfl) hB6_381 (by simp) [.string ⟨#[]⟩, .int .i64 0, .string ⟨#[]⟩, .slice none 0 0, .slice none 0 0, .slice none 0 0, .int .i64 0] rfl ?_)
        intro w388 hB389 hF390 hsw388
        have hF_392 := hF_380.own hF390 (by simp <;> omega)
        refine V.re h391 [] 1 0 [(3, .bool false)] fun a h395 => k387 _ _ ?_
        refine V.ret (V.blk_r (V.then_r (V.then_r (V.blk_r (V.then_r ?_)))))
        refine V.retCT h395.sd rfl _ (h395.e (v := (.pointer (some ⟨b4, 0, none⟩)))) (V.run_loadVar_agg (cs := [.string ⟨#[]⟩, .int .i64 0, .string ⟨#[]⟩, .slice none 0 0, .slice none 0 0, .slice none 0 0, .int .i64 0]) (by kernel_rfl) (blk_cells hB389 0 _ rfl)) (h395.e (v := (.bool false))) ?_
        have hno : ¬ rdOk s := fun hq => by
          obtain ⟨⟨q1, q2, q3, q4, q5⟩, q6, q7⟩ := hq
          first | omega | exact nb_no (by assumption) q3 | exact nb_no (by assumption) (q5 i (by omega)) | (rcases q4 with q4 | ⟨q8, q9, q10⟩ <;> first | exact absurd q4 (by assumption) | omega | exact absurd (prC_0.2 q8) (by assumption))
        exact ⟨_, _, _, _, _, _, _, _, _, _, _, _, _, congrArg (fun b => Ending.returned (Value.tuple #[.agg #[.string ⟨#[]⟩, .int .i64 0, .string ⟨#[]⟩, .slice none 0 0, .slice none 0 0, .slice none 0 0, .int .i64 0], Value.bool b])) (bP_no hno), hF_392, fun h => absurd h hno⟩
       ·
        refine V.skip (V.blk_n ?_)
        refine V.then_n (k363 _ _ ?_)
        refine V.rr h384 [(0, .i ((i : Int) + 1))] 78 78 [(69, .int .i64 ((i : Int) + 1))] fun a h396 => ?_
        refine V.then_n ?_
        refine ⟨i + 1, by omega, ?_⟩
        refine ⟨(h396.eq 69 (v := (.int .i64 ((i : Int) + 1))) (u := (.int .i64 ((i + 1) : Int))) (V.int_eq (by omega))).only _, (by rw [fold_next _ (by rw [List.length_drop]; omega)]; exact hq376 (nb_yes (by assumption))), hF_380, hB6_381, hS15_382, hS343_383, (by omega), (hG.step (nb_yes (by assumption)))⟩
      ·
       refine V.exit (V.then_e (V.then_e (V.blk_hit ?_)))
       refine V.then_n (k340 _ _ ?_)
       refine V.seq fun K397 k398 => ?_
       obtain ⟨X, hX⟩ : ∃ X, X = ((((spl s).drop 3).take i).foldl ptE (⟨unhexS (at_ Rp.str (spl s) (1 : Int)), kindI (at_ Rp.str (spl s) (0 : Int)), ⟨#[]⟩, [], [], [], (-1)⟩ : EnD)) := ⟨_, rfl⟩
       have hbX : BdE X (0 + (((spl s).drop 3).take i).length) := hX ▸ ⟨hb1, hb2, hb3, hbx⟩
       obtain ⟨hX1, hX2, hX3, hX4⟩ := hbX
       obtain ⟨Al399, cl400, Az401, cz402, Ah403, ch404, hB405, hO406, hO407, hO408, -⟩ := (show EnB w347 b102 X from hX ▸ hE_349)
       have hS409 := hO406.read (Z' := fun k => b102 + 1 ≤ k) (fun _ _ q => q.elim) (fun _ q _ => q)
       have hS410 := hO407.read (Z' := fun k => b102 + 1 ≤ k) (fun _ _ q => q.elim) (fun _ q _ => q)
       have hS411 := hO408.read (Z' := fun k => b102 + 1 ≤ k) (fun _ _ q => q.elim) (fun _ q _ => q)
       refine V.pl [([0,1],some (2,[0])),([3,4,6],some (5,[0])),([7,8],some (9,[])),([10],none)] fun w412 hF413 hsw412 => ?_
       have hF_414 := hF_350.new hF413
       have hB6_415 := hB6_351.fr0 hF413
       have hB405_418 := hB405.fr0 hF413
       have hS409_419 := hS409.fr0 hF413
       have hS410_420 := hS410.fr0 hF413
       have hS411_421 := hS411.fr0 hF413
       refine V.pe h358 [(0, .bs hB405_418 0 [.string X.key, .int .i64 X.k, .string X.s, .slice Al399 X.l.length cl400, .slice Az401 X.z.length cz402, .slice Ah403 X.h.length ch404, .int .i64 X.till]), (0, .bs hB405_418 0 [.string X.key, .int .i64 X.k, .string X.s, .slice Al399 X.l.length cl400, .slice Az401 X.z.length cz402, .slice Ah403 X.h.length ch404, .int .i64 X.till])] 1 0 [(79, .agg #[.string X.key, .int .i64 X.k, .string X.s, .slice Al399 X.l.length cl400, .slice Az401 X.z.length cz402, .slice Ah403 X.h.length ch404, .int .i64 X.till]), (80, .agg #[.string X.key, .int .i64 X.k, .string X.s, .slice Al399 X.l.length cl400, .slice Az401 X.z.length cz402, .slice Ah403 X.h.length ch404, .int .i64 X.till])] fun a h422 => ?_
       refine V.cl h422 (Go.Proofs.enters_of Tryz.func54 (by kernel_rfl) rfl) (entry_any w412 X.key X.k X.s Al399 cl400 X.l hS409_419.old Az401 cz402 X.z hS410_420.old Ah403 ch404 X.h hS411_421.old X.till (by omega) (by omega) (by omega) (fun y hy => by have := (hX4 y hy).1; unfold maxLen; omega)) ?_
       rintro _ w424 ⟨rfl, hF423⟩
       refine ⟨_, rfl, fun a h425 => ?_⟩
       have hsw424 := hF423.size
       have hF_426 := hF_414.new hF423
       have hB6_427 := hB6_415.fr0 hF423
       have hB405_430 := hB405_418.fr0 hF423
       have hS409_431 := hS409_419.fr0 hF423
       have hS410_432 := hS410_420.fr0 hF423
       have hS411_433 := hS411_421.fr0 hF423
       refine V.eh (fun _ => held_blk (n := 7) (hx := (h422.e (v := (.pointer (some ⟨b102, 0, none⟩))))) hB405_418 hB405_430 (by kernel_rfl) rfl (by simp only [List.length]; omega)) ?_
       refine V.pe0 ?_
       refine V.run h425 [] 1 1 0 [(82, .bool (bP (okE X.key X.till (okV X.k X.s X.l X.z X.h))))] fun a h434 => ?_
       by_cases hg435 : (bP (okE X.key X.till (okV X.k X.s X.l X.z X.h))) = true
       ·
        have h436 := h434.kbt 82 hg435
        refine V.se h436 [(0, .bs hB405_430 0 [.string X.key, .int .i64 X.k, .string X.s, .slice Al399 X.l.length cl400, .slice Az401 X.z.length cz402, .slice Ah403 X.h.length ch404, .int .i64 X.till])] 1 0 [(83, .agg #[.string X.key, .int .i64 X.k, .string X.s, .slice Al399 X.l.length cl400, .slice Az401 X.z.length cz402, .slice Ah403 X.h.length ch404, .int .i64 X.till]), (85, .string s)] fun a h437 => ?_
        obtain ⟨hek, het, heh⟩ := ent_good (x := X) (bP_of (by assumption)) ⟨hX1, hX2, hX3, hX4⟩
        have hll439 := lnD_len (k := X.k) hek het heh
        refine V.clg h437 (Go.Proofs.enters_of Tryz.func36 (by kernel_rfl) rfl) (line_any w424 X.key X.k X.s Al399 cl400 X.l hS409_431.old Az401 cz402 X.z hS410_432.old Ah403 ch404 X.h hS411_433.old X.till hek het heh (hV.fr hF_426)) ?_
        rintro _ w440 ⟨rfl, hF438⟩
        refine ⟨_, rfl, fun a h441 => ?_⟩
        have hsw440 := hF438.size
        have hF_442 := hF_426.new hF438
        have hB6_443 := hB6_427.fr0 hF438
        have hB405_446 := hB405_430.fr0 hF438
        have hS409_447 := hS409_431.fr0 hF438
        have hS410_448 := hS410_432.fr0 hF438
        have hS411_449 := hS411_433.fr0 hF438
        refine V.eh (fun _ => held_blk (n := 7) (hx := (h437.e (v := (.pointer (some ⟨b102, 0, none⟩))))) hB405_430 hB405_446 (by kernel_rfl) rfl (by simp only [List.length]; omega)) ?_
        refine V.pe h441 [(0, .seq (lnD X.key X.k X.s X.l X.z X.h X.till) s)] 86 86 [(87, .bool (decide ((lnD X.key X.k X.s X.l X.z X.h X.till) = s)))] fun a h450 => ?_
        refine V.go (V.stn b4 0 (.agg #[.string X.key, .int .i64 X.k, .string X.s, .slice Al399 X.l.length cl400, .slice Az401 X.z.length cz402, .slice Ah403 X.h.length ch404, .int .i64 X.till]) [.string X.key, .int .i64 X.k, .string X.s, .slice Al399 X.l.length cl400, .slice Az401 X.z.length cz402, .slice Ah403 X.h.length ch404, .int .i64 X.till] h450.e h450.e rfl rfl (by kernel_rfl) hB6_443 (by simp) [.string X.key, .int .i64 X.k, .string X.s, .slice Al399 X.l.length cl400, .slice Az401 X.z.length cz402, .slice Ah403 X.h.length ch404, .int .i64 X.till] rfl ?_)
        intro w451 hB452 hF453 hsw451
        have hF_454 := hF_442.own hF453 (by simp <;> omega)
        have hS409_458 := hS409_447.fr hF453 (by simp <;> omega)
        have hS410_459 := hS410_448.fr hF453 (by simp <;> omega)
        have hS411_460 := hS411_449.fr hF453 (by simp <;> omega)
        refine V.eh trivial ?_
        refine V.pz h450 [] 1 0 [(3, .bool (decide ((lnD X.key X.k X.s X.l X.z X.h X.till) = s)))] fun a h461 => k398 _ _ ?_
        refine V.ret ?_
        refine V.retCT h461.sd rfl _ (h461.e (v := (.pointer (some ⟨b4, 0, none⟩)))) (V.run_loadVar_agg (cs := [.string X.key, .int .i64 X.k, .string X.s, .slice Al399 X.l.length cl400, .slice Az401 X.z.length cz402, .slice Ah403 X.h.length ch404, .int .i64 X.till]) (by kernel_rfl) (blk_cells hB452 0 _ rfl)) (h461.e (v := (.bool (decide ((lnD X.key X.k X.s X.l X.z X.h X.till) = s))))) ?_
        have hXe : X = rdE s := by rw [hX, List.take_of_length_le (by rw [List.length_drop]; omega)]; unfold rdE rdE0 tillD; first | rw [if_pos (by first | assumption | exact Decidable.of_not_not (by assumption))] | rw [if_neg (by assumption)]
        have hpre : rdPre s := ⟨by omega, by omega, nb_yes (by assumption), by first | exact .inl (by assumption) | exact .inl (Decidable.of_not_not (by assumption)) | exact .inr ⟨prC_0.1 (by first | assumption | omega), by omega, by omega⟩, hG.le (by omega)⟩
        have hbb : (decide ((lnD X.key X.k X.s X.l X.z X.h X.till) = s)) = bP (rdOk s) := bP_dec.trans (congrArg bP (propext ⟨fun q => ⟨hpre, hXe ▸ (bP_of (by assumption) : okD X), hXe ▸ q⟩, fun q => hXe.symm ▸ q.2.2⟩))
        exact ⟨_, _, _, _, _, _, _, _, _, _, _, _, _, congrArg (fun b => Ending.returned (Value.tuple #[.agg #[.string X.key, .int .i64 X.k, .string X.s, .slice Al399 X.l.length cl400, .slice Az401 X.z.length cz402, .slice Ah403 X.h.length ch404, .int .i64 X.till], Value.bool b])) hbb, hF_454, fun _ => hXe ▸ (⟨_, _, _, rfl, hS409_458.zone (fun k _ h => by (try dsimp only at h); omega), hS410_459.zone (fun k _ h => by (try dsimp only at h); omega), hS411_460.zone (fun k _ h => by (try dsimp only at h); omega)⟩ : enR.ok _ _ X _)⟩
       ·
        have h462 := h434.kbf 82 hg435
        refine V.se h462 [] 1 0 [(83, undef), (85, undef)] fun a h463 => ?_
        refine V.run h463 [] 1 1 0 [(84, undef)] fun a h464 => ?_
        refine V.eh (fun _ => held_blk (n := 7) (hx := (h463.e (v := (.pointer (some ⟨b102, 0, none⟩))))) hB405_430 hB405_430 (by kernel_rfl) rfl (by simp only [List.length]; omega)) ?_
        refine V.pe h464 [] 86 86 [(87, .bool false)] fun a h465 => ?_
        refine V.go (V.stn b4 0 (.agg #[.string X.key, .int .i64 X.k, .string X.s, .slice Al399 X.l.length cl400, .slice Az401 X.z.length cz402, .slice Ah403 X.h.length ch404, .int .i64 X.till]) [.string X.key, .int .i64 X.k, .string X.s, .slice Al399 X.l.length cl400, .slice Az401 X.z.length cz402, .slice Ah403 X.h.length ch404, .int .i64 X.till] h465.e h465.e rfl rfl (by kernel_rfl) hB6_427 (by simp) [.string X.key, .int .i64 X.k, .string X.s, .slice Al399 X.l.length cl400, .slice Az401 X.z.length cz402, .slice Ah403 X.h.length ch404, .int .i64 X.till] rfl ?_)
        intro w466 hB467 hF468 hsw466
        have hF_469 := hF_426.own hF468 (by simp <;> omega)
        have hS409_473 := hS409_431.fr hF468 (by simp <;> omega)
        have hS410_474 := hS410_432.fr hF468 (by simp <;> omega)
        have hS411_475 := hS411_433.fr hF468 (by simp <;> omega)
        refine V.eh trivial ?_
        refine V.pz h465 [] 1 0 [(3, .bool false)] fun a h476 => k398 _ _ ?_
        refine V.ret ?_
        refine V.retCT h476.sd rfl _ (h476.e (v := (.pointer (some ⟨b4, 0, none⟩)))) (V.run_loadVar_agg (cs := [.string X.key, .int .i64 X.k, .string X.s, .slice Al399 X.l.length cl400, .slice Az401 X.z.length cz402, .slice Ah403 X.h.length ch404, .int .i64 X.till]) (by kernel_rfl) (blk_cells hB467 0 _ rfl)) (h476.e (v := (.bool false))) ?_
        have hXe : X = rdE s := by rw [hX, List.take_of_length_le (by rw [List.length_drop]; omega)]; unfold rdE rdE0 tillD; first | rw [if_pos (by first | assumption | exact Decidable.of_not_not (by assumption))] | rw [if_neg (by assumption)]
        have hpre : rdPre s := ⟨by omega, by omega, nb_yes (by assumption), by first | exact .inl (by assumption) | exact .inl (Decidable.of_not_not (by assumption)) | exact .inr ⟨prC_0.1 (by first | assumption | omega), by omega, by omega⟩, hG.le (by omega)⟩
        have hbb : false = bP (rdOk s) := bP_no (fun hq => absurd (bP_yes (show okE X.key X.till (okV X.k X.s X.l X.z X.h) from hXe ▸ hq.2.1)).symm (by assumption))
        exact ⟨_, _, _, _, _, _, _, _, _, _, _, _, _, congrArg (fun b => Ending.returned (Value.tuple #[.agg #[.string X.key, .int .i64 X.k, .string X.s, .slice Al399 X.l.length cl400, .slice Az401 X.z.length cz402, .slice Ah403 X.h.length ch404, .int .i64 X.till], Value.bool b])) hbb, hF_469, fun _ => hXe ▸ (⟨_, _, _, rfl, hS409_473.zone (fun k _ h => by (try dsimp only at h); omega), hS410_474.zone (fun k _ h => by (try dsimp only at h); omega), hS411_475.zone (fun k _ h => by (try dsimp only at h); omega)⟩ : enR.ok _ _ X _)⟩
/-! ### The lines of a text -/
def restN (s : ByteArray) : Nat → ByteArray
  | 0 => s
  | n + 1 => cuB (restN s n) 10
def lineN (s : ByteArray) (n : Nat) : ByteArray := cuA (restN s n) 10
noncomputable def outN (s : ByteArray) (n : Nat) : List EnD := (List.range n).map fun j => rdE (lineN s j)
def gdN (s : ByteArray) (j : Nat) : Prop := rdOk (lineN s j) ∧ ¬ j = 65536 ∧ (0 < j → slt (rdE (lineN s (j - 1))).key (rdE (lineN s j)).key) ∧ cuF (restN s j) 10 = true
theorem outN_len (s : ByteArray) (n : Nat) : (outN s n).length = n := by unfold outN; rw [List.length_map, List.length_range]
theorem outN_next (s : ByteArray) (n : Nat) : outN s (n + 1) = outN s n ++ [rdE (lineN s n)] := by unfold outN; rw [List.range_succ, List.map_append]; rfl
theorem outN_at {s : ByteArray} {n : Nat} (h : 0 < n) : at_ enR (outN s n) (((n : Nat) : Int) - 1) = rdE (lineN s (n - 1)) := by
  rw [show ((n : Nat) : Int) - 1 = ((n - 1 : Nat) : Int) by omega, at_el enR (by rw [outN_len]; omega)]
  unfold outN
  rw [List.getElem_map, List.getElem_range]
theorem cu_lt {s : ByteArray} {c : UInt8} (h : cuF s c = true) : (cuB s c).size + 1 ≤ s.size := by
  have h0 : s.data.toList.length = s.size := Array.length_toList
  have h2 : (cuB s c).size = (Lib.cut s.data.toList [c]).2.1.length := List.size_toArray
  have h3 : (cuF s c) = (Lib.cut s.data.toList [c]).2.2 := rfl
  rw [h3] at h
  rw [h2]
  unfold Lib.cut at h ⊢
  split at h
  · rename_i hix
    rw [if_pos hix]
    show (List.drop _ _).length + 1 ≤ _
    rw [List.length_drop]
    have h4 : ¬ s.data.toList = [] := fun hn => by
      rw [hn] at hix; simp [Lib.index, Lib.hasPrefix] at hix
    have h5 : 0 < s.data.toList.length := List.length_pos_iff.2 h4
    simp only [List.length_singleton]; omega
  · cases h
/-- What Read tells of a text. -/
def RdR (s : ByteArray) (l : List EnD) (i c : Int) : Prop :=
  (s.size > 67108864 ∧ l = [] ∧ i = 0 ∧ c = 2) ∨
  (s.size ≤ 67108864 ∧ ∃ n, (∀ j, j < n → ¬ restN s j = ⟨#[]⟩ ∧ gdN s j) ∧ ((restN s n = ⟨#[]⟩ ∧ l = outN s n ∧ i = 0 ∧ c = 0) ∨ (¬ restN s n = ⟨#[]⟩ ∧ ¬ gdN s n ∧ l = [] ∧ i = n ∧ c = 91)))
theorem en_key {Z : Nat → Prop} {w : World} {x : EnD} {key sv : ByteArray} {k t : Int} {vl vz vh : Value} (h : enR.ok Z w x [.string key, .int .i64 k, .string sv, vl, vz, vh, .int .i64 t]) : key = x.key := by
  obtain ⟨a, b, c, he, _⟩ := h
  injection he with h1 _
  injection h1
theorem en_zone {Z Z' : Nat → Prop} {w : World} {x : EnD} {cs : List Value} (h : enR.ok Z w x cs) (hz : ∀ b, b < w.heap.size → Z b → Z' b) : enR.ok Z' w x cs := enR.mono (fun b hb hq => ⟨hz b hb hq, rfl⟩) (Nat.le_refl _) h
theorem outN_at2 {s : ByteArray} {n : Nat} (h : 0 < n) : at_ enR (outN s n) ((((outN s n).length : Nat) : Int) - 1) = rdE (lineN s (n - 1)) := by rw [outN_len]; exact outN_at h
theorem reads_any (w : World) (s : ByteArray) (hs : s.size ≤ 1099511627776) (hV : Vs w) : Calls Tryz.prog 13 #[.string s] w (fun e w' => ∃ l i c A' c', e = .returned (.tuple #[.slice A' l.length c', .int .i64 i, .int .i64 c]) ∧ SlR enR (fun k => w.heap.size ≤ k) w' (.slice A' l.length c') l ∧ RdR s l i c ∧ Fr [] w w') := by
 have hF := Fr.refl [] w
 have hlo := hV.lo
 refine V.en 65 Tryz.func13 fun a h1 => ?_
 refine V.sr h1 [] 2 4 [] fun a h4 => ?_
 refine V.seq fun K5 k6 => ?_
 refine V.sr h4 [] 12 13 [(14, .bool (decide ((s.size : Int) > 67108864)))] fun a h9 => ?_
 refine V.cp h9 ((s.size : Int) > 67108864) (fun ht10 => ?_) (fun ht10 => ?_)
 ·
  refine V.sr h9 [] 1 0 [(2, .slice none 0 0), (3, .int .i64 0), (4, .int .i64 2)] fun a h13 => ?_
  refine V.ret (V.then_r ?_)
  refine V.r3 h13 (.slice none 0 0) (.int .i64 0) (.int .i64 2) ?_
  exact ⟨[], 0, 2, none, 0, rfl, SlR.nil _ _ _, .inl ⟨by omega, rfl, rfl, rfl⟩, hF⟩
 ·
  refine V.skip ?_
  refine V.then_n (k6 _ _ ?_)
  refine V.sr h9 [] 1 0 [(5, .slice none 0 0)] fun a h16 => ?_
  refine V.seq fun K17 k18 => ?_
  refine V.sr h16 [] 1 0 [(6, .int .i64 0)] fun a h21 => ?_
  refine V.block ?_
  have hO0 := OwR.nil enR (Zi w.heap.size w.heap.size (.slice none 0 0)) w w.heap.size 55
  refine V.loop3 (fun (n : Nat) (A2 : Option Addr) (c2 : Nat) a_ w_ => En 65 [] a_ [(0, .string (restN s n)), (5, .slice A2 ((outN s n).length) c2), (6, .int .i64 (n : Int))] ∧ OwR enR (Zi w.heap.size w_.heap.size (.slice A2 (outN s n).length c2)) w_ w.heap.size 55 (.slice A2 ((outN s n).length) c2) (outN s n) ∧ Fr [] w w_ ∧ (n + (restN s n).size ≤ s.size) ∧ (∀ j, j < n → ¬ restN s j = ⟨#[]⟩ ∧ gdN s j)) (fun (n : Nat) (A2 : Option Addr) (c2 : Nat) => (restN s n).size) 0 none 0 ?_ ?_
  ·
   refine ⟨((h21.eq 5 (v := (.slice none 0 0)) (u := (.slice none ((outN s 0).length) 0)) (rfl)).eq 6 (v := (.int .i64 0)) (u := (.int .i64 (0 : Int))) (V.int_eq (by omega))).only _, hO0, hF, (by show 0 + s.size ≤ s.size; omega), (fun j hj => by omega)⟩
  ·
   rintro n A2 c2 a22 w23 ⟨h24, hO_25, hF_26, hn, hg⟩
   have hfs27 := hF_26.size
   have hol := outN_len s n
   have hO0 := hO_25
   refine V.seq fun K28 k29 => ?_
   refine V.sr h24 [(1, .sne (restN s n) ⟨#[]⟩)] 15 15 [(16, .bool (decide (¬ (restN s n) = ⟨#[]⟩)))] fun a h32 => ?_
   refine V.cp h32 (¬ (restN s n) = ⟨#[]⟩) (fun ht33 => ?_) (fun ht33 => ?_)
   ·
    refine V.skip ?_
    refine V.then_n (k29 _ _ ?_)
    refine V.seq fun K34 k35 => ?_
    refine V.block ?_
    refine V.sg fun K36 k37 => ?_
    refine V.run h32 [] 1 1 0 [(20, .string (restN s n))] fun a h38 => ?_
    have hcl40 := cu_len (restN s n) 10
    refine V.cl h38 (Go.Proofs.enters_of Tryz.func43 (by kernel_rfl) rfl) (cu_any w23 (restN s n) 10 (by omega) (hV.fr hF_26)) ?_
    rintro _ w41 ⟨rfl, hF39⟩
    refine ⟨_, rfl, fun a h42 => ?_⟩
    have hsw41 := hF39.size
    have hO_43 := hO_25.fr0 hF39
    have hF_44 := hF_26.new hF39
    refine V.re h42 [] 19 24 [(7, .string (cuA (restN s n) 10)), (8, .string (cuB (restN s n) 10)), (9, .bool (cuF (restN s n) 10))] fun a h45 => k37 _ _ ?_
    refine V.sg fun K46 k47 => ?_
    refine V.run h45 [] 1 1 0 [(26, .string (cuA (restN s n) 10))] fun a h48 => ?_
    refine V.cl h48 (Go.Proofs.enters_of Tryz.func44 (by kernel_rfl) rfl) (read_any w41 (cuA (restN s n) 10) (by omega) (hV.fr hF_44)) ?_
    rintro _ w65 ⟨key49, k50, sv51, Al52, nl53, cl54, Az55, nz56, cz57, Ah58, nh59, ch60, t61, rfl, hF62, hr64⟩
    refine ⟨_, rfl, fun a h66 => ?_⟩
    have hsw65 := hF62.size
    have hO_67 := hO_43.fr0 hF62
    have hF_68 := hF_44.new hF62
    have hq63 := fun hp => en_zone (Z' := fun k => w41.heap.size ≤ k ∧ k < w65.heap.size) (hr64 hp) (fun b hb hz => ⟨hz, hb⟩)
    refine V.run h66 [] 3 25 25 [(28, .agg #[.string key49, .int .i64 k50, .string sv51, .slice Al52 nl53 cl54, .slice Az55 nz56 cz57, .slice Ah58 nh59 ch60, .int .i64 t61]), (29, .bool (bP (rdOk (cuA (restN s n) 10))))] fun a h73 => ?_
    refine V.go (V.mk [] trivial (by kernel_rfl) [.string ⟨#[]⟩, .int .i64 0, .string ⟨#[]⟩, .slice none 0 0, .slice none 0 0, .slice none 0 0, .int .i64 0] 55 (fun b => .pointer (some ⟨b, 0, none⟩)) (by kernel_rfl) ?_)
    intro w70 b69 heb69 hB71 hF72 hsb69
    have hO_74 := hO_67.fr0 hF72
    have hF_75 := hF_68.new hF72
    have hq63_76 := fun hp => enR.mono (fun k hk hz => ⟨hz, hF72.block k hk (by simp)⟩) hF72.size (hq63 hp)
    refine V.pt h73 fun a h77 => ?_
    refine V.go (V.stn b69 0 (.agg #[.string key49, .int .i64 k50, .string sv51, .slice Al52 nl53 cl54, .slice Az55 nz56 cz57, .slice Ah58 nh59 ch60, .int .i64 t61]) [.string key49, .int .i64 k50, .string sv51, .slice Al52 nl53 cl54, .slice Az55 nz56 cz57, .slice Ah58 nh59 ch60, .int .i64 t61] h77.e h77.e rfl rfl (by kernel_rfl) hB71 (by simp) [.string key49, .int .i64 k50, .string sv51, .slice Al52 nl53 cl54, .slice Az55 nz56 cz57, .slice Ah58 nh59 ch60, .int .i64 t61] rfl ?_)
    intro w78 hB79 hF80 hsw78
    have hO_81 := hO_74.frn hF80 (fun h => by have h1 := h.1; have h2 := h.2.1; omega) (by first | exact own_ne hO_74 (by omega) | exact own_ne2 hO_25 (by omega))
    have hF_82 := hF_75.own hF80 (by simp <;> omega)
    have hq63_83 := fun hp => enR.mono (fun k hk hz => ⟨hz, hF80.block k hk (by (try dsimp only at hz); simp <;> omega)⟩) hF80.size (hq63_76 hp)
    refine V.re h77 [] 1 0 [(11, .bool (bP (rdOk (cuA (restN s n) 10))))] fun a h84 => k47 _ _ ?_
    refine V.seq fun K85 k86 => ?_
    refine V.seq fun K87 k88 => ?_
    have hS89 := (hO_81.raise (m := w78.heap.size) (by omega)).readi
    refine V.pl [([0,1,2,3,4,5,6,7,8,9,10,11,12,13,14,15,16,17,18,19,20,21,22,23,24,25,26,27],none)] fun w90 hF91 hsw90 => ?_
    have hO_92 := hO_81.fr0 hF91
    have hF_93 := hF_82.new hF91
    have hq63_94 := fun hp => enR.mono (fun k hk hz => ⟨hz, hF91.block k hk (by simp)⟩) hF91.size (hq63_83 hp)
    have hB79_95 := hB79.fr0 hF91
    have hS89_96 := hS89.fr0 hF91
    refine V.pz0 ?_
    refine V.run h84 [] 3 30 31 [(32, .bool (!(bP (rdOk (cuA (restN s n) 10)))))] fun a h97 => ?_
    by_cases hg98 : (!(bP (rdOk (cuA (restN s n) 10)))) = true
    ·
     have h99 := h97.kbt 32 hg98
     refine V.se h99 [] 35 56 [(33, undef), (34, undef), (37, .bool true), (38, undef), (39, undef), (41, undef), (43, undef), (44, undef), (48, undef), (50, undef), (54, .bool true), (57, .bool true)] fun a h100 => k88 _ _ ?_
     have h101 := h100.only [(0, .string (restN s n)), (5, .slice A2 ((outN s n).length) c2), (6, .int .i64 (n : Int)), (8, .string (cuB (restN s n) 10)), (10, .pointer (some ⟨b69, 0, none⟩)), (57, .bool true)]
     refine V.ct h101 ?_
     refine V.sr h101 [] 58 58 [(2, .slice none 0 0), (3, .int .i64 (n : Int)), (4, .int .i64 91)] fun a h104 => ?_
     refine V.ret (V.then_r (V.blk_r (V.then_r (V.then_r (V.blk_r (V.then_r ?_))))))
     refine V.r3 h104 (.slice none 0 0) (.int .i64 (n : Int)) (.int .i64 91) ?_
     have hno : ¬ gdN s n := fun hgd => by
       obtain ⟨g1, g2, g3, g4⟩ := hgd
       first | exact nb_no (by assumption) g1 | exact nf_no (by assumption) g4 | omega | (have h : slt (rdE (lineN s (n - 1))).key (rdE (cuA (restN s n) 10)).key := g3 (by omega); rw [← outN_at2 (by omega), ← en_key (hq63_94 g1)] at h; exact absurd h (by assumption))
     exact ⟨[], (n : Int), 91, none, 0, rfl, SlR.nil _ _ _, .inr ⟨by omega, n, hg, .inr ⟨by first | assumption | exact Decidable.of_not_not (by assumption), hno, rfl, rfl, rfl⟩⟩, hF_93⟩
    ·
     have h105 := h97.kbf 32 hg98
     refine V.run h105 [(2, .eq (((outN s n).length : Nat) : Int) 65536)] 5 35 36 [(33, .slice A2 ((outN s n).length) c2), (34, .int .i64 (((outN s n).length : Nat) : Int)), (37, .bool (decide ((((outN s n).length : Nat) : Int) = 65536)))] fun a h106 => ?_
     by_cases hg107 : (((outN s n).length : Nat) : Int) = 65536
     ·
      have h108 := h106.kt 37 hg107
      refine V.se h108 [] 40 56 [(38, undef), (39, undef), (41, undef), (43, undef), (44, undef), (48, undef), (50, undef), (54, .bool true), (57, .bool true)] fun a h109 => k88 _ _ ?_
      have h110 := h109.only [(0, .string (restN s n)), (5, .slice A2 ((outN s n).length) c2), (6, .int .i64 (n : Int)), (8, .string (cuB (restN s n) 10)), (10, .pointer (some ⟨b69, 0, none⟩)), (57, .bool true)]
      refine V.ct h110 ?_
      refine V.sr h110 [] 58 58 [(2, .slice none 0 0), (3, .int .i64 (n : Int)), (4, .int .i64 91)] fun a h113 => ?_
      refine V.ret (V.then_r (V.blk_r (V.then_r (V.then_r (V.blk_r (V.then_r ?_))))))
      refine V.r3 h113 (.slice none 0 0) (.int .i64 (n : Int)) (.int .i64 91) ?_
      have hno : ¬ gdN s n := fun hgd => by
        obtain ⟨g1, g2, g3, g4⟩ := hgd
        first | exact nb_no (by assumption) g1 | exact nf_no (by assumption) g4 | omega | (have h : slt (rdE (lineN s (n - 1))).key (rdE (cuA (restN s n) 10)).key := g3 (by omega); rw [← outN_at2 (by omega), ← en_key (hq63_94 g1)] at h; exact absurd h (by assumption))
      exact ⟨[], (n : Int), 91, none, 0, rfl, SlR.nil _ _ _, .inr ⟨by omega, n, hg, .inr ⟨by first | assumption | exact Decidable.of_not_not (by assumption), hno, rfl, rfl, rfl⟩⟩, hF_93⟩
     ·
      have h114 := h106.kf 37 hg107
      refine V.run h114 [] 4 40 40 [(38, .slice A2 ((outN s n).length) c2), (39, .int .i64 (((outN s n).length : Nat) : Int)), (41, .bool (decide ((((outN s n).length : Nat) : Int) > 0)))] fun a h115 => ?_
      by_cases hg116 : (((outN s n).length : Nat) : Int) > 0
      ·
       have h117 := h115.kt 41 hg116
       obtain ⟨g118, o119, hA120, hA120l, hA120z⟩ := hS89_96.addr (by omega)
       obtain ⟨cs121, hok122, hE123⟩ := hS89_96.els hA120 ((((outN s n).length : Nat) : Int) - 1) (by omega) (by omega)
       obtain ⟨Al124, cl125, Az126, cz127, Ah128, ch129, rfl, hS130, hS131, hS132⟩ := en_open hok122
       refine V.run h117 [(3, .i ((((outN s n).length : Nat) : Int) - 1)), (0, .ix g118 o119 ((outN s n).length) c2 .i64 ((((outN s n).length : Nat) : Int) - 1) 7 hA120), (1, .l ⟨g118, o119 + ((((outN s n).length : Nat) : Int) - 1).toNat * 7, none⟩ (.string ((at_ enR (outN s n) ((((outN s n).length : Nat) : Int) - 1)).key)) (hE123.at 0 rfl)), (1, .b hB79_95 0), (0, .q (.bool (decide (¬ slt ((at_ enR (outN s n) ((((outN s n).length : Nat) : Int) - 1)).key) key49))) V.t_sgeq)] 13 42 53 [(43, .slice A2 ((outN s n).length) c2), (44, .int .i64 (((outN s n).length : Nat) : Int)), (48, .string ((at_ enR (outN s n) ((((outN s n).length : Nat) : Int) - 1)).key)), (50, .string key49), (54, .bool (decide (¬ slt ((at_ enR (outN s n) ((((outN s n).length : Nat) : Int) - 1)).key) key49)))] fun a h133 => ?_
       by_cases hg134 : ¬ slt ((at_ enR (outN s n) ((((outN s n).length : Nat) : Int) - 1)).key) key49
       ·
        have h135 := h133.kt 54 hg134
        refine V.se h135 [] 55 56 [(57, .bool true)] fun a h136 => k88 _ _ ?_
        have h137 := h136.only [(0, .string (restN s n)), (5, .slice A2 ((outN s n).length) c2), (6, .int .i64 (n : Int)), (8, .string (cuB (restN s n) 10)), (10, .pointer (some ⟨b69, 0, none⟩)), (57, .bool true)]
        refine V.ct h137 ?_
        refine V.sr h137 [] 58 58 [(2, .slice none 0 0), (3, .int .i64 (n : Int)), (4, .int .i64 91)] fun a h140 => ?_
        refine V.ret (V.then_r (V.blk_r (V.then_r (V.then_r (V.blk_r (V.then_r ?_))))))
        refine V.r3 h140 (.slice none 0 0) (.int .i64 (n : Int)) (.int .i64 91) ?_
        have hno : ¬ gdN s n := fun hgd => by
          obtain ⟨g1, g2, g3, g4⟩ := hgd
          first | exact nb_no (by assumption) g1 | exact nf_no (by assumption) g4 | omega | (have h : slt (rdE (lineN s (n - 1))).key (rdE (cuA (restN s n) 10)).key := g3 (by omega); rw [← outN_at2 (by omega), ← en_key (hq63_94 g1)] at h; exact absurd h (by assumption))
        exact ⟨[], (n : Int), 91, none, 0, rfl, SlR.nil _ _ _, .inr ⟨by omega, n, hg, .inr ⟨by first | assumption | exact Decidable.of_not_not (by assumption), hno, rfl, rfl, rfl⟩⟩, hF_93⟩
       ·
        have h141 := h133.kf 54 hg134
        refine V.se h141 [] 55 56 [(57, .bool (!(cuF (restN s n) 10)))] fun a h142 => k88 _ _ ?_
        have h143 := h142.only [(0, .string (restN s n)), (5, .slice A2 ((outN s n).length) c2), (6, .int .i64 (n : Int)), (8, .string (cuB (restN s n) 10)), (10, .pointer (some ⟨b69, 0, none⟩)), (57, .bool (!(cuF (restN s n) 10)))]
        refine V.cb h143 (!(cuF (restN s n) 10)) (fun ht144 => ?_) (fun ht144 => ?_)
        ·
         refine V.sr h143 [] 58 58 [(2, .slice none 0 0), (3, .int .i64 (n : Int)), (4, .int .i64 91)] fun a h147 => ?_
         refine V.ret (V.then_r (V.blk_r (V.then_r (V.then_r (V.blk_r (V.then_r ?_))))))
         refine V.r3 h147 (.slice none 0 0) (.int .i64 (n : Int)) (.int .i64 91) ?_
         have hno : ¬ gdN s n := fun hgd => by
           obtain ⟨g1, g2, g3, g4⟩ := hgd
           first | exact nb_no (by assumption) g1 | exact nf_no (by assumption) g4 | omega | (have h : slt (rdE (lineN s (n - 1))).key (rdE (cuA (restN s n) 10)).key := g3 (by omega); rw [← outN_at2 (by omega), ← en_key (hq63_94 g1)] at h; exact absurd h (by assumption))
         exact ⟨[], (n : Int), 91, none, 0, rfl, SlR.nil _ _ _, .inr ⟨by omega, n, hg, .inr ⟨by first | assumption | exact Decidable.of_not_not (by assumption), hno, rfl, rfl, rfl⟩⟩, hF_93⟩
        ·
         refine V.skip ?_
         refine V.then_n (k86 _ _ ?_)
         refine V.seq fun K148 k149 => ?_
         have hok1 : rdOk (lineN s n) := nb_yes (by assumption)
         have hkk := en_key (hq63_94 hok1)
         have hcf : cuF (restN s n) 10 = true := nf_yes (by assumption)
         have hclt := cu_lt hcf
         have hgd : gdN s n := ⟨hok1, by omega, fun h0 => by first | omega | (show slt (rdE (lineN s (n - 1))).key (rdE (cuA (restN s n) 10)).key; rw [← outN_at2 (s := s) h0, ← hkk]; first | assumption | exact Decidable.of_not_not (by assumption)), hcf⟩
         refine V.rg ?_
         refine V.run h143 [(1, .bs hB79_95 0 [.string key49, .int .i64 k50, .string sv51, .slice Al52 nl53 cl54, .slice Az55 nz56 cz57, .slice Ah58 nh59 ch60, .int .i64 t61])] 2 1 0 [(59, .slice A2 ((outN s n).length) c2), (60, .agg #[.string key49, .int .i64 k50, .string sv51, .slice Al52 nl53 cl54, .slice Az55 nz56 cz57, .slice Ah58 nh59 ch60, .int .i64 t61])] fun a h150 => ?_
         refine V.go (V.mk [(60, .agg #[.string key49, .int .i64 k50, .string sv51, .slice Al52 nl53 cl54, .slice Az55 nz56 cz57, .slice Ah58 nh59 ch60, .int .i64 t61])] ⟨h150.e, trivial⟩ (by kernel_rfl) [.string key49, .int .i64 k50, .string sv51, .slice Al52 nl53 cl54, .slice Az55 nz56 cz57, .slice Ah58 nh59 ch60, .int .i64 t61] 55 (fun b => .slice (some ⟨b, 0, none⟩) 1 1) (by kernel_rfl) ?_)
         intro w152 b151 heb151 hB153 hF154 hsb151
         have hO_155 := hO_92.fr0 hF154
         have hF_156 := hF_93.new hF154
         have hq63_157 := fun hp => enR.mono (fun k hk hz => ⟨hz, hF154.block k hk (by simp)⟩) hF154.size (hq63_94 hp)
         refine V.pt h150 fun a h160 => ?_
         refine V.go (V.app (R := enR) (ys := ([rdE (lineN s n)])) (news := [(.string key49), (.int .i64 k50), (.string sv51), (.slice Al52 nl53 cl54), (.slice Az55 nz56 cz57), (.slice Ah58 nh59 ch60), (.int .i64 t61)]) (h160.e (v := (.slice A2 ((outN s n).length) c2))) ⟨b151, 0, none⟩ 1 1 (h160.e (v := (.slice (some ⟨b151, 0, none⟩) 1 1))) (by kernel_rfl) (info55) (by kernel_rfl) (by decide) (hO_155.raise (m := w152.heap.size) (by omega)) rfl ⟨_, [], rfl, en_zone (hq63_157 hok1) (fun b hb hz => ⟨by (try dsimp only at hz); omega, hb, fun e => by have := (hO0.lt _ e).2; (try dsimp only at hz); omega⟩), rfl⟩ (blk_cells hB153 0 _ rfl) (by first | omega | (simp; omega)) (by decide) (by omega) ?_)
         intro A161 c162 w163 hO164z hF165 hatw163
         have hsw163 := hF165.size
         have hF_166 := hF_156.own hF165 (own_ge hO_155 (by omega))
         have hO164 := hO164z.zi hatw163
         refine V.pt h160 fun a h168 => ?_
         refine V.re h168 [] 1 0 [(5, .slice A161 (((outN s n).length) + 1) c162)] fun a h169 => k149 _ _ ?_
         refine V.rr h169 [] 63 63 [(0, .string (cuB (restN s n) 10))] fun a h170 => ?_
         refine V.blk_n ?_
         refine V.then_n (k35 _ _ ?_)
         refine V.rr h170 [(1, .i ((n : Int) + 1))] 17 18 [(6, .int .i64 ((n : Int) + 1))] fun a h171 => ?_
         refine V.then_n ?_
         have hqs := outN_next s n
         refine ⟨n + 1, A161, c162, by show (cuB (restN s n) 10).size < (restN s n).size; omega, ?_⟩
         refine ⟨(((h171.eq 0 (v := (.string (cuB (restN s n) 10))) (u := (.string (restN s (n + 1)))) (rfl)).eq 5 (v := (.slice A161 (((outN s n).length) + 1) c162)) (u := (.slice A161 ((outN s (n + 1)).length) c162)) (V.sl_eq (by rw [hqs]; simp))).eq 6 (v := (.int .i64 ((n : Int) + 1))) (u := (.int .i64 ((n + 1) : Int))) (V.int_eq (by omega))).only _, (by rw [hqs]; simpa using hO164.raise (m := w163.heap.size) (by omega)), hF_166, (by show n + 1 + (cuB (restN s n) 10).size ≤ s.size; omega), (fun j hj => by rcases Nat.lt_or_ge j n with h1 | h1; exact hg j h1; obtain rfl : j = n := (by omega); exact ⟨by assumption, hgd⟩)⟩
      ·
       have h172 := h115.kf 41 hg116
       refine V.se h172 [] 42 56 [(43, undef), (44, undef), (48, undef), (50, undef), (54, .bool false), (57, .bool (!(cuF (restN s n) 10)))] fun a h173 => k88 _ _ ?_
       have h174 := h173.only [(0, .string (restN s n)), (5, .slice A2 ((outN s n).length) c2), (6, .int .i64 (n : Int)), (8, .string (cuB (restN s n) 10)), (10, .pointer (some ⟨b69, 0, none⟩)), (57, .bool (!(cuF (restN s n) 10)))]
       refine V.cb h174 (!(cuF (restN s n) 10)) (fun ht175 => ?_) (fun ht175 => ?_)
       ·
        refine V.sr h174 [] 58 58 [(2, .slice none 0 0), (3, .int .i64 (n : Int)), (4, .int .i64 91)] fun a h178 => ?_
        refine V.ret (V.then_r (V.blk_r (V.then_r (V.then_r (V.blk_r (V.then_r ?_))))))
        refine V.r3 h178 (.slice none 0 0) (.int .i64 (n : Int)) (.int .i64 91) ?_
        have hno : ¬ gdN s n := fun hgd => by
          obtain ⟨g1, g2, g3, g4⟩ := hgd
          first | exact nb_no (by assumption) g1 | exact nf_no (by assumption) g4 | omega | (have h : slt (rdE (lineN s (n - 1))).key (rdE (cuA (restN s n) 10)).key := g3 (by omega); rw [← outN_at2 (by omega), ← en_key (hq63_94 g1)] at h; exact absurd h (by assumption))
        exact ⟨[], (n : Int), 91, none, 0, rfl, SlR.nil _ _ _, .inr ⟨by omega, n, hg, .inr ⟨by first | assumption | exact Decidable.of_not_not (by assumption), hno, rfl, rfl, rfl⟩⟩, hF_93⟩
       ·
        refine V.skip ?_
        refine V.then_n (k86 _ _ ?_)
        refine V.seq fun K179 k180 => ?_
        have hok1 : rdOk (lineN s n) := nb_yes (by assumption)
        have hkk := en_key (hq63_94 hok1)
        have hcf : cuF (restN s n) 10 = true := nf_yes (by assumption)
        have hclt := cu_lt hcf
        have hgd : gdN s n := ⟨hok1, by omega, fun h0 => by first | omega | (show slt (rdE (lineN s (n - 1))).key (rdE (cuA (restN s n) 10)).key; rw [← outN_at2 (s := s) h0, ← hkk]; first | assumption | exact Decidable.of_not_not (by assumption)), hcf⟩
        refine V.rg ?_
        refine V.run h174 [(1, .bs hB79_95 0 [.string key49, .int .i64 k50, .string sv51, .slice Al52 nl53 cl54, .slice Az55 nz56 cz57, .slice Ah58 nh59 ch60, .int .i64 t61])] 2 1 0 [(59, .slice A2 ((outN s n).length) c2), (60, .agg #[.string key49, .int .i64 k50, .string sv51, .slice Al52 nl53 cl54, .slice Az55 nz56 cz57, .slice Ah58 nh59 ch60, .int .i64 t61])] fun a h181 => ?_
        refine V.go (V.mk [(60, .agg #[.string key49, .int .i64 k50, .string sv51, .slice Al52 nl53 cl54, .slice Az55 nz56 cz57, .slice Ah58 nh59 ch60, .int .i64 t61])] ⟨h181.e, trivial⟩ (by kernel_rfl) [.string key49, .int .i64 k50, .string sv51, .slice Al52 nl53 cl54, .slice Az55 nz56 cz57, .slice Ah58 nh59 ch60, .int .i64 t61] 55 (fun b => .slice (some ⟨b, 0, none⟩) 1 1) (by kernel_rfl) ?_)
        intro w183 b182 heb182 hB184 hF185 hsb182
        have hO_186 := hO_92.fr0 hF185
        have hF_187 := hF_93.new hF185
        have hq63_188 := fun hp => enR.mono (fun k hk hz => ⟨hz, hF185.block k hk (by simp)⟩) hF185.size (hq63_94 hp)
        refine V.pt h181 fun a h190 => ?_
        refine V.go (V.app (R := enR) (ys := ([rdE (lineN s n)])) (news := [(.string key49), (.int .i64 k50), (.string sv51), (.slice Al52 nl53 cl54), (.slice Az55 nz56 cz57), (.slice Ah58 nh59 ch60), (.int .i64 t61)]) (h190.e (v := (.slice A2 ((outN s n).length) c2))) ⟨b182, 0, none⟩ 1 1 (h190.e (v := (.slice (some ⟨b182, 0, none⟩) 1 1))) (by kernel_rfl) (info55) (by kernel_rfl) (by decide) (hO_186.raise (m := w183.heap.size) (by omega)) rfl ⟨_, [], rfl, en_zone (hq63_188 hok1) (fun b hb hz => ⟨by (try dsimp only at hz); omega, hb, fun e => by have := (hO0.lt _ e).2; (try dsimp only at hz); omega⟩), rfl⟩ (blk_cells hB184 0 _ rfl) (by first | omega | (simp; omega)) (by decide) (by omega) ?_)
        intro A191 c192 w193 hO194z hF195 hatw193
        have hsw193 := hF195.size
        have hF_196 := hF_187.own hF195 (own_ge hO_186 (by omega))
        have hO194 := hO194z.zi hatw193
        refine V.pt h190 fun a h198 => ?_
        refine V.re h198 [] 1 0 [(5, .slice A191 (((outN s n).length) + 1) c192)] fun a h199 => k180 _ _ ?_
        refine V.rr h199 [] 63 63 [(0, .string (cuB (restN s n) 10))] fun a h200 => ?_
        refine V.blk_n ?_
        refine V.then_n (k35 _ _ ?_)
        refine V.rr h200 [(1, .i ((n : Int) + 1))] 17 18 [(6, .int .i64 ((n : Int) + 1))] fun a h201 => ?_
        refine V.then_n ?_
        have hqs := outN_next s n
        refine ⟨n + 1, A191, c192, by show (cuB (restN s n) 10).size < (restN s n).size; omega, ?_⟩
        refine ⟨(((h201.eq 0 (v := (.string (cuB (restN s n) 10))) (u := (.string (restN s (n + 1)))) (rfl)).eq 5 (v := (.slice A191 (((outN s n).length) + 1) c192)) (u := (.slice A191 ((outN s (n + 1)).length) c192)) (V.sl_eq (by rw [hqs]; simp))).eq 6 (v := (.int .i64 ((n : Int) + 1))) (u := (.int .i64 ((n + 1) : Int))) (V.int_eq (by omega))).only _, (by rw [hqs]; simpa using hO194.raise (m := w193.heap.size) (by omega)), hF_196, (by show n + 1 + (cuB (restN s n) 10).size ≤ s.size; omega), (fun j hj => by rcases Nat.lt_or_ge j n with h1 | h1; exact hg j h1; obtain rfl : j = n := (by omega); exact ⟨by assumption, hgd⟩)⟩
   ·
    refine V.exit (V.then_e (V.then_e (V.blk_hit ?_)))
    refine V.then_n (k18 _ _ ?_)
    refine V.sr h32 [] 64 64 [(2, .slice A2 ((outN s n).length) c2), (3, .int .i64 0), (4, .int .i64 0)] fun a h204 => ?_
    refine V.ret ?_
    refine V.r3 h204 (.slice A2 ((outN s n).length) c2) (.int .i64 0) (.int .i64 0) ?_
    exact ⟨outN s n, 0, 0, _, _, rfl, (hO_25.raise (m := w23.heap.size) (by omega)).readi, .inr ⟨by omega, n, hg, .inl ⟨by first | assumption | exact Decidable.of_not_not (by assumption), rfl, rfl, rfl⟩⟩, hF_26⟩
/-! ### alive: one row's text, one text's row -/
def knownD : List EnD := [⟨⟨#[107]⟩, 4, ⟨#[]⟩, [], [(⟨#[98]⟩, -1), (⟨#[97]⟩, 3)], [], -1⟩]
theorem known_txt : txB knownD = [122, 115, 101, 116, 32, 54, 98, 32, 45, 32, 54, 50, 58, 45, 49, 32, 54, 49, 58, 51, 10] := by decide +kernel
def oneL : ByteArray := ⟨#[115, 116, 114, 105, 110, 103, 32, 54, 98, 32, 53, 32, 46]⟩
def oneE : EnD := ⟨⟨#[107]⟩, 1, ⟨#[]⟩, [], [], [], 5⟩
theorem one_spl : spl oneL = [⟨#[115, 116, 114, 105, 110, 103]⟩, ⟨#[54, 98]⟩, ⟨#[53]⟩, ⟨#[46]⟩] := by decide +kernel
theorem one_hex : (uhOk ⟨#[54, 98]⟩ ∧ unhexS ⟨#[54, 98]⟩ = ⟨#[107]⟩) ∧ (uhOk ⟨#[46]⟩ ∧ unhexS ⟨#[46]⟩ = ⟨#[]⟩) := by
  have h1 : uhOk ⟨#[54, 98]⟩ := .inr ⟨by decide, by decide, fun i hi => by
    have hi' : i < 2 := hi
    match i, hi' with
    | 0, _ => unfold uhG; decide +kernel
    | 1, _ => unfold uhG; decide +kernel⟩
  exact ⟨⟨h1, (uh_yes (by decide) h1).1.symm.trans (by decide +kernel)⟩, .inl rfl, (uh_dot rfl).1.symm⟩
theorem one_num : prOk ⟨#[53]⟩ ∧ prN ⟨#[53]⟩ = 5 := by
  have h : itoaS 5 = ⟨#[53]⟩ := by decide +kernel
  have hi : i64 5 := by unfold i64; omega
  exact ⟨⟨5, hi, h⟩, (pr_yes hi h).1.symm⟩
theorem one_rdE : rdE oneL = oneE := by
  unfold rdE rdE0
  rw [one_spl]
  have e0 : at_ Rp.str [⟨#[115, 116, 114, 105, 110, 103]⟩, ⟨#[54, 98]⟩, ⟨#[53]⟩, ⟨#[46]⟩] 0 = ⟨#[115, 116, 114, 105, 110, 103]⟩ := rfl
  have e1 : at_ Rp.str [⟨#[115, 116, 114, 105, 110, 103]⟩, ⟨#[54, 98]⟩, ⟨#[53]⟩, ⟨#[46]⟩] 1 = ⟨#[54, 98]⟩ := rfl
  have e2 : at_ Rp.str [⟨#[115, 116, 114, 105, 110, 103]⟩, ⟨#[54, 98]⟩, ⟨#[53]⟩, ⟨#[46]⟩] 2 = ⟨#[53]⟩ := rfl
  rw [e0, e1, e2, one_hex.1.2]
  have ek : kindI ⟨#[115, 116, 114, 105, 110, 103]⟩ = 1 := by decide +kernel
  have et : tillD ⟨#[53]⟩ = 5 := by unfold tillD; rw [if_neg (by decide)]; exact one_num.2
  rw [ek, et]
  simp only [List.drop_succ_cons, List.drop_zero, List.foldl_cons, List.foldl_nil]
  unfold ptE
  rw [if_pos rfl, one_hex.2.2]
  rfl
theorem one_ok : rdOk oneL := by
  have hp : rdPre oneL := by
    unfold rdPre
    rw [one_spl]
    refine ⟨by decide, by decide +kernel, one_hex.1.1, .inr ⟨one_num.1, ?_⟩, fun i hi => ?_⟩
    · show 0 ≤ prN ⟨#[53]⟩ ∧ prN ⟨#[53]⟩ ≤ 1099511627776
      rw [one_num.2]; decide
    · have hi' : i < 1 := hi
      obtain rfl : i = 0 := by omega
      unfold gP
      rw [one_spl]
      show ptOk (kindI ⟨#[115, 116, 114, 105, 110, 103]⟩) ⟨#[46]⟩
      rw [show kindI ⟨#[115, 116, 114, 105, 110, 103]⟩ = 1 by decide +kernel]
      unfold ptOk
      rw [if_neg (by decide), if_neg (by decide)]
      exact one_hex.2.1
  refine ⟨hp, ?_, ?_⟩
  · rw [one_rdE]
    refine ⟨by decide, .inr ⟨by decide, by decide⟩, ?_⟩
    unfold okV
    rw [if_pos (show oneE.k = 1 from rfl)]
    exact ⟨by decide, rfl, rfl, rfl⟩
  · rw [one_rdE]
    decide +kernel
/-- A row that lies in a block, whole. -/
theorem slr_blk {α : Type} {R : Rp α} {Z : Nat → Prop} {w : World} {b e n : Nat} {cs : List Value} {xs : List α} (hB : Blk w b cs e) (hn : n = xs.length) (hz : Z b) (hl : xs.length ≤ 9223372036854775807) (hc : Cells R Z w xs cs) : SlR R Z w (.slice (some ⟨b, 0, none⟩) n n) xs := by
  subst hn
  refine ⟨_, _, rfl, Nat.le_refl _, hl, fun i x hi => ?_⟩
  obtain ⟨c, h1, h2⟩ := hc.get i x hi
  exact ⟨b, 0, c, rfl, hz, hB.lt, h1, fun j u hj => by rw [hB.cell, Nat.zero_add]; exact h2 j u hj⟩
theorem known_any (w : World)  : Calls Tryz.prog 47 #[] w (fun e w' => ∃ A c, e = .returned (.slice A knownD.length c) ∧ SlR enR (fun k => w.heap.size ≤ k) w' (.slice A knownD.length c) knownD ∧ Fr [] w w') := by
 have hF := Fr.refl [] w
 refine V.en 7 Tryz.func47 fun a h1 => ?_
 refine V.sr h1 [] 0 0 [] fun a h4 => ?_
 refine V.sg fun K5 k6 => ?_
 refine V.run h4 [] 2 1 0 [(1, .agg #[.string ⟨#[98]⟩, .int .i64 (-1)]), (2, .agg #[.string ⟨#[97]⟩, .int .i64 3])] fun a h7 => ?_
 refine V.go (V.mk [(1, .agg #[.string ⟨#[98]⟩, .int .i64 (-1)]), (2, .agg #[.string ⟨#[97]⟩, .int .i64 3])] ⟨h7.e, h7.e, trivial⟩ (by kernel_rfl) [.string ⟨#[98]⟩, .int .i64 (-1), .string ⟨#[97]⟩, .int .i64 3] 98 (fun b => .slice (some ⟨b, 0, none⟩) 2 2) (by kernel_rfl) ?_)
 intro w9 b8 heb8 hB10 hF11 hsb8
 have hF_12 := hF.new hF11
 refine V.pt h7 fun a h13 => ?_
 refine V.run h13 [] 2 4 4 [(5, .agg #[.string ⟨#[107]⟩, .int .i64 4, .string ⟨#[]⟩, .slice none 0 0, .slice (some ⟨b8, 0, none⟩) 2 2, .slice none 0 0, .int .i64 (-1)])] fun a h14 => ?_
 refine V.go (V.mk [(5, .agg #[.string ⟨#[107]⟩, .int .i64 4, .string ⟨#[]⟩, .slice none 0 0, .slice (some ⟨b8, 0, none⟩) 2 2, .slice none 0 0, .int .i64 (-1)])] ⟨h14.e, trivial⟩ (by kernel_rfl) [.string ⟨#[107]⟩, .int .i64 4, .string ⟨#[]⟩, .slice none 0 0, .slice (some ⟨b8, 0, none⟩) 2 2, .slice none 0 0, .int .i64 (-1)] 55 (fun b => .slice (some ⟨b, 0, none⟩) 1 1) (by kernel_rfl) ?_)
 intro w16 b15 heb15 hB17 hF18 hsb15
 have hF_19 := hF_12.new hF18
 have hB10_20 := hB10.fr0 hF18
 refine V.pt h14 fun a h21 => ?_
 refine V.re h21 [] 1 0 [(0, .slice (some ⟨b15, 0, none⟩) 1 1)] fun a h22 => k6 _ _ ?_
 refine V.ret ?_
 refine V.r1 h22 (.slice (some ⟨b15, 0, none⟩) 1 1) ?_
 have hz : SlR scR (fun k => w.heap.size ≤ k) w16 (.slice (some ⟨b8, 0, none⟩) 2 2) [(⟨#[98]⟩, -1), (⟨#[97]⟩, 3)] := slr_blk (R := scR) hB10_20 rfl (by omega) (by decide) ⟨_, _, rfl, rfl, _, _, rfl, rfl, rfl⟩
 exact ⟨_, _, rfl, slr_blk (R := enR) hB17 rfl (by omega) (by decide) ⟨_, [], rfl, ⟨_, _, _, rfl, SlR.nil _ _ _, hz, SlR.nil _ _ _⟩, rfl⟩, hF_19⟩
/-! ### alive's two constants -/
theorem two_set : (setOf (mTx [((⟨#[98]⟩ : ByteArray), (-1 : Int)), (⟨#[97]⟩, 3)] 2)).length = 2 := by
  have hm : mTx [((⟨#[98]⟩ : ByteArray), (-1 : Int)), (⟨#[97]⟩, 3)] 2 = [⟨#[98]⟩, ⟨#[97]⟩] := rfl
  rw [hm]
  have h1 := (setOf_mem [⟨#[98]⟩, ⟨#[97]⟩] ⟨#[98]⟩).2 (by simp)
  have h2 := (setOf_mem [⟨#[98]⟩, ⟨#[97]⟩] ⟨#[97]⟩).2 (by simp)
  have h3 := setOf_len [(⟨#[98]⟩ : ByteArray), ⟨#[97]⟩]
  have h4 : ([⟨#[98]⟩, ⟨#[97]⟩] : List ByteArray).length = 2 := rfl
  generalize setOf [⟨#[98]⟩, ⟨#[97]⟩] = S at h1 h2 h3
  match S, h1, h2, h3 with
  | [x], h1, h2, _ =>
    have e1 := List.mem_singleton.1 h1
    have e2 := List.mem_singleton.1 h2
    exact absurd (e1.trans e2.symm) (by decide)
  | [x, y], _, _, _ => rfl
  | x :: y :: z :: t, _, _, h3 => simp at h3
theorem known_img : imgN knownD = 0 := by
  refine imgN_ok (by decide) fun i hi => ?_
  have hi' : i < 1 := hi
  obtain rfl : i = 0 := by omega
  refine ⟨⟨by decide, .inl rfl, ?_⟩, fun h => absurd h (by omega)⟩
  show okV 4 ⟨#[]⟩ [] [(⟨#[98]⟩, -1), (⟨#[97]⟩, 3)] []
  unfold okV
  rw [if_neg (by decide), if_neg (by decide), if_neg (by decide), if_pos rfl]
  refine ⟨rfl, rfl, rfl, ⟨by decide, by decide⟩, fun j hj => ?_, two_set⟩
  have hj' : j < 2 := hj
  match j, hj' with
  | 0, _ => exact ⟨by decide, fun h => absurd h (by omega)⟩
  | 1, _ => exact ⟨by decide, fun _ => .inl (by decide)⟩
theorem known_bnd : (∀ x ∈ knownD, bndE x) ∧ ∀ e ∈ knownD, ∀ x ∈ e.z, i64 x.2 := by
  constructor
  · intro x hx
    obtain rfl := List.mem_singleton.1 hx
    refine ⟨by decide, by decide, by decide, fun y hy => ?_⟩
    rcases List.mem_cons.1 hy with rfl | hy
    · show 1 ≤ maxLen; unfold maxLen; omega
    · obtain rfl := List.mem_singleton.1 hy
      show 1 ≤ maxLen; unfold maxLen; omega
  · intro e he x hx
    obtain rfl := List.mem_singleton.1 he
    rcases List.mem_cons.1 hx with rfl | hx
    · unfold i64; decide
    · obtain rfl := List.mem_singleton.1 hx
      unfold i64; decide
def knownT : ByteArray := ⟨#[122, 115, 101, 116, 32, 54, 98, 32, 45, 32, 54, 50, 58, 45, 49, 32, 54, 49, 58, 51, 10]⟩
theorem known_tx : txN knownD = 0 ∧ txS knownD = knownT := by
  obtain ⟨h1, h2⟩ := tx_yes known_img (by rw [known_txt]; decide)
  exact ⟨h1, by rw [h2, known_txt]; rfl⟩
theorem textk_any (w : World) (A : Option Addr) (c : Nat) (hS : SlR enR (fun k => k < w.heap.size) w (.slice A knownD.length c) knownD) (hV : Vs w) : Calls Tryz.prog 9 #[.slice A knownD.length c] w fun e w' => e = .returned (.tuple #[.string knownT, .int .i64 0]) ∧ Fr [] w w' :=
  (text_any w A c knownD hS known_bnd.1 known_bnd.2 hV).mono fun e w' ⟨h1, h2⟩ => ⟨by rw [h1, known_tx.1, known_tx.2], h2⟩
def oneT : ByteArray := ⟨#[115, 116, 114, 105, 110, 103, 32, 54, 98, 32, 53, 32, 46, 10]⟩
theorem one_lines : lineN oneT 0 = oneL ∧ restN oneT 1 = ⟨#[]⟩ ∧ cuF (restN oneT 0) 10 = true := by
  refine ⟨?_, ?_, ?_⟩ <;> decide +kernel
theorem one_gd : gdN oneT 0 := by
  refine ⟨?_, by decide, fun h => absurd h (by omega), one_lines.2.2⟩
  rw [one_lines.1]; exact one_ok
theorem one_rd {l : List EnD} {i c : Int} (h : RdR oneT l i c) : l = [oneE] ∧ i = 0 ∧ c = 0 := by
  rcases h with ⟨h, _⟩ | ⟨_, n, h1, h2⟩
  · exact absurd h (by decide)
  match n with
  | 0 =>
    rcases h2 with ⟨h2, _⟩ | ⟨_, h2, _⟩
    · exact absurd h2 (by decide +kernel)
    · exact absurd one_gd h2
  | 1 =>
    rcases h2 with ⟨_, h3, h4, h5⟩ | ⟨h2, _⟩
    · refine ⟨?_, h4, h5⟩
      rw [h3]
      show [rdE (lineN oneT 0)] = _
      rw [one_lines.1, one_rdE]
    · exact absurd one_lines.2.1 h2
  | n + 2 => exact absurd one_lines.2.1 (h1 1 (by omega)).1
theorem reado_any (w : World) (hV : Vs w) : Calls Tryz.prog 13 #[.string oneT] w fun e w' => ∃ A c, e = .returned (.tuple #[.slice A 1 c, .int .i64 0, .int .i64 0]) ∧ SlR enR (fun k => w.heap.size ≤ k) w' (.slice A 1 c) [oneE] ∧ Fr [] w w' :=
  (reads_any w oneT (by decide) hV).mono fun e w' ⟨l, i, c, A, c', h1, h2, h3, h4⟩ => by
    obtain ⟨rfl, rfl, rfl⟩ := one_rd h3
    exact ⟨A, c', h1, h2, h4⟩
theorem alive_any (w : World)  (hV : Vs w) : Calls Tryz.prog 16 #[] w (fun e w' => e = .returned (.bool (true)) ∧ Fr [] w w') := by
 have hF := Fr.refl [] w
 refine V.en 53 Tryz.func16 fun a h1 => ?_
 refine V.sr h1 [] 0 0 [] fun a h4 => ?_
 refine V.sg fun K5 k6 => ?_
 refine V.cl h4 (Go.Proofs.enters_of Tryz.func47 (by kernel_rfl) rfl) (known_any w) ?_
 rintro _ w11 ⟨A7, c8, rfl, hS9, hF10⟩
 refine ⟨_, rfl, fun a h12 => ?_⟩
 have hsw11 := hF10.size
 have hF_13 := hF.new hF10
 refine V.cl h12 (Go.Proofs.enters_of Tryz.func9 (by kernel_rfl) rfl) (textk_any w11 A7 c8 hS9.old (hV.fr hF_13)) ?_
 rintro _ w15 ⟨rfl, hF14⟩
 refine ⟨_, rfl, fun a h16 => ?_⟩
 have hsw15 := hF14.size
 have hF_17 := hF_13.new hF14
 refine V.re h16 [] 6 10 [(1, .string knownT), (2, .int .i64 0)] fun a h19 => k6 _ _ ?_
 refine V.sg fun K20 k21 => ?_
 refine V.cl h19 (Go.Proofs.enters_of Tryz.func13 (by kernel_rfl) rfl) (reado_any w15 (hV.fr hF_17)) ?_
 rintro _ w26 ⟨A22, c23, rfl, hS24, hF25⟩
 refine ⟨_, rfl, fun a h27 => ?_⟩
 have hsw26 := hF25.size
 have hF_28 := hF_17.new hF25
 refine V.re h27 [] 4 15 [(3, .slice A22 ([oneE].length) c23), (5, .int .i64 0)] fun a h30 => k21 _ _ ?_
 refine V.sg fun K31 k32 => ?_
 refine V.run h30 [(1, .q (.bool true) (V.t_same 0)), (2, .q (.bool true) (V.t_same 0)), (3, .seq knownT ⟨#[122, 115, 101, 116, 32, 54, 98, 32, 45, 32, 54, 50, 58, 45, 49, 32, 54, 49, 58, 51, 10]⟩)] 11 16 25 [(26, .bool (decide (knownT = ⟨#[122, 115, 101, 116, 32, 54, 98, 32, 45, 32, 54, 50, 58, 45, 49, 32, 54, 49, 58, 51, 10]⟩)))] fun a h33 => ?_
 by_cases hg34 : knownT = ⟨#[122, 115, 101, 116, 32, 54, 98, 32, 45, 32, 54, 50, 58, 45, 49, 32, 54, 49, 58, 51, 10]⟩
 ·
  have h35 := h33.kt 26 hg34
  refine V.run h35 [(2, .eq (([oneE].length : Nat) : Int) 1)] 5 27 30 [(31, .bool (decide ((([oneE].length : Nat) : Int) = 1)))] fun a h36 => ?_
  by_cases hg37 : (([oneE].length : Nat) : Int) = 1
  ·
   have h38 := h36.kt 31 hg37
   obtain ⟨g39, o40, hA41, hA41l, hA41z⟩ := hS24.addr (by omega)
   try dsimp only at hA41z
   obtain ⟨cs42, hok43, hE44⟩ := hS24.els hA41 (0 : Int) (by omega) (by omega)
   obtain ⟨Al45, cl46, Az47, cz48, Ah49, ch50, rfl, hS51, hS52, hS53⟩ := en_open hok43
   refine V.run h38 [(1, .ix g39 o40 ([oneE].length) c23 .i64 0 7 hA41), (1, .l ⟨g39, o40 + (0 : Int).toNat * 7, none⟩ (.string ((at_ enR ([oneE]) (0 : Int)).key)) (hE44.at 0 rfl)), (0, .seq ((at_ enR ([oneE]) (0 : Int)).key) ⟨#[107]⟩)] 7 32 37 [(38, .bool (decide (((at_ enR ([oneE]) (0 : Int)).key) = ⟨#[107]⟩)))] fun a h54 => ?_
   by_cases hg55 : ((at_ enR ([oneE]) (0 : Int)).key) = ⟨#[107]⟩
   ·
    have h56 := h54.kt 38 hg55
    refine V.run h56 [(1, .ix g39 o40 ([oneE].length) c23 .i64 0 7 hA41), (1, .l ⟨g39, (o40 + (0 : Int).toNat * 7) + 6, none⟩ (.int .i64 ((at_ enR ([oneE]) (0 : Int)).till)) (hE44.at 6 rfl)), (0, .eq ((at_ enR ([oneE]) (0 : Int)).till) 5)] 7 39 44 [(45, .bool (decide (((at_ enR ([oneE]) (0 : Int)).till) = 5)))] fun a h57 => ?_
    by_cases hg58 : ((at_ enR ([oneE]) (0 : Int)).till) = 5
    ·
     have h59 := h57.kt 45 hg58
     refine V.re h59 [(1, .ix g39 o40 ([oneE].length) c23 .i64 0 7 hA41), (2, .l ⟨g39, (o40 + (0 : Int).toNat * 7) + 1, none⟩ (.int .i64 ((at_ enR ([oneE]) (0 : Int)).k)) (hE44.at 1 rfl)), (0, .eq ((at_ enR ([oneE]) (0 : Int)).k) 1)] 46 52 [(0, .bool (decide (((at_ enR ([oneE]) (0 : Int)).k) = 1)))] fun a h60 => k32 _ _ ?_
     have h61 := h60.only [(0, .bool (decide (((at_ enR ([oneE]) (0 : Int)).k) = 1)))]
     refine V.ret ?_
     refine V.r1 h61 (.bool (decide (((at_ enR ([oneE]) (0 : Int)).k) = 1))) ?_
     exact ⟨congrArg (fun b => Ending.returned (Value.bool b)) (by first | rfl | exact decide_eq_true (by rfl)), hF_28⟩
    ·
     have h62 := h57.kf 45 hg58
     refine V.re h62 [] 46 52 [(0, .bool false)] fun a h63 => k32 _ _ ?_
     have h64 := h63.only [(0, .bool false)]
     refine V.ret ?_
     refine V.r1 h64 (.bool false) ?_
     exact absurd (by first | rfl | decide | kernel_rfl) hg58
   ·
    have h65 := h54.kf 38 hg55
    refine V.re h65 [] 39 52 [(0, .bool false)] fun a h66 => k32 _ _ ?_
    have h67 := h66.only [(0, .bool false)]
    refine V.ret ?_
    refine V.r1 h67 (.bool false) ?_
    exact absurd (by first | rfl | decide | kernel_rfl) hg55
  ·
   have h68 := h36.kf 31 hg37
   refine V.re h68 [] 32 52 [(0, .bool false)] fun a h69 => k32 _ _ ?_
   have h70 := h69.only [(0, .bool false)]
   refine V.ret ?_
   refine V.r1 h70 (.bool false) ?_
   exact absurd (by first | rfl | decide | kernel_rfl) hg37
 ·
  have h71 := h33.kf 26 hg34
  refine V.re h71 [] 27 52 [(0, .bool false)] fun a h72 => k32 _ _ ?_
  have h73 := h72.only [(0, .bool false)]
  refine V.ret ?_
  refine V.r1 h73 (.bool false) ?_
  exact absurd (by first | rfl | decide | kernel_rfl) hg34
theorem cutz_any (w : World) (m : Nat) (hm : m ≤ w.heap.size) (Al : Option Addr) (cl : Nat) (l : List EnD) (hSl : SlR enR (fun k => k < m) w (.slice Al l.length cl) l) : Calls Tryz.prog 8 #[.slice Al l.length cl] w (fun e w' => ∃ A' c', e = .returned (.slice A' (cutD l).length c') ∧ OwR enR (fun k => k < m) w' w.heap.size 55 (.slice A' (cutD l).length c') (cutD l) ∧ Fr [] w w') := by
 have hF := Fr.refl [] w
 have hlen0 := hSl.len_le
 refine V.en 29 Tryz.func8 fun a h1 => ?_
 refine V.sr h1 [] 2 2 [] fun a h4 => ?_
 refine V.sr h4 [] 1 0 [(3, .slice none 0 0)] fun a h7 => ?_
 refine V.seq fun K8 k9 => ?_
 refine V.sr h7 [] 1 0 [(4, .int .i64 0)] fun a h12 => ?_
 refine V.block ?_
 refine V.loop3 (fun (i : Nat) (A2 : Option Addr) (c2 : Nat) a_ w_ => En 29 [] a_ [(0, .slice Al l.length cl), (3, .slice A2 (((l.take i).map fewD).length) c2), (4, .int .i64 (i : Int))] ∧ OwR enR (fun k => k < m) w_ w.heap.size 55 (.slice A2 (((l.take i).map fewD).length) c2) ((l.take i).map fewD) ∧ Fr [] w w_ ∧ SlR enR (fun k => k < m) w_ (.slice Al l.length cl) l ∧ (i ≤ l.length ∧ i ≤ 20)) (fun (i : Nat) (A2 : Option Addr) (c2 : Nat) => l.length - i) 0 none 0 ?_ ?_
 ·
  refine ⟨((h12.eq 3 (v := (.slice none 0 0)) (u := (.slice none (((l.take 0).map fewD).length) 0)) (rfl)).eq 4 (v := (.int .i64 0)) (u := (.int .i64 (0 : Int))) (V.int_eq (by omega))).only _, (OwR.nil ..), hF, hSl, (by omega)⟩
 ·
  rintro i A2 c2 a13 w14 ⟨h15, hO_16, hF_17, hSl_18, hi⟩
  have hfs19 := hF_17.size
  have hfl : ((l.take i).map fewD).length = i := by rw [List.length_map, List.length_take]; omega
  refine V.seq fun K20 k21 => ?_
  refine V.sg fun K22 k23 => ?_
  refine V.run h15 [] 5 6 9 [(10, .bool (decide ((i : Int) < ((l.length : Nat) : Int))))] fun a h24 => ?_
  by_cases hg25 : (i : Int) < ((l.length : Nat) : Int)
  ·
   have h26 := h24.kt 10 hg25
   refine V.re h26 [] 11 12 [(13, .bool (decide ((i : Int) < 20)))] fun a h27 => k23 _ _ ?_
   refine V.cp h27 ((i : Int) < 20) (fun ht28 => ?_) (fun ht28 => ?_)
   ·
    refine V.skip ?_
    refine V.then_n (k21 _ _ ?_)
    refine V.seq fun K29 k30 => ?_
    refine V.block ?_
    obtain ⟨g33, o34, hA35, hA35l, hA35z⟩ := hSl_18.addr (by omega)
    obtain ⟨cs36, hok37, hE38⟩ := hSl_18.els hA35 (i : Int) (by omega) (by omega)
    obtain ⟨Al39, cl40, Az41, cz42, Ah43, ch44, rfl, hS45, hS46, hS47⟩ := en_open hok37
    refine V.sg fun K31 k32 => ?_
    refine V.run h27 [(2, .ix g33 o34 l.length cl .i64 (i : Int) 7 hA35), (0, .ls ⟨g33, o34 + (i : Int).toNat * 7, none⟩ [.string ((at_ enR l (i : Int)).key), .int .i64 ((at_ enR l (i : Int)).k), .string ((at_ enR l (i : Int)).s), .slice Al39 ((at_ enR l (i : Int)).l.length) cl40, .slice Az41 ((at_ enR l (i : Int)).z.length) cz42, .slice Ah43 ((at_ enR l (i : Int)).h.length) ch44, .int .i64 ((at_ enR l (i : Int)).till)] (hE38.cells 0 _ rfl))] 4 16 18 [(19, .agg #[.string ((at_ enR l (i : Int)).key), .int .i64 ((at_ enR l (i : Int)).k), .string ((at_ enR l (i : Int)).s), .slice Al39 ((at_ enR l (i : Int)).l.length) cl40, .slice Az41 ((at_ enR l (i : Int)).z.length) cz42, .slice Ah43 ((at_ enR l (i : Int)).h.length) ch44, .int .i64 ((at_ enR l (i : Int)).till)])] fun a h52 => ?_
    refine V.go (V.mk [] trivial (by kernel_rfl) [.string ⟨#[]⟩, .int .i64 0, .string ⟨#[]⟩, .slice none 0 0, .slice none 0 0, .slice none 0 0, .int .i64 0] 55 (fun b => .pointer (some ⟨b, 0, none⟩)) (by kernel_rfl) ?_)
    intro w49 b48 heb48 hB50 hF51 hsb48
    have hO_53 := hO_16.fr0 hF51
    have hF_54 := hF_17.new hF51
    have hSl_55 := hSl_18.fr0 hF51
    have hS45_56 := hS45.fr0 hF51
    have hS46_57 := hS46.fr0 hF51
    have hS47_58 := hS47.fr0 hF51
    refine V.pt h52 fun a h60 => ?_
    refine V.go (V.stn b48 0 (.agg #[.string ((at_ enR l (i : Int)).key), .int .i64 ((at_ enR l (i : Int)).k), .string ((at_ enR l (i : Int)).s), .slice Al39 ((at_ enR l (i : Int)).l.length) cl40, .slice Az41 ((at_ enR l (i : Int)).z.length) cz42, .slice Ah43 ((at_ enR l (i : Int)).h.length) ch44, .int .i64 ((at_ enR l (i : Int)).till)]) [.string ((at_ enR l (i : Int)).key), .int .i64 ((at_ enR l (i : Int)).k), .string ((at_ enR l (i : Int)).s), .slice Al39 ((at_ enR l (i : Int)).l.length) cl40, .slice Az41 ((at_ enR l (i : Int)).z.length) cz42, .slice Ah43 ((at_ enR l (i : Int)).h.length) ch44, .int .i64 ((at_ enR l (i : Int)).till)] h60.e h60.e rfl rfl (by kernel_rfl) hB50 (by simp) [.string ((at_ enR l (i : Int)).key), .int .i64 ((at_ enR l (i : Int)).k), .string ((at_ enR l (i : Int)).s), .slice Al39 ((at_ enR l (i : Int)).l.length) cl40, .slice Az41 ((at_ enR l (i : Int)).z.length) cz42, .slice Ah43 ((at_ enR l (i : Int)).h.length) ch44, .int .i64 ((at_ enR l (i : Int)).till)] rfl ?_)
    intro w61 hB62 hF63 hsw61
    have hO_64 := hO_53.frn hF63 (by simp <;> omega) (by first | exact own_ne hO_53 (by omega) | exact own_ne2 hO_16 (by omega))
    have hF_65 := hF_54.own hF63 (by simp <;> omega)
    have hSl_66 := hSl_55.fr hF63 (by simp <;> omega)
    have hS45_67 := hS45_56.fr hF63 (by simp <;> omega)
    have hS46_68 := hS46_57.fr hF63 (by simp <;> omega)
    have hS47_69 := hS47_58.fr hF63 (by simp <;> omega)
    refine V.nt (k32 _ _ ?_)
    refine V.sg fun K71 k72 => ?_
    refine V.run h60 [(1, .bs hB62 1 [.int .i64 ((at_ enR l (i : Int)).k), .string ((at_ enR l (i : Int)).s), .slice Al39 ((at_ enR l (i : Int)).l.length) cl40, .slice Az41 ((at_ enR l (i : Int)).z.length) cz42, .slice Ah43 ((at_ enR l (i : Int)).h.length) ch44])] 2 20 20 [(21, .agg #[.int .i64 ((at_ enR l (i : Int)).k), .string ((at_ enR l (i : Int)).s), .slice Al39 ((at_ enR l (i : Int)).l.length) cl40, .slice Az41 ((at_ enR l (i : Int)).z.length) cz42, .slice Ah43 ((at_ enR l (i : Int)).h.length) ch44])] fun a h73 => ?_
    refine V.cl h73 (Go.Proofs.enters_of Tryz.func17 (by kernel_rfl) rfl) (few_any w61 ((at_ enR l (i : Int)).k) ((at_ enR l (i : Int)).s) Al39 cl40 ((at_ enR l (i : Int)).l) hS45_67.old Az41 cz42 ((at_ enR l (i : Int)).z) hS46_68.old Ah43 ch44 ((at_ enR l (i : Int)).h) hS47_69.old) ?_
    rintro _ w78 ⟨rfl, hF74⟩
    refine ⟨_, rfl, fun a h79 => ?_⟩
    have hsw78 := hF74.size
    have hO_80 := hO_64.fr0 hF74
    have hF_81 := hF_65.new hF74
    have hSl_82 := hSl_66.fr0 hF74
    have hB62_87 := hB62.fr0 hF74
    have hS75o := hS45_67.fr0 hF74
    have hS75 := hS75o.tke 40
    have hS76o := hS46_68.fr0 hF74
    have hS76 := hS76o.tke 40
    have hS77o := hS47_69.fr0 hF74
    have hS77 := hS77o.tke 40
    refine V.run h79 [] 1 1 0 [(23, .pointer (some ⟨b48, 1, none⟩))] fun a h91 => ?_
    refine V.go (V.stn b48 1 (.agg #[.int .i64 ((at_ enR l (i : Int)).k), .string ((at_ enR l (i : Int)).s), .slice Al39 ((((at_ enR l (i : Int)).l).take 40).length) cl40, .slice Az41 ((((at_ enR l (i : Int)).z).take 40).length) cz42, .slice Ah43 ((((at_ enR l (i : Int)).h).take 40).length) ch44]) [.int .i64 ((at_ enR l (i : Int)).k), .string ((at_ enR l (i : Int)).s), .slice Al39 ((((at_ enR l (i : Int)).l).take 40).length) cl40, .slice Az41 ((((at_ enR l (i : Int)).z).take 40).length) cz42, .slice Ah43 ((((at_ enR l (i : Int)).h).take 40).length) ch44] h91.e h91.e rfl rfl (by kernel_rfl) hB62_87 (by simp) [.string ((at_ enR l (i : Int)).key), .int .i64 ((at_ enR l (i : Int)).k), .string ((at_ enR l (i : Int)).s), .slice Al39 ((((at_ enR l (i : Int)).l).take 40).length) cl40, .slice Az41 ((((at_ enR l (i : Int)).z).take 40).length) cz42, .slice Ah43 ((((at_ enR l (i : Int)).h).take 40).length) ch44, .int .i64 ((at_ enR l (i : Int)).till)] rfl ?_)
    intro w88 hB89 hF90 hsw88
    have hO_92 := hO_80.frn hF90 (by simp <;> omega) (by first | exact own_ne hO_80 (by omega) | exact own_ne2 hO_16 (by omega))
    have hF_93 := hF_81.own hF90 (by simp <;> omega)
    have hSl_94 := hSl_82.fr hF90 (by simp <;> omega)
    have hS75_99 := hS75.fr hF90 (by simp <;> omega)
    have hS76_100 := hS76.fr hF90 (by simp <;> omega)
    have hS77_101 := hS77.fr hF90 (by simp <;> omega)
    refine V.nt (k72 _ _ ?_)
    refine V.rg ?_
    refine V.run h91 [(1, .bs hB89 0 [.string ((at_ enR l (i : Int)).key), .int .i64 ((at_ enR l (i : Int)).k), .string ((at_ enR l (i : Int)).s), .slice Al39 ((((at_ enR l (i : Int)).l).take 40).length) cl40, .slice Az41 ((((at_ enR l (i : Int)).z).take 40).length) cz42, .slice Ah43 ((((at_ enR l (i : Int)).h).take 40).length) ch44, .int .i64 ((at_ enR l (i : Int)).till)])] 2 1 0 [(24, .slice A2 (((l.take i).map fewD).length) c2), (25, .agg #[.string ((at_ enR l (i : Int)).key), .int .i64 ((at_ enR l (i : Int)).k), .string ((at_ enR l (i : Int)).s), .slice Al39 ((((at_ enR l (i : Int)).l).take 40).length) cl40, .slice Az41 ((((at_ enR l (i : Int)).z).take 40).length) cz42, .slice Ah43 ((((at_ enR l (i : Int)).h).take 40).length) ch44, .int .i64 ((at_ enR l (i : Int)).till)])] fun a h102 => ?_
    refine V.go (V.mk [(25, .agg #[.string ((at_ enR l (i : Int)).key), .int .i64 ((at_ enR l (i : Int)).k), .string ((at_ enR l (i : Int)).s), .slice Al39 ((((at_ enR l (i : Int)).l).take 40).length) cl40, .slice Az41 ((((at_ enR l (i : Int)).z).take 40).length) cz42, .slice Ah43 ((((at_ enR l (i : Int)).h).take 40).length) ch44, .int .i64 ((at_ enR l (i : Int)).till)])] ⟨h102.e, trivial⟩ (by kernel_rfl) [.string ((at_ enR l (i : Int)).key), .int .i64 ((at_ enR l (i : Int)).k), .string ((at_ enR l (i : Int)).s), .slice Al39 ((((at_ enR l (i : Int)).l).take 40).length) cl40, .slice Az41 ((((at_ enR l (i : Int)).z).take 40).length) cz42, .slice Ah43 ((((at_ enR l (i : Int)).h).take 40).length) ch44, .int .i64 ((at_ enR l (i : Int)).till)] 55 (fun b => .slice (some ⟨b, 0, none⟩) 1 1) (by kernel_rfl) ?_)
    intro w104 b103 heb103 hB105 hF106 hsb103
    have hO_107 := hO_92.fr0 hF106
    have hF_108 := hF_93.new hF106
    have hSl_109 := hSl_94.fr0 hF106
    have hS75_114 := hS75_99.fr0 hF106
    have hS76_115 := hS76_100.fr0 hF106
    have hS77_116 := hS77_101.fr0 hF106
    refine V.pt h102 fun a h118 => ?_
    refine V.go (V.app (R := enR) (ys := ([fewD ((at_ enR l (i : Int)))])) (news := [(.string ((at_ enR l (i : Int)).key)), (.int .i64 ((at_ enR l (i : Int)).k)), (.string ((at_ enR l (i : Int)).s)), (.slice Al39 ((((at_ enR l (i : Int)).l).take 40).length) cl40), (.slice Az41 ((((at_ enR l (i : Int)).z).take 40).length) cz42), (.slice Ah43 ((((at_ enR l (i : Int)).h).take 40).length) ch44), (.int .i64 ((at_ enR l (i : Int)).till))]) (h118.e (v := (.slice A2 (((l.take i).map fewD).length) c2))) ⟨b103, 0, none⟩ 1 1 (h118.e (v := (.slice (some ⟨b103, 0, none⟩) 1 1))) (by kernel_rfl) (info55) (by kernel_rfl) (by decide) hO_107 rfl ⟨_, [], rfl, (⟨_, _, _, rfl, hS75_114, hS76_115, hS77_116⟩ : enR.ok _ _ (fewD ((at_ enR l (i : Int)))) _), rfl⟩ (blk_cells hB105 0 _ rfl) (by first | omega | (simp; omega)) (by decide) (by omega) ?_)
    intro A119 c120 w121 hO122z hF123 hatw121
    have hsw121 := hF123.size
    have hF_124 := hF_108.own hF123 (own_ge hO_107 (by omega))
    have hSl_125 := hSl_109.fr hF123 (by intro b hb hz; have := own_ge hO_107 (Nat.le_refl _) b hb; (try dsimp only at hz); omega)
    have hO122 := hO122z.zone (Z' := (fun k => k < m)) (fun _ _ q => q.1) (fun b hb hz => by have := (hO122z.lt b hb).1; (try dsimp only at hz); omega)
    refine V.pt h118 fun a h134 => ?_
    refine V.re h134 [] 1 0 [(3, .slice A119 ((((l.take i).map fewD).length) + 1) c120)] fun a h135 => ?_
    refine V.blk_n ?_
    refine V.then_n (k30 _ _ ?_)
    refine V.rr h135 [(1, .i ((i : Int) + 1))] 14 15 [(4, .int .i64 ((i : Int) + 1))] fun a h136 => ?_
    refine V.then_n ?_
    have hqs := fewM_next (show i < l.length by omega)
    refine ⟨i + 1, A119, c120, by omega, ?_⟩
    refine ⟨((h136.eq 3 (v := (.slice A119 ((((l.take i).map fewD).length) + 1) c120)) (u := (.slice A119 (((l.take (i + 1)).map fewD).length) c120)) (V.sl_eq (by rw [hqs]; simp))).eq 4 (v := (.int .i64 ((i : Int) + 1))) (u := (.int .i64 ((i + 1) : Int))) (V.int_eq (by omega))).only _, (by rw [hqs]; simpa using hO122), hF_124, hSl_125, (by omega)⟩
   ·
    refine V.exit (V.then_e (V.then_e (V.blk_hit ?_)))
    refine V.then_n (k9 _ _ ?_)
    refine V.sr h27 [] 28 28 [(2, .slice A2 (((l.take i).map fewD).length) c2)] fun a h139 => ?_
    refine V.ret ?_
    refine V.r1 h139 (.slice A2 (((l.take i).map fewD).length) c2) ?_
    have hce : (l.take i).map fewD = cutD l := by unfold cutD; rw [show l.take i = l.take 20 from by first | (rw [show i = 20 by omega]) | (rw [List.take_of_length_le (by omega), List.take_of_length_le (by omega)])]
    rw [hce] at hO_16
    rw [hce]
    exact ⟨_, _, rfl, hO_16, hF_17⟩
  ·
   have h140 := h24.kf 10 hg25
   refine V.re h140 [] 11 12 [(13, .bool false)] fun a h141 => k23 _ _ ?_
   refine V.cf h141 ?_
   refine V.exit (V.then_e (V.then_e (V.blk_hit ?_)))
   refine V.then_n (k9 _ _ ?_)
   refine V.sr h141 [] 28 28 [(2, .slice A2 (((l.take i).map fewD).length) c2)] fun a h144 => ?_
   refine V.ret ?_
   refine V.r1 h144 (.slice A2 (((l.take i).map fewD).length) c2) ?_
   have hce : (l.take i).map fewD = cutD l := by unfold cutD; rw [show l.take i = l.take 20 from by first | (rw [show i = 20 by omega]) | (rw [List.take_of_length_le (by omega), List.take_of_length_le (by omega)])]
   rw [hce] at hO_16
   rw [hce]
   exact ⟨_, _, rfl, hO_16, hF_17⟩
/-! ### What ImageForms asks -/
noncomputable def vaN (k : Int) (s : ByteArray) (l : List ByteArray) (z : List (ByteArray × Int)) (h : List (ByteArray × ByteArray)) : Int := @ite Int (okV k s l z h) (Classical.propDecidable _) 0 90
section
variable {k : Int} {s : ByteArray} {l : List ByteArray} {z : List (ByteArray × Int)} {h : List (ByteArray × ByteArray)}
theorem vaN_yes (q : okV k s l z h) : vaN k s l z h = 0 := @if_pos _ (Classical.propDecidable _) q _ _ _
theorem vaN_no (q : ¬ okV k s l z h) : vaN k s l z h = 90 := @if_neg _ (Classical.propDecidable _) q _ _ _
end
theorem cutS_any (w : World) (m : Nat) (hm : m ≤ w.heap.size) (Al : Option Addr) (cl : Nat) (l : List EnD) (hSl : SlR enR (fun k => k < m) w (.slice Al l.length cl) l) : Calls Tryz.prog 8 #[.slice Al l.length cl] w fun e w' => ∃ A' c', e = .returned (.slice A' (cutD l).length c') ∧ SlR enR (fun k => k < m ∨ w.heap.size ≤ k) w' (.slice A' (cutD l).length c') (cutD l) ∧ Fr [] w w' :=
  (cutz_any w m hm Al cl l hSl).mono fun e w' ⟨A', c', h1, h2, h3⟩ => ⟨A', c', h1, h2.read (fun b _ hb => .inl hb) (fun b hb _ => .inr hb), h3⟩
theorem same_self (w : World) (A : Option Addr) (c : Nat) (l : List EnD) (hS : SlR enR (fun k => k < w.heap.size) w (.slice A l.length c) l) : Calls Tryz.prog 22 #[.slice A l.length c, .slice A l.length c] w fun e w' => e = .returned (.bool true) ∧ Fr [] w w' :=
  (same_any w A c l hS A c l hS).mono fun e w' ⟨h1, h2⟩ => ⟨by rw [h1, bP_yes rfl], h2⟩
theorem value_any (w : World) (k : Int) (s : ByteArray) (Al : Option Addr) (cl : Nat) (l : List ByteArray) (hSl : SlR Rp.str (fun k => k < w.heap.size) w (.slice Al l.length cl) l) (Az : Option Addr) (cz : Nat) (z : List (ByteArray × Int)) (hSz : SlR scR (fun k => k < w.heap.size) w (.slice Az z.length cz) z) (Ah : Option Addr) (ch : Nat) (h : List (ByteArray × ByteArray)) (hSh : SlR fdR (fun k => k < w.heap.size) w (.slice Ah h.length ch) h) (hll : l.length ≤ 140737488355328) (hlz : z.length ≤ 140737488355328) (hlh : h.length ≤ 140737488355328) (hz : ∀ x ∈ z, x.1.size ≤ maxLen) : Calls Tryz.prog 18 #[.agg #[.int .i64 k, .string s, .slice Al l.length cl, .slice Az z.length cz, .slice Ah h.length ch]] w (fun e w' => e = .returned (.int .i64 (vaN k s l z h)) ∧ Fr [] w w') := by
 have hF := Fr.refl [] w
 refine V.en 6 Tryz.func18 fun a h1 => ?_
 refine V.sg fun K2 k3 => ?_
 refine V.go (V.mk [(0, .agg #[.int .i64 k, .string s, .slice Al l.length cl, .slice Az z.length cz, .slice Ah h.length ch])] ⟨h1.e, trivial⟩ (by kernel_rfl) [.int .i64 k, .string s, .slice Al l.length cl, .slice Az z.length cz, .slice Ah h.length ch] 46 (fun b => .pointer (some ⟨b, 0, none⟩)) (by kernel_rfl) ?_)
 intro w5 b4 heb4 hB6 hF7 hsb4
 have hF_8 := hF.new hF7
 have hSl_9 := hSl.fr0 hF7
 have hSz_10 := hSz.fr0 hF7
 have hSh_11 := hSh.fr0 hF7
 refine V.pt h1 fun a h12 => ?_
 refine V.re h12 [] 2 2 [] fun a h13 => k3 _ _ ?_
 refine V.seq fun K14 k15 => ?_
 refine V.sg fun K16 k17 => ?_
 refine V.run h13 [(0, .bs hB6 0 [.int .i64 k, .string s, .slice Al l.length cl, .slice Az z.length cz, .slice Ah h.length ch])] 1 1 0 [(3, .agg #[.int .i64 k, .string s, .slice Al l.length cl, .slice Az z.length cz, .slice Ah h.length ch])] fun a h18 => ?_
 refine V.cl h18 (Go.Proofs.enters_of Tryz.func48 (by kernel_rfl) rfl) (right_any w5 k s Al cl l hSl_9.old Az cz z hSz_10.old Ah ch h hSh_11.old hll hlz hlh hz) ?_
 rintro _ w20 ⟨rfl, hF19⟩
 refine ⟨_, rfl, fun a h21 => ?_⟩
 have hsw20 := hF19.size
 have hF_22 := hF_8.new hF19
 refine V.re h21 [] 1 0 [(5, .bool (!(bP (okV k s l z h))))] fun a h27 => k17 _ _ ?_
 refine V.cb h27 (!(bP (okV k s l z h))) (fun ht28 => ?_) (fun ht28 => ?_)
 ·
  refine V.sr h27 [] 1 0 [(2, .int .i64 90)] fun a h31 => ?_
  refine V.ret (V.then_r ?_)
  refine V.r1 h31 (.int .i64 90) ?_
  exact ⟨congrArg (fun b => Ending.returned (Value.int .i64 b)) (vaN_no (nb_no (by assumption))).symm, hF_22⟩
 ·
  refine V.skip ?_
  refine V.then_n (k15 _ _ ?_)
  refine V.sr h27 [] 1 0 [(2, .int .i64 0)] fun a h34 => ?_
  refine V.ret ?_
  refine V.r1 h34 (.int .i64 0) ?_
  exact ⟨congrArg (fun b => Ending.returned (Value.int .i64 b)) (vaN_yes (nb_yes (by assumption))).symm, hF_22⟩
theorem rvalueN_any (w : World) (k : Int) (s : ByteArray) (Al : Option Addr) (cl : Nat) (l : List ByteArray) (hSl : SlR Rp.str (fun k => k < w.heap.size) w (.slice Al l.length cl) l) (Az : Option Addr) (cz : Nat) (z : List (ByteArray × Int)) (hSz : SlR scR (fun k => k < w.heap.size) w (.slice Az z.length cz) z) (Ah : Option Addr) (ch : Nat) (h : List (ByteArray × ByteArray)) (hSh : SlR fdR (fun k => k < w.heap.size) w (.slice Ah h.length ch) h) :
    Calls Tryz.prog 19 #[.agg #[.int .i64 k, .string s, .slice Al l.length cl, .slice Az z.length cz, .slice Ah h.length ch]] w fun e w' => e = .returned (.int .i64 (vaN k s l z h)) ∧ Fr [] w w' :=
  rvalue_any w k s Al cl l hSl Az cz z hSz Ah ch h hSh
theorem samev_self (w : World) (k : Int) (s : ByteArray) (Al : Option Addr) (cl : Nat) (l : List ByteArray) (hSl : SlR Rp.str (fun k => k < w.heap.size) w (.slice Al l.length cl) l) (Az : Option Addr) (cz : Nat) (z : List (ByteArray × Int)) (hSz : SlR scR (fun k => k < w.heap.size) w (.slice Az z.length cz) z) (Ah : Option Addr) (ch : Nat) (h : List (ByteArray × ByteArray)) (hSh : SlR fdR (fun k => k < w.heap.size) w (.slice Ah h.length ch) h) :
    Calls Tryz.prog 23 #[.agg #[.int .i64 k, .string s, .slice Al l.length cl, .slice Az z.length cz, .slice Ah h.length ch], .agg #[.int .i64 k, .string s, .slice Al l.length cl, .slice Az z.length cz, .slice Ah h.length ch]] w fun e w' => e = .returned (.bool true) ∧ Fr [] w w' :=
  (samevalue_any w k s Al cl l hSl Az cz z hSz Ah ch h hSh k s Al cl l hSl Az cz z hSz Ah ch h hSh).mono fun e w' ⟨h1, h2⟩ => ⟨by rw [h1, bP_yes (show sameV k s l z h k s l z h from ⟨rfl, rfl, rfl, rfl, rfl⟩)], h2⟩
theorem imageForms_any (w : World) (Ap : Option Addr) (cp : Nat) (p : List EnD) (hSp : SlR enR (fun k => k < w.heap.size) w (.slice Ap p.length cp) p) (hEp : ∀ x ∈ p, EnM x) (Aq : Option Addr) (cq : Nat) (q : List EnD) (hSq : SlR enR (fun k => k < w.heap.size) w (.slice Aq q.length cq) q) (hEq : ∀ x ∈ q, EnM x) (k : Int) (s : ByteArray) (Al : Option Addr) (cl : Nat) (l : List ByteArray) (hSl : SlR Rp.str (fun k => k < w.heap.size) w (.slice Al l.length cl) l) (Az : Option Addr) (cz : Nat) (z : List (ByteArray × Int)) (hSz : SlR scR (fun k => k < w.heap.size) w (.slice Az z.length cz) z) (Ah : Option Addr) (ch : Nat) (h : List (ByteArray × ByteArray)) (hSh : SlR fdR (fun k => k < w.heap.size) w (.slice Ah h.length ch) h) (hK : VaM k s l z h) (k2 : Int) (s2 : ByteArray) (Al2 : Option Addr) (cl2 : Nat) (l2 : List ByteArray) (hSl2 : SlR Rp.str (fun k => k < w.heap.size) w (.slice Al2 l2.length cl2) l2) (Az2 : Option Addr) (cz2 : Nat) (z2 : List (ByteArray × Int)) (hSz2 : SlR scR (fun k => k < w.heap.size) w (.slice Az2 z2.length cz2) z2) (Ah2 : Option Addr) (ch2 : Nat) (h2 : List (ByteArray × ByteArray)) (hSh2 : SlR fdR (fun k => k < w.heap.size) w (.slice Ah2 h2.length ch2) h2) (hK2 : VaM k2 s2 l2 z2 h2) (hV : Vs w) : Calls Tryz.prog 4 #[.slice Ap p.length cp, .slice Aq q.length cq, .agg #[.int .i64 k, .string s, .slice Al l.length cl, .slice Az z.length cz, .slice Ah h.length ch], .agg #[.int .i64 k2, .string s2, .slice Al2 l2.length cl2, .slice Az2 z2.length cz2, .slice Ah2 h2.length ch2]] w (fun e w' => e = .returned (.bool (true)) ∧ Fr [] w w') := by
 have hF := Fr.refl [] w
 refine V.en 60 Tryz.func4 fun a h1 => ?_
 refine V.sg fun K2 k3 => ?_
 refine V.go (V.mk [(2, .agg #[.int .i64 k, .string s, .slice Al l.length cl, .slice Az z.length cz, .slice Ah h.length ch])] ⟨h1.e, trivial⟩ (by kernel_rfl) [.int .i64 k, .string s, .slice Al l.length cl, .slice Az z.length cz, .slice Ah h.length ch] 46 (fun b => .pointer (some ⟨b, 0, none⟩)) (by kernel_rfl) ?_)
 intro w5 b4 heb4 hB6 hF7 hsb4
 have hF_8 := hF.new hF7
 have hSp_9 := hSp.fr0 hF7
 have hSq_10 := hSq.fr0 hF7
 have hSl_11 := hSl.fr0 hF7
 have hSz_12 := hSz.fr0 hF7
 have hSh_13 := hSh.fr0 hF7
 have hSl2_14 := hSl2.fr0 hF7
 have hSz2_15 := hSz2.fr0 hF7
 have hSh2_16 := hSh2.fr0 hF7
 refine V.pt h1 fun a h17 => ?_
 refine V.go (V.mk [(3, .agg #[.int .i64 k2, .string s2, .slice Al2 l2.length cl2, .slice Az2 z2.length cz2, .slice Ah2 h2.length ch2])] ⟨h17.e, trivial⟩ (by kernel_rfl) [.int .i64 k2, .string s2, .slice Al2 l2.length cl2, .slice Az2 z2.length cz2, .slice Ah2 h2.length ch2] 46 (fun b => .pointer (some ⟨b, 0, none⟩)) (by kernel_rfl) ?_)
 intro w19 b18 heb18 hB20 hF21 hsb18
 have hF_22 := hF_8.new hF21
 have hSp_23 := hSp_9.fr0 hF21
 have hSq_24 := hSq_10.fr0 hF21
 have hSl_25 := hSl_11.fr0 hF21
 have hSz_26 := hSz_12.fr0 hF21
 have hSh_27 := hSh_13.fr0 hF21
 have hSl2_28 := hSl2_14.fr0 hF21
 have hSz2_29 := hSz2_15.fr0 hF21
 have hSh2_30 := hSh2_16.fr0 hF21
 have hB6_31 := hB6.fr0 hF21
 refine V.pt h17 fun a h32 => ?_
 refine V.re h32 [] 8 8 [] fun a h33 => k3 _ _ ?_
 refine V.seq fun K34 k35 => ?_
 refine V.pl [([0,2,4,6],some (1,[4,6])),([],some (3,[4,6])),([],some (5,[6])),([],some (7,[])),([8,9],some (10,[])),([],some (11,[])),([],none)] fun w36 hF37 hsw36 => ?_
 have hF_38 := hF_22.new hF37
 have hSp_39 := hSp_23.fr0 hF37
 have hSq_40 := hSq_24.fr0 hF37
 have hSl_41 := hSl_25.fr0 hF37
 have hSz_42 := hSz_26.fr0 hF37
 have hSh_43 := hSh_27.fr0 hF37
 have hSl2_44 := hSl2_28.fr0 hF37
 have hSz2_45 := hSz2_29.fr0 hF37
 have hSh2_46 := hSh2_30.fr0 hF37
 have hB6_47 := hB6_31.fr0 hF37
 have hB20_48 := hB20.fr0 hF37
 refine V.pe h33 [(2, .bs hB6_47 0 [.int .i64 k, .string s, .slice Al l.length cl, .slice Az z.length cz, .slice Ah h.length ch]), (0, .bs hB20_48 0 [.int .i64 k2, .string s2, .slice Al2 l2.length cl2, .slice Az2 z2.length cz2, .slice Ah2 h2.length ch2])] 1 0 [(9, .slice Ap p.length cp), (11, .slice Aq q.length cq), (13, .agg #[.int .i64 k, .string s, .slice Al l.length cl, .slice Az z.length cz, .slice Ah h.length ch]), (15, .agg #[.int .i64 k2, .string s2, .slice Al2 l2.length cl2, .slice Az2 z2.length cz2, .slice Ah2 h2.length ch2])] fun a h49 => ?_
 refine V.cl h49 (Go.Proofs.enters_of Tryz.func8 (by kernel_rfl) rfl) (cutS_any w36 w.heap.size (by omega) Ap cp p hSp_39) ?_
 rintro _ w54 ⟨A50, c51, rfl, hS52, hF53⟩
 refine ⟨_, rfl, fun a h55 => ?_⟩
 have hsw54 := hF53.size
 have hF_56 := hF_38.new hF53
 have hSq_58 := hSq_40.fr0 hF53
 have hSl_59 := hSl_41.fr0 hF53
 have hSz_60 := hSz_42.fr0 hF53
 have hSh_61 := hSh_43.fr0 hF53
 have hSl2_62 := hSl2_44.fr0 hF53
 have hSz2_63 := hSz2_45.fr0 hF53
 have hSh2_64 := hSh2_46.fr0 hF53
 have hB6_65 := hB6_47.fr0 hF53
 have hB20_66 := hB20_48.fr0 hF53
 refine V.eh ⟨(fun _ => held_blk (n := 5) (hx := (h49.e (v := (.pointer (some ⟨b4, 0, none⟩))))) hB6_47 hB6_65 (by kernel_rfl) rfl (by simp only [List.length]; omega)), (fun _ => held_blk (n := 5) (hx := (h49.e (v := (.pointer (some ⟨b18, 0, none⟩))))) hB20_48 hB20_66 (by kernel_rfl) rfl (by simp only [List.length]; omega))⟩ ?_
 refine V.pe h55 [] 1 0 [] fun a h67 => ?_
 refine V.cl h67 (Go.Proofs.enters_of Tryz.func8 (by kernel_rfl) rfl) (cutS_any w54 w.heap.size (by omega) Aq cq q hSq_58) ?_
 rintro _ w72 ⟨A68, c69, rfl, hS70, hF71⟩
 refine ⟨_, rfl, fun a h73 => ?_⟩
 have hsw72 := hF71.size
 have hF_74 := hF_56.new hF71
 have hSl_77 := hSl_59.fr0 hF71
 have hSz_78 := hSz_60.fr0 hF71
 have hSh_79 := hSh_61.fr0 hF71
 have hSl2_80 := hSl2_62.fr0 hF71
 have hSz2_81 := hSz2_63.fr0 hF71
 have hSh2_82 := hSh2_64.fr0 hF71
 have hB6_83 := hB6_65.fr0 hF71
 have hB20_84 := hB20_66.fr0 hF71
 have hS52_85 := hS52.fr0 hF71
 refine V.eh ⟨(fun _ => held_blk (n := 5) (hx := (h67.e (v := (.pointer (some ⟨b4, 0, none⟩))))) hB6_65 hB6_83 (by kernel_rfl) rfl (by simp only [List.length]; omega)), (fun _ => held_blk (n := 5) (hx := (h67.e (v := (.pointer (some ⟨b18, 0, none⟩))))) hB20_66 hB20_84 (by kernel_rfl) rfl (by simp only [List.length]; omega))⟩ ?_
 refine V.pe h73 [] 1 0 [] fun a h86 => ?_
 refine V.cl h86 (Go.Proofs.enters_of Tryz.func17 (by kernel_rfl) rfl) (few_any w72 k s Al cl l hSl_77.old Az cz z hSz_78.old Ah ch h hSh_79.old) ?_
 rintro _ w91 ⟨rfl, hF87⟩
 refine ⟨_, rfl, fun a h92 => ?_⟩
 have hsw91 := hF87.size
 have hF_93 := hF_74.new hF87
 have hSl2_99 := hSl2_80.fr0 hF87
 have hSz2_100 := hSz2_81.fr0 hF87
 have hSh2_101 := hSh2_82.fr0 hF87
 have hB6_102 := hB6_83.fr0 hF87
 have hB20_103 := hB20_84.fr0 hF87
 have hS52_104 := hS52_85.fr0 hF87
 have hS70_105 := hS70.fr0 hF87
 have hS88o := hSl_77.fr0 hF87
 have hS88 := hS88o.tke 40
 have hS89o := hSz_78.fr0 hF87
 have hS89 := hS89o.tke 40
 have hS90o := hSh_79.fr0 hF87
 have hS90 := hS90o.tke 40
 refine V.eh (fun _ => held_blk (n := 5) (hx := (h86.e (v := (.pointer (some ⟨b18, 0, none⟩))))) hB20_84 hB20_103 (by kernel_rfl) rfl (by simp only [List.length]; omega)) ?_
 refine V.pe h92 [] 1 0 [] fun a h106 => ?_
 refine V.cl h106 (Go.Proofs.enters_of Tryz.func17 (by kernel_rfl) rfl) (few_any w91 k2 s2 Al2 cl2 l2 hSl2_99.old Az2 cz2 z2 hSz2_100.old Ah2 ch2 h2 hSh2_101.old) ?_
 rintro _ w111 ⟨rfl, hF107⟩
 refine ⟨_, rfl, fun a h112 => ?_⟩
 have hsw111 := hF107.size
 have hF_113 := hF_93.new hF107
 have hB6_122 := hB6_102.fr0 hF107
 have hB20_123 := hB20_103.fr0 hF107
 have hS52_124 := hS52_104.fr0 hF107
 have hS70_125 := hS70_105.fr0 hF107
 have hS88_126 := hS88.fr0 hF107
 have hS89_127 := hS89.fr0 hF107
 have hS90_128 := hS90.fr0 hF107
 have hS108o := hSl2_99.fr0 hF107
 have hS108 := hS108o.tke 40
 have hS109o := hSz2_100.fr0 hF107
 have hS109 := hS109o.tke 40
 have hS110o := hSh2_101.fr0 hF107
 have hS110 := hS110o.tke 40
 refine V.eh trivial ?_
 refine V.pe h112 [] 1 0 [(0, .slice A50 ((cutD p).length) c51), (1, .slice A68 ((cutD q).length) c69)] fun a h129 => ?_
 refine V.go (V.stn b4 0 (.agg #[.int .i64 k, .string s, .slice Al ((l.take 40).length) cl, .slice Az ((z.take 40).length) cz, .slice Ah ((h.take 40).length) ch]) [.int .i64 k, .string s, .slice Al ((l.take 40).length) cl, .slice Az ((z.take 40).length) cz, .slice Ah ((h.take 40).length) ch] h129.e h129.e rfl rfl (by kernel_rfl) hB6_122 (by simp) [.int .i64 k, .string s, .slice Al ((l.take 40).length) cl, .slice Az ((z.take 40).length) cz, .slice Ah ((h.take 40).length) ch] rfl ?_)
 intro w130 hB131 hF132 hsw130
 have hF_133 := hF_113.own hF132 (by simp <;> omega)
 have hB20_142 := hB20_123.fr1 hF132 (by omega)
 have hS52_143 := hS52_124.fr hF132 (by simp <;> omega)
 have hS70_144 := hS70_125.fr hF132 (by simp <;> omega)
 have hS88_145 := hS88_126.fr hF132 (by simp <;> omega)
 have hS89_146 := hS89_127.fr hF132 (by simp <;> omega)
 have hS90_147 := hS90_128.fr hF132 (by simp <;> omega)
 have hS108_148 := hS108.fr hF132 (by simp <;> omega)
 have hS109_149 := hS109.fr hF132 (by simp <;> omega)
 have hS110_150 := hS110.fr hF132 (by simp <;> omega)
 refine V.eh trivial ?_
 refine V.pe h129 [] 1 0 [] fun a h151 => ?_
 refine V.go (V.stn b18 0 (.agg #[.int .i64 k2, .string s2, .slice Al2 ((l2.take 40).length) cl2, .slice Az2 ((z2.take 40).length) cz2, .slice Ah2 ((h2.take 40).length) ch2]) [.int .i64 k2, .string s2, .slice Al2 ((l2.take 40).length) cl2, .slice Az2 ((z2.take 40).length) cz2, .slice Ah2 ((h2.take 40).length) ch2] h151.e h151.e rfl rfl (by kernel_rfl) hB20_142 (by simp) [.int .i64 k2, .string s2, .slice Al2 ((l2.take 40).length) cl2, .slice Az2 ((z2.take 40).length) cz2, .slice Ah2 ((h2.take 40).length) ch2] rfl ?_)
 intro w152 hB153 hF154 hsw152
 have hF_155 := hF_133.own hF154 (by simp <;> omega)
 have hS52_164 := hS52_143.fr hF154 (by simp <;> omega)
 have hS70_165 := hS70_144.fr hF154 (by simp <;> omega)
 have hS88_166 := hS88_145.fr hF154 (by simp <;> omega)
 have hS89_167 := hS89_146.fr hF154 (by simp <;> omega)
 have hS90_168 := hS90_147.fr hF154 (by simp <;> omega)
 have hS108_169 := hS108_148.fr hF154 (by simp <;> omega)
 have hS109_170 := hS109_149.fr hF154 (by simp <;> omega)
 have hS110_171 := hS110_150.fr hF154 (by simp <;> omega)
 have hB131_172 := hB131.fr1 hF154 (by omega)
 refine V.eh trivial ?_
 refine V.pz h151 [] 1 0 [] fun a h173 => k35 _ _ ?_
 refine V.seq fun K174 k175 => ?_
 refine V.pl [([0,2],some (1,[2])),([],some (3,[])),([4,5,6,8],some (7,[])),([],some (9,[])),([10,11,12,13,14,16,17],some (15,[])),([],some (18,[])),([19,20,21,22,23],some (24,[])),([25,26,27,28,30,31],some (29,[30,31])),([],some (32,[])),([33,34,35,36,37],some (38,[])),([39,40],some (41,[])),([42,43],none)] fun w176 hF177 hsw176 => ?_
 have hF_178 := hF_155.new hF177
 have hS52_187 := hS52_164.fr0 hF177
 have hS70_188 := hS70_165.fr0 hF177
 have hS88_189 := hS88_166.fr0 hF177
 have hS89_190 := hS89_167.fr0 hF177
 have hS90_191 := hS90_168.fr0 hF177
 have hS108_192 := hS108_169.fr0 hF177
 have hS109_193 := hS109_170.fr0 hF177
 have hS110_194 := hS110_171.fr0 hF177
 have hB131_195 := hB131_172.fr0 hF177
 have hB153_196 := hB153.fr0 hF177
 refine V.pe h173 [(0, .bs hB131_195 0 [.int .i64 k, .string s, .slice Al ((l.take 40).length) cl, .slice Az ((z.take 40).length) cz, .slice Ah ((h.take 40).length) ch]), (0, .bs hB131_195 0 [.int .i64 k, .string s, .slice Al ((l.take 40).length) cl, .slice Az ((z.take 40).length) cz, .slice Ah ((h.take 40).length) ch])] 1 0 [(17, .agg #[.int .i64 k, .string s, .slice Al ((l.take 40).length) cl, .slice Az ((z.take 40).length) cz, .slice Ah ((h.take 40).length) ch]), (19, .agg #[.int .i64 k, .string s, .slice Al ((l.take 40).length) cl, .slice Az ((z.take 40).length) cz, .slice Ah ((h.take 40).length) ch])] fun a h197 => ?_
 refine V.cl h197 (Go.Proofs.enters_of Tryz.func18 (by kernel_rfl) rfl) (value_any w176 k s Al cl (l.take 40) hS88_189.old Az cz (z.take 40) hS89_190.old Ah ch (h.take 40) hS90_191.old (by simp only [List.length_take]; omega) (by simp only [List.length_take]; omega) (by simp only [List.length_take]; omega) (fun y hy => (hK.z y (List.mem_of_mem_take hy)).1)) ?_
 rintro _ w199 ⟨rfl, hF198⟩
 refine ⟨_, rfl, fun a h200 => ?_⟩
 have hsw199 := hF198.size
 have hF_201 := hF_178.new hF198
 have hS52_210 := hS52_187.fr0 hF198
 have hS70_211 := hS70_188.fr0 hF198
 have hS88_212 := hS88_189.fr0 hF198
 have hS89_213 := hS89_190.fr0 hF198
 have hS90_214 := hS90_191.fr0 hF198
 have hS108_215 := hS108_192.fr0 hF198
 have hS109_216 := hS109_193.fr0 hF198
 have hS110_217 := hS110_194.fr0 hF198
 have hB131_218 := hB131_195.fr0 hF198
 have hB153_219 := hB153_196.fr0 hF198
 refine V.eh (fun _ => held_blk (n := 5) (hx := (h197.e (v := (.pointer (some ⟨b4, 0, none⟩))))) hB131_195 hB131_218 (by kernel_rfl) rfl (by simp only [List.length]; omega)) ?_
 refine V.pe h200 [] 1 0 [] fun a h220 => ?_
 refine V.cl h220 (Go.Proofs.enters_of Tryz.func19 (by kernel_rfl) rfl) (rvalueN_any w199 k s Al cl (l.take 40) hS88_212.old Az cz (z.take 40) hS89_213.old Ah ch (h.take 40) hS90_214.old) ?_
 rintro _ w222 ⟨rfl, hF221⟩
 refine ⟨_, rfl, fun a h223 => ?_⟩
 have hsw222 := hF221.size
 have hF_224 := hF_201.new hF221
 have hS52_233 := hS52_210.fr0 hF221
 have hS70_234 := hS70_211.fr0 hF221
 have hS88_235 := hS88_212.fr0 hF221
 have hS89_236 := hS89_213.fr0 hF221
 have hS90_237 := hS90_214.fr0 hF221
 have hS108_238 := hS108_215.fr0 hF221
 have hS109_239 := hS109_216.fr0 hF221
 have hS110_240 := hS110_217.fr0 hF221
 have hB131_241 := hB131_218.fr0 hF221
 have hB153_242 := hB153_219.fr0 hF221
 refine V.eh trivial ?_
 refine V.pe h223 [(0, .q (.bool true) (V.t_same (vaN k s (l.take 40) (z.take 40) (h.take 40))))] 21 21 [(22, .bool true), (23, .slice A50 ((cutD p).length) c51), (25, .slice A50 ((cutD p).length) c51)] fun a h243 => ?_
 refine V.clg h243 (Go.Proofs.enters_of Tryz.func20 (by kernel_rfl) rfl) (check_any w222 A50 c51 (cutD p) hS52_233.old (cut_bnd hEp).1) ?_
 rintro _ w245 ⟨rfl, hF244⟩
 refine ⟨_, rfl, fun a h246 => ?_⟩
 have hsw245 := hF244.size
 have hF_247 := hF_224.new hF244
 have hS52_256 := hS52_233.fr0 hF244
 have hS70_257 := hS70_234.fr0 hF244
 have hS88_258 := hS88_235.fr0 hF244
 have hS89_259 := hS89_236.fr0 hF244
 have hS90_260 := hS90_237.fr0 hF244
 have hS108_261 := hS108_238.fr0 hF244
 have hS109_262 := hS109_239.fr0 hF244
 have hS110_263 := hS110_240.fr0 hF244
 have hB131_264 := hB131_241.fr0 hF244
 have hB153_265 := hB153_242.fr0 hF244
 refine V.eh trivial ?_
 refine V.pe h246 [] 1 0 [] fun a h266 => ?_
 refine V.clg h266 (Go.Proofs.enters_of Tryz.func21 (by kernel_rfl) rfl) (rcheck_any w245 A50 c51 (cutD p) hS52_256.old) ?_
 rintro _ w268 ⟨rfl, hF267⟩
 refine ⟨_, rfl, fun a h269 => ?_⟩
 have hsw268 := hF267.size
 have hF_270 := hF_247.new hF267
 have hS52_279 := hS52_256.fr0 hF267
 have hS70_280 := hS70_257.fr0 hF267
 have hS88_281 := hS88_258.fr0 hF267
 have hS89_282 := hS89_259.fr0 hF267
 have hS90_283 := hS90_260.fr0 hF267
 have hS108_284 := hS108_261.fr0 hF267
 have hS109_285 := hS109_262.fr0 hF267
 have hS110_286 := hS110_263.fr0 hF267
 have hB131_287 := hB131_264.fr0 hF267
 have hB153_288 := hB153_265.fr0 hF267
 refine V.eh trivial ?_
 refine V.pe h269 [(0, .q (.bool true) (V.t_same (imgN (cutD p))))] 27 28 [(29, .bool true), (30, .slice A50 ((cutD p).length) c51), (31, .slice A68 ((cutD q).length) c69), (33, .slice A50 ((cutD p).length) c51), (34, .slice A68 ((cutD q).length) c69)] fun a h289 => ?_
 refine V.clg h289 (Go.Proofs.enters_of Tryz.func22 (by kernel_rfl) rfl) (same_any w268 A50 c51 (cutD p) hS52_279.old A68 c69 (cutD q) hS70_280.old) ?_
 rintro _ w291 ⟨rfl, hF290⟩
 refine ⟨_, rfl, fun a h292 => ?_⟩
 have hsw291 := hF290.size
 have hF_293 := hF_270.new hF290
 have hS52_302 := hS52_279.fr0 hF290
 have hS70_303 := hS70_280.fr0 hF290
 have hS88_304 := hS88_281.fr0 hF290
 have hS89_305 := hS89_282.fr0 hF290
 have hS90_306 := hS90_283.fr0 hF290
 have hS108_307 := hS108_284.fr0 hF290
 have hS109_308 := hS109_285.fr0 hF290
 have hS110_309 := hS110_286.fr0 hF290
 have hB131_310 := hB131_287.fr0 hF290
 have hB153_311 := hB153_288.fr0 hF290
 refine V.eh trivial ?_
 refine V.pe h292 [] 1 0 [] fun a h312 => ?_
 refine V.clg h312 (Go.Proofs.enters_of Tryz.func15 (by kernel_rfl) rfl) (rsames_any w291 A50 c51 (cutD p) hS52_302.old A68 c69 (cutD q) hS70_303.old) ?_
 rintro _ w314 ⟨rfl, hF313⟩
 refine ⟨_, rfl, fun a h315 => ?_⟩
 have hsw314 := hF313.size
 have hF_316 := hF_293.new hF313
 have hS52_325 := hS52_302.fr0 hF313
 have hS88_327 := hS88_304.fr0 hF313
 have hS89_328 := hS89_305.fr0 hF313
 have hS90_329 := hS90_306.fr0 hF313
 have hS108_330 := hS108_307.fr0 hF313
 have hS109_331 := hS109_308.fr0 hF313
 have hS110_332 := hS110_309.fr0 hF313
 have hB131_333 := hB131_310.fr0 hF313
 have hB153_334 := hB153_311.fr0 hF313
 refine V.eh trivial ?_
 refine V.pe h315 [(0, .q (.bool true) (V.t_bsame (bP ((cutD p) = (cutD q)))))] 36 37 [(38, .bool true), (39, .slice A50 ((cutD p).length) c51), (40, .slice A50 ((cutD p).length) c51)] fun a h335 => ?_
 refine V.clg h335 (Go.Proofs.enters_of Tryz.func22 (by kernel_rfl) rfl) (same_self w314 A50 c51 (cutD p) hS52_325.old) ?_
 rintro _ w337 ⟨rfl, hF336⟩
 refine ⟨_, rfl, fun a h338 => ?_⟩
 have hsw337 := hF336.size
 have hF_339 := hF_316.new hF336
 have hS88_350 := hS88_327.fr0 hF336
 have hS89_351 := hS89_328.fr0 hF336
 have hS90_352 := hS90_329.fr0 hF336
 have hS108_353 := hS108_330.fr0 hF336
 have hS109_354 := hS109_331.fr0 hF336
 have hS110_355 := hS110_332.fr0 hF336
 have hB131_356 := hB131_333.fr0 hF336
 have hB153_357 := hB153_334.fr0 hF336
 refine V.eh trivial ?_
 refine V.pe h338 [(2, .bs hB131_356 0 [.int .i64 k, .string s, .slice Al ((l.take 40).length) cl, .slice Az ((z.take 40).length) cz, .slice Ah ((h.take 40).length) ch]), (0, .bs hB153_357 0 [.int .i64 k2, .string s2, .slice Al2 ((l2.take 40).length) cl2, .slice Az2 ((z2.take 40).length) cz2, .slice Ah2 ((h2.take 40).length) ch2]), (0, .bs hB131_356 0 [.int .i64 k, .string s, .slice Al ((l.take 40).length) cl, .slice Az ((z.take 40).length) cz, .slice Ah ((h.take 40).length) ch]), (0, .bs hB153_357 0 [.int .i64 k2, .string s2, .slice Al2 ((l2.take 40).length) cl2, .slice Az2 ((z2.take 40).length) cz2, .slice Ah2 ((h2.take 40).length) ch2])] 42 42 [(43, .bool true), (44, .agg #[.int .i64 k, .string s, .slice Al ((l.take 40).length) cl, .slice Az ((z.take 40).length) cz, .slice Ah ((h.take 40).length) ch]), (45, .agg #[.int .i64 k2, .string s2, .slice Al2 ((l2.take 40).length) cl2, .slice Az2 ((z2.take 40).length) cz2, .slice Ah2 ((h2.take 40).length) ch2]), (47, .agg #[.int .i64 k, .string s, .slice Al ((l.take 40).length) cl, .slice Az ((z.take 40).length) cz, .slice Ah ((h.take 40).length) ch]), (48, .agg #[.int .i64 k2, .string s2, .slice Al2 ((l2.take 40).length) cl2, .slice Az2 ((z2.take 40).length) cz2, .slice Ah2 ((h2.take 40).length) ch2])] fun a h358 => ?_
 refine V.clg h358 (Go.Proofs.enters_of Tryz.func23 (by kernel_rfl) rfl) (samevalue_any w337 k s Al cl (l.take 40) hS88_350.old Az cz (z.take 40) hS89_351.old Ah ch (h.take 40) hS90_352.old k2 s2 Al2 cl2 (l2.take 40) hS108_353.old Az2 cz2 (z2.take 40) hS109_354.old Ah2 ch2 (h2.take 40) hS110_355.old) ?_
 rintro _ w360 ⟨rfl, hF359⟩
 refine ⟨_, rfl, fun a h361 => ?_⟩
 have hsw360 := hF359.size
 have hF_362 := hF_339.new hF359
 have hS88_373 := hS88_350.fr0 hF359
 have hS89_374 := hS89_351.fr0 hF359
 have hS90_375 := hS90_352.fr0 hF359
 have hS108_376 := hS108_353.fr0 hF359
 have hS109_377 := hS109_354.fr0 hF359
 have hS110_378 := hS110_355.fr0 hF359
 have hB131_379 := hB131_356.fr0 hF359
 have hB153_380 := hB153_357.fr0 hF359
 refine V.eh ⟨(fun _ => held_blk (n := 5) (hx := (h358.e (v := (.pointer (some ⟨b4, 0, none⟩))))) hB131_356 hB131_379 (by kernel_rfl) rfl (by simp only [List.length]; omega)), (fun _ => held_blk (n := 5) (hx := (h358.e (v := (.pointer (some ⟨b18, 0, none⟩))))) hB153_357 hB153_380 (by kernel_rfl) rfl (by simp only [List.length]; omega))⟩ ?_
 refine V.pe h361 [] 1 0 [] fun a h381 => ?_
 refine V.clg h381 (Go.Proofs.enters_of Tryz.func24 (by kernel_rfl) rfl) (rsamevalue_any w360 k s Al cl (l.take 40) hS88_373.old Az cz (z.take 40) hS89_374.old Ah ch (h.take 40) hS90_375.old k2 s2 Al2 cl2 (l2.take 40) hS108_376.old Az2 cz2 (z2.take 40) hS109_377.old Ah2 ch2 (h2.take 40) hS110_378.old) ?_
 rintro _ w383 ⟨rfl, hF382⟩
 refine ⟨_, rfl, fun a h384 => ?_⟩
 have hsw383 := hF382.size
 have hF_385 := hF_362.new hF382
 have hS88_396 := hS88_373.fr0 hF382
 have hS89_397 := hS89_374.fr0 hF382
 have hS90_398 := hS90_375.fr0 hF382
 have hB131_402 := hB131_379.fr0 hF382
 refine V.eh trivial ?_
 refine V.pe h384 [(0, .q (.bool true) (V.t_bsame (bP (sameV k s (l.take 40) (z.take 40) (h.take 40) k2 s2 (l2.take 40) (z2.take 40) (h2.take 40))))), (2, .bs hB131_402 0 [.int .i64 k, .string s, .slice Al ((l.take 40).length) cl, .slice Az ((z.take 40).length) cz, .slice Ah ((h.take 40).length) ch]), (0, .bs hB131_402 0 [.int .i64 k, .string s, .slice Al ((l.take 40).length) cl, .slice Az ((z.take 40).length) cz, .slice Ah ((h.take 40).length) ch])] 50 51 [(52, .bool true), (53, .agg #[.int .i64 k, .string s, .slice Al ((l.take 40).length) cl, .slice Az ((z.take 40).length) cz, .slice Ah ((h.take 40).length) ch]), (54, .agg #[.int .i64 k, .string s, .slice Al ((l.take 40).length) cl, .slice Az ((z.take 40).length) cz, .slice Ah ((h.take 40).length) ch])] fun a h404 => ?_
 refine V.clg h404 (Go.Proofs.enters_of Tryz.func23 (by kernel_rfl) rfl) (samev_self w383 k s Al cl (l.take 40) hS88_396.old Az cz (z.take 40) hS89_397.old Ah ch (h.take 40) hS90_398.old) ?_
 rintro _ w406 ⟨rfl, hF405⟩
 refine ⟨_, rfl, fun a h407 => ?_⟩
 have hsw406 := hF405.size
 have hF_408 := hF_385.new hF405
 refine V.eh trivial ?_
 refine V.pe h407 [] 56 56 [(57, .bool true)] fun a h427 => ?_
 refine V.clg h427 (Go.Proofs.enters_of Tryz.func16 (by kernel_rfl) rfl) (alive_any w406 (hV.fr hF_408)) ?_
 rintro _ w429 ⟨rfl, hF428⟩
 refine ⟨_, rfl, fun a h430 => ?_⟩
 have hsw429 := hF428.size
 have hF_431 := hF_408.new hF428
 refine V.eh trivial ?_
 refine V.pz h430 [] 59 59 [(8, .bool true)] fun a h450 => k175 _ _ ?_
 have h451 := h450.only [(8, .bool true)]
 refine V.ret ?_
 refine V.r1 h451 (.bool true) ?_
 exact ⟨rfl, hF_431⟩
end Go.Proofs.YtdebkbfnngkdlaaGreatDoor
end
