/- Joined texts: Li. -/
import Derived.Test.YtdebkbfnngkdlaaGreatDoorProg
import Derived.Test.YtdebkbfnngkdlaaGreatDoorIp5
section
namespace Go.Proofs.YtdebkbfnngkdlaaGreatDoor
open Go.V Go.Base
open Go.RowKit (Below)
attribute [local irreducible] Act.put Act.eval
set_option linter.unusedVariables false
set_option linter.unusedSimpArgs false
set_option maxHeartbeats 4000000
set_option maxRecDepth 20000
/-! ### what ImagePut asks -/
theorem find_to (w : World) (A : Option Addr) (c : Nat) (l : List EnD) (hS : SlR enR (fun k => k < w.heap.size) w (.slice A l.length c) l) (key2 : ByteArray) (hsm : ∀ x ∈ l, smE x) (b : Bool) (x : EnD) (hb : decide (¬ plN l key2 < 0) = b) (hx : fdE l key2 = x) :
    Calls Tryz.prog 26 #[.slice A l.length c, .string key2] w fun e w' => ∃ key k sv Al nl cl Az nz cz Ah nh ch t, e = .returned (.tuple #[.agg #[.string key, .int .i64 k, .string sv, .slice Al nl cl, .slice Az nz cz, .slice Ah nh ch, .int .i64 t], .bool b]) ∧ Fr [] w w' ∧ enR.ok (fun k => k < w'.heap.size) w' x [.string key, .int .i64 k, .string sv, .slice Al nl cl, .slice Az nz cz, .slice Ah nh ch, .int .i64 t] := by
  subst hb; subst hx
  exact find_any w A c l hS key2 hsm
theorem rfind_to (w : World) (A : Option Addr) (c : Nat) (l : List EnD) (hS : SlR enR (fun k => k < w.heap.size) w (.slice A l.length c) l) (key2 : ByteArray) (b : Bool) (x : EnD) (hb : decide (¬ plN l key2 < 0) = b) (hx : fdE l key2 = x) :
    Calls Tryz.prog 27 #[.slice A l.length c, .string key2] w fun e w' => ∃ key k sv Al nl cl Az nz cz Ah nh ch t, e = .returned (.tuple #[.agg #[.string key, .int .i64 k, .string sv, .slice Al nl cl, .slice Az nz cz, .slice Ah nh ch, .int .i64 t], .bool b]) ∧ Fr [] w w' ∧ enR.ok (fun k => k < w'.heap.size) w' x [.string key, .int .i64 k, .string sv, .slice Al nl cl, .slice Az nz cz, .slice Ah nh ch, .int .i64 t] := by
  subst hb; subst hx
  exact rfind_any w A c l hS key2
theorem dele_to (w : World) (A : Option Addr) (c : Nat) (l : List EnD) (hS : SlR enR (fun k => k < w.heap.size) w (.slice A l.length c) l) (key2 : ByteArray) (hsm : ∀ x ∈ l, smE x) (hl : l.length ≤ 1099511627776) (b : Bool) (hb : decide (¬ plN l key2 < 0) = b) :
    Calls Tryz.prog 28 #[.slice A l.length c, .string key2] w fun e w' => ∃ A' c', e = .returned (.tuple #[.slice A' (delL l key2).length c', .bool b]) ∧ SlR enR (fun k => k < w'.heap.size) w' (.slice A' (delL l key2).length c') (delL l key2) ∧ Fr [] w w' := by
  subst hb
  exact dele_any w A c l hS key2 hsm hl
theorem rcheck_to (w : World) (A : Option Addr) (c : Nat) (l : List EnD) (hS : SlR enR (fun k => k < w.heap.size) w (.slice A l.length c) l) (v : Int) (hv : imgN l = v) : Calls Tryz.prog 21 #[.slice A l.length c] w fun e w' => e = .returned (.int .i64 v) ∧ Fr [] w w' := by
  subst hv
  exact rcheck_any w A c l hS
theorem one_row {w : World} {b : Nat} {cs : List Value} {x : EnD} (hB : Blk w b cs 55) (h : enR.ok (fun k => k < w.heap.size) w x cs) : SlR enR (fun k => k < w.heap.size) w (.slice (some ⟨b, 0, none⟩) 1 1) [x] :=
  slr_blk (R := enR) (xs := [x]) hB rfl hB.lt (by show 1 ≤ 9223372036854775807; omega) ⟨cs, [], (List.append_nil _).symm, h, rfl⟩
theorem rsame1_to (w : World) (b1 b2 : Nat) (cs1 cs2 : List Value) (x : EnD) (hB1 : Blk w b1 cs1 55) (hB2 : Blk w b2 cs2 55) (h1 : enR.ok (fun k => k < w.heap.size) w x cs1) (h2 : enR.ok (fun k => k < w.heap.size) w x cs2) : Calls Tryz.prog 15 #[.slice (some ⟨b1, 0, none⟩) 1 1, .slice (some ⟨b2, 0, none⟩) 1 1] w fun e w' => e = .returned (.bool true) ∧ Fr [] w w' :=
  (rsames_any w _ 1 [x] (one_row hB1 h1) _ 1 [x] (one_row hB2 h2)).mono fun e w' ⟨q1, q2⟩ => ⟨by rw [q1, bP_yes rfl], q2⟩
theorem en_old {w : World} {Z : Nat → Prop} {x : EnD} {cs : List Value} (h : enR.ok Z w x cs) : enR.ok (fun k => k < w.heap.size) w x cs := enR.mono (fun b hb _ => ⟨hb, rfl⟩) (Nat.le_refl _) h
theorem few_sm (x : EnD) : smE (fewD x) := by
  have h1 : (fewD x).l.length ≤ 40 := List.length_take_le ..
  have h2 : (fewD x).z.length ≤ 40 := List.length_take_le ..
  have h3 : (fewD x).h.length ≤ 40 := List.length_take_le ..
  exact ⟨by omega, by omega, by omega⟩
theorem cut_sm (l : List EnD) : ∀ x ∈ cutD l, smE x := fun x hx => by
  unfold cutD at hx
  obtain ⟨y, _, rfl⟩ := List.mem_map.1 hx
  exact few_sm y
theorem put_sm {l : List EnD} {x : EnD} (hl : ∀ y ∈ l, smE y) (hx : smE x) : ∀ y ∈ putL l x, smE y := fun y hy => by
  unfold putL at hy
  split at hy
  · unfold putD at hy
    rcases List.mem_append.1 hy with h | h
    · exact hl y (List.mem_of_mem_take h)
    · rcases List.mem_cons.1 h with rfl | h
      · exact hx
      · exact hl y (List.mem_of_mem_drop h)
  · cases hy
theorem del_sm {l : List EnD} {key : ByteArray} (hl : ∀ y ∈ l, smE y) : ∀ y ∈ delL l key, smE y := fun y hy => hl y (del_sub.subset hy)
theorem put_len {l : List EnD} {x : EnD} (h : l.length ≤ 20) : (putL l x).length ≤ 21 := by
  unfold putL
  split
  · by_cases ht : thR l x.key
    · rw [putD_len2 ht]; omega
    · rw [putD_len ht]; omega
  · exact Nat.zero_le _
theorem imagePut_any (w : World) (Ap : Option Addr) (cp : Nat) (p : List EnD) (hSp : SlR enR (fun k => k < w.heap.size) w (.slice Ap p.length cp) p) (hEp : ∀ x ∈ p, EnM x) (key : ByteArray) (k : Int) (s : ByteArray) (Al : Option Addr) (cl : Nat) (l : List ByteArray) (hSl : SlR Rp.str (fun k => k < w.heap.size) w (.slice Al l.length cl) l) (Az : Option Addr) (cz : Nat) (z : List (ByteArray × Int)) (hSz : SlR scR (fun k => k < w.heap.size) w (.slice Az z.length cz) z) (Ah : Option Addr) (ch : Nat) (h : List (ByteArray × ByteArray)) (hSh : SlR fdR (fun k => k < w.heap.size) w (.slice Ah h.length ch) h) (at' : Int) (hE : EnM ⟨key, k, s, l, z, h, at'⟩) (key2 : ByteArray) (hV : Vs w) : Calls Tryz.prog 5 #[.slice Ap p.length cp, .agg #[.string key, .int .i64 k, .string s, .slice Al l.length cl, .slice Az z.length cz, .slice Ah h.length ch, .int .i64 at'], .string key2] w (fun e w' => e = .returned (.bool (true)) ∧ Fr [] w w') := by
 have hF := Fr.refl [] w
 refine V.en 115 Tryz.func5 fun a h1 => ?_
 refine V.sg fun K2 k3 => ?_
 refine V.go (V.mk [(1, .agg #[.string key, .int .i64 k, .string s, .slice Al l.length cl, .slice Az z.length cz, .slice Ah h.length ch, .int .i64 at'])] ⟨h1.e, trivial⟩ (by kernel_rfl) [.string key, .int .i64 k, .string s, .slice Al l.length cl, .slice Az z.length cz, .slice Ah h.length ch, .int .i64 at'] 55 (fun b => .pointer (some ⟨b, 0, none⟩)) (by kernel_rfl) ?_)
 intro w5 b4 heb4 hB6 hF7 hsb4
 have hF_8 := hF.new hF7
 have hSp_9 := hSp.fr0 hF7
 have hSl_10 := hSl.fr0 hF7
 have hSz_11 := hSz.fr0 hF7
 have hSh_12 := hSh.fr0 hF7
 refine V.pt h1 fun a h13 => ?_
 refine V.re h13 [] 6 6 [] fun a h14 => k3 _ _ ?_
 refine V.sg fun K15 k16 => ?_
 refine V.run h14 [] 1 1 0 [(19, .slice Ap p.length cp)] fun a h17 => ?_
 refine V.cl h17 (Go.Proofs.enters_of Tryz.func8 (by kernel_rfl) rfl) (cutS_any w5 w.heap.size (by omega) Ap cp p hSp_9) ?_
 rintro _ w22 ⟨A18, c19, rfl, hS20, hF21⟩
 refine ⟨_, rfl, fun a h23 => ?_⟩
 have hsw22 := hF21.size
 have hF_24 := hF_8.new hF21
 have hSl_26 := hSl_10.fr0 hF21
 have hSz_27 := hSz_11.fr0 hF21
 have hSh_28 := hSh_12.fr0 hF21
 have hB6_29 := hB6.fr0 hF21
 refine V.re h23 [] 1 0 [(0, .slice A18 ((cutD p).length) c19)] fun a h30 => k16 _ _ ?_
 refine V.sg fun K31 k32 => ?_
 refine V.run h30 [(1, .bs hB6_29 1 [.int .i64 k, .string s, .slice Al l.length cl, .slice Az z.length cz, .slice Ah h.length ch])] 2 21 21 [(22, .agg #[.int .i64 k, .string s, .slice Al l.length cl, .slice Az z.length cz, .slice Ah h.length ch])] fun a h33 => ?_
 refine V.cl h33 (Go.Proofs.enters_of Tryz.func17 (by kernel_rfl) rfl) (few_any w22 k s Al cl l hSl_26.old Az cz z hSz_27.old Ah ch h hSh_28.old) ?_
 rintro _ w38 ⟨rfl, hF34⟩
 refine ⟨_, rfl, fun a h39 => ?_⟩
 have hsw38 := hF34.size
 have hF_40 := hF_24.new hF34
 have hB6_45 := hB6_29.fr0 hF34
 have hS20_46 := hS20.fr0 hF34
 have hS35o := hSl_26.fr0 hF34
 have hS35 := hS35o.tke 40
 have hS36o := hSz_27.fr0 hF34
 have hS36 := hS36o.tke 40
 have hS37o := hSh_28.fr0 hF34
 have hS37 := hS37o.tke 40
 refine V.run h39 [] 1 1 0 [(24, .pointer (some ⟨b4, 1, none⟩))] fun a h50 => ?_
 refine V.go (V.stn b4 1 (.agg #[.int .i64 k, .string s, .slice Al ((l.take 40).length) cl, .slice Az ((z.take 40).length) cz, .slice Ah ((h.take 40).length) ch]) [.int .i64 k, .string s, .slice Al ((l.take 40).length) cl, .slice Az ((z.take 40).length) cz, .slice Ah ((h.take 40).length) ch] h50.e h50.e rfl rfl (by kernel_rfl) hB6_45 (by simp) [.string key, .int .i64 k, .string s, .slice Al ((l.take 40).length) cl, .slice Az ((z.take 40).length) cz, .slice Ah ((h.take 40).length) ch, .int .i64 at'] rfl ?_)
 intro w47 hB48 hF49 hsw47
 have hF_51 := hF_40.own hF49 (by simp <;> omega)
 have hS20_56 := hS20_46.fr hF49 (by simp <;> omega)
 have hS35_57 := hS35.fr hF49 (by simp <;> omega)
 have hS36_58 := hS36.fr hF49 (by simp <;> omega)
 have hS37_59 := hS37.fr hF49 (by simp <;> omega)
 refine V.nt (k32 _ _ ?_)
 refine V.sg fun K60 k61 => ?_
 refine V.run h50 [(1, .bs hB48 0 [.string key, .int .i64 k, .string s, .slice Al ((l.take 40).length) cl, .slice Az ((z.take 40).length) cz, .slice Ah ((h.take 40).length) ch, .int .i64 at'])] 2 1 0 [(26, .slice A18 ((cutD p).length) c19), (27, .agg #[.string key, .int .i64 k, .string s, .slice Al ((l.take 40).length) cl, .slice Az ((z.take 40).length) cz, .slice Ah ((h.take 40).length) ch, .int .i64 at'])] fun a h62 => ?_
 refine V.cl h62 (Go.Proofs.enters_of Tryz.func25 (by kernel_rfl) rfl) (put_any w47 A18 c19 (cutD p) hS20_56.old (cut_sm p) (cut_bnd hEp).1 (cut_len p) key k s Al cl (l.take 40) hS35_57.old Az cz (z.take 40) hS36_58.old Ah ch (h.take 40) hS37_59.old at' (by simp only [List.length_take]; omega) (by simp only [List.length_take]; omega) (by simp only [List.length_take]; omega) (fun y hy => (hE.2.1.z y (List.mem_of_mem_take hy)).1)) ?_
 rintro _ w67 ⟨A63, c64, rfl, hS65, hF66⟩
 refine ⟨_, rfl, fun a h68 => ?_⟩
 have hsw67 := hF66.size
 have hF_69 := hF_51.new hF66
 have hS20_74 := hS20_56.fr0 hF66
 have hS35_75 := hS35_57.fr0 hF66
 have hS36_76 := hS36_58.fr0 hF66
 have hS37_77 := hS37_59.fr0 hF66
 have hB48_78 := hB48.fr0 hF66
 refine V.re h68 [] 25 30 [(7, .slice A63 ((putL (cutD p) (⟨key, k, s, l.take 40, z.take 40, h.take 40, at'⟩ : EnD)).length) c64), (8, .int .i64 (putN (cutD p) (⟨key, k, s, l.take 40, z.take 40, h.take 40, at'⟩ : EnD)))] fun a h79 => k61 _ _ ?_
 refine V.seq fun K80 k81 => ?_
 refine V.sr h79 [(1, .ne (putN (cutD p) (⟨key, k, s, l.take 40, z.take 40, h.take 40, at'⟩ : EnD)) 0)] 31 31 [(32, .bool (decide (¬ (putN (cutD p) (⟨key, k, s, l.take 40, z.take 40, h.take 40, at'⟩ : EnD)) = 0)))] fun a h84 => ?_
 refine V.cp h84 (¬ (putN (cutD p) (⟨key, k, s, l.take 40, z.take 40, h.take 40, at'⟩ : EnD)) = 0) (fun ht85 => ?_) (fun ht85 => ?_)
 ·
  refine V.seq fun K86 k87 => ?_
  have hnil : (putL (cutD p) (⟨key, k, s, l.take 40, z.take 40, h.take 40, at'⟩ : EnD)).length = 0 := by rw [put_none (by assumption)]; rfl
  refine V.rg ?_
  refine V.run h84 [(2, .eq (((putL (cutD p) (⟨key, k, s, l.take 40, z.take 40, h.take 40, at'⟩ : EnD)).length : Nat) : Int) 0)] 4 33 35 [(36, .bool (decide ((((putL (cutD p) (⟨key, k, s, l.take 40, z.take 40, h.take 40, at'⟩ : EnD)).length : Nat) : Int) = 0)))] fun a h88 => ?_
  by_cases hg89 : (((putL (cutD p) (⟨key, k, s, l.take 40, z.take 40, h.take 40, at'⟩ : EnD)).length : Nat) : Int) = 0
  ·
   have h90 := h88.kt 36 hg89
   refine V.clg h90 (Go.Proofs.enters_of Tryz.func16 (by kernel_rfl) rfl) (alive_any w67 (hV.fr hF_69)) ?_
   rintro _ w92 ⟨rfl, hF91⟩
   refine ⟨_, rfl, fun a h93 => ?_⟩
   have hsw92 := hF91.size
   have hF_94 := hF_69.new hF91
   refine V.re h93 [] 38 38 [(6, .bool true)] fun a h105 => k87 _ _ ?_
   refine V.ret (V.then_r ?_)
   refine V.r1 h105 (.bool true) ?_
   exact ⟨rfl, hF_94⟩
  ·
   have h106 := h88.kf 36 hg89
   refine V.re h106 [] 37 38 [(6, .bool false)] fun a h107 => k87 _ _ ?_
   refine V.ret (V.then_r ?_)
   refine V.r1 h107 (.bool false) ?_
   exact absurd (by first | rfl | omega) hg89
 ·
  refine V.skip ?_
  refine V.then_n (k81 _ _ ?_)
  refine V.seq fun K108 k109 => ?_
  have hz0 : putN (cutD p) (⟨key, k, s, l.take 40, z.take 40, h.take 40, at'⟩ : EnD) = 0 := Decidable.of_not_not (by assumption)
  refine V.rg ?_
  refine V.run h84 [(2, .b hB48_78 0)] 3 41 41 [(40, .slice A63 ((putL (cutD p) (⟨key, k, s, l.take 40, z.take 40, h.take 40, at'⟩ : EnD)).length) c64), (42, .string key)] fun a h110 => ?_
  refine V.cl h110 (Go.Proofs.enters_of Tryz.func26 (by kernel_rfl) rfl) (find_to w67 A63 c64 (putL (cutD p) (⟨key, k, s, l.take 40, z.take 40, h.take 40, at'⟩ : EnD)) hS65.old key (put_sm (cut_sm p) (few_sm ⟨key, k, s, l, z, h, at'⟩)) true (⟨key, k, s, l.take 40, z.take 40, h.take 40, at'⟩ : EnD) (decide_eq_true (put_find hz0).2) (put_find hz0).1) ?_
  rintro _ w127 ⟨key111, k112, sv113, Al114, nl115, cl116, Az117, nz118, cz119, Ah120, nh121, ch122, t123, rfl, hF124, hr126⟩
  refine ⟨_, rfl, fun a h128 => ?_⟩
  have hsw127 := hF124.size
  have hF_129 := hF_69.new hF124
  have hS20_134 := hS20_74.fr0 hF124
  have hS35_135 := hS35_75.fr0 hF124
  have hS36_136 := hS36_76.fr0 hF124
  have hS37_137 := hS37_77.fr0 hF124
  have hB48_138 := hB48_78.fr0 hF124
  have hS65_139 := hS65.fr0 hF124
  have hq125 := fun (_ : True) => hr126
  refine V.run h128 [] 3 39 39 [(44, .agg #[.string key111, .int .i64 k112, .string sv113, .slice Al114 nl115 cl116, .slice Az117 nz118 cz119, .slice Ah120 nh121 ch122, .int .i64 t123]), (45, .bool true)] fun a h144 => ?_
  refine V.go (V.mk [] trivial (by kernel_rfl) [.string ⟨#[]⟩, .int .i64 0, .string ⟨#[]⟩, .slice none 0 0, .slice none 0 0, .slice none 0 0, .int .i64 0] 55 (fun b => .pointer (some ⟨b, 0, none⟩)) (by kernel_rfl) ?_)
  intro w141 b140 heb140 hB142 hF143 hsb140
  have hF_145 := hF_129.new hF143
  have hS20_150 := hS20_134.fr0 hF143
  have hS35_151 := hS35_135.fr0 hF143
  have hS36_152 := hS36_136.fr0 hF143
  have hS37_153 := hS37_137.fr0 hF143
  have hB48_154 := hB48_138.fr0 hF143
  have hS65_155 := hS65_139.fr0 hF143
  have hq125_156 := fun hp => enR.mono (fun k hk hz => ⟨hz, hF143.block k hk (by simp)⟩) hF143.size (hq125 hp)
  refine V.pt h144 fun a h157 => ?_
  refine V.go (V.stn b140 0 (.agg #[.string key111, .int .i64 k112, .string sv113, .slice Al114 nl115 cl116, .slice Az117 nz118 cz119, .slice Ah120 nh121 ch122, .int .i64 t123]) [.string key111, .int .i64 k112, .string sv113, .slice Al114 nl115 cl116, .slice Az117 nz118 cz119, .slice Ah120 nh121 ch122, .int .i64 t123] h157.e h157.e rfl rfl (by kernel_rfl) hB142 (by simp) [.string key111, .int .i64 k112, .string sv113, .slice Al114 nl115 cl116, .slice Az117 nz118 cz119, .slice Ah120 nh121 ch122, .int .i64 t123] rfl ?_)
  intro w158 hB159 hF160 hsw158
  have hF_161 := hF_145.own hF160 (by simp <;> omega)
  have hS20_166 := hS20_150.fr hF160 (by simp <;> omega)
  have hS35_167 := hS35_151.fr hF160 (by simp <;> omega)
  have hS36_168 := hS36_152.fr hF160 (by simp <;> omega)
  have hS37_169 := hS37_153.fr hF160 (by simp <;> omega)
  have hB48_170 := hB48_154.fr1 hF160 (by omega)
  have hS65_171 := hS65_155.fr hF160 (by simp <;> omega)
  have hq125_172 := fun hp => enR.mono (fun k hk hz => ⟨hz, hF160.block k hk (by (try dsimp only at hz); simp <;> omega)⟩) hF160.size (hq125_156 hp)
  refine V.re h157 [] 1 0 [(10, .bool true)] fun a h173 => k109 _ _ ?_
  refine V.seq fun K174 k175 => ?_
  refine V.sg fun K176 k177 => ?_
  refine V.run h173 [(3, .bs hB159 0 [.string key111, .int .i64 k112, .string sv113, .slice Al114 nl115 cl116, .slice Az117 nz118 cz119, .slice Ah120 nh121 ch122, .int .i64 t123])] 4 46 47 [(48, .bool false), (49, .agg #[.string key111, .int .i64 k112, .string sv113, .slice Al114 nl115 cl116, .slice Az117 nz118 cz119, .slice Ah120 nh121 ch122, .int .i64 t123])] fun a h178 => ?_
  refine V.gon h178 (V.mk [(49, .agg #[.string key111, .int .i64 k112, .string sv113, .slice Al114 nl115 cl116, .slice Az117 nz118 cz119, .slice Ah120 nh121 ch122, .int .i64 t123])] ⟨h178.e, trivial⟩ (by kernel_rfl) [.string key111, .int .i64 k112, .string sv113, .slice Al114 nl115 cl116, .slice Az117 nz118 cz119, .slice Ah120 nh121 ch122, .int .i64 t123] 55 (fun b => .slice (some ⟨b, 0, none⟩) 1 1) (by kernel_rfl) ?_)
  intro w180 b179 heb179 hB181 hF182 hsb179
  have hF_183 := hF_161.new hF182
  have hS20_188 := hS20_166.fr0 hF182
  have hS35_189 := hS35_167.fr0 hF182
  have hS36_190 := hS36_168.fr0 hF182
  have hS37_191 := hS37_169.fr0 hF182
  have hB48_192 := hB48_170.fr0 hF182
  have hS65_193 := hS65_171.fr0 hF182
  have hq125_194 := fun hp => enR.mono (fun k hk hz => ⟨hz, hF182.block k hk (by simp)⟩) hF182.size (hq125_172 hp)
  refine V.pt h178 fun a h196 => ?_
  refine V.run h196 [(0, .bs hB48_192 0 [.string key, .int .i64 k, .string s, .slice Al ((l.take 40).length) cl, .slice Az ((z.take 40).length) cz, .slice Ah ((h.take 40).length) ch, .int .i64 at'])] 1 1 0 [(51, .agg #[.string key, .int .i64 k, .string s, .slice Al ((l.take 40).length) cl, .slice Az ((z.take 40).length) cz, .slice Ah ((h.take 40).length) ch, .int .i64 at'])] fun a h197 => ?_
  refine V.gon h197 (V.mk [(51, .agg #[.string key, .int .i64 k, .string s, .slice Al ((l.take 40).length) cl, .slice Az ((z.take 40).length) cz, .slice Ah ((h.take 40).length) ch, .int .i64 at'])] ⟨h197.e, trivial⟩ (by kernel_rfl) [.string key, .int .i64 k, .string s, .slice Al ((l.take 40).length) cl, .slice Az ((z.take 40).length) cz, .slice Ah ((h.take 40).length) ch, .int .i64 at'] 55 (fun b => .slice (some ⟨b, 0, none⟩) 1 1) (by kernel_rfl) ?_)
  intro w199 b198 heb198 hB200 hF201 hsb198
  have hF_202 := hF_183.new hF201
  have hS20_207 := hS20_188.fr0 hF201
  have hS35_208 := hS35_189.fr0 hF201
  have hS36_209 := hS36_190.fr0 hF201
  have hS37_210 := hS37_191.fr0 hF201
  have hB48_211 := hB48_192.fr0 hF201
  have hS65_212 := hS65_193.fr0 hF201
  have hq125_213 := fun hp => enR.mono (fun k hk hz => ⟨hz, hF201.block k hk (by simp)⟩) hF201.size (hq125_194 hp)
  have hB181_215 := hB181.fr0 hF201
  refine V.pt h197 fun a h216 => ?_
  refine V.clg h216 (Go.Proofs.enters_of Tryz.func15 (by kernel_rfl) rfl) (rsame1_to w199 b179 b198 [.string key111, .int .i64 k112, .string sv113, .slice Al114 nl115 cl116, .slice Az117 nz118 cz119, .slice Ah120 nh121 ch122, .int .i64 t123] [.string key, .int .i64 k, .string s, .slice Al ((l.take 40).length) cl, .slice Az ((z.take 40).length) cz, .slice Ah ((h.take 40).length) ch, .int .i64 at'] (⟨key, k, s, l.take 40, z.take 40, h.take 40, at'⟩ : EnD) hB181_215 hB200 (en_old (hq125_213 trivial)) (⟨_, _, _, rfl, hS35_208.old, hS36_209.old, hS37_210.old⟩ : enR.ok _ _ (⟨key, k, s, l.take 40, z.take 40, h.take 40, at'⟩ : EnD) _)) ?_
  rintro _ w218 ⟨rfl, hF217⟩
  refine ⟨_, rfl, fun a h219 => ?_⟩
  have hsw218 := hF217.size
  have hF_220 := hF_202.new hF217
  have hS20_225 := hS20_207.fr0 hF217
  have hB48_229 := hB48_211.fr0 hF217
  have hS65_230 := hS65_212.fr0 hF217
  have hq125_231 := fun hp => enR.mono (fun k hk hz => ⟨hz, hF217.block k hk (by simp)⟩) hF217.size (hq125_213 hp)
  refine V.run h219 [] 4 54 55 [(56, .bool false), (57, .slice A63 ((putL (cutD p) (⟨key, k, s, l.take 40, z.take 40, h.take 40, at'⟩ : EnD)).length) c64)] fun a h235 => ?_
  refine V.clg h235 (Go.Proofs.enters_of Tryz.func21 (by kernel_rfl) rfl) (rcheck_to w218 A63 c64 (putL (cutD p) (⟨key, k, s, l.take 40, z.take 40, h.take 40, at'⟩ : EnD)) hS65_230.old 0 (put_img hz0 (by have := cut_len p; omega))) ?_
  rintro _ w237 ⟨rfl, hF236⟩
  refine ⟨_, rfl, fun a h238 => ?_⟩
  have hsw237 := hF236.size
  have hF_239 := hF_220.new hF236
  have hS20_244 := hS20_225.fr0 hF236
  have hB48_248 := hB48_229.fr0 hF236
  have hS65_249 := hS65_230.fr0 hF236
  have hq125_250 := fun hp => enR.mono (fun k hk hz => ⟨hz, hF236.block k hk (by simp)⟩) hF236.size (hq125_231 hp)
  refine V.re h238 [] 59 59 [(60, .bool false)] fun a h254 => k177 _ _ ?_
  have h255 := h254.only [(0, .slice A18 ((cutD p).length) c19), (2, .string key2), (4, .pointer (some ⟨b4, 0, none⟩)), (7, .slice A63 ((putL (cutD p) (⟨key, k, s, l.take 40, z.take 40, h.take 40, at'⟩ : EnD)).length) c64), (60, .bool false)]
  refine V.cf h255 ?_
  refine V.skip ?_
  refine V.then_n (k175 _ _ ?_)
  refine V.seq fun K256 k257 => ?_
  refine V.sr h255 [(2, .b hB48_248 0), (0, .sne key2 key)] 61 63 [(64, .bool (decide (¬ key2 = key)))] fun a h260 => ?_
  refine V.cp h260 (¬ key2 = key) (fun ht261 => ?_) (fun ht261 => ?_)
  ·
   refine V.sg fun K262 k263 => ?_
   refine V.run h260 [] 2 1 0 [(66, .slice A63 ((putL (cutD p) (⟨key, k, s, l.take 40, z.take 40, h.take 40, at'⟩ : EnD)).length) c64), (67, .string key2)] fun a h264 => ?_
   refine V.cl h264 (Go.Proofs.enters_of Tryz.func26 (by kernel_rfl) rfl) (find_to w237 A63 c64 (putL (cutD p) (⟨key, k, s, l.take 40, z.take 40, h.take 40, at'⟩ : EnD)) hS65_249.old key2 (put_sm (cut_sm p) (few_sm ⟨key, k, s, l, z, h, at'⟩)) (decide (¬ plN (cutD p) key2 < 0)) (fdE (cutD p) key2) (decide_eq_decide.2 (not_congr (put_other hz0 (by assumption)).2)) (put_other hz0 (by assumption)).1) ?_
   rintro _ w281 ⟨key265, k266, sv267, Al268, nl269, cl270, Az271, nz272, cz273, Ah274, nh275, ch276, t277, rfl, hF278, hr280⟩
   refine ⟨_, rfl, fun a h282 => ?_⟩
   have hsw281 := hF278.size
   have hF_283 := hF_239.new hF278
   have hS20_288 := hS20_244.fr0 hF278
   have hB48_292 := hB48_248.fr0 hF278
   have hS65_293 := hS65_249.fr0 hF278
   have hq125_294 := fun hp => enR.mono (fun k hk hz => ⟨hz, hF278.block k hk (by simp)⟩) hF278.size (hq125_250 hp)
   have hq279 := fun (_ : True) => hr280
   refine V.run h282 [] 3 65 65 [(69, .agg #[.string key265, .int .i64 k266, .string sv267, .slice Al268 nl269 cl270, .slice Az271 nz272 cz273, .slice Ah274 nh275 ch276, .int .i64 t277]), (70, .bool (decide (¬ plN (cutD p) key2 < 0)))] fun a h302 => ?_
   refine V.go (V.mk [] trivial (by kernel_rfl) [.string ⟨#[]⟩, .int .i64 0, .string ⟨#[]⟩, .slice none 0 0, .slice none 0 0, .slice none 0 0, .int .i64 0] 55 (fun b => .pointer (some ⟨b, 0, none⟩)) (by kernel_rfl) ?_)
   intro w299 b298 heb298 hB300 hF301 hsb298
   have hF_303 := hF_283.new hF301
   have hS20_308 := hS20_288.fr0 hF301
   have hB48_312 := hB48_292.fr0 hF301
   have hS65_313 := hS65_293.fr0 hF301
   have hq125_314 := fun hp => enR.mono (fun k hk hz => ⟨hz, hF301.block k hk (by simp)⟩) hF301.size (hq125_294 hp)
   have hq279_318 := fun hp => enR.mono (fun k hk hz => ⟨hz, hF301.block k hk (by simp)⟩) hF301.size (hq279 hp)
   refine V.pt h302 fun a h319 => ?_
   refine V.go (V.stn b298 0 (.agg #[.string key265, .int .i64 k266, .string sv267, .slice Al268 nl269 cl270, .slice Az271 nz272 cz273, .slice Ah274 nh275 ch276, .int .i64 t277]) [.string key265, .int .i64 k266, .string sv267, .slice Al268 nl269 cl270, .slice Az271 nz272 cz273, .slice Ah274 nh275 ch276, .int .i64 t277] h319.e h319.e rfl rfl (by kernel_rfl) hB300 (by simp) [.string key265, .int .i64 k266, .string sv267, .slice Al268 nl269 cl270, .slice Az271 nz272 cz273, .slice Ah274 nh275 ch276, .int .i64 t277] rfl ?_)
   intro w320 hB321 hF322 hsw320
   have hF_323 := hF_303.own hF322 (by simp <;> omega)
   have hS20_328 := hS20_308.fr hF322 (by simp <;> omega)
   have hB48_332 := hB48_312.fr1 hF322 (by omega)
   have hS65_333 := hS65_313.fr hF322 (by simp <;> omega)
   have hq125_334 := fun hp => enR.mono (fun k hk hz => ⟨hz, hF322.block k hk (by (try dsimp only at hz); simp <;> omega)⟩) hF322.size (hq125_314 hp)
   have hq279_338 := fun hp => enR.mono (fun k hk hz => ⟨hz, hF322.block k hk (by (try dsimp only at hz); simp <;> omega)⟩) hF322.size (hq279_318 hp)
   refine V.re h319 [] 1 0 [(12, .bool (decide (¬ plN (cutD p) key2 < 0)))] fun a h339 => k263 _ _ ?_
   refine V.sg fun K340 k341 => ?_
   refine V.run h339 [] 2 1 0 [(72, .slice A18 ((cutD p).length) c19), (73, .string key2)] fun a h342 => ?_
   refine V.cl h342 (Go.Proofs.enters_of Tryz.func27 (by kernel_rfl) rfl) (rfind_to w320 A18 c19 (cutD p) hS20_328.old key2 (decide (¬ plN (cutD p) key2 < 0)) (fdE (cutD p) key2) rfl rfl) ?_
   rintro _ w359 ⟨key343, k344, sv345, Al346, nl347, cl348, Az349, nz350, cz351, Ah352, nh353, ch354, t355, rfl, hF356, hr358⟩
   refine ⟨_, rfl, fun a h360 => ?_⟩
   have hsw359 := hF356.size
   have hF_361 := hF_323.new hF356
   have hB48_370 := hB48_332.fr0 hF356
   have hS65_371 := hS65_333.fr0 hF356
   have hq125_372 := fun hp => enR.mono (fun k hk hz => ⟨hz, hF356.block k hk (by simp)⟩) hF356.size (hq125_334 hp)
   have hq279_376 := fun hp => enR.mono (fun k hk hz => ⟨hz, hF356.block k hk (by simp)⟩) hF356.size (hq279_338 hp)
   have hB321_377 := hB321.fr0 hF356
   have hq357 := fun (_ : True) => hr358
   refine V.run h360 [] 3 71 71 [(75, .agg #[.string key343, .int .i64 k344, .string sv345, .slice Al346 nl347 cl348, .slice Az349 nz350 cz351, .slice Ah352 nh353 ch354, .int .i64 t355]), (76, .bool (decide (¬ plN (cutD p) key2 < 0)))] fun a h382 => ?_
   refine V.go (V.mk [] trivial (by kernel_rfl) [.string ⟨#[]⟩, .int .i64 0, .string ⟨#[]⟩, .slice none 0 0, .slice none 0 0, .slice none 0 0, .int .i64 0] 55 (fun b => .pointer (some ⟨b, 0, none⟩)) (by kernel_rfl) ?_)
   intro w379 b378 heb378 hB380 hF381 hsb378
   have hF_383 := hF_361.new hF381
   have hB48_392 := hB48_370.fr0 hF381
   have hS65_393 := hS65_371.fr0 hF381
   have hq125_394 := fun hp => enR.mono (fun k hk hz => ⟨hz, hF381.block k hk (by simp)⟩) hF381.size (hq125_372 hp)
   have hq279_398 := fun hp => enR.mono (fun k hk hz => ⟨hz, hF381.block k hk (by simp)⟩) hF381.size (hq279_376 hp)
   have hB321_399 := hB321_377.fr0 hF381
   have hq357_400 := fun hp => enR.mono (fun k hk hz => ⟨hz, hF381.block k hk (by simp)⟩) hF381.size (hq357 hp)
   refine V.pt h382 fun a h401 => ?_
   refine V.go (V.stn b378 0 (.agg #[.string key343, .int .i64 k344, .string sv345, .slice Al346 nl347 cl348, .slice Az349 nz350 cz351, .slice Ah352 nh353 ch354, .int .i64 t355]) [.string key343, .int .i64 k344, .string sv345, .slice Al346 nl347 cl348, .slice Az349 nz350 cz351, .slice Ah352 nh353 ch354, .int .i64 t355] h401.e h401.e rfl rfl (by kernel_rfl) hB380 (by simp) [.string key343, .int .i64 k344, .string sv345, .slice Al346 nl347 cl348, .slice Az349 nz350 cz351, .slice Ah352 nh353 ch354, .int .i64 t355] rfl ?_)
   intro w402 hB403 hF404 hsw402
   have hF_405 := hF_383.own hF404 (by simp <;> omega)
   have hB48_414 := hB48_392.fr1 hF404 (by omega)
   have hS65_415 := hS65_393.fr hF404 (by simp <;> omega)
   have hq125_416 := fun hp => enR.mono (fun k hk hz => ⟨hz, hF404.block k hk (by (try dsimp only at hz); simp <;> omega)⟩) hF404.size (hq125_394 hp)
   have hq279_420 := fun hp => enR.mono (fun k hk hz => ⟨hz, hF404.block k hk (by (try dsimp only at hz); simp <;> omega)⟩) hF404.size (hq279_398 hp)
   have hB321_421 := hB321_399.fr1 hF404 (by omega)
   have hq357_422 := fun hp => enR.mono (fun k hk hz => ⟨hz, hF404.block k hk (by (try dsimp only at hz); simp <;> omega)⟩) hF404.size (hq357_400 hp)
   refine V.re h401 [] 1 0 [(14, .bool (decide (¬ plN (cutD p) key2 < 0)))] fun a h423 => k341 _ _ ?_
   refine V.sg fun K424 k425 => ?_
   refine V.run h423 [(2, .q (.bool false) (V.t_bnsame (decide (¬ plN (cutD p) key2 < 0)))), (1, .bs hB321_421 0 [.string key265, .int .i64 k266, .string sv267, .slice Al268 nl269 cl270, .slice Az271 nz272 cz273, .slice Ah274 nh275 ch276, .int .i64 t277])] 5 77 79 [(80, .bool false), (81, .agg #[.string key265, .int .i64 k266, .string sv267, .slice Al268 nl269 cl270, .slice Az271 nz272 cz273, .slice Ah274 nh275 ch276, .int .i64 t277])] fun a h426 => ?_
   refine V.gon h426 (V.mk [(81, .agg #[.string key265, .int .i64 k266, .string sv267, .slice Al268 nl269 cl270, .slice Az271 nz272 cz273, .slice Ah274 nh275 ch276, .int .i64 t277])] ⟨h426.e, trivial⟩ (by kernel_rfl) [.string key265, .int .i64 k266, .string sv267, .slice Al268 nl269 cl270, .slice Az271 nz272 cz273, .slice Ah274 nh275 ch276, .int .i64 t277] 55 (fun b => .slice (some ⟨b, 0, none⟩) 1 1) (by kernel_rfl) ?_)
   intro w428 b427 heb427 hB429 hF430 hsb427
   have hF_431 := hF_405.new hF430
   have hB48_440 := hB48_414.fr0 hF430
   have hS65_441 := hS65_415.fr0 hF430
   have hq125_442 := fun hp => enR.mono (fun k hk hz => ⟨hz, hF430.block k hk (by simp)⟩) hF430.size (hq125_416 hp)
   have hq279_446 := fun hp => enR.mono (fun k hk hz => ⟨hz, hF430.block k hk (by simp)⟩) hF430.size (hq279_420 hp)
   have hq357_448 := fun hp => enR.mono (fun k hk hz => ⟨hz, hF430.block k hk (by simp)⟩) hF430.size (hq357_422 hp)
   have hB403_449 := hB403.fr0 hF430
   refine V.pt h426 fun a h450 => ?_
   refine V.run h450 [(0, .bs hB403_449 0 [.string key343, .int .i64 k344, .string sv345, .slice Al346 nl347 cl348, .slice Az349 nz350 cz351, .slice Ah352 nh353 ch354, .int .i64 t355])] 1 1 0 [(83, .agg #[.string key343, .int .i64 k344, .string sv345, .slice Al346 nl347 cl348, .slice Az349 nz350 cz351, .slice Ah352 nh353 ch354, .int .i64 t355])] fun a h451 => ?_
   refine V.gon h451 (V.mk [(83, .agg #[.string key343, .int .i64 k344, .string sv345, .slice Al346 nl347 cl348, .slice Az349 nz350 cz351, .slice Ah352 nh353 ch354, .int .i64 t355])] ⟨h451.e, trivial⟩ (by kernel_rfl) [.string key343, .int .i64 k344, .string sv345, .slice Al346 nl347 cl348, .slice Az349 nz350 cz351, .slice Ah352 nh353 ch354, .int .i64 t355] 55 (fun b => .slice (some ⟨b, 0, none⟩) 1 1) (by kernel_rfl) ?_)
   intro w453 b452 heb452 hB454 hF455 hsb452
   have hF_456 := hF_431.new hF455
   have hB48_465 := hB48_440.fr0 hF455
   have hS65_466 := hS65_441.fr0 hF455
   have hq125_467 := fun hp => enR.mono (fun k hk hz => ⟨hz, hF455.block k hk (by simp)⟩) hF455.size (hq125_442 hp)
   have hq279_471 := fun hp => enR.mono (fun k hk hz => ⟨hz, hF455.block k hk (by simp)⟩) hF455.size (hq279_446 hp)
   have hq357_473 := fun hp => enR.mono (fun k hk hz => ⟨hz, hF455.block k hk (by simp)⟩) hF455.size (hq357_448 hp)
   have hB429_475 := hB429.fr0 hF455
   refine V.pt h451 fun a h476 => ?_
   refine V.clg h476 (Go.Proofs.enters_of Tryz.func15 (by kernel_rfl) rfl) (rsame1_to w453 b427 b452 [.string key265, .int .i64 k266, .string sv267, .slice Al268 nl269 cl270, .slice Az271 nz272 cz273, .slice Ah274 nh275 ch276, .int .i64 t277] [.string key343, .int .i64 k344, .string sv345, .slice Al346 nl347 cl348, .slice Az349 nz350 cz351, .slice Ah352 nh353 ch354, .int .i64 t355] (fdE (cutD p) key2) hB429_475 hB454 (en_old (hq279_471 trivial)) (en_old (hq357_473 trivial))) ?_
   rintro _ w478 ⟨rfl, hF477⟩
   refine ⟨_, rfl, fun a h479 => ?_⟩
   have hsw478 := hF477.size
   have hF_480 := hF_456.new hF477
   have hB48_489 := hB48_465.fr0 hF477
   have hS65_490 := hS65_466.fr0 hF477
   have hq125_491 := fun hp => enR.mono (fun k hk hz => ⟨hz, hF477.block k hk (by simp)⟩) hF477.size (hq125_467 hp)
   have hq279_495 := fun hp => enR.mono (fun k hk hz => ⟨hz, hF477.block k hk (by simp)⟩) hF477.size (hq279_471 hp)
   have hq357_497 := fun hp => enR.mono (fun k hk hz => ⟨hz, hF477.block k hk (by simp)⟩) hF477.size (hq357_473 hp)
   refine V.re h479 [] 86 86 [(87, .bool false)] fun a h501 => k425 _ _ ?_
   refine V.cf h501 ?_
   refine V.skip ?_
   refine V.then_n (k257 _ _ ?_)
   refine V.sg fun K502 k503 => ?_
   refine V.run h501 [(2, .b hB48_489 0)] 3 90 90 [(89, .slice A63 ((putL (cutD p) (⟨key, k, s, l.take 40, z.take 40, h.take 40, at'⟩ : EnD)).length) c64), (91, .string key)] fun a h504 => ?_
   refine V.cl h504 (Go.Proofs.enters_of Tryz.func28 (by kernel_rfl) rfl) (dele_to w478 A63 c64 (putL (cutD p) (⟨key, k, s, l.take 40, z.take 40, h.take 40, at'⟩ : EnD)) hS65_490.old key (put_sm (cut_sm p) (few_sm ⟨key, k, s, l, z, h, at'⟩)) (by have := put_len (x := (⟨key, k, s, l.take 40, z.take 40, h.take 40, at'⟩ : EnD)) (cut_len p); omega) true (decide_eq_true (put_find hz0).2)) ?_
   rintro _ w509 ⟨A505, c506, rfl, hS507, hF508⟩
   refine ⟨_, rfl, fun a h510 => ?_⟩
   have hsw509 := hF508.size
   have hF_511 := hF_480.new hF508
   have hB48_520 := hB48_489.fr0 hF508
   have hq125_522 := fun hp => enR.mono (fun k hk hz => ⟨hz, hF508.block k hk (by simp)⟩) hF508.size (hq125_491 hp)
   have hq279_526 := fun hp => enR.mono (fun k hk hz => ⟨hz, hF508.block k hk (by simp)⟩) hF508.size (hq279_495 hp)
   have hq357_528 := fun hp => enR.mono (fun k hk hz => ⟨hz, hF508.block k hk (by simp)⟩) hF508.size (hq357_497 hp)
   refine V.re h510 [] 88 94 [(15, .slice A505 ((delL (putL (cutD p) (⟨key, k, s, l.take 40, z.take 40, h.take 40, at'⟩ : EnD)) key).length) c506), (16, .bool true)] fun a h532 => k503 _ _ ?_
   refine V.sg fun K533 k534 => ?_
   refine V.run h532 [(2, .b hB48_520 0)] 3 97 97 [(96, .slice A505 ((delL (putL (cutD p) (⟨key, k, s, l.take 40, z.take 40, h.take 40, at'⟩ : EnD)) key).length) c506), (98, .string key)] fun a h535 => ?_
   refine V.cl h535 (Go.Proofs.enters_of Tryz.func26 (by kernel_rfl) rfl) (find_to w509 A505 c506 (delL (putL (cutD p) (⟨key, k, s, l.take 40, z.take 40, h.take 40, at'⟩ : EnD)) key) hS507.old key (del_sm (put_sm (cut_sm p) (few_sm ⟨key, k, s, l, z, h, at'⟩))) false (fdE (delL (putL (cutD p) (⟨key, k, s, l.take 40, z.take 40, h.take 40, at'⟩ : EnD)) key) key) (decide_eq_false (fun q => q (del_gone (srt_img (put_img hz0 (by have := cut_len p; omega)))))) rfl) ?_
   rintro _ w552 ⟨key536, k537, sv538, Al539, nl540, cl541, Az542, nz543, cz544, Ah545, nh546, ch547, t548, rfl, hF549, hr551⟩
   refine ⟨_, rfl, fun a h553 => ?_⟩
   have hsw552 := hF549.size
   have hF_554 := hF_511.new hF549
   have hq125_565 := fun hp => enR.mono (fun k hk hz => ⟨hz, hF549.block k hk (by simp)⟩) hF549.size (hq125_522 hp)
   have hq279_569 := fun hp => enR.mono (fun k hk hz => ⟨hz, hF549.block k hk (by simp)⟩) hF549.size (hq279_526 hp)
   have hq357_571 := fun hp => enR.mono (fun k hk hz => ⟨hz, hF549.block k hk (by simp)⟩) hF549.size (hq357_528 hp)
   have hS507_575 := hS507.fr0 hF549
   have hq550 := fun (_ : True) => hr551
   refine V.run h553 [] 3 95 95 [(100, .agg #[.string key536, .int .i64 k537, .string sv538, .slice Al539 nl540 cl541, .slice Az542 nz543 cz544, .slice Ah545 nh546 ch547, .int .i64 t548]), (101, .bool false)] fun a h580 => ?_
   refine V.go (V.mk [] trivial (by kernel_rfl) [.string ⟨#[]⟩, .int .i64 0, .string ⟨#[]⟩, .slice none 0 0, .slice none 0 0, .slice none 0 0, .int .i64 0] 55 (fun b => .pointer (some ⟨b, 0, none⟩)) (by kernel_rfl) ?_)
   intro w577 b576 heb576 hB578 hF579 hsb576
   have hF_581 := hF_554.new hF579
   have hq125_592 := fun hp => enR.mono (fun k hk hz => ⟨hz, hF579.block k hk (by simp)⟩) hF579.size (hq125_565 hp)
   have hq279_596 := fun hp => enR.mono (fun k hk hz => ⟨hz, hF579.block k hk (by simp)⟩) hF579.size (hq279_569 hp)
   have hq357_598 := fun hp => enR.mono (fun k hk hz => ⟨hz, hF579.block k hk (by simp)⟩) hF579.size (hq357_571 hp)
   have hS507_602 := hS507_575.fr0 hF579
   have hq550_603 := fun hp => enR.mono (fun k hk hz => ⟨hz, hF579.block k hk (by simp)⟩) hF579.size (hq550 hp)
   refine V.pt h580 fun a h604 => ?_
   refine V.go (V.stn b576 0 (.agg #[.string key536, .int .i64 k537, .string sv538, .slice Al539 nl540 cl541, .slice Az542 nz543 cz544, .slice Ah545 nh546 ch547, .int .i64 t548]) [.string key536, .int .i64 k537, .string sv538, .slice Al539 nl540 cl541, .slice Az542 nz543 cz544, .slice Ah545 nh546 ch547, .int .i64 t548] h604.e h604.e rfl rfl (by kernel_rfl) hB578 (by simp) [.string key536, .int .i64 k537, .string sv538, .slice Al539 nl540 cl541, .slice Az542 nz543 cz544, .slice Ah545 nh546 ch547, .int .i64 t548] rfl ?_)
   intro w605 hB606 hF607 hsw605
   have hF_608 := hF_581.own hF607 (by simp <;> omega)
   have hq125_619 := fun hp => enR.mono (fun k hk hz => ⟨hz, hF607.block k hk (by (try dsimp only at hz); simp <;> omega)⟩) hF607.size (hq125_592 hp)
   have hq279_623 := fun hp => enR.mono (fun k hk hz => ⟨hz, hF607.block k hk (by (try dsimp only at hz); simp <;> omega)⟩) hF607.size (hq279_596 hp)
   have hq357_625 := fun hp => enR.mono (fun k hk hz => ⟨hz, hF607.block k hk (by (try dsimp only at hz); simp <;> omega)⟩) hF607.size (hq357_598 hp)
   have hS507_629 := hS507_602.fr hF607 (by simp <;> omega)
   have hq550_630 := fun hp => enR.mono (fun k hk hz => ⟨hz, hF607.block k hk (by (try dsimp only at hz); simp <;> omega)⟩) hF607.size (hq550_603 hp)
   refine V.re h604 [] 1 0 [(18, .bool false)] fun a h631 => k534 _ _ ?_
   have h632 := h631.only [(15, .slice A505 ((delL (putL (cutD p) (⟨key, k, s, l.take 40, z.take 40, h.take 40, at'⟩ : EnD)) key).length) c506), (16, .bool true), (18, .bool false)]
   refine V.sg fun K633 k634 => ?_
   refine V.run h632 [] 7 102 106 [(107, .bool true), (108, .slice A505 ((delL (putL (cutD p) (⟨key, k, s, l.take 40, z.take 40, h.take 40, at'⟩ : EnD)) key).length) c506)] fun a h635 => ?_
   refine V.clg h635 (Go.Proofs.enters_of Tryz.func21 (by kernel_rfl) rfl) (rcheck_to w605 A505 c506 (delL (putL (cutD p) (⟨key, k, s, l.take 40, z.take 40, h.take 40, at'⟩ : EnD)) key) hS507_629.old 0 (del_img (put_img hz0 (by have := cut_len p; omega)))) ?_
   rintro _ w637 ⟨rfl, hF636⟩
   refine ⟨_, rfl, fun a h638 => ?_⟩
   have hsw637 := hF636.size
   have hF_639 := hF_608.new hF636
   have hq125_650 := fun hp => enR.mono (fun k hk hz => ⟨hz, hF636.block k hk (by simp)⟩) hF636.size (hq125_619 hp)
   have hq279_654 := fun hp => enR.mono (fun k hk hz => ⟨hz, hF636.block k hk (by simp)⟩) hF636.size (hq279_623 hp)
   have hq357_656 := fun hp => enR.mono (fun k hk hz => ⟨hz, hF636.block k hk (by simp)⟩) hF636.size (hq357_625 hp)
   have hq550_661 := fun hp => enR.mono (fun k hk hz => ⟨hz, hF636.block k hk (by simp)⟩) hF636.size (hq550_630 hp)
   refine V.run h638 [] 3 110 111 [(112, .bool true)] fun a h663 => ?_
   refine V.clg h663 (Go.Proofs.enters_of Tryz.func16 (by kernel_rfl) rfl) (alive_any w637 (hV.fr hF_639)) ?_
   rintro _ w665 ⟨rfl, hF664⟩
   refine ⟨_, rfl, fun a h666 => ?_⟩
   have hsw665 := hF664.size
   have hF_667 := hF_639.new hF664
   have hq125_678 := fun hp => enR.mono (fun k hk hz => ⟨hz, hF664.block k hk (by simp)⟩) hF664.size (hq125_650 hp)
   have hq279_682 := fun hp => enR.mono (fun k hk hz => ⟨hz, hF664.block k hk (by simp)⟩) hF664.size (hq279_654 hp)
   have hq357_684 := fun hp => enR.mono (fun k hk hz => ⟨hz, hF664.block k hk (by simp)⟩) hF664.size (hq357_656 hp)
   have hq550_689 := fun hp => enR.mono (fun k hk hz => ⟨hz, hF664.block k hk (by simp)⟩) hF664.size (hq550_661 hp)
   refine V.re h666 [] 114 114 [(6, .bool true)] fun a h691 => k634 _ _ ?_
   refine V.ret ?_
   refine V.r1 h691 (.bool true) ?_
   exact ⟨rfl, hF_667⟩
  ·
   refine V.skip ?_
   refine V.then_n (k257 _ _ ?_)
   refine V.sg fun K692 k693 => ?_
   refine V.run h260 [(2, .b hB48_248 0)] 3 90 90 [(89, .slice A63 ((putL (cutD p) (⟨key, k, s, l.take 40, z.take 40, h.take 40, at'⟩ : EnD)).length) c64), (91, .string key)] fun a h694 => ?_
   refine V.cl h694 (Go.Proofs.enters_of Tryz.func28 (by kernel_rfl) rfl) (dele_to w237 A63 c64 (putL (cutD p) (⟨key, k, s, l.take 40, z.take 40, h.take 40, at'⟩ : EnD)) hS65_249.old key (put_sm (cut_sm p) (few_sm ⟨key, k, s, l, z, h, at'⟩)) (by have := put_len (x := (⟨key, k, s, l.take 40, z.take 40, h.take 40, at'⟩ : EnD)) (cut_len p); omega) true (decide_eq_true (put_find hz0).2)) ?_
   rintro _ w699 ⟨A695, c696, rfl, hS697, hF698⟩
   refine ⟨_, rfl, fun a h700 => ?_⟩
   have hsw699 := hF698.size
   have hF_701 := hF_239.new hF698
   have hB48_710 := hB48_248.fr0 hF698
   have hq125_712 := fun hp => enR.mono (fun k hk hz => ⟨hz, hF698.block k hk (by simp)⟩) hF698.size (hq125_250 hp)
   refine V.re h700 [] 88 94 [(15, .slice A695 ((delL (putL (cutD p) (⟨key, k, s, l.take 40, z.take 40, h.take 40, at'⟩ : EnD)) key).length) c696), (16, .bool true)] fun a h716 => k693 _ _ ?_
   refine V.sg fun K717 k718 => ?_
   refine V.run h716 [(2, .b hB48_710 0)] 3 97 97 [(96, .slice A695 ((delL (putL (cutD p) (⟨key, k, s, l.take 40, z.take 40, h.take 40, at'⟩ : EnD)) key).length) c696), (98, .string key)] fun a h719 => ?_
   refine V.cl h719 (Go.Proofs.enters_of Tryz.func26 (by kernel_rfl) rfl) (find_to w699 A695 c696 (delL (putL (cutD p) (⟨key, k, s, l.take 40, z.take 40, h.take 40, at'⟩ : EnD)) key) hS697.old key (del_sm (put_sm (cut_sm p) (few_sm ⟨key, k, s, l, z, h, at'⟩))) false (fdE (delL (putL (cutD p) (⟨key, k, s, l.take 40, z.take 40, h.take 40, at'⟩ : EnD)) key) key) (decide_eq_false (fun q => q (del_gone (srt_img (put_img hz0 (by have := cut_len p; omega)))))) rfl) ?_
   rintro _ w736 ⟨key720, k721, sv722, Al723, nl724, cl725, Az726, nz727, cz728, Ah729, nh730, ch731, t732, rfl, hF733, hr735⟩
   refine ⟨_, rfl, fun a h737 => ?_⟩
   have hsw736 := hF733.size
   have hF_738 := hF_701.new hF733
   have hq125_749 := fun hp => enR.mono (fun k hk hz => ⟨hz, hF733.block k hk (by simp)⟩) hF733.size (hq125_712 hp)
   have hS697_753 := hS697.fr0 hF733
   have hq734 := fun (_ : True) => hr735
   refine V.run h737 [] 3 95 95 [(100, .agg #[.string key720, .int .i64 k721, .string sv722, .slice Al723 nl724 cl725, .slice Az726 nz727 cz728, .slice Ah729 nh730 ch731, .int .i64 t732]), (101, .bool false)] fun a h758 => ?_
   refine V.go (V.mk [] trivial (by kernel_rfl) [.string ⟨#[]⟩, .int .i64 0, .string ⟨#[]⟩, .slice none 0 0, .slice none 0 0, .slice none 0 0, .int .i64 0] 55 (fun b => .pointer (some ⟨b, 0, none⟩)) (by kernel_rfl) ?_)
   intro w755 b754 heb754 hB756 hF757 hsb754
   have hF_759 := hF_738.new hF757
   have hq125_770 := fun hp => enR.mono (fun k hk hz => ⟨hz, hF757.block k hk (by simp)⟩) hF757.size (hq125_749 hp)
   have hS697_774 := hS697_753.fr0 hF757
   have hq734_775 := fun hp => enR.mono (fun k hk hz => ⟨hz, hF757.block k hk (by simp)⟩) hF757.size (hq734 hp)
   refine V.pt h758 fun a h776 => ?_
   refine V.go (V.stn b754 0 (.agg #[.string key720, .int .i64 k721, .string sv722, .slice Al723 nl724 cl725, .slice Az726 nz727 cz728, .slice Ah729 nh730 ch731, .int .i64 t732]) [.string key720, .int .i64 k721, .string sv722, .slice Al723 nl724 cl725, .slice Az726 nz727 cz728, .slice Ah729 nh730 ch731, .int .i64 t732] h776.e h776.e rfl rfl (by kernel_rfl) hB756 (by simp) [.string key720, .int .i64 k721, .string sv722, .slice Al723 nl724 cl725, .slice Az726 nz727 cz728, .slice Ah729 nh730 ch731, .int .i64 t732] rfl ?_)
   intro w777 hB778 hF779 hsw777
   have hF_780 := hF_759.own hF779 (by simp <;> omega)
   have hq125_791 := fun hp => enR.mono (fun k hk hz => ⟨hz, hF779.block k hk (by (try dsimp only at hz); simp <;> omega)⟩) hF779.size (hq125_770 hp)
   have hS697_795 := hS697_774.fr hF779 (by simp <;> omega)
   have hq734_796 := fun hp => enR.mono (fun k hk hz => ⟨hz, hF779.block k hk (by (try dsimp only at hz); simp <;> omega)⟩) hF779.size (hq734_775 hp)
   refine V.re h776 [] 1 0 [(18, .bool false)] fun a h797 => k718 _ _ ?_
   refine V.sg fun K798 k799 => ?_
   refine V.run h797 [] 7 102 106 [(107, .bool true), (108, .slice A695 ((delL (putL (cutD p) (⟨key, k, s, l.take 40, z.take 40, h.take 40, at'⟩ : EnD)) key).length) c696)] fun a h800 => ?_
   refine V.clg h800 (Go.Proofs.enters_of Tryz.func21 (by kernel_rfl) rfl) (rcheck_to w777 A695 c696 (delL (putL (cutD p) (⟨key, k, s, l.take 40, z.take 40, h.take 40, at'⟩ : EnD)) key) hS697_795.old 0 (del_img (put_img hz0 (by have := cut_len p; omega)))) ?_
   rintro _ w802 ⟨rfl, hF801⟩
   refine ⟨_, rfl, fun a h803 => ?_⟩
   have hsw802 := hF801.size
   have hF_804 := hF_780.new hF801
   have hq125_815 := fun hp => enR.mono (fun k hk hz => ⟨hz, hF801.block k hk (by simp)⟩) hF801.size (hq125_791 hp)
   have hq734_820 := fun hp => enR.mono (fun k hk hz => ⟨hz, hF801.block k hk (by simp)⟩) hF801.size (hq734_796 hp)
   refine V.run h803 [] 3 110 111 [(112, .bool true)] fun a h822 => ?_
   refine V.clg h822 (Go.Proofs.enters_of Tryz.func16 (by kernel_rfl) rfl) (alive_any w802 (hV.fr hF_804)) ?_
   rintro _ w824 ⟨rfl, hF823⟩
   refine ⟨_, rfl, fun a h825 => ?_⟩
   have hsw824 := hF823.size
   have hF_826 := hF_804.new hF823
   have hq125_837 := fun hp => enR.mono (fun k hk hz => ⟨hz, hF823.block k hk (by simp)⟩) hF823.size (hq125_815 hp)
   have hq734_842 := fun hp => enR.mono (fun k hk hz => ⟨hz, hF823.block k hk (by simp)⟩) hF823.size (hq734_820 hp)
   refine V.re h825 [] 114 114 [(6, .bool true)] fun a h844 => k799 _ _ ?_
   refine V.ret ?_
   refine V.r1 h844 (.bool true) ?_
   exact ⟨rfl, hF_826⟩
end Go.Proofs.YtdebkbfnngkdlaaGreatDoor
end
