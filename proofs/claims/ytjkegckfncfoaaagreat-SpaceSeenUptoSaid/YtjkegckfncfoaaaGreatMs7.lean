/- Joined texts: De, Df, Opn, Hn, Hp. -/
import Derived.Test.YtjkegckfncfoaaaGreatProg
import Derived.Test.YtjkegckfncfoaaaGreatRows
import Derived.Deep.Slices
import Derived.Lib.SmallJoins
import Derived.ProofKit
import Derived.ChangeSame
import Derived.Test.YtjkegckfncfoaaaGreatMs6
section
namespace Go.Proofs.YtjkegckfncfoaaaGreat
open Go.V Go.Base
open Go.RowKit (Below)
attribute [local irreducible] Act.put Act.eval
set_option linter.unusedVariables false
set_option linter.unusedSimpArgs false
theorem skeys0_any (w : World) {H Vb : Nat → Prop} {sp t : Nat} {T : Tb EntV} {D : ByteArray → Option EnD} (hq : SpX w H Vb sp t T D) : Calls Tryz.prog 34 #[.pointer (some ⟨sp, 0, none⟩), .func (.func 35) #[] #[]] w (fun e w' => ∃ A c l, e = .returned (.slice A l.length c) ∧ OwR Rp.str NoZ w' w.heap.size 9 (.slice A l.length c) l ∧ KeysOf D (fun _ => true) l ∧ l.length ≤ 65536 ∧ Fr [] w w') :=
  (sorted0_any w H Vb sp t T D hq 35 (enters_of Tryz.func35 (by kernel_rfl) rfl) (fun _ => true) (fun W v _ => pick1_any W v)).mono fun e w' ⟨A, c, h1, h2, h3⟩ => ⟨A, c, _, h1, h2, keys_of hq _, by
    rw [srtK_len]
    have h4 := keysP_le (fun _ => true) (T.a ++ T.b).flatten
    have h5 := hq.hT.1.cn
    have h6 := hq.hM
    omega, h3⟩
/-- Is a key seen? The key at a draw's place and so many further, going round. -/
def SeenK (D : ByteArray → Option EnD) (role now : Int) (k : ByteArray) : Prop := ∃ x, D k = some x ∧ seenD role now x.till
def rotK (l : List ByteArray) (d j : Nat) : ByteArray := at_ Rp.str l (((d % l.length + j) % l.length : Nat) : Int)
def PickS (D : ByteArray → Option EnD) (role now : Int) (d : Nat) (l : List ByteArray) (k : ByteArray) (f : Bool) : Prop :=
  (∃ j, j < l.length ∧ (∀ j2, j2 < j → ¬ SeenK D role now (rotK l d j2)) ∧ SeenK D role now (rotK l d j) ∧ k = rotK l d j ∧ f = true) ∨ ((∀ j, j < l.length → ¬ SeenK D role now (rotK l d j)) ∧ k = ⟨#[]⟩ ∧ f = false)
theorem rot_next {d j n : Nat} (h : 0 < n) : ((((d % n + j) % n + 1) % n : Nat) : Int) = (((d % n + (j + 1)) % n : Nat) : Int) := by rw [Nat.mod_add_mod, Nat.add_assoc]
theorem at_str {l : List ByteArray} {i : Nat} (hi : i < l.length) : at_ Rp.str l (i : Int) = l[i] := by unfold at_; rw [Int.toNat_natCast, List.getD_eq_getElem?_getD, List.getElem?_eq_getElem hi]; rfl
section
variable {w : World} {H Vb : Nat → Prop} {sp t : Nat} {T : Tb EntV} {D : ByteArray → Option EnD} (hq : SpX w H Vb sp t T D) {l : List ByteArray} (hkl : KeysOf D (fun _ => true) l) {i : Nat} (hi : i < l.length)
include hq hkl hi
theorem key_in : ∃ x, D (at_ Rp.str l (i : Int)) = some x ∧ x.key = at_ Rp.str l (i : Int) ∧ okD x ∧ (lookT EntV.nil T (at_ Rp.str l (i : Int))).1.till = x.till := by
  obtain ⟨x, hD, _⟩ := (hkl.2 _).1 (show at_ Rp.str l (i : Int) ∈ l by rw [at_str hi]; exact List.getElem_mem hi)
  rcases hq.look (at_ Rp.str l (i : Int)) with ⟨_, h2⟩ | ⟨y, h1, h2, h3, h4, h5⟩
  · rw [hD] at h2; cases h2
  · rw [hD] at h2
    injection h2 with h2
    subst h2
    exact ⟨x, hD, h3, h4, h5.2.2.1⟩
theorem seen_key {role now : Int} : seenD role now (lookT EntV.nil T (at_ Rp.str l (i : Int))).1.till ↔ SeenK D role now (at_ Rp.str l (i : Int)) := by
  obtain ⟨x, hD, _, _, ht⟩ := key_in hq hkl hi
  rw [ht]
  refine ⟨fun h => ⟨x, hD, h⟩, fun ⟨y, hy, h⟩ => ?_⟩
  rw [hD] at hy
  injection hy with hy
  subst hy
  exact h
theorem keys_sz : (at_ Rp.str l (i : Int)).size ≤ 65536 := by
  obtain ⟨x, _, hk, hok, _⟩ := key_in hq hkl hi
  rw [← hk]
  exact (okD_bnd hok).1
end
set_option maxHeartbeats 4000000 in
set_option maxRecDepth 20000 in
theorem pickr_any (w : World) (H Vb : Nat → Prop) (sp t : Nat) (T : Tb EntV) (D : ByteArray → Option EnD) (hq : SpX w H Vb sp t T D) (now : Int) (dr : Nat) (role : Int) (Aa : Option Addr) (na ca : Nat) (hdr : dr < 18446744073709551616) (hr1 : ¬ role = 1) : Calls Tryz.prog 11 #[.pointer (some ⟨sp, 0, none⟩), .agg #[.int .i64 now, .int .u64 (dr : Int), .int .i64 role, .slice Aa na ca]] w (fun e w' => ∃ k f l, e = .returned (.tuple #[.string k, .bool f, .slice none 0 0]) ∧ KeysOf D (fun _ => true) l ∧ PickS D role now dr l k f ∧ Fr [] w w') := by
 have hF := Fr.refl [] w
 have hX := hq
 have hB := hq.hB
 have hspl := hB.lt
 have hX0 := hq.lt
 have hcn := hq.hT.1.cn
 have hM := hq.hM
 refine V.en 79 Tryz.func11 fun a h1 => ?_
 refine V.sg fun K2 k3 => ?_
 refine V.go (V.mk [(1, .agg #[.int .i64 now, .int .u64 (dr : Int), .int .i64 role, .slice Aa na ca])] ⟨h1.e, trivial⟩ (by kernel_rfl) [.int .i64 now, .int .u64 (dr : Int), .int .i64 role, .slice Aa na ca] 27 (fun b => .pointer (some ⟨b, 0, none⟩)) (by kernel_rfl) ?_)
 intro w5 b4 heb4 hB6 hF7 hsb4
 have hX_8 := hX.fr0 hF7
 have hB_9 := hB.fr0 hF7
 have hF_10 := hF.new hF7
 refine V.pt h1 fun a h11 => ?_
 refine V.re h11 [] 4 6 [] fun a h12 => k3 _ _ ?_
 refine V.sg fun K13 k14 => ?_
 refine V.run h12 [] 1 1 0 [(13, .pointer (some ⟨sp, 0, none⟩))] fun a h15 => ?_
 refine V.cl h15 (Go.Proofs.enters_of Tryz.func34 (by kernel_rfl) rfl) (skeys0_any w5 hX_8) ?_
 rintro _ w23 ⟨A16, c17, l18, rfl, hO19, hk20, hn22, hF21⟩
 refine ⟨_, rfl, fun a h24 => ?_⟩
 have hsw23 := hF21.size
 have hX_25 := hX_8.fr0 hF21
 have hB_26 := hB_9.fr0 hF21
 have hF_27 := hF_10.new hF21
 have hB6_28 := hB6.fr0 hF21
 refine V.re h24 [] 1 0 [(7, .slice A16 l18.length c17)] fun a h29 => k14 _ _ ?_
 refine V.sr h29 [] 1 0 [(8, .slice none 0 0)] fun a h32 => ?_
 refine V.seq fun K33 k34 => ?_
 refine V.seq fun K35 k36 => ?_
 have hkl := hk20
 refine V.rr h32 [(1, .b hB6_28 1)] 15 16 [(9, .int .u64 (dr : Int))] fun a h37 => ?_
 refine V.then_n (k36 _ _ ?_)
 refine V.block ?_
 refine V.loopR 1 ?_
 refine V.rnd ?_
 refine V.seq fun K38 k39 => ?_
 refine V.sr h37 [] 17 18 [(19, .bool (decide (((l18.length : Nat) : Int) > 0)))] fun a h42 => ?_
 refine V.cp h42 (((l18.length : Nat) : Int) > 0) (fun ht43 => ?_) (fun ht43 => ?_)
 ·
  refine V.skip ?_
  refine V.then_n (k39 _ _ ?_)
  refine V.seq fun K44 k45 => ?_
  refine V.block ?_
  refine V.seq fun K46 k47 => ?_
  have hdm := Nat.mod_lt dr (show 0 < l18.length by omega)
  refine V.rr h42 [(3, .q (.int .u64 ((l18.length : Nat) : Int)) (V.w_u64 (by omega) (by omega))), (0, .remN .u64 dr l18.length), (0, .q (.int .i64 ((dr % l18.length : Nat) : Int)) (V.w_i64 (by omega) (by omega)))] 22 27 [(10, .int .i64 ((dr % l18.length : Nat) : Int))] fun a h48 => ?_
  refine V.then_n (k47 _ _ ?_)
  refine V.seq fun K49 k50 => ?_
  refine V.sr h48 [] 28 28 [(29, .int .i64 ((l18.length : Nat) : Int)), (30, .int .i64 0)] fun a h53 => ?_
  refine V.block ?_
  refine V.loop1 (fun (j : Nat) a_ w_ => En 79 [] a_ [(0, .pointer (some ⟨sp, 0, none⟩)), (3, .pointer (some ⟨b4, 0, none⟩)), (7, .slice A16 l18.length c17), (8, .slice none 0 0), (9, .int .u64 (dr : Int)), (10, .int .i64 (((dr % l18.length + j) % l18.length : Nat) : Int)), (29, .int .i64 ((l18.length : Nat) : Int)), (30, .int .i64 (j : Int))] ∧ SpX w_ H Vb sp t T D ∧ Blk w_ sp [.pointer (some ⟨t, 0, none⟩)] 63 ∧ Fr [] w w_ ∧ Blk w_ b4 [.int .i64 now, .int .u64 (dr : Int), .int .i64 role, .slice Aa na ca] 27 ∧ OwR Rp.str NoZ w_ w5.heap.size 9 (.slice A16 l18.length c17) l18 ∧ (j ≤ l18.length) ∧ (∀ j2, j2 < j → ¬ SeenK D role now (rotK l18 dr j2))) (fun (j : Nat) => l18.length - j) 0 ?_ ?_
  ·
   refine ⟨((h53.eq 10 (v := (.int .i64 ((dr % l18.length : Nat) : Int))) (u := (.int .i64 (((dr % l18.length + 0) % l18.length : Nat) : Int))) (V.int_eq (by rw [Nat.add_zero, Nat.mod_mod]))).eq 30 (v := (.int .i64 0)) (u := (.int .i64 (0 : Int))) (V.int_eq (by omega))).only _, hX_25, hB_26, hF_27, hB6_28, hO19, (by omega), (fun j2 h => absurd h (by omega))⟩
  ·
   rintro j a54 w55 ⟨h56, hX_57, hB_58, hF_59, hB6_60, hO19_61, hj, hG⟩
   have hlt62 := hB_58.lt
   have hfs63 := hF_59.size
   have hlt64 := hB6_60.lt
   refine V.sr h56 [] 1 0 [(31, .bool (decide ((j : Int) < ((l18.length : Nat) : Int))))] fun a h67 => ?_
   refine V.seq fun K68 k69 => ?_
   refine V.cp h67 ((j : Int) < ((l18.length : Nat) : Int)) (fun ht70 => ?_) (fun ht70 => ?_)
   ·
    refine V.skip ?_
    refine V.then_n (k69 _ _ ?_)
    refine V.seq fun K71 k72 => ?_
    refine V.block ?_
    refine V.seq fun K73 k74 => ?_
    refine V.seq fun K75 k76 => ?_
    have hjm := Nat.mod_lt (dr % l18.length + j) (show 0 < l18.length by omega)
    have hks := keys_sz hq hkl hjm
    refine V.ql (.seg [0, 1, 2, 3, 4, 5, 6, 7] (.alt (.eff 8 [] (.seg [9, 10, 11] (.eff 12 [3, 7] (.eff 13 [] (.seg [14] .nil))))) (.eff 12 [3, 7] (.eff 8 [] (.seg [9, 10, 11] (.eff 13 [] (.seg [14] .nil))))))) fun w77 hF78 hsw77 => ?_
    have hX_79 := hX_57.fr0 hF78
    have hB_80 := hB_58.fr0 hF78
    have hF_81 := hF_59.new hF78
    have hB6_82 := hB6_60.fr0 hF78
    have hO19_83 := hO19_61.fr0 hF78
    have hS84 := hO19_83.is
    obtain ⟨g85, o86, hA87, hA87l, hA87z⟩ := hS84.addr (by omega)
    obtain ⟨cs88, hok89, hE90⟩ := hS84.els hA87 (((dr % l18.length + j) % l18.length : Nat) : Int) (by omega) (by omega)
    obtain rfl : cs88 = [.string (at_ Rp.str l18 (((dr % l18.length + j) % l18.length : Nat) : Int))] := hok89
    refine V.qs h67 [(3, .b hB_80 0), (2, .ix g85 o86 l18.length c17 .i64 (((dr % l18.length + j) % l18.length : Nat) : Int) 1 hA87), (0, .l ⟨g85, o86 + (((dr % l18.length + j) % l18.length : Nat) : Int).toNat * 1, none⟩ (.string (at_ Rp.str l18 (((dr % l18.length + j) % l18.length : Nat) : Int))) (hE90.at 0 rfl))] 33 38 [(35, .pointer (some ⟨sp, 0, none⟩)), (36, .pointer (some ⟨t, 0, none⟩)), (39, .pointer (some ⟨g85, o86 + (((dr % l18.length + j) % l18.length : Nat) : Int).toNat * 1, none⟩)), (40, .string (at_ Rp.str l18 (((dr % l18.length + j) % l18.length : Nat) : Int)))] fun a h91 => ?_
    refine V.qa ?_ ?_
    ·
     refine V.qe ?_
     refine V.cl h91 (Go.Proofs.enters_of Tryz.func37 (by kernel_rfl) rfl) (look_any w77 (H) [] t (T) hX_79.hT (at_ Rp.str l18 (((dr % l18.length + j) % l18.length : Nat) : Int)) (by omega)) ?_
     rintro _ w93 ⟨rfl, hF92⟩
     refine ⟨_, rfl, fun a h94 => ?_⟩
     have hsw93 := hF92.size
     have hX_95 := hX_79.fr0 hF92
     have hB_96 := hB_80.fr0 hF92
     have hF_97 := hF_81.new hF92
     have hB6_98 := hB6_82.fr0 hF92
     have hO19_99 := hO19_83.fr0 hF92
     have hS84_100 := hS84.fr0 hF92
     have hE90_101 := hE90.fr0 hF92
     refine V.eh trivial ?_
     refine V.qs h94 [] 32 32 [(42, .agg #[.int .i64 (((lookT EntV.nil T (at_ Rp.str l18 (((dr % l18.length + j) % l18.length : Nat) : Int))).1).kind), .string (((lookT EntV.nil T (at_ Rp.str l18 (((dr % l18.length + j) % l18.length : Nat) : Int))).1).s), .slice (((lookT EntV.nil T (at_ Rp.str l18 (((dr % l18.length + j) % l18.length : Nat) : Int))).1).l.a) (((lookT EntV.nil T (at_ Rp.str l18 (((dr % l18.length + j) % l18.length : Nat) : Int))).1).l.n) (((lookT EntV.nil T (at_ Rp.str l18 (((dr % l18.length + j) % l18.length : Nat) : Int))).1).l.c), .slice (((lookT EntV.nil T (at_ Rp.str l18 (((dr % l18.length + j) % l18.length : Nat) : Int))).1).z.a) (((lookT EntV.nil T (at_ Rp.str l18 (((dr % l18.length + j) % l18.length : Nat) : Int))).1).z.n) (((lookT EntV.nil T (at_ Rp.str l18 (((dr % l18.length + j) % l18.length : Nat) : Int))).1).z.c), .slice (((lookT EntV.nil T (at_ Rp.str l18 (((dr % l18.length + j) % l18.length : Nat) : Int))).1).h.a) (((lookT EntV.nil T (at_ Rp.str l18 (((dr % l18.length + j) % l18.length : Nat) : Int))).1).h.n) (((lookT EntV.nil T (at_ Rp.str l18 (((dr % l18.length + j) % l18.length : Nat) : Int))).1).h.c), .int .i64 (((lookT EntV.nil T (at_ Rp.str l18 (((dr % l18.length + j) % l18.length : Nat) : Int))).1).till)]), (43, .bool ((lookT EntV.nil T (at_ Rp.str l18 (((dr % l18.length + j) % l18.length : Nat) : Int))).2))] fun a h102 => ?_
     refine V.qe ?_
     refine V.go (V.mk [] trivial (by kernel_rfl) [.int .i64 0, .string ⟨#[]⟩, .slice none 0 0, .slice none 0 0, .slice none 0 0, .int .i64 0] 79 (fun b => .pointer (some ⟨b, 0, none⟩)) (by kernel_rfl) ?_)
     intro w104 b103 heb103 hB105 hF106 hsb103
     have hX_107 := hX_95.fr0 hF106
     have hB_108 := hB_96.fr0 hF106
     have hF_109 := hF_97.new hF106
     have hB6_110 := hB6_98.fr0 hF106
     have hO19_111 := hO19_99.fr0 hF106
     have hS84_112 := hS84_100.fr0 hF106
     have hE90_113 := hE90_101.fr0 hF106
     refine V.pt h102 fun a h114 => ?_
     refine V.eh ⟨(fun _ => held_blk (n := 1) (hx := (h102.e (v := (.pointer (some ⟨sp, 0, none⟩))))) hB_96 hB_108 (by kernel_rfl) rfl (by simp only [List.length]; omega)), (fun _ => held_els (m := 1) (f := 0) (hx := (h102.e (v := (.pointer (some ⟨g85, o86 + (((dr % l18.length + j) % l18.length : Nat) : Int).toNat * 1, none⟩))))) hE90_101 hE90_113 (by kernel_rfl) (by simp only [List.length]; omega))⟩ ?_
     refine V.qe ?_
     refine V.go (V.stn b103 0 (.agg #[.int .i64 (((lookT EntV.nil T (at_ Rp.str l18 (((dr % l18.length + j) % l18.length : Nat) : Int))).1).kind), .string (((lookT EntV.nil T (at_ Rp.str l18 (((dr % l18.length + j) % l18.length : Nat) : Int))).1).s), .slice (((lookT EntV.nil T (at_ Rp.str l18 (((dr % l18.length + j) % l18.length : Nat) : Int))).1).l.a) (((lookT EntV.nil T (at_ Rp.str l18 (((dr % l18.length + j) % l18.length : Nat) : Int))).1).l.n) (((lookT EntV.nil T (at_ Rp.str l18 (((dr % l18.length + j) % l18.length : Nat) : Int))).1).l.c), .slice (((lookT EntV.nil T (at_ Rp.str l18 (((dr % l18.length + j) % l18.length : Nat) : Int))).1).z.a) (((lookT EntV.nil T (at_ Rp.str l18 (((dr % l18.length + j) % l18.length : Nat) : Int))).1).z.n) (((lookT EntV.nil T (at_ Rp.str l18 (((dr % l18.length + j) % l18.length : Nat) : Int))).1).z.c), .slice (((lookT EntV.nil T (at_ Rp.str l18 (((dr % l18.length + j) % l18.length : Nat) : Int))).1).h.a) (((lookT EntV.nil T (at_ Rp.str l18 (((dr % l18.length + j) % l18.length : Nat) : Int))).1).h.n) (((lookT EntV.nil T (at_ Rp.str l18 (((dr % l18.length + j) % l18.length : Nat) : Int))).1).h.c), .int .i64 (((lookT EntV.nil T (at_ Rp.str l18 (((dr % l18.length + j) % l18.length : Nat) : Int))).1).till)]) [.int .i64 (((lookT EntV.nil T (at_ Rp.str l18 (((dr % l18.length + j) % l18.length : Nat) : Int))).1).kind), .string (((lookT EntV.nil T (at_ Rp.str l18 (((dr % l18.length + j) % l18.length : Nat) : Int))).1).s), .slice (((lookT EntV.nil T (at_ Rp.str l18 (((dr % l18.length + j) % l18.length : Nat) : Int))).1).l.a) (((lookT EntV.nil T (at_ Rp.str l18 (((dr % l18.length + j) % l18.length : Nat) : Int))).1).l.n) (((lookT EntV.nil T (at_ Rp.str l18 (((dr % l18.length + j) % l18.length : Nat) : Int))).1).l.c), .slice (((lookT EntV.nil T (at_ Rp.str l18 (((dr % l18.length + j) % l18.length : Nat) : Int))).1).z.a) (((lookT EntV.nil T (at_ Rp.str l18 (((dr % l18.length + j) % l18.length : Nat) : Int))).1).z.n) (((lookT EntV.nil T (at_ Rp.str l18 (((dr % l18.length + j) % l18.length : Nat) : Int))).1).z.c), .slice (((lookT EntV.nil T (at_ Rp.str l18 (((dr % l18.length + j) % l18.length : Nat) : Int))).1).h.a) (((lookT EntV.nil T (at_ Rp.str l18 (((dr % l18.length + j) % l18.length : Nat) : Int))).1).h.n) (((lookT EntV.nil T (at_ Rp.str l18 (((dr % l18.length + j) % l18.length : Nat) : Int))).1).h.c), .int .i64 (((lookT EntV.nil T (at_ Rp.str l18 (((dr % l18.length + j) % l18.length : Nat) : Int))).1).till)] h114.e h114.e rfl rfl (by kernel_rfl) hB105 (by simp) [.int .i64 (((lookT EntV.nil T (at_ Rp.str l18 (((dr % l18.length + j) % l18.length : Nat) : Int))).1).kind), .string (((lookT EntV.nil T (at_ Rp.str l18 (((dr % l18.length + j) % l18.length : Nat) : Int))).1).s), .slice (((lookT EntV.nil T (at_ Rp.str l18 (((dr % l18.length + j) % l18.length : Nat) : Int))).1).l.a) (((lookT EntV.nil T (at_ Rp.str l18 (((dr % l18.length + j) % l18.length : Nat) : Int))).1).l.n) (((lookT EntV.nil T (at_ Rp.str l18 (((dr % l18.length + j) % l18.length : Nat) : Int))).1).l.c), .slice (((lookT EntV.nil T (at_ Rp.str l18 (((dr % l18.length + j) % l18.length : Nat) : Int))).1).z.a) (((lookT EntV.nil T (at_ Rp.str l18 (((dr % l18.length + j) % l18.length : Nat) : Int))).1).z.n) (((lookT EntV.nil T (at_ Rp.str l18 (((dr % l18.length + j) % l18.length : Nat) : Int))).1).z.c), .slice (((lookT EntV.nil T (at_ Rp.str l18 (((dr % l18.length + j) % l18.length : Nat) : Int))).1).h.a) (((lookT EntV.nil T (at_ Rp.str l18 (((dr % l18.length + j) % l18.length : Nat) : Int))).1).h.n) (((lookT EntV.nil T (at_ Rp.str l18 (((dr % l18.length + j) % l18.length : Nat) : Int))).1).h.c), .int .i64 (((lookT EntV.nil T (at_ Rp.str l18 (((dr % l18.length + j) % l18.length : Nat) : Int))).1).till)] rfl ?_)
     intro w115 hB116 hF117 hsw115
     have hX_118 := hX_107.frl hF117 (by intro k hk; simp only [List.mem_singleton] at hk; subst hk; exact ⟨fun q => by have := hX0 _ (.inl q); omega, fun q => by have := hX0 _ (.inr (.inl q)); omega, fun q => by have := hX0 _ (.inr (.inr q)); omega⟩)
     have hB_119 := hB_108.fr1 hF117 (by omega)
     have hF_120 := hF_109.own hF117 (by simp <;> omega)
     have hB6_121 := hB6_110.fr1 hF117 (by omega)
     have hO19_122 := hO19_111.frn hF117 (fun h => h) (by first | exact own_ne hO19_111 (by omega) | exact own_ne2 hO19_61 (by omega))
     have hE90_123 := hE90_113.fr hF117 (by simp <;> omega)
     refine V.eh trivial ?_
     refine V.qs h114 [] 12 12 [] fun a h124 => ?_
     refine V.qn (k76 _ _ ?_)
     refine V.sg fun K125 k126 => ?_
     refine V.run h124 [(0, .bs hB6_121 0 [.int .i64 now, .int .u64 (dr : Int), .int .i64 role, .slice Aa na ca]), (0, .bs hB116 0 [.int .i64 (((lookT EntV.nil T (at_ Rp.str l18 (((dr % l18.length + j) % l18.length : Nat) : Int))).1).kind), .string (((lookT EntV.nil T (at_ Rp.str l18 (((dr % l18.length + j) % l18.length : Nat) : Int))).1).s), .slice (((lookT EntV.nil T (at_ Rp.str l18 (((dr % l18.length + j) % l18.length : Nat) : Int))).1).l.a) (((lookT EntV.nil T (at_ Rp.str l18 (((dr % l18.length + j) % l18.length : Nat) : Int))).1).l.n) (((lookT EntV.nil T (at_ Rp.str l18 (((dr % l18.length + j) % l18.length : Nat) : Int))).1).l.c), .slice (((lookT EntV.nil T (at_ Rp.str l18 (((dr % l18.length + j) % l18.length : Nat) : Int))).1).z.a) (((lookT EntV.nil T (at_ Rp.str l18 (((dr % l18.length + j) % l18.length : Nat) : Int))).1).z.n) (((lookT EntV.nil T (at_ Rp.str l18 (((dr % l18.length + j) % l18.length : Nat) : Int))).1).z.c), .slice (((lookT EntV.nil T (at_ Rp.str l18 (((dr % l18.length + j) % l18.length : Nat) : Int))).1).h.a) (((lookT EntV.nil T (at_ Rp.str l18 (((dr % l18.length + j) % l18.length : Nat) : Int))).1).h.n) (((lookT EntV.nil T (at_ Rp.str l18 (((dr % l18.length + j) % l18.length : Nat) : Int))).1).h.c), .int .i64 (((lookT EntV.nil T (at_ Rp.str l18 (((dr % l18.length + j) % l18.length : Nat) : Int))).1).till)])] 2 1 0 [(44, .agg #[.int .i64 now, .int .u64 (dr : Int), .int .i64 role, .slice Aa na ca]), (45, .agg #[.int .i64 (((lookT EntV.nil T (at_ Rp.str l18 (((dr % l18.length + j) % l18.length : Nat) : Int))).1).kind), .string (((lookT EntV.nil T (at_ Rp.str l18 (((dr % l18.length + j) % l18.length : Nat) : Int))).1).s), .slice (((lookT EntV.nil T (at_ Rp.str l18 (((dr % l18.length + j) % l18.length : Nat) : Int))).1).l.a) (((lookT EntV.nil T (at_ Rp.str l18 (((dr % l18.length + j) % l18.length : Nat) : Int))).1).l.n) (((lookT EntV.nil T (at_ Rp.str l18 (((dr % l18.length + j) % l18.length : Nat) : Int))).1).l.c), .slice (((lookT EntV.nil T (at_ Rp.str l18 (((dr % l18.length + j) % l18.length : Nat) : Int))).1).z.a) (((lookT EntV.nil T (at_ Rp.str l18 (((dr % l18.length + j) % l18.length : Nat) : Int))).1).z.n) (((lookT EntV.nil T (at_ Rp.str l18 (((dr % l18.length + j) % l18.length : Nat) : Int))).1).z.c), .slice (((lookT EntV.nil T (at_ Rp.str l18 (((dr % l18.length + j) % l18.length : Nat) : Int))).1).h.a) (((lookT EntV.nil T (at_ Rp.str l18 (((dr % l18.length + j) % l18.length : Nat) : Int))).1).h.n) (((lookT EntV.nil T (at_ Rp.str l18 (((dr % l18.length + j) % l18.length : Nat) : Int))).1).h.c), .int .i64 (((lookT EntV.nil T (at_ Rp.str l18 (((dr % l18.length + j) % l18.length : Nat) : Int))).1).till)])] fun a h127 => ?_
     refine V.cl h127 (Go.Proofs.enters_of Tryz.func31 (by kernel_rfl) rfl) (seen_any w115 now (dr : Int) role Aa na ca ((lookT EntV.nil T (at_ Rp.str l18 (((dr % l18.length + j) % l18.length : Nat) : Int))).1)) ?_
     rintro _ w129 ⟨rfl, hF128⟩
     refine ⟨_, rfl, fun a h130 => ?_⟩
     have hsw129 := hF128.size
     have hX_131 := hX_118.fr0 hF128
     have hB_132 := hB_119.fr0 hF128
     have hF_133 := hF_120.new hF128
     have hB6_134 := hB6_121.fr0 hF128
     have hO19_135 := hO19_122.fr0 hF128
     have hE90_136 := hE90_123.fr0 hF128
     have hB116_137 := hB116.fr0 hF128
     refine V.nt (k126 _ _ ?_)
     refine V.cp h130 (seenD role now (((lookT EntV.nil T (at_ Rp.str l18 (((dr % l18.length + j) % l18.length : Nat) : Int))).1).till)) (fun ht138 => ?_) (fun ht138 => ?_)
     ·
      refine V.sr h130 [(2, .ix g85 o86 l18.length c17 .i64 (((dr % l18.length + j) % l18.length : Nat) : Int) 1 hA87), (0, .l ⟨g85, o86 + (((dr % l18.length + j) % l18.length : Nat) : Int).toNat * 1, none⟩ (.string (at_ Rp.str l18 (((dr % l18.length + j) % l18.length : Nat) : Int))) (hE90_136.at 0 rfl))] 47 51 [(4, .string (at_ Rp.str l18 (((dr % l18.length + j) % l18.length : Nat) : Int))), (5, .bool true), (6, .slice none 0 0)] fun a h141 => ?_
      refine V.ret ?_
      refine V.then_r ?_
      refine V.blk_r ?_
      refine V.then_r ?_
      refine V.then_r ?_
      refine V.blk_r ?_
      refine V.then_r ?_
      refine V.blk_r ?_
      refine V.then_r ?_
      refine V.then_r ?_
      refine V.blk_r ?_
      refine V.then_r ?_
      refine V.r3 h141 (.string (at_ Rp.str l18 (((dr % l18.length + j) % l18.length : Nat) : Int))) (.bool true) (.slice none 0 0) ?_
      exact ⟨_, _, l18, rfl, hkl, .inl ⟨j, by omega, hG, (seen_key hq hkl (i := (dr % l18.length + j) % l18.length) (Nat.mod_lt _ (by omega))).1 ht138, rfl, rfl⟩, hF_133⟩
     ·
      refine V.skip ?_
      refine V.then_n (k74 _ _ ?_)
      refine V.seq fun K142 k143 => ?_
      refine V.sr h130 [(1, .b hB6_134 2), (0, .eq role 1)] 52 53 [(54, .bool (decide (role = 1)))] fun a h146 => ?_
      refine V.cp h146 (role = 1) (fun ht147 => ?_) (fun ht147 => ?_)
      · exact absurd ht147 hr1
      ·
       refine V.skip ?_
       refine V.then_n (k143 _ _ ?_)
       refine V.rr h146 [(1, .q (.int .i64 (((dr % l18.length + j) % l18.length + 1 : Nat) : Int)) (w_addN (by omega))), (2, .remN .i64 ((dr % l18.length + j) % l18.length + 1) l18.length)] 55 59 [(10, .int .i64 ((((dr % l18.length + j) % l18.length + 1) % l18.length : Nat) : Int))] fun a h148 => ?_
       refine V.blk_n ?_
       refine V.then_n (k72 _ _ ?_)
       refine V.rr h148 [(0, .i ((j : Int) + 1))] 60 60 [(30, .int .i64 ((j : Int) + 1))] fun a h149 => ?_
       refine V.then_n ?_
       have hns : ¬ SeenK D role now (rotK l18 dr j) := fun q => ht138 ((seen_key hq hkl (i := (dr % l18.length + j) % l18.length) (Nat.mod_lt _ (by omega))).2 q)
       refine ⟨j + 1, by omega, ?_⟩
       refine ⟨((h149.eq 10 (v := (.int .i64 ((((dr % l18.length + j) % l18.length + 1) % l18.length : Nat) : Int))) (u := (.int .i64 (((dr % l18.length + (j + 1)) % l18.length : Nat) : Int))) (V.int_eq (rot_next (by omega)))).eq 30 (v := (.int .i64 ((j : Int) + 1))) (u := (.int .i64 ((j + 1) : Int))) (V.int_eq (by omega))).only _, hX_131, hB_132, hF_133, hB6_134, hO19_135, (by omega), (fun j2 h => by rcases Nat.lt_or_eq_of_le (Nat.lt_succ_iff.1 h) with q | q; exact hG j2 q; (subst q; exact hns))⟩
    ·
     refine V.qe ?_
     refine V.go (V.mk [] trivial (by kernel_rfl) [.int .i64 0, .string ⟨#[]⟩, .slice none 0 0, .slice none 0 0, .slice none 0 0, .int .i64 0] 79 (fun b => .pointer (some ⟨b, 0, none⟩)) (by kernel_rfl) ?_)
     intro w151 b150 heb150 hB152 hF153 hsb150
     have hX_154 := hX_79.fr0 hF153
     have hB_155 := hB_80.fr0 hF153
     have hF_156 := hF_81.new hF153
     have hB6_157 := hB6_82.fr0 hF153
     have hO19_158 := hO19_83.fr0 hF153
     have hS84_159 := hS84.fr0 hF153
     have hE90_160 := hE90.fr0 hF153
     refine V.pt h91 fun a h161 => ?_
     refine V.eh ⟨(fun _ => held_blk (n := 1) (hx := (h91.e (v := (.pointer (some ⟨sp, 0, none⟩))))) hB_80 hB_155 (by kernel_rfl) rfl (by simp only [List.length]; omega)), (fun _ => held_els (m := 1) (f := 0) (hx := (h91.e (v := (.pointer (some ⟨g85, o86 + (((dr % l18.length + j) % l18.length : Nat) : Int).toNat * 1, none⟩))))) hE90 hE90_160 (by kernel_rfl) (by simp only [List.length]; omega))⟩ ?_
     refine V.qe ?_
     refine V.cl h161 (Go.Proofs.enters_of Tryz.func37 (by kernel_rfl) rfl) (look_any w151 (H) [] t (T) hX_154.hT (at_ Rp.str l18 (((dr % l18.length + j) % l18.length : Nat) : Int)) (by omega)) ?_
     rintro _ w163 ⟨rfl, hF162⟩
     refine ⟨_, rfl, fun a h164 => ?_⟩
     have hsw163 := hF162.size
     have hX_165 := hX_154.fr0 hF162
     have hB_166 := hB_155.fr0 hF162
     have hF_167 := hF_156.new hF162
     have hB6_168 := hB6_157.fr0 hF162
     have hO19_169 := hO19_158.fr0 hF162
     have hS84_170 := hS84_159.fr0 hF162
     have hE90_171 := hE90_160.fr0 hF162
     have hB152_172 := hB152.fr0 hF162
     refine V.eh trivial ?_
     refine V.qs h164 [] 32 32 [(42, .agg #[.int .i64 (((lookT EntV.nil T (at_ Rp.str l18 (((dr % l18.length + j) % l18.length : Nat) : Int))).1).kind), .string (((lookT EntV.nil T (at_ Rp.str l18 (((dr % l18.length + j) % l18.length : Nat) : Int))).1).s), .slice (((lookT EntV.nil T (at_ Rp.str l18 (((dr % l18.length + j) % l18.length : Nat) : Int))).1).l.a) (((lookT EntV.nil T (at_ Rp.str l18 (((dr % l18.length + j) % l18.length : Nat) : Int))).1).l.n) (((lookT EntV.nil T (at_ Rp.str l18 (((dr % l18.length + j) % l18.length : Nat) : Int))).1).l.c), .slice (((lookT EntV.nil T (at_ Rp.str l18 (((dr % l18.length + j) % l18.length : Nat) : Int))).1).z.a) (((lookT EntV.nil T (at_ Rp.str l18 (((dr % l18.length + j) % l18.length : Nat) : Int))).1).z.n) (((lookT EntV.nil T (at_ Rp.str l18 (((dr % l18.length + j) % l18.length : Nat) : Int))).1).z.c), .slice (((lookT EntV.nil T (at_ Rp.str l18 (((dr % l18.length + j) % l18.length : Nat) : Int))).1).h.a) (((lookT EntV.nil T (at_ Rp.str l18 (((dr % l18.length + j) % l18.length : Nat) : Int))).1).h.n) (((lookT EntV.nil T (at_ Rp.str l18 (((dr % l18.length + j) % l18.length : Nat) : Int))).1).h.c), .int .i64 (((lookT EntV.nil T (at_ Rp.str l18 (((dr % l18.length + j) % l18.length : Nat) : Int))).1).till)]), (43, .bool ((lookT EntV.nil T (at_ Rp.str l18 (((dr % l18.length + j) % l18.length : Nat) : Int))).2))] fun a h173 => ?_
     refine V.qe ?_
     refine V.go (V.stn b150 0 (.agg #[.int .i64 (((lookT EntV.nil T (at_ Rp.str l18 (((dr % l18.length + j) % l18.length : Nat) : Int))).1).kind), .string (((lookT EntV.nil T (at_ Rp.str l18 (((dr % l18.length + j) % l18.length : Nat) : Int))).1).s), .slice (((lookT EntV.nil T (at_ Rp.str l18 (((dr % l18.length + j) % l18.length : Nat) : Int))).1).l.a) (((lookT EntV.nil T (at_ Rp.str l18 (((dr % l18.length + j) % l18.length : Nat) : Int))).1).l.n) (((lookT EntV.nil T (at_ Rp.str l18 (((dr % l18.length + j) % l18.length : Nat) : Int))).1).l.c), .slice (((lookT EntV.nil T (at_ Rp.str l18 (((dr % l18.length + j) % l18.length : Nat) : Int))).1).z.a) (((lookT EntV.nil T (at_ Rp.str l18 (((dr % l18.length + j) % l18.length : Nat) : Int))).1).z.n) (((lookT EntV.nil T (at_ Rp.str l18 (((dr % l18.length + j) % l18.length : Nat) : Int))).1).z.c), .slice (((lookT EntV.nil T (at_ Rp.str l18 (((dr % l18.length + j) % l18.length : Nat) : Int))).1).h.a) (((lookT EntV.nil T (at_ Rp.str l18 (((dr % l18.length + j) % l18.length : Nat) : Int))).1).h.n) (((lookT EntV.nil T (at_ Rp.str l18 (((dr % l18.length + j) % l18.length : Nat) : Int))).1).h.c), .int .i64 (((lookT EntV.nil T (at_ Rp.str l18 (((dr % l18.length + j) % l18.length : Nat) : Int))).1).till)]) [.int .i64 (((lookT EntV.nil T (at_ Rp.str l18 (((dr % l18.length + j) % l18.length : Nat) : Int))).1).kind), .string (((lookT EntV.nil T (at_ Rp.str l18 (((dr % l18.length + j) % l18.length : Nat) : Int))).1).s), .slice (((lookT EntV.nil T (at_ Rp.str l18 (((dr % l18.length + j) % l18.length : Nat) : Int))).1).l.a) (((lookT EntV.nil T (at_ Rp.str l18 (((dr % l18.length + j) % l18.length : Nat) : Int))).1).l.n) (((lookT EntV.nil T (at_ Rp.str l18 (((dr % l18.length + j) % l18.length : Nat) : Int))).1).l.c), .slice (((lookT EntV.nil T (at_ Rp.str l18 (((dr % l18.length + j) % l18.length : Nat) : Int))).1).z.a) (((lookT EntV.nil T (at_ Rp.str l18 (((dr % l18.length + j) % l18.length : Nat) : Int))).1).z.n) (((lookT EntV.nil T (at_ Rp.str l18 (((dr % l18.length + j) % l18.length : Nat) : Int))).1).z.c), .slice (((lookT EntV.nil T (at_ Rp.str l18 (((dr % l18.length + j) % l18.length : Nat) : Int))).1).h.a) (((lookT EntV.nil T (at_ Rp.str l18 (((dr % l18.length + j) % l18.length : Nat) : Int))).1).h.n) (((lookT EntV.nil T (at_ Rp.str l18 (((dr % l18.length + j) % l18.length : Nat) : Int))).1).h.c), .int .i64 (((lookT EntV.nil T (at_ Rp.str l18 (((dr % l18.length + j) % l18.length : Nat) : Int))).1).till)] h173.e h173.e rfl rfl (by kernel_rfl) hB152_172 (by simp) [.int .i64 (((lookT EntV.nil T (at_ Rp.str l18 (((dr % l18.length + j) % l18.length : Nat) : Int))).1).kind), .string (((lookT EntV.nil T (at_ Rp.str l18 (((dr % l18.length + j) % l18.length : Nat) : Int))).1).s), .slice (((lookT EntV.nil T (at_ Rp.str l18 (((dr % l18.length + j) % l18.length : Nat) : Int))).1).l.a) (((lookT EntV.nil T (at_ Rp.str l18 (((dr % l18.length + j) % l18.length : Nat) : Int))).1).l.n) (((lookT EntV.nil T (at_ Rp.str l18 (((dr % l18.length + j) % l18.length : Nat) : Int))).1).l.c), .slice (((lookT EntV.nil T (at_ Rp.str l18 (((dr % l18.length + j) % l18.length : Nat) : Int))).1).z.a) (((lookT EntV.nil T (at_ Rp.str l18 (((dr % l18.length + j) % l18.length : Nat) : Int))).1).z.n) (((lookT EntV.nil T (at_ Rp.str l18 (((dr % l18.length + j) % l18.length : Nat) : Int))).1).z.c), .slice (((lookT EntV.nil T (at_ Rp.str l18 (((dr % l18.length + j) % l18.length : Nat) : Int))).1).h.a) (((lookT EntV.nil T (at_ Rp.str l18 (((dr % l18.length + j) % l18.length : Nat) : Int))).1).h.n) (((lookT EntV.nil T (at_ Rp.str l18 (((dr % l18.length + j) % l18.length : Nat) : Int))).1).h.c), .int .i64 (((lookT EntV.nil T (at_ Rp.str l18 (((dr % l18.length + j) % l18.length : Nat) : Int))).1).till)] rfl ?_)
     intro w174 hB175 hF176 hsw174
     have hX_177 := hX_165.frl hF176 (by intro k hk; simp only [List.mem_singleton] at hk; subst hk; exact ⟨fun q => by have := hX0 _ (.inl q); omega, fun q => by have := hX0 _ (.inr (.inl q)); omega, fun q => by have := hX0 _ (.inr (.inr q)); omega⟩)
     have hB_178 := hB_166.fr1 hF176 (by omega)
     have hF_179 := hF_167.own hF176 (by simp <;> omega)
     have hB6_180 := hB6_168.fr1 hF176 (by omega)
     have hO19_181 := hO19_169.frn hF176 (fun h => h) (by first | exact own_ne hO19_169 (by omega) | exact own_ne2 hO19_61 (by omega))
     have hE90_182 := hE90_171.fr hF176 (by simp <;> omega)
     refine V.eh trivial ?_
     refine V.qs h173 [] 12 12 [] fun a h183 => ?_
     refine V.qn (k76 _ _ ?_)
     refine V.sg fun K184 k185 => ?_
     refine V.run h183 [(0, .bs hB6_180 0 [.int .i64 now, .int .u64 (dr : Int), .int .i64 role, .slice Aa na ca]), (0, .bs hB175 0 [.int .i64 (((lookT EntV.nil T (at_ Rp.str l18 (((dr % l18.length + j) % l18.length : Nat) : Int))).1).kind), .string (((lookT EntV.nil T (at_ Rp.str l18 (((dr % l18.length + j) % l18.length : Nat) : Int))).1).s), .slice (((lookT EntV.nil T (at_ Rp.str l18 (((dr % l18.length + j) % l18.length : Nat) : Int))).1).l.a) (((lookT EntV.nil T (at_ Rp.str l18 (((dr % l18.length + j) % l18.length : Nat) : Int))).1).l.n) (((lookT EntV.nil T (at_ Rp.str l18 (((dr % l18.length + j) % l18.length : Nat) : Int))).1).l.c), .slice (((lookT EntV.nil T (at_ Rp.str l18 (((dr % l18.length + j) % l18.length : Nat) : Int))).1).z.a) (((lookT EntV.nil T (at_ Rp.str l18 (((dr % l18.length + j) % l18.length : Nat) : Int))).1).z.n) (((lookT EntV.nil T (at_ Rp.str l18 (((dr % l18.length + j) % l18.length : Nat) : Int))).1).z.c), .slice (((lookT EntV.nil T (at_ Rp.str l18 (((dr % l18.length + j) % l18.length : Nat) : Int))).1).h.a) (((lookT EntV.nil T (at_ Rp.str l18 (((dr % l18.length + j) % l18.length : Nat) : Int))).1).h.n) (((lookT EntV.nil T (at_ Rp.str l18 (((dr % l18.length + j) % l18.length : Nat) : Int))).1).h.c), .int .i64 (((lookT EntV.nil T (at_ Rp.str l18 (((dr % l18.length + j) % l18.length : Nat) : Int))).1).till)])] 2 1 0 [(44, .agg #[.int .i64 now, .int .u64 (dr : Int), .int .i64 role, .slice Aa na ca]), (45, .agg #[.int .i64 (((lookT EntV.nil T (at_ Rp.str l18 (((dr % l18.length + j) % l18.length : Nat) : Int))).1).kind), .string (((lookT EntV.nil T (at_ Rp.str l18 (((dr % l18.length + j) % l18.length : Nat) : Int))).1).s), .slice (((lookT EntV.nil T (at_ Rp.str l18 (((dr % l18.length + j) % l18.length : Nat) : Int))).1).l.a) (((lookT EntV.nil T (at_ Rp.str l18 (((dr % l18.length + j) % l18.length : Nat) : Int))).1).l.n) (((lookT EntV.nil T (at_ Rp.str l18 (((dr % l18.length + j) % l18.length : Nat) : Int))).1).l.c), .slice (((lookT EntV.nil T (at_ Rp.str l18 (((dr % l18.length + j) % l18.length : Nat) : Int))).1).z.a) (((lookT EntV.nil T (at_ Rp.str l18 (((dr % l18.length + j) % l18.length : Nat) : Int))).1).z.n) (((lookT EntV.nil T (at_ Rp.str l18 (((dr % l18.length + j) % l18.length : Nat) : Int))).1).z.c), .slice (((lookT EntV.nil T (at_ Rp.str l18 (((dr % l18.length + j) % l18.length : Nat) : Int))).1).h.a) (((lookT EntV.nil T (at_ Rp.str l18 (((dr % l18.length + j) % l18.length : Nat) : Int))).1).h.n) (((lookT EntV.nil T (at_ Rp.str l18 (((dr % l18.length + j) % l18.length : Nat) : Int))).1).h.c), .int .i64 (((lookT EntV.nil T (at_ Rp.str l18 (((dr % l18.length + j) % l18.length : Nat) : Int))).1).till)])] fun a h186 => ?_
     refine V.cl h186 (Go.Proofs.enters_of Tryz.func31 (by kernel_rfl) rfl) (seen_any w174 now (dr : Int) role Aa na ca ((lookT EntV.nil T (at_ Rp.str l18 (((dr % l18.length + j) % l18.length : Nat) : Int))).1)) ?_
     rintro _ w188 ⟨rfl, hF187⟩
     refine ⟨_, rfl, fun a h189 => ?_⟩
     have hsw188 := hF187.size
     have hX_190 := hX_177.fr0 hF187
     have hB_191 := hB_178.fr0 hF187
     have hF_192 := hF_179.new hF187
     have hB6_193 := hB6_180.fr0 hF187
     have hO19_194 := hO19_181.fr0 hF187
     have hE90_195 := hE90_182.fr0 hF187
     have hB175_196 := hB175.fr0 hF187
     refine V.nt (k185 _ _ ?_)
     refine V.cp h189 (seenD role now (((lookT EntV.nil T (at_ Rp.str l18 (((dr % l18.length + j) % l18.length : Nat) : Int))).1).till)) (fun ht197 => ?_) (fun ht197 => ?_)
     ·
      refine V.sr h189 [(2, .ix g85 o86 l18.length c17 .i64 (((dr % l18.length + j) % l18.length : Nat) : Int) 1 hA87), (0, .l ⟨g85, o86 + (((dr % l18.length + j) % l18.length : Nat) : Int).toNat * 1, none⟩ (.string (at_ Rp.str l18 (((dr % l18.length + j) % l18.length : Nat) : Int))) (hE90_195.at 0 rfl))] 47 51 [(4, .string (at_ Rp.str l18 (((dr % l18.length + j) % l18.length : Nat) : Int))), (5, .bool true), (6, .slice none 0 0)] fun a h200 => ?_
      refine V.ret ?_
      refine V.then_r ?_
      refine V.blk_r ?_
      refine V.then_r ?_
      refine V.then_r ?_
      refine V.blk_r ?_
      refine V.then_r ?_
      refine V.blk_r ?_
      refine V.then_r ?_
      refine V.then_r ?_
      refine V.blk_r ?_
      refine V.then_r ?_
      refine V.r3 h200 (.string (at_ Rp.str l18 (((dr % l18.length + j) % l18.length : Nat) : Int))) (.bool true) (.slice none 0 0) ?_
      exact ⟨_, _, l18, rfl, hkl, .inl ⟨j, by omega, hG, (seen_key hq hkl (i := (dr % l18.length + j) % l18.length) (Nat.mod_lt _ (by omega))).1 ht197, rfl, rfl⟩, hF_192⟩
     ·
      refine V.skip ?_
      refine V.then_n (k74 _ _ ?_)
      refine V.seq fun K201 k202 => ?_
      refine V.sr h189 [(1, .b hB6_193 2), (0, .eq role 1)] 52 53 [(54, .bool (decide (role = 1)))] fun a h205 => ?_
      refine V.cp h205 (role = 1) (fun ht206 => ?_) (fun ht206 => ?_)
      · exact absurd ht206 hr1
      ·
       refine V.skip ?_
       refine V.then_n (k202 _ _ ?_)
       refine V.rr h205 [(1, .q (.int .i64 (((dr % l18.length + j) % l18.length + 1 : Nat) : Int)) (w_addN (by omega))), (2, .remN .i64 ((dr % l18.length + j) % l18.length + 1) l18.length)] 55 59 [(10, .int .i64 ((((dr % l18.length + j) % l18.length + 1) % l18.length : Nat) : Int))] fun a h207 => ?_
       refine V.blk_n ?_
       refine V.then_n (k72 _ _ ?_)
       refine V.rr h207 [(0, .i ((j : Int) + 1))] 60 60 [(30, .int .i64 ((j : Int) + 1))] fun a h208 => ?_
       refine V.then_n ?_
       have hns : ¬ SeenK D role now (rotK l18 dr j) := fun q => ht197 ((seen_key hq hkl (i := (dr % l18.length + j) % l18.length) (Nat.mod_lt _ (by omega))).2 q)
       refine ⟨j + 1, by omega, ?_⟩
       refine ⟨((h208.eq 10 (v := (.int .i64 ((((dr % l18.length + j) % l18.length + 1) % l18.length : Nat) : Int))) (u := (.int .i64 (((dr % l18.length + (j + 1)) % l18.length : Nat) : Int))) (V.int_eq (rot_next (by omega)))).eq 30 (v := (.int .i64 ((j : Int) + 1))) (u := (.int .i64 ((j + 1) : Int))) (V.int_eq (by omega))).only _, hX_190, hB_191, hF_192, hB6_193, hO19_194, (by omega), (fun j2 h => by rcases Nat.lt_or_eq_of_le (Nat.lt_succ_iff.1 h) with q | q; exact hG j2 q; (subst q; exact hns))⟩
   ·
    refine V.exit ?_
    refine V.then_e ?_
    refine V.then_e ?_
    refine V.blk_hit ?_
    refine V.then_n (k50 _ _ ?_)
    refine V.seq fun K209 k210 => ?_
    refine V.sr h67 [(1, .b hB6_60 2), (0, .ne role 1)] 61 62 [(63, .bool (decide (¬ role = 1)))] fun a h213 => ?_
    refine V.cp h213 (¬ role = 1) (fun ht214 => ?_) (fun ht214 => ?_)
    ·
     refine V.sr h213 [] 1 0 [(4, .string ⟨#[]⟩), (5, .bool false), (6, .slice none 0 0)] fun a h217 => ?_
     refine V.ret ?_
     refine V.then_r ?_
     refine V.blk_r ?_
     refine V.then_r ?_
     refine V.then_r ?_
     refine V.blk_r ?_
     refine V.then_r ?_
     refine V.r3 h217 (.string ⟨#[]⟩) (.bool false) (.slice none 0 0) ?_
     exact ⟨_, _, l18, rfl, hkl, .inr ⟨fun j2 hj2 => hG j2 (by omega), rfl, rfl⟩, hF_59⟩
    · exact absurd hr1 ht214
 ·
  refine V.exit ?_
  refine V.then_e ?_
  refine V.then_e ?_
  refine V.blk_hit ?_
  refine V.then_n (k34 _ _ ?_)
  refine V.sr h42 [] 78 78 [(4, .string ⟨#[]⟩), (5, .bool false), (6, .slice none 0 0)] fun a h220 => ?_
  refine V.ret ?_
  refine V.r3 h220 (.string ⟨#[]⟩) (.bool false) (.slice none 0 0) ?_
  exact ⟨_, _, l18, rfl, hkl, .inr ⟨fun j hj => absurd hj (by omega), rfl, rfl⟩, hF_27⟩
end Go.Proofs.YtjkegckfncfoaaaGreat
end
section
namespace Go.Proofs.YtjkegckfncfoaaaGreat
open Go.V Go.Base
open Go.RowKit (Below)
attribute [local irreducible] Act.put Act.eval
set_option linter.unusedVariables false
set_option linter.unusedSimpArgs false
section
variable (w : World) {base : Nat} {av : List Nat} {vs : List Value} {sp n : Nat} {D : ByteArray → Option EnD} (hA : SpA w base av vs sp n D)
include hA
theorem getS_A (now : Int) (dr : Int) (role : Int) (Aa : Option Addr) (na ca : Nat) (key : ByteArray) (hkz : key.size ≤ 9223372036854775807) {x : EnD} (hD : D key = some x) :
    Calls Tryz.prog 10 #[.pointer (some ⟨sp, 0, none⟩), .agg #[.int .i64 now, .int .u64 dr, .int .i64 role, .slice Aa na ca], .string key] w (fun e w' => ∃ k s Al cl Az cz Ah ch nl nz nh vt, e = .returned (.tuple #[.agg #[.int .i64 k, .string s, .slice Al nl cl, .slice Az nz cz, .slice Ah nh ch], .bool (decide (seenD role now x.till)), vt]) ∧ SpA w' base av vs sp (getN role now n D key) (getD role now D key) ∧ FrP (outS base av vs) w w') := by
  have hb := hA.base
  obtain ⟨S, hY, h1, h2⟩ := hA
  refine (spget_any w S sp n D hY now dr role Aa na ca key hkz).mono fun e w' ⟨y, Al, cl, Az, cz, Ah, ch, vt, S', m, he, hy, hY', hg, hP, hm, hwm, o1, o2, o3, hd, ht⟩ => ?_
  have hf : getF role now (D key) = decide (seenD role now x.till) := by rw [hD]; rfl
  rw [hf] at he
  have ho := SpY.out0 h1 hb h2 hY' hg hP
  exact ⟨_, _, _, _, _, _, _, _, _, _, _, _, he, ho.1, ho.2⟩
theorem getN_A (now : Int) (dr : Int) (role : Int) (Aa : Option Addr) (na ca : Nat) (key : ByteArray) (hkz : key.size ≤ 9223372036854775807) (hD : D key = none) :
    Calls Tryz.prog 10 #[.pointer (some ⟨sp, 0, none⟩), .agg #[.int .i64 now, .int .u64 dr, .int .i64 role, .slice Aa na ca], .string key] w (fun e w' => ∃ k s Al cl Az cz Ah ch nl nz nh vt, e = .returned (.tuple #[.agg #[.int .i64 k, .string s, .slice Al nl cl, .slice Az nz cz, .slice Ah nh ch], .bool false, vt]) ∧ SpA w' base av vs sp (getN role now n D key) (getD role now D key) ∧ FrP (outS base av vs) w w') := by
  have hb := hA.base
  obtain ⟨S, hY, h1, h2⟩ := hA
  refine (spget_any w S sp n D hY now dr role Aa na ca key hkz).mono fun e w' ⟨y, Al, cl, Az, cz, Ah, ch, vt, S', m, he, hy, hY', hg, hP, hm, hwm, o1, o2, o3, hd, ht⟩ => ?_
  have hf : getF role now (D key) = false := by rw [hD]; rfl
  rw [hf] at he
  have ho := SpY.out0 h1 hb h2 hY' hg hP
  exact ⟨_, _, _, _, _, _, _, _, _, _, _, _, he, ho.1, ho.2⟩
theorem pickr_A (now : Int) (dr : Nat) (role : Int) (Aa : Option Addr) (na ca : Nat) (hdr : dr < 18446744073709551616) (hr1 : ¬ role = 1) :
    Calls Tryz.prog 11 #[.pointer (some ⟨sp, 0, none⟩), .agg #[.int .i64 now, .int .u64 ((dr : Nat) : Int), .int .i64 role, .slice Aa na ca]] w (fun e w' => ∃ k f l, e = .returned (.tuple #[.string k, .bool f, .slice none 0 0]) ∧ KeysOf D (fun _ => true) l ∧ PickS D role now dr l k f ∧ Fr [] w w') := by
  obtain ⟨S, ⟨H, Vb, t, T, hq, _⟩, _⟩ := hA
  exact pickr_any w H Vb sp t T D hq now dr role Aa na ca hdr hr1
theorem keys_A (now : Int) (dr : Nat) (role : Int) (Aa : Option Addr) (na ca : Nat) :
    Calls Tryz.prog 12 #[.pointer (some ⟨sp, 0, none⟩), .agg #[.int .i64 now, .int .u64 ((dr : Nat) : Int), .int .i64 role, .slice Aa na ca]] w (fun e w' => ∃ A c l, e = .returned (.slice A l.length c) ∧ OwR Rp.str NoZ w' w.heap.size 9 (.slice A l.length c) l ∧ KeysOf D (fun t => decide (seenD role now t)) l ∧ Fr [] w w') := by
  obtain ⟨S, ⟨H, Vb, t, T, hq, _⟩, _⟩ := hA
  exact keys_any w H Vb sp t T D hq now dr role Aa na ca
theorem image_A {l : List EnD} (hD : D = dOf l) (hr : Ris l) :
    Calls Tryz.prog 14 #[.pointer (some ⟨sp, 0, none⟩)] w (fun e w' => ∃ A c, e = .returned (.slice A l.length c) ∧ SlR enR (fun k => w.heap.size ≤ k) w' (.slice A l.length c) l ∧ Fr [] w w') := by
  obtain ⟨S, ⟨H, Vb, t, T, hq, _⟩, _⟩ := hA
  refine (image_any w H Vb sp t T D hq).mono fun e w' ⟨A, c, rs, xs, nq, he, hl, hO, ha, hI, hn, hf⟩ => ?_
  have hx : xs = l := ImgL.uniq hI (by rw [hD]; exact hr.img)
  subst hx
  exact ⟨A, c, he, AllE.row (hO.read (Z' := fun k => w.heap.size ≤ k) (fun _ _ h => h.elim) (fun b hb _ => by omega)) ha (fun k q => by have := q.1; omega) fun k q => q, hf⟩
end
theorem get_same {role now : Int} {n : Nat} {D : ByteArray → Option EnD} {key : ByteArray} (h : ¬ role = 1) : getD role now D key = D ∧ getN role now n D key = n := by
  unfold getD getN goneD goneN
  split
  · rw [if_neg h, if_neg h]; simp
  · exact ⟨rfl, rfl⟩
set_option maxHeartbeats 4000000 in
set_option maxRecDepth 20000 in
theorem begin_bad (w : World) (Al : Option Addr) (cl : Nat) (l : List EnD) (hSl : SlR enR (fun k => k < w.heap.size) w (.slice Al l.length cl) l) (hbn : ∀ x ∈ l, bndE x) (hbad : ¬ imgN l = 0) : Calls Tryz.prog 8 #[.slice Al l.length cl] w (fun e w' => e = .returned (.tuple #[.pointer none, .pointer none, .bool true]) ∧ Fr [] w w') := by
 have hF := Fr.refl [] w
 refine V.en 31 Tryz.func8 fun a h1 => ?_
 refine V.sr h1 [] 2 4 [] fun a h4 => ?_
 refine V.sg fun K5 k6 => ?_
 refine V.run h4 [] 1 1 0 [(10, .slice Al l.length cl)] fun a h7 => ?_
 refine V.cl h7 (Go.Proofs.enters_of Tryz.func15 (by kernel_rfl) rfl) (load_bad w Al cl l hSl.old hbn hbad) ?_
 rintro _ w9 ⟨rfl, hF8⟩
 refine ⟨_, rfl, fun a h10 => ?_⟩
 have hsw9 := hF8.size
 have hF_11 := hF.new hF8
 have hSl_12 := hSl.fr0 hF8
 refine V.re h10 [] 9 13 [(5, .pointer none), (6, .int .i64 (imgN l))] fun a h13 => k6 _ _ ?_
 refine V.sg fun K14 k15 => ?_
 refine V.run h13 [] 1 1 0 [(15, .slice Al l.length cl)] fun a h16 => ?_
 refine V.cl h16 (Go.Proofs.enters_of Tryz.func27 (by kernel_rfl) rfl) (rload_bad w9 Al cl l hSl_12.old hbad) ?_
 rintro _ w18 ⟨rfl, hF17⟩
 refine ⟨_, rfl, fun a h19 => ?_⟩
 have hsw18 := hF17.size
 have hF_20 := hF_11.new hF17
 have hSl_21 := hSl_12.fr0 hF17
 refine V.re h19 [] 14 18 [(7, .pointer none), (8, .int .i64 (imgN l))] fun a h22 => k15 _ _ ?_
 refine V.sr h22 [(4, .q (.bool true) (V.t_same (imgN l))), (5, .q (.bool (decide (true = true))) V.t_beql)] 19 30 [(2, .pointer none), (3, .pointer none), (4, .bool (decide (true = true)))] fun a h25 => ?_
 refine V.ret ?_
 refine V.r3 h25 (.pointer none) (.pointer none) (.bool (decide (true = true))) ?_
 exact ⟨rfl, hF_20⟩
set_option maxHeartbeats 4000000 in
set_option maxRecDepth 20000 in
theorem begin_ok (w : World) (Al : Option Addr) (cl : Nat) (l : List EnD) (hSl : SlR enR (fun k => k < w.heap.size) w (.slice Al l.length cl) l) (hbn : ∀ x ∈ l, bndE x) (hok : imgN l = 0) : Calls Tryz.prog 8 #[.slice Al l.length cl] w (fun e w' => ∃ sp rb, e = .returned (.tuple #[.pointer (some ⟨sp, 0, none⟩), .pointer (some ⟨rb, 0, none⟩), .bool true]) ∧ SpA w' w.heap.size [] [] sp l.length (dOf l) ∧ Fr [] w w') := by
 have hF := Fr.refl [] w
 obtain ⟨rs, hrl, hR, _⟩ := ent_raw hSl
 refine V.en 31 Tryz.func8 fun a h1 => ?_
 refine V.sr h1 [] 2 4 [] fun a h4 => ?_
 refine V.sg fun K5 k6 => ?_
 refine V.run h4 [] 1 1 0 [(10, .slice Al l.length cl)] fun a h7 => ?_
 refine V.cl h7 (Go.Proofs.enters_of Tryz.func15 (by kernel_rfl) rfl) (load_ok w Al cl l hSl.old hbn hok) ?_
 rintro _ w11 ⟨sp9, rfl, hA10, hF8⟩
 refine ⟨_, rfl, fun a h12 => ?_⟩
 have hsw11 := hF8.size
 have hF_13 := hF.new hF8
 have hSl_14 := hSl.fr0 hF8
 have hR_15 := hR.fr0 hF8
 refine V.re h12 [] 9 13 [(5, .pointer (some ⟨sp9, 0, none⟩)), (6, .int .i64 0)] fun a h16 => k6 _ _ ?_
 refine V.sg fun K17 k18 => ?_
 refine V.run h16 [] 1 1 0 [(15, .slice Al l.length cl)] fun a h19 => ?_
 refine V.cl h19 (Go.Proofs.enters_of Tryz.func27 (by kernel_rfl) rfl) (rload_ok w11 Al cl l hSl_14.old hok rs hR_15.old hrl) ?_
 rintro _ w28 ⟨rb21, A22, c23, rfl, hB24, hO25, hr26, hr27, hF20⟩
 refine ⟨_, rfl, fun a h29 => ?_⟩
 have hsw28 := hF20.size
 have hF_30 := hF_13.new hF20
 have hSl_31 := hSl_14.fr0 hF20
 have hR_32 := hR_15.fr0 hF20
 have hA10_33 := hA10.fr0 hF20
 refine V.re h29 [] 14 18 [(7, .pointer (some ⟨rb21, 0, none⟩)), (8, .int .i64 0)] fun a h34 => k18 _ _ ?_
 refine V.sr h34 [(10, .q (.bool (decide (false = false))) V.t_beql)] 19 30 [(2, .pointer (some ⟨sp9, 0, none⟩)), (3, .pointer (some ⟨rb21, 0, none⟩)), (4, .bool (decide (false = false)))] fun a h37 => ?_
 refine V.ret ?_
 refine V.r3 h37 (.pointer (some ⟨sp9, 0, none⟩)) (.pointer (some ⟨rb21, 0, none⟩)) (.bool (decide (false = false))) ?_
 exact ⟨_, _, rfl, hA10_33, hF_30⟩
set_option maxHeartbeats 4000000 in
set_option maxRecDepth 20000 in
theorem spaceSeen_any (w : World) (Al : Option Addr) (cl : Nat) (l : List EnD) (hSl : SlR enR (fun k => k < w.heap.size) w (.slice Al l.length cl) l) (hbn : ∀ x ∈ l, bndE x) (now : Int) (dr : Nat) (role : Int) (Aa : Option Addr) (na ca : Nat) (hdr : dr < 18446744073709551616) (key : ByteArray) (hkz : key.size ≤ 9223372036854775807) : Calls Tryz.prog 3 #[.slice Al l.length cl, .agg #[.int .i64 now, .int .u64 (dr : Int), .int .i64 role, .slice Aa na ca], .string key] w (fun e w' => e = .returned (.bool true) ∧ Fr [] w w') := by
 have hP := FrP.refl (fun _ => False) w
 have hlen0 := hSl.len_le
 obtain ⟨_, _, hcap, hcap0, _⟩ := id hSl
 cases hcap
 refine V.en 95 Tryz.func3 fun a h1 => ?_
 refine V.sg fun K2 k3 => ?_
 refine V.go (V.mk [(1, .agg #[.int .i64 now, .int .u64 (dr : Int), .int .i64 role, .slice Aa na ca])] ⟨h1.e, trivial⟩ (by kernel_rfl) [.int .i64 now, .int .u64 (dr : Int), .int .i64 role, .slice Aa na ca] 27 (fun b => .pointer (some ⟨b, 0, none⟩)) (by kernel_rfl) ?_)
 intro w5 b4 heb4 hB6 hF7 hsb4
 have hP_8 := hP.tr0 hF7
 have hSl_9 := hSl.fr0 hF7
 refine V.pt h1 fun a h10 => ?_
 refine V.re h10 [] 6 6 [] fun a h11 => k3 _ _ ?_
 refine V.seq fun K12 k13 => ?_
 refine V.sg fun K14 k15 => ?_
 refine V.cl h11 (Go.Proofs.enters_of Tryz.func7 (by kernel_rfl) rfl) (awake_any w5) ?_
 rintro _ w17 ⟨rfl, hF16⟩
 refine ⟨_, rfl, fun a h18 => ?_⟩
 have hsw17 := hF16.size
 have hP_19 := hP_8.tr0 hF16
 have hSl_20 := hSl_9.fr0 hF16
 have hB6_21 := hB6.fr0 hF16
 refine V.re h18 [] 1 0 [(18, .bool false)] fun a h22 => k15 _ _ ?_
 refine V.cf h22 ?_
 refine V.skip ?_
 refine V.then_n (k13 _ _ ?_)
 refine V.seq_cut (fun a_ w_ => ∃ (l2 : List EnD), En 95 [] a_ [(0, .slice Al l2.length cl), (2, .string key), (4, .pointer (some ⟨b4, 0, none⟩))] ∧ SlR enR (fun k => k < w.heap.size) w_ (.slice Al l2.length cl) l2 ∧ FrP (fun _ => False) w w_ ∧ Blk w_ b4 [.int .i64 now, .int .u64 (dr : Int), .int .i64 role, .slice Aa na ca] 27 ∧ (∀ x ∈ l2, bndE x)) ?_ ?_
 ·
  refine V.sr h22 [] 19 20 [(21, .bool (decide (((l.length : Nat) : Int) > 200)))] fun a h25 => ?_
  refine V.cp h25 (((l.length : Nat) : Int) > 200) (fun ht26 => ?_) (fun ht26 => ?_)
  ·
   have hS27 := hSl_20.tk (i := 200) (by omega)
   refine V.rr h25 [(1, .cut0 Al l.length cl 200 200 7)] 22 23 [(0, .slice Al 200 cl)] fun a h28 => ?_
   refine V.then_n ?_
   refine ⟨(l.take 200), (h28.eq 0 (v := (.slice Al 200 cl)) (u := (.slice Al (l.take 200).length cl)) (V.sl_eq (by rw [List.length_take]; omega))).only _, (hSl_20.tke 200), hP_19, hB6_21, (fun x hx => hbn x (List.mem_of_mem_take hx))⟩
  ·
   refine V.skip ?_
   refine V.then_n ?_
   refine ⟨l, h25.only _, hSl_20, hP_19, hB6_21, hbn⟩
 ·
  rintro a29 w30 ⟨l2, h31, hS2_32, hP_33, hB6_34, hbn2⟩
  have hfs35 := hP_33.size
  have hlt36 := hB6_34.lt
  refine V.seq fun K37 k38 => ?_
  rcases Classical.em (imgN l2 = 0) with hok | hbad
  ·
   refine V.rg ?_
   refine V.run h31 [] 1 1 0 [(25, .slice Al l2.length cl)] fun a h39 => ?_
   refine V.cl h39 (Go.Proofs.enters_of Tryz.func8 (by kernel_rfl) rfl) (begin_ok w30 Al cl l2 hS2_32.old hbn2 hok) ?_
   rintro _ w44 ⟨sp41, rb42, rfl, hA43, hF40⟩
   refine ⟨_, rfl, fun a h45 => ?_⟩
   have hsw44 := hF40.size
   have hS2_46 := hS2_32.fr0 hF40
   have hP_47 := hP_33.tr0 hF40
   have hB6_48 := hB6_34.fr0 hF40
   have hgd := img_good hok
   refine V.re h45 [] 24 29 [(7, .pointer (some ⟨sp41, 0, none⟩)), (8, .pointer (some ⟨rb42, 0, none⟩)), (9, .bool true)] fun a h49 => k38 _ _ ?_
   refine V.seq fun K50 k51 => ?_
   refine V.sr h49 [] 30 34 [(35, .bool false)] fun a h54 => ?_
   refine V.cf h54 ?_
   refine V.skip ?_
   refine V.then_n (k51 _ _ ?_)
   refine V.sg fun K55 k56 => ?_
   refine V.run h54 [] 2 1 0 [(38, .slice Al l2.length cl), (39, .string key)] fun a h57 => ?_
   refine V.cl h57 (Go.Proofs.enters_of Tryz.func9 (by kernel_rfl) rfl) (rfind_any w44 Al cl l2 hS2_46.old key) ?_
   rintro _ w71 ⟨f58, x59, A65, c66, A67, c68, A69, c70, rfl, hfd60, hS61, hS62, hS63, hF64⟩
   refine ⟨_, rfl, fun a h72 => ?_⟩
   have hsw71 := hF64.size
   have hS2_73 := hS2_46.fr0 hF64
   have hP_74 := hP_47.tr0 hF64
   have hB6_75 := hB6_48.fr0 hF64
   have hA43_76 := hA43.fr0 hF64
   refine V.run h72 [] 3 37 37 [(41, .agg #[.string x59.key, .int .i64 x59.k, .string x59.s, .slice A65 x59.l.length c66, .slice A67 x59.z.length c68, .slice A69 x59.h.length c70, .int .i64 x59.till]), (42, .bool f58)] fun a h81 => ?_
   refine V.go (V.mk [] trivial (by kernel_rfl) [.string ⟨#[]⟩, .int .i64 0, .string ⟨#[]⟩, .slice none 0 0, .slice none 0 0, .slice none 0 0, .int .i64 0] 39 (fun b => .pointer (some ⟨b, 0, none⟩)) (by kernel_rfl) ?_)
   intro w78 b77 heb77 hB79 hF80 hsb77
   have hS2_82 := hS2_73.fr0 hF80
   have hP_83 := hP_74.tr0 hF80
   have hB6_84 := hB6_75.fr0 hF80
   have hA43_85 := hA43_76.alloc hF80 (b := b77) (by omega)
   refine V.pt h81 fun a h86 => ?_
   refine V.go (V.stn b77 0 (.agg #[.string x59.key, .int .i64 x59.k, .string x59.s, .slice A65 x59.l.length c66, .slice A67 x59.z.length c68, .slice A69 x59.h.length c70, .int .i64 x59.till]) [.string x59.key, .int .i64 x59.k, .string x59.s, .slice A65 x59.l.length c66, .slice A67 x59.z.length c68, .slice A69 x59.h.length c70, .int .i64 x59.till] h86.e h86.e rfl rfl (by kernel_rfl) hB79 (by simp) [.string x59.key, .int .i64 x59.k, .string x59.s, .slice A65 x59.l.length c66, .slice A67 x59.z.length c68, .slice A69 x59.h.length c70, .int .i64 x59.till] rfl ?_)
   intro w87 hB88 hF89 hsw87
   have hS2_90 := hS2_82.fr hF89 (by simp <;> omega)
   have hP_91 := hP_83.tr1 hF89 (by first | exact .inl (by assumption) | exact .inr (by omega) | exact .inl (.inl rfl))
   have hB6_92 := hB6_84.fr1 hF89 (by omega)
   have hA43_93 := hA43_85.frl hF89 (by intro k hk; simp only [List.mem_singleton] at hk; subst hk; exact .inl (.inl (by simp)))
   refine V.re h86 [] 1 0 [(11, .bool f58)] fun a h94 => k56 _ _ ?_
   refine V.seq fun K95 k96 => ?_
   rcases hfd60 with ⟨rfl, hd⟩ | ⟨rfl, hd, hx0⟩
   ·
    refine V.rg ?_
    refine V.run h94 [(1, .bs hB6_92 0 [.int .i64 now, .int .u64 (dr : Int), .int .i64 role, .slice Aa na ca])] 3 1 0 [(44, .pointer (some ⟨sp41, 0, none⟩)), (45, .agg #[.int .i64 now, .int .u64 (dr : Int), .int .i64 role, .slice Aa na ca]), (46, .string key)] fun a h97 => ?_
    refine V.cl h97 (Go.Proofs.enters_of Tryz.func10 (by kernel_rfl) rfl) (getS_A w87 hA43_93 now (dr : Int) role Aa na ca key (by omega) hd) ?_
    rintro _ w112 ⟨k101, s102, A103, c104, A105, c106, A107, c108, n109, n110, n111, vt100, rfl, hA98, hF99⟩
    refine ⟨_, rfl, fun a h113 => ?_⟩
    have hsw112 := hF99.size
    have hS2_114 := hS2_90.frP hF99 (fun k hz hp => by have h1 := hp.1; (try dsimp only at hz h1); omega)
    have hP_115 := hP_91.trP hF99 (fun k hk => .inr (by have := hk.1; omega))
    have hB6_116 := hB6_92.frP hF99 (by exact fun hp => by have := hp.1; omega)
    have hB88_117 := hB88.frP hF99 (by exact fun hp => hp.2 (.inl (by simp)))
    refine V.run h113 [] 4 43 43 [(48, .agg #[.int .i64 k101, .string s102, .slice A103 n109 c104, .slice A105 n110 c106, .slice A107 n111 c108]), (49, .bool (decide (seenD role now x59.till))), (50, vt100)] fun a h122 => ?_
    refine V.go (V.mk [] trivial (by kernel_rfl) [.int .i64 0, .string ⟨#[]⟩, .slice none 0 0, .slice none 0 0, .slice none 0 0] 37 (fun b => .pointer (some ⟨b, 0, none⟩)) (by kernel_rfl) ?_)
    intro w119 b118 heb118 hB120 hF121 hsb118
    have hS2_123 := hS2_114.fr0 hF121
    have hP_124 := hP_115.tr0 hF121
    have hB6_125 := hB6_116.fr0 hF121
    have hB88_126 := hB88_117.fr0 hF121
    have hA98_127 := hA98.alloc hF121 (b := b118) (by omega)
    refine V.pt h122 fun a h128 => ?_
    refine V.go (V.stn b118 0 (.agg #[.int .i64 k101, .string s102, .slice A103 n109 c104, .slice A105 n110 c106, .slice A107 n111 c108]) [.int .i64 k101, .string s102, .slice A103 n109 c104, .slice A105 n110 c106, .slice A107 n111 c108] h128.e h128.e rfl rfl (by kernel_rfl) hB120 (by simp) [.int .i64 k101, .string s102, .slice A103 n109 c104, .slice A105 n110 c106, .slice A107 n111 c108] rfl ?_)
    intro w129 hB130 hF131 hsw129
    have hS2_132 := hS2_123.fr hF131 (by simp <;> omega)
    have hP_133 := hP_124.tr1 hF131 (by first | exact .inl (by assumption) | exact .inr (by omega) | exact .inl (.inl rfl))
    have hB6_134 := hB6_125.fr1 hF131 (by omega)
    have hB88_135 := hB88_126.fr1 hF131 (by omega)
    have hA98_136 := hA98_127.frl hF131 (by intro k hk; simp only [List.mem_singleton] at hk; subst hk; exact .inl (.inl (by simp)))
    refine V.re h128 [] 14 14 [(13, .bool (decide (seenD role now x59.till)))] fun a h137 => k96 _ _ ?_
    refine V.sg fun K138 k139 => ?_
    refine V.run h137 [(3, .b hB88_135 6), (0, .ne x59.till (-1))] 7 51 56 [(57, .bool (decide (¬ x59.till = (-1))))] fun a h140 => ?_
    by_cases hg141 : ¬ x59.till = (-1)
    ·
     have h142 := h140.kt 57 hg141
     refine V.re h142 [(1, .b hB88_135 6), (1, .b hB6_134 0)] 58 63 [(15, .bool (decide (x59.till ≤ now)))] fun a h143 => k139 _ _ ?_
     have h144 := h143.only [(0, .slice Al l2.length cl), (4, .pointer (some ⟨b4, 0, none⟩)), (7, .pointer (some ⟨sp41, 0, none⟩)), (11, .bool true), (13, .bool (decide (seenD role now x59.till))), (15, .bool (decide (x59.till ≤ now)))]
     refine V.sg fun K145 k146 => ?_
     refine V.run h144 [(1, .b hB6_134 2), (0, .eq role 1)] 4 64 66 [(67, .bool (decide (role = 1)))] fun a h147 => ?_
     by_cases hg148 : role = 1
     ·
      have h149 := h147.kt 67 hg148
      refine V.re h149 [] 68 71 [(16, .bool true)] fun a h150 => k146 _ _ ?_
      refine V.seq fun K151 k152 => ?_
      refine V.sg fun K153 k154 => ?_
      refine V.run h150 [] 5 73 75 [(72, .bool (decide (seenD role now x59.till))), (74, .bool true), (76, .bool (decide (x59.till ≤ now)))] fun a h155 => ?_
      by_cases hg156 : x59.till ≤ now
      ·
       have h157 := h155.kt 76 hg156
       refine V.re h157 [(4, .q (.bool (decide (¬ (decide (seenD role now x59.till)) = false))) V.t_bneq)] 77 80 [(81, .bool (decide (¬ (decide (seenD role now x59.till)) = false)))] fun a h158 => k154 _ _ ?_
       refine V.cp h158 (¬ (decide (seenD role now x59.till)) = false) (fun ht159 => ?_) (fun ht159 => ?_)
       · exact absurd (by first | exact rfl | exact decide_eq_decide.mpr (by unfold seenD ovrD; omega) | exact decide_eq_true (by unfold seenD ovrD; omega) | exact decide_eq_false (by unfold seenD ovrD; omega) | omega) ht159
       ·
        refine V.skip ?_
        refine V.then_n (k152 _ _ ?_)
        refine V.seq fun K160 k161 => ?_
        refine V.sr h158 [(1, .b hB6_134 2), (0, .eq role 1)] 82 83 [(84, .bool (decide (role = 1)))] fun a h164 => ?_
        have h165 := h164.kt 84 hg148
        refine V.ct h165 ?_
        refine V.sr h165 [] 1 0 [(6, .bool true)] fun a h168 => ?_
        refine V.ret ?_
        refine V.then_r ?_
        refine V.r1 h168 (.bool true) ?_
        exact ⟨rfl, hP_133.fr (fun k hk => hk.elim)⟩
      ·
       have h169 := h155.kf 76 hg156
       refine V.re h169 [(3, .q (.bool (decide (¬ (decide (seenD role now x59.till)) = true))) V.t_bneq)] 77 80 [(81, .bool (decide (¬ (decide (seenD role now x59.till)) = true)))] fun a h170 => k154 _ _ ?_
       refine V.cp h170 (¬ (decide (seenD role now x59.till)) = true) (fun ht171 => ?_) (fun ht171 => ?_)
       · exact absurd (by first | exact rfl | exact decide_eq_decide.mpr (by unfold seenD ovrD; omega) | exact decide_eq_true (by unfold seenD ovrD; omega) | exact decide_eq_false (by unfold seenD ovrD; omega) | omega) ht171
       ·
        refine V.skip ?_
        refine V.then_n (k152 _ _ ?_)
        refine V.seq fun K172 k173 => ?_
        refine V.sr h170 [(1, .b hB6_134 2), (0, .eq role 1)] 82 83 [(84, .bool (decide (role = 1)))] fun a h176 => ?_
        have h177 := h176.kt 84 hg148
        refine V.ct h177 ?_
        refine V.sr h177 [] 1 0 [(6, .bool true)] fun a h180 => ?_
        refine V.ret ?_
        refine V.then_r ?_
        refine V.r1 h180 (.bool true) ?_
        exact ⟨rfl, hP_133.fr (fun k hk => hk.elim)⟩
     ·
      have h181 := h147.kf 67 hg148
      refine V.re h181 [(1, .b hB6_134 2), (0, .eq role 2)] 68 71 [(16, .bool (decide (role = 2)))] fun a h182 => k146 _ _ ?_
      refine V.seq fun K183 k184 => ?_
      refine V.sg fun K185 k186 => ?_
      refine V.run h182 [] 5 73 75 [(72, .bool (decide (seenD role now x59.till))), (74, .bool true), (76, .bool (decide (x59.till ≤ now)))] fun a h187 => ?_
      by_cases hg188 : x59.till ≤ now
      ·
       have h189 := h187.kt 76 hg188
       refine V.re h189 [(2, .q (.bool (decide (¬ (role = 2)))) V.t_not), (1, .q (.bool (decide (¬ (decide (seenD role now x59.till)) = (decide (¬ (role = 2)))))) V.t_bneq)] 77 80 [(81, .bool (decide (¬ (decide (seenD role now x59.till)) = (decide (¬ (role = 2))))))] fun a h190 => k186 _ _ ?_
       refine V.cp h190 (¬ (decide (seenD role now x59.till)) = (decide (¬ (role = 2)))) (fun ht191 => ?_) (fun ht191 => ?_)
       · exact absurd (by first | exact rfl | exact decide_eq_decide.mpr (by unfold seenD ovrD; omega) | exact decide_eq_true (by unfold seenD ovrD; omega) | exact decide_eq_false (by unfold seenD ovrD; omega) | omega) ht191
       ·
        refine V.skip ?_
        refine V.then_n (k184 _ _ ?_)
        refine V.seq fun K192 k193 => ?_
        refine V.sr h190 [(1, .b hB6_134 2), (0, .eq role 1)] 82 83 [(84, .bool (decide (role = 1)))] fun a h196 => ?_
        have h197 := h196.kf 84 hg148
        refine V.cf h197 ?_
        refine V.skip ?_
        refine V.then_n (k193 _ _ ?_)
        refine V.seq fun K198 k199 => ?_
        have hr1 := hg148
        have hA200 := hA98_136
        rw [(get_same (n := 0) hr1).1, (get_same hr1).2] at hA200
        refine V.rg ?_
        refine V.run h197 [(1, .bs hB6_134 0 [.int .i64 now, .int .u64 (dr : Int), .int .i64 role, .slice Aa na ca])] 2 1 0 [(85, .pointer (some ⟨sp41, 0, none⟩)), (86, .agg #[.int .i64 now, .int .u64 (dr : Int), .int .i64 role, .slice Aa na ca])] fun a h201 => ?_
        refine V.cl h201 (Go.Proofs.enters_of Tryz.func11 (by kernel_rfl) rfl) (pickr_A w129 hA200 now dr role Aa na ca hdr hr1) ?_
        rintro _ w208 ⟨k202, f203, l204, rfl, hk205, hk206, hF207⟩
        refine ⟨_, rfl, fun a h209 => ?_⟩
        have hsw208 := hF207.size
        have hS2_210 := hS2_132.fr0 hF207
        have hP_211 := hP_133.tr0 hF207
        have hB6_212 := hB6_134.fr0 hF207
        have hB88_213 := hB88_135.fr0 hF207
        have hB130_214 := hB130.fr0 hF207
        have hA200_215 := hA200.fr0 hF207
        refine V.nt (k199 _ _ ?_)
        refine V.sg fun K216 k217 => ?_
        refine V.run h209 [(1, .bs hB6_212 0 [.int .i64 now, .int .u64 (dr : Int), .int .i64 role, .slice Aa na ca])] 2 1 0 [(88, .pointer (some ⟨sp41, 0, none⟩)), (89, .agg #[.int .i64 now, .int .u64 (dr : Int), .int .i64 role, .slice Aa na ca])] fun a h218 => ?_
        refine V.cl h218 (Go.Proofs.enters_of Tryz.func12 (by kernel_rfl) rfl) (keys_A w208 hA200_215 now dr role Aa na ca) ?_
        rintro _ w225 ⟨A219, c220, l221, rfl, hO222, hk223, hF224⟩
        refine ⟨_, rfl, fun a h226 => ?_⟩
        have hsw225 := hF224.size
        have hS2_227 := hS2_210.fr0 hF224
        have hP_228 := hP_211.tr0 hF224
        have hB6_229 := hB6_212.fr0 hF224
        have hB88_230 := hB88_213.fr0 hF224
        have hB130_231 := hB130_214.fr0 hF224
        have hA200_232 := hA200_215.fr0 hF224
        refine V.nt (k217 _ _ ?_)
        refine V.sg fun K233 k234 => ?_
        refine V.run h226 [] 1 1 0 [(91, .pointer (some ⟨sp41, 0, none⟩))] fun a h235 => ?_
        refine V.cl h235 (Go.Proofs.enters_of Tryz.func14 (by kernel_rfl) rfl) (image_A w225 hA200_232 rfl hgd.2.2) ?_
        rintro _ w240 ⟨A236, c237, rfl, hS238, hF239⟩
        refine ⟨_, rfl, fun a h241 => ?_⟩
        have hsw240 := hF239.size
        have hS2_242 := hS2_227.fr0 hF239
        have hP_243 := hP_228.tr0 hF239
        have hB6_244 := hB6_229.fr0 hF239
        have hB88_245 := hB88_230.fr0 hF239
        have hB130_246 := hB130_231.fr0 hF239
        have hA200_247 := hA200_232.fr0 hF239
        refine V.run h241 [] 1 1 0 [(93, .slice Al l2.length cl)] fun a h248 => ?_
        refine V.cl h248 (Go.Proofs.enters_of Tryz.func13 (by kernel_rfl) rfl) (same_eq w240 A236 c237 l2 hS238.old Al cl hS2_242.old) ?_
        rintro _ w250 ⟨rfl, hF249⟩
        refine ⟨_, rfl, fun a h251 => ?_⟩
        have hsw250 := hF249.size
        have hS2_252 := hS2_242.fr0 hF249
        have hP_253 := hP_243.tr0 hF249
        have hB6_254 := hB6_244.fr0 hF249
        have hB88_255 := hB88_245.fr0 hF249
        have hB130_256 := hB130_246.fr0 hF249
        have hA200_257 := hA200_247.fr0 hF249
        have hS238_258 := hS238.fr0 hF249
        refine V.re h251 [] 1 0 [(6, .bool true)] fun a h259 => k234 _ _ ?_
        refine V.ret ?_
        refine V.r1 h259 (.bool true) ?_
        exact ⟨rfl, hP_253.fr (fun k hk => hk.elim)⟩
      ·
       have h260 := h187.kf 76 hg188
       refine V.re h260 [(3, .q (.bool (decide (¬ (decide (seenD role now x59.till)) = true))) V.t_bneq)] 77 80 [(81, .bool (decide (¬ (decide (seenD role now x59.till)) = true)))] fun a h261 => k186 _ _ ?_
       refine V.cp h261 (¬ (decide (seenD role now x59.till)) = true) (fun ht262 => ?_) (fun ht262 => ?_)
       · exact absurd (by first | exact rfl | exact decide_eq_decide.mpr (by unfold seenD ovrD; omega) | exact decide_eq_true (by unfold seenD ovrD; omega) | exact decide_eq_false (by unfold seenD ovrD; omega) | omega) ht262
       ·
        refine V.skip ?_
        refine V.then_n (k184 _ _ ?_)
        refine V.seq fun K263 k264 => ?_
        refine V.sr h261 [(1, .b hB6_134 2), (0, .eq role 1)] 82 83 [(84, .bool (decide (role = 1)))] fun a h267 => ?_
        have h268 := h267.kf 84 hg148
        refine V.cf h268 ?_
        refine V.skip ?_
        refine V.then_n (k264 _ _ ?_)
        refine V.seq fun K269 k270 => ?_
        have hr1 := hg148
        have hA271 := hA98_136
        rw [(get_same (n := 0) hr1).1, (get_same hr1).2] at hA271
        refine V.rg ?_
        refine V.run h268 [(1, .bs hB6_134 0 [.int .i64 now, .int .u64 (dr : Int), .int .i64 role, .slice Aa na ca])] 2 1 0 [(85, .pointer (some ⟨sp41, 0, none⟩)), (86, .agg #[.int .i64 now, .int .u64 (dr : Int), .int .i64 role, .slice Aa na ca])] fun a h272 => ?_
        refine V.cl h272 (Go.Proofs.enters_of Tryz.func11 (by kernel_rfl) rfl) (pickr_A w129 hA271 now dr role Aa na ca hdr hr1) ?_
        rintro _ w279 ⟨k273, f274, l275, rfl, hk276, hk277, hF278⟩
        refine ⟨_, rfl, fun a h280 => ?_⟩
        have hsw279 := hF278.size
        have hS2_281 := hS2_132.fr0 hF278
        have hP_282 := hP_133.tr0 hF278
        have hB6_283 := hB6_134.fr0 hF278
        have hB88_284 := hB88_135.fr0 hF278
        have hB130_285 := hB130.fr0 hF278
        have hA271_286 := hA271.fr0 hF278
        refine V.nt (k270 _ _ ?_)
        refine V.sg fun K287 k288 => ?_
        refine V.run h280 [(1, .bs hB6_283 0 [.int .i64 now, .int .u64 (dr : Int), .int .i64 role, .slice Aa na ca])] 2 1 0 [(88, .pointer (some ⟨sp41, 0, none⟩)), (89, .agg #[.int .i64 now, .int .u64 (dr : Int), .int .i64 role, .slice Aa na ca])] fun a h289 => ?_
        refine V.cl h289 (Go.Proofs.enters_of Tryz.func12 (by kernel_rfl) rfl) (keys_A w279 hA271_286 now dr role Aa na ca) ?_
        rintro _ w296 ⟨A290, c291, l292, rfl, hO293, hk294, hF295⟩
        refine ⟨_, rfl, fun a h297 => ?_⟩
        have hsw296 := hF295.size
        have hS2_298 := hS2_281.fr0 hF295
        have hP_299 := hP_282.tr0 hF295
        have hB6_300 := hB6_283.fr0 hF295
        have hB88_301 := hB88_284.fr0 hF295
        have hB130_302 := hB130_285.fr0 hF295
        have hA271_303 := hA271_286.fr0 hF295
        refine V.nt (k288 _ _ ?_)
        refine V.sg fun K304 k305 => ?_
        refine V.run h297 [] 1 1 0 [(91, .pointer (some ⟨sp41, 0, none⟩))] fun a h306 => ?_
        refine V.cl h306 (Go.Proofs.enters_of Tryz.func14 (by kernel_rfl) rfl) (image_A w296 hA271_303 rfl hgd.2.2) ?_
        rintro _ w311 ⟨A307, c308, rfl, hS309, hF310⟩
        refine ⟨_, rfl, fun a h312 => ?_⟩
        have hsw311 := hF310.size
        have hS2_313 := hS2_298.fr0 hF310
        have hP_314 := hP_299.tr0 hF310
        have hB6_315 := hB6_300.fr0 hF310
        have hB88_316 := hB88_301.fr0 hF310
        have hB130_317 := hB130_302.fr0 hF310
        have hA271_318 := hA271_303.fr0 hF310
        refine V.run h312 [] 1 1 0 [(93, .slice Al l2.length cl)] fun a h319 => ?_
        refine V.cl h319 (Go.Proofs.enters_of Tryz.func13 (by kernel_rfl) rfl) (same_eq w311 A307 c308 l2 hS309.old Al cl hS2_313.old) ?_
        rintro _ w321 ⟨rfl, hF320⟩
        refine ⟨_, rfl, fun a h322 => ?_⟩
        have hsw321 := hF320.size
        have hS2_323 := hS2_313.fr0 hF320
        have hP_324 := hP_314.tr0 hF320
        have hB6_325 := hB6_315.fr0 hF320
        have hB88_326 := hB88_316.fr0 hF320
        have hB130_327 := hB130_317.fr0 hF320
        have hA271_328 := hA271_318.fr0 hF320
        have hS309_329 := hS309.fr0 hF320
        refine V.re h322 [] 1 0 [(6, .bool true)] fun a h330 => k305 _ _ ?_
        refine V.ret ?_
        refine V.r1 h330 (.bool true) ?_
        exact ⟨rfl, hP_324.fr (fun k hk => hk.elim)⟩
    ·
     have h331 := h140.kf 57 hg141
     refine V.re h331 [] 58 63 [(15, .bool false)] fun a h332 => k139 _ _ ?_
     have h333 := h332.only [(0, .slice Al l2.length cl), (4, .pointer (some ⟨b4, 0, none⟩)), (7, .pointer (some ⟨sp41, 0, none⟩)), (11, .bool true), (13, .bool (decide (seenD role now x59.till))), (15, .bool false)]
     refine V.sg fun K334 k335 => ?_
     refine V.run h333 [(1, .b hB6_134 2), (0, .eq role 1)] 4 64 66 [(67, .bool (decide (role = 1)))] fun a h336 => ?_
     by_cases hg337 : role = 1
     ·
      have h338 := h336.kt 67 hg337
      refine V.re h338 [] 68 71 [(16, .bool true)] fun a h339 => k335 _ _ ?_
      refine V.seq fun K340 k341 => ?_
      refine V.sr h339 [(8, .q (.bool (decide (¬ (decide (seenD role now x59.till)) = true))) V.t_bneq)] 72 80 [(81, .bool (decide (¬ (decide (seenD role now x59.till)) = true)))] fun a h344 => ?_
      refine V.cp h344 (¬ (decide (seenD role now x59.till)) = true) (fun ht345 => ?_) (fun ht345 => ?_)
      · exact absurd (by first | exact rfl | exact decide_eq_decide.mpr (by unfold seenD ovrD; omega) | exact decide_eq_true (by unfold seenD ovrD; omega) | exact decide_eq_false (by unfold seenD ovrD; omega) | omega) ht345
      ·
       refine V.skip ?_
       refine V.then_n (k341 _ _ ?_)
       refine V.seq fun K346 k347 => ?_
       refine V.sr h344 [(1, .b hB6_134 2), (0, .eq role 1)] 82 83 [(84, .bool (decide (role = 1)))] fun a h350 => ?_
       have h351 := h350.kt 84 hg337
       refine V.ct h351 ?_
       refine V.sr h351 [] 1 0 [(6, .bool true)] fun a h354 => ?_
       refine V.ret ?_
       refine V.then_r ?_
       refine V.r1 h354 (.bool true) ?_
       exact ⟨rfl, hP_133.fr (fun k hk => hk.elim)⟩
     ·
      have h355 := h336.kf 67 hg337
      refine V.re h355 [(1, .b hB6_134 2), (0, .eq role 2)] 68 71 [(16, .bool (decide (role = 2)))] fun a h356 => k335 _ _ ?_
      refine V.seq fun K357 k358 => ?_
      refine V.sr h356 [(8, .q (.bool (decide (¬ (decide (seenD role now x59.till)) = true))) V.t_bneq)] 72 80 [(81, .bool (decide (¬ (decide (seenD role now x59.till)) = true)))] fun a h361 => ?_
      refine V.cp h361 (¬ (decide (seenD role now x59.till)) = true) (fun ht362 => ?_) (fun ht362 => ?_)
      · exact absurd (by first | exact rfl | exact decide_eq_decide.mpr (by unfold seenD ovrD; omega) | exact decide_eq_true (by unfold seenD ovrD; omega) | exact decide_eq_false (by unfold seenD ovrD; omega) | omega) ht362
      ·
       refine V.skip ?_
       refine V.then_n (k358 _ _ ?_)
       refine V.seq fun K363 k364 => ?_
       refine V.sr h361 [(1, .b hB6_134 2), (0, .eq role 1)] 82 83 [(84, .bool (decide (role = 1)))] fun a h367 => ?_
       have h368 := h367.kf 84 hg337
       refine V.cf h368 ?_
       refine V.skip ?_
       refine V.then_n (k364 _ _ ?_)
       refine V.seq fun K369 k370 => ?_
       have hr1 := hg337
       have hA371 := hA98_136
       rw [(get_same (n := 0) hr1).1, (get_same hr1).2] at hA371
       refine V.rg ?_
       refine V.run h368 [(1, .bs hB6_134 0 [.int .i64 now, .int .u64 (dr : Int), .int .i64 role, .slice Aa na ca])] 2 1 0 [(85, .pointer (some ⟨sp41, 0, none⟩)), (86, .agg #[.int .i64 now, .int .u64 (dr : Int), .int .i64 role, .slice Aa na ca])] fun a h372 => ?_
       refine V.cl h372 (Go.Proofs.enters_of Tryz.func11 (by kernel_rfl) rfl) (pickr_A w129 hA371 now dr role Aa na ca hdr hr1) ?_
       rintro _ w379 ⟨k373, f374, l375, rfl, hk376, hk377, hF378⟩
       refine ⟨_, rfl, fun a h380 => ?_⟩
       have hsw379 := hF378.size
       have hS2_381 := hS2_132.fr0 hF378
       have hP_382 := hP_133.tr0 hF378
       have hB6_383 := hB6_134.fr0 hF378
       have hB88_384 := hB88_135.fr0 hF378
       have hB130_385 := hB130.fr0 hF378
       have hA371_386 := hA371.fr0 hF378
       refine V.nt (k370 _ _ ?_)
       refine V.sg fun K387 k388 => ?_
       refine V.run h380 [(1, .bs hB6_383 0 [.int .i64 now, .int .u64 (dr : Int), .int .i64 role, .slice Aa na ca])] 2 1 0 [(88, .pointer (some ⟨sp41, 0, none⟩)), (89, .agg #[.int .i64 now, .int .u64 (dr : Int), .int .i64 role, .slice Aa na ca])] fun a h389 => ?_
       refine V.cl h389 (Go.Proofs.enters_of Tryz.func12 (by kernel_rfl) rfl) (keys_A w379 hA371_386 now dr role Aa na ca) ?_
       rintro _ w396 ⟨A390, c391, l392, rfl, hO393, hk394, hF395⟩
       refine ⟨_, rfl, fun a h397 => ?_⟩
       have hsw396 := hF395.size
       have hS2_398 := hS2_381.fr0 hF395
       have hP_399 := hP_382.tr0 hF395
       have hB6_400 := hB6_383.fr0 hF395
       have hB88_401 := hB88_384.fr0 hF395
       have hB130_402 := hB130_385.fr0 hF395
       have hA371_403 := hA371_386.fr0 hF395
       refine V.nt (k388 _ _ ?_)
       refine V.sg fun K404 k405 => ?_
       refine V.run h397 [] 1 1 0 [(91, .pointer (some ⟨sp41, 0, none⟩))] fun a h406 => ?_
       refine V.cl h406 (Go.Proofs.enters_of Tryz.func14 (by kernel_rfl) rfl) (image_A w396 hA371_403 rfl hgd.2.2) ?_
       rintro _ w411 ⟨A407, c408, rfl, hS409, hF410⟩
       refine ⟨_, rfl, fun a h412 => ?_⟩
       have hsw411 := hF410.size
       have hS2_413 := hS2_398.fr0 hF410
       have hP_414 := hP_399.tr0 hF410
       have hB6_415 := hB6_400.fr0 hF410
       have hB88_416 := hB88_401.fr0 hF410
       have hB130_417 := hB130_402.fr0 hF410
       have hA371_418 := hA371_403.fr0 hF410
       refine V.run h412 [] 1 1 0 [(93, .slice Al l2.length cl)] fun a h419 => ?_
       refine V.cl h419 (Go.Proofs.enters_of Tryz.func13 (by kernel_rfl) rfl) (same_eq w411 A407 c408 l2 hS409.old Al cl hS2_413.old) ?_
       rintro _ w421 ⟨rfl, hF420⟩
       refine ⟨_, rfl, fun a h422 => ?_⟩
       have hsw421 := hF420.size
       have hS2_423 := hS2_413.fr0 hF420
       have hP_424 := hP_414.tr0 hF420
       have hB6_425 := hB6_415.fr0 hF420
       have hB88_426 := hB88_416.fr0 hF420
       have hB130_427 := hB130_417.fr0 hF420
       have hA371_428 := hA371_418.fr0 hF420
       have hS409_429 := hS409.fr0 hF420
       refine V.re h422 [] 1 0 [(6, .bool true)] fun a h430 => k405 _ _ ?_
       refine V.ret ?_
       refine V.r1 h430 (.bool true) ?_
       exact ⟨rfl, hP_424.fr (fun k hk => hk.elim)⟩
   ·
    refine V.rg ?_
    refine V.run h94 [(1, .bs hB6_92 0 [.int .i64 now, .int .u64 (dr : Int), .int .i64 role, .slice Aa na ca])] 3 1 0 [(44, .pointer (some ⟨sp41, 0, none⟩)), (45, .agg #[.int .i64 now, .int .u64 (dr : Int), .int .i64 role, .slice Aa na ca]), (46, .string key)] fun a h431 => ?_
    refine V.cl h431 (Go.Proofs.enters_of Tryz.func10 (by kernel_rfl) rfl) (getN_A w87 hA43_93 now (dr : Int) role Aa na ca key (by omega) hd) ?_
    rintro _ w446 ⟨k435, s436, A437, c438, A439, c440, A441, c442, n443, n444, n445, vt434, rfl, hA432, hF433⟩
    refine ⟨_, rfl, fun a h447 => ?_⟩
    have hsw446 := hF433.size
    have hS2_448 := hS2_90.frP hF433 (fun k hz hp => by have h1 := hp.1; (try dsimp only at hz h1); omega)
    have hP_449 := hP_91.trP hF433 (fun k hk => .inr (by have := hk.1; omega))
    have hB6_450 := hB6_92.frP hF433 (by exact fun hp => by have := hp.1; omega)
    have hB88_451 := hB88.frP hF433 (by exact fun hp => hp.2 (.inl (by simp)))
    refine V.run h447 [] 4 43 43 [(48, .agg #[.int .i64 k435, .string s436, .slice A437 n443 c438, .slice A439 n444 c440, .slice A441 n445 c442]), (49, .bool false), (50, vt434)] fun a h456 => ?_
    refine V.go (V.mk [] trivial (by kernel_rfl) [.int .i64 0, .string ⟨#[]⟩, .slice none 0 0, .slice none 0 0, .slice none 0 0] 37 (fun b => .pointer (some ⟨b, 0, none⟩)) (by kernel_rfl) ?_)
    intro w453 b452 heb452 hB454 hF455 hsb452
    have hS2_457 := hS2_448.fr0 hF455
    have hP_458 := hP_449.tr0 hF455
    have hB6_459 := hB6_450.fr0 hF455
    have hB88_460 := hB88_451.fr0 hF455
    have hA432_461 := hA432.alloc hF455 (b := b452) (by omega)
    refine V.pt h456 fun a h462 => ?_
    refine V.go (V.stn b452 0 (.agg #[.int .i64 k435, .string s436, .slice A437 n443 c438, .slice A439 n444 c440, .slice A441 n445 c442]) [.int .i64 k435, .string s436, .slice A437 n443 c438, .slice A439 n444 c440, .slice A441 n445 c442] h462.e h462.e rfl rfl (by kernel_rfl) hB454 (by simp) [.int .i64 k435, .string s436, .slice A437 n443 c438, .slice A439 n444 c440, .slice A441 n445 c442] rfl ?_)
    intro w463 hB464 hF465 hsw463
    have hS2_466 := hS2_457.fr hF465 (by simp <;> omega)
    have hP_467 := hP_458.tr1 hF465 (by first | exact .inl (by assumption) | exact .inr (by omega) | exact .inl (.inl rfl))
    have hB6_468 := hB6_459.fr1 hF465 (by omega)
    have hB88_469 := hB88_460.fr1 hF465 (by omega)
    have hA432_470 := hA432_461.frl hF465 (by intro k hk; simp only [List.mem_singleton] at hk; subst hk; exact .inl (.inl (by simp)))
    refine V.re h462 [] 14 14 [(13, .bool false)] fun a h471 => k96 _ _ ?_
    refine V.sr h471 [] 51 63 [(15, .bool false)] fun a h474 => ?_
    refine V.sg fun K475 k476 => ?_
    refine V.run h474 [(1, .b hB6_468 2), (0, .eq role 1)] 4 64 66 [(67, .bool (decide (role = 1)))] fun a h477 => ?_
    by_cases hg478 : role = 1
    ·
     have h479 := h477.kt 67 hg478
     refine V.re h479 [] 68 71 [(16, .bool true)] fun a h480 => k476 _ _ ?_
     have h481 := h480.only [(0, .slice Al l2.length cl), (4, .pointer (some ⟨b4, 0, none⟩)), (7, .pointer (some ⟨sp41, 0, none⟩)), (11, .bool false), (13, .bool false), (15, .bool false), (16, .bool true)]
     refine V.seq fun K482 k483 => ?_
     refine V.sr h481 [(4, .q (.bool (decide (¬ false = false))) V.t_bneq)] 72 80 [(81, .bool (decide (¬ false = false)))] fun a h486 => ?_
     refine V.cp h486 (¬ false = false) (fun ht487 => ?_) (fun ht487 => ?_)
     · exact absurd (by first | exact rfl | exact decide_eq_decide.mpr (by unfold seenD ovrD; omega) | exact decide_eq_true (by unfold seenD ovrD; omega) | exact decide_eq_false (by unfold seenD ovrD; omega) | omega) ht487
     ·
      refine V.skip ?_
      refine V.then_n (k483 _ _ ?_)
      refine V.seq fun K488 k489 => ?_
      refine V.sr h486 [(1, .b hB6_468 2), (0, .eq role 1)] 82 83 [(84, .bool (decide (role = 1)))] fun a h492 => ?_
      have h493 := h492.kt 84 hg478
      refine V.ct h493 ?_
      refine V.sr h493 [] 1 0 [(6, .bool true)] fun a h496 => ?_
      refine V.ret ?_
      refine V.then_r ?_
      refine V.r1 h496 (.bool true) ?_
      exact ⟨rfl, hP_467.fr (fun k hk => hk.elim)⟩
    ·
     have h497 := h477.kf 67 hg478
     refine V.re h497 [(1, .b hB6_468 2), (0, .eq role 2)] 68 71 [(16, .bool (decide (role = 2)))] fun a h498 => k476 _ _ ?_
     have h499 := h498.only [(0, .slice Al l2.length cl), (4, .pointer (some ⟨b4, 0, none⟩)), (7, .pointer (some ⟨sp41, 0, none⟩)), (11, .bool false), (13, .bool false), (15, .bool false), (16, .bool (decide (role = 2)))]
     refine V.seq fun K500 k501 => ?_
     refine V.sr h499 [(4, .q (.bool (decide (¬ false = false))) V.t_bneq)] 72 80 [(81, .bool (decide (¬ false = false)))] fun a h504 => ?_
     refine V.cp h504 (¬ false = false) (fun ht505 => ?_) (fun ht505 => ?_)
     · exact absurd (by first | exact rfl | exact decide_eq_decide.mpr (by unfold seenD ovrD; omega) | exact decide_eq_true (by unfold seenD ovrD; omega) | exact decide_eq_false (by unfold seenD ovrD; omega) | omega) ht505
     ·
      refine V.skip ?_
      refine V.then_n (k501 _ _ ?_)
      refine V.seq fun K506 k507 => ?_
      refine V.sr h504 [(1, .b hB6_468 2), (0, .eq role 1)] 82 83 [(84, .bool (decide (role = 1)))] fun a h510 => ?_
      have h511 := h510.kf 84 hg478
      refine V.cf h511 ?_
      refine V.skip ?_
      refine V.then_n (k507 _ _ ?_)
      refine V.seq fun K512 k513 => ?_
      have hr1 := hg478
      have hA514 := hA432_470
      rw [(get_same (n := 0) hr1).1, (get_same hr1).2] at hA514
      refine V.rg ?_
      refine V.run h511 [(1, .bs hB6_468 0 [.int .i64 now, .int .u64 (dr : Int), .int .i64 role, .slice Aa na ca])] 2 1 0 [(85, .pointer (some ⟨sp41, 0, none⟩)), (86, .agg #[.int .i64 now, .int .u64 (dr : Int), .int .i64 role, .slice Aa na ca])] fun a h515 => ?_
      refine V.cl h515 (Go.Proofs.enters_of Tryz.func11 (by kernel_rfl) rfl) (pickr_A w463 hA514 now dr role Aa na ca hdr hr1) ?_
      rintro _ w522 ⟨k516, f517, l518, rfl, hk519, hk520, hF521⟩
      refine ⟨_, rfl, fun a h523 => ?_⟩
      have hsw522 := hF521.size
      have hS2_524 := hS2_466.fr0 hF521
      have hP_525 := hP_467.tr0 hF521
      have hB6_526 := hB6_468.fr0 hF521
      have hB88_527 := hB88_469.fr0 hF521
      have hB464_528 := hB464.fr0 hF521
      have hA514_529 := hA514.fr0 hF521
      refine V.nt (k513 _ _ ?_)
      refine V.sg fun K530 k531 => ?_
      refine V.run h523 [(1, .bs hB6_526 0 [.int .i64 now, .int .u64 (dr : Int), .int .i64 role, .slice Aa na ca])] 2 1 0 [(88, .pointer (some ⟨sp41, 0, none⟩)), (89, .agg #[.int .i64 now, .int .u64 (dr : Int), .int .i64 role, .slice Aa na ca])] fun a h532 => ?_
      refine V.cl h532 (Go.Proofs.enters_of Tryz.func12 (by kernel_rfl) rfl) (keys_A w522 hA514_529 now dr role Aa na ca) ?_
      rintro _ w539 ⟨A533, c534, l535, rfl, hO536, hk537, hF538⟩
      refine ⟨_, rfl, fun a h540 => ?_⟩
      have hsw539 := hF538.size
      have hS2_541 := hS2_524.fr0 hF538
      have hP_542 := hP_525.tr0 hF538
      have hB6_543 := hB6_526.fr0 hF538
      have hB88_544 := hB88_527.fr0 hF538
      have hB464_545 := hB464_528.fr0 hF538
      have hA514_546 := hA514_529.fr0 hF538
      refine V.nt (k531 _ _ ?_)
      refine V.sg fun K547 k548 => ?_
      refine V.run h540 [] 1 1 0 [(91, .pointer (some ⟨sp41, 0, none⟩))] fun a h549 => ?_
      refine V.cl h549 (Go.Proofs.enters_of Tryz.func14 (by kernel_rfl) rfl) (image_A w539 hA514_546 rfl hgd.2.2) ?_
      rintro _ w554 ⟨A550, c551, rfl, hS552, hF553⟩
      refine ⟨_, rfl, fun a h555 => ?_⟩
      have hsw554 := hF553.size
      have hS2_556 := hS2_541.fr0 hF553
      have hP_557 := hP_542.tr0 hF553
      have hB6_558 := hB6_543.fr0 hF553
      have hB88_559 := hB88_544.fr0 hF553
      have hB464_560 := hB464_545.fr0 hF553
      have hA514_561 := hA514_546.fr0 hF553
      refine V.run h555 [] 1 1 0 [(93, .slice Al l2.length cl)] fun a h562 => ?_
      refine V.cl h562 (Go.Proofs.enters_of Tryz.func13 (by kernel_rfl) rfl) (same_eq w554 A550 c551 l2 hS552.old Al cl hS2_556.old) ?_
      rintro _ w564 ⟨rfl, hF563⟩
      refine ⟨_, rfl, fun a h565 => ?_⟩
      have hsw564 := hF563.size
      have hS2_566 := hS2_556.fr0 hF563
      have hP_567 := hP_557.tr0 hF563
      have hB6_568 := hB6_558.fr0 hF563
      have hB88_569 := hB88_559.fr0 hF563
      have hB464_570 := hB464_560.fr0 hF563
      have hA514_571 := hA514_561.fr0 hF563
      have hS552_572 := hS552.fr0 hF563
      refine V.re h565 [] 1 0 [(6, .bool true)] fun a h573 => k548 _ _ ?_
      refine V.ret ?_
      refine V.r1 h573 (.bool true) ?_
      exact ⟨rfl, hP_567.fr (fun k hk => hk.elim)⟩
  ·
   refine V.rg ?_
   refine V.run h31 [] 1 1 0 [(25, .slice Al l2.length cl)] fun a h574 => ?_
   refine V.cl h574 (Go.Proofs.enters_of Tryz.func8 (by kernel_rfl) rfl) (begin_bad w30 Al cl l2 hS2_32.old hbn2 hbad) ?_
   rintro _ w576 ⟨rfl, hF575⟩
   refine ⟨_, rfl, fun a h577 => ?_⟩
   have hsw576 := hF575.size
   have hS2_578 := hS2_32.fr0 hF575
   have hP_579 := hP_33.tr0 hF575
   have hB6_580 := hB6_34.fr0 hF575
   refine V.re h577 [] 24 29 [(7, .pointer none), (8, .pointer none), (9, .bool true)] fun a h581 => k38 _ _ ?_
   refine V.seq fun K582 k583 => ?_
   refine V.sr h581 [] 30 34 [(35, .bool true)] fun a h586 => ?_
   refine V.ct h586 ?_
   refine V.sr h586 [] 36 36 [(6, .bool true)] fun a h589 => ?_
   refine V.ret ?_
   refine V.then_r ?_
   refine V.r1 h589 (.bool true) ?_
   exact ⟨rfl, hP_579.fr (fun k hk => hk.elim)⟩
end Go.Proofs.YtjkegckfncfoaaaGreat
end
section
namespace Go.Proofs.YtjkegckfncfoaaaGreat
open Go.V Go.Base Go.RowKit Go.WideShapes Go.ChangeShapes Go.Deep
set_option linter.unusedVariables false
section
variable {H : Type}
theorem bulk_pos (d : DataW H) : 1 ≤ Rows.uptoBulk d := by
  cases d with
  | lit l => cases l <;> simp [Rows.uptoBulk]
  | nil => simp [Rows.uptoBulk]
  | ptr d => simp [Rows.uptoBulk]
  | slice a b => simp [Rows.uptoBulk]
  | agg a => simp [Rows.uptoBulk]
  | iface t d => simp [Rows.uptoBulk]
  | map a => simp [Rows.uptoBulk]
  | held h => simp [Rows.uptoBulk]
theorem bulk_len : ∀ (l : List (DataW H)), l.length ≤ Rows.uptoBulkAll l
  | [] => by simp [Rows.uptoBulkAll]
  | d :: l => by
    have h1 := bulk_pos d
    have h2 := bulk_len l
    simp only [List.length_cons, Rows.uptoBulkAll]
    omega
theorem bulk_mem : ∀ {l : List (DataW H)} {d : DataW H}, d ∈ l → Rows.uptoBulk d ≤ Rows.uptoBulkAll l
  | e :: l, d, h => by
    simp only [Rows.uptoBulkAll]
    rcases List.mem_cons.1 h with rfl | h
    · omega
    · have := bulk_mem h; omega
end
def Opn {α : Type} {H : Type} (enc : TypeId × Value → H) (P : Program) (W : World) (t : TypeId) (R : Rp α) (K : α → Nat → Prop) : Prop :=
  ∀ (n : Nat) (cs : List Value) (x : DataW H × List MemPlace), DataW.trod enc P W 0 (fun _ => true) true n t cs = some x → (∀ p ∈ x.2, p.block < W.heap.size) → ∃ d : α, R.ok (fun b => b < W.heap.size) W d cs ∧ K d (Rows.uptoBulk x.1)
section
variable {α : Type} {R : Rp α} {K : α → Nat → Prop} {H : Type} {enc : TypeId × Value → H} {P : Program} {W : World} {t e : TypeId}
theorem opn_i {n : Nat} {cs : List Value} {x : DataW H × List MemPlace} (ht : P.underlying t = some (.int .i64)) (h : DataW.trod enc P W 0 (fun _ => true) true n t cs = some x) : ∃ n : Int, cs = [.int .i64 n] ∧ -9223372036854775808 ≤ n ∧ n ≤ 9223372036854775807 := by
  obtain ⟨n, q, _, w⟩ := DataW.trod_int ht h
  unfold Lit.wf at w
  have h1 : IntKind.i64.min = -9223372036854775808 := by decide
  have h2 : IntKind.i64.max = 9223372036854775807 := by decide
  simp [h1, h2] at w
  exact ⟨n, q, w.1, w.2⟩
theorem opn_w {n : Nat} {cs : List Value} {x : DataW H × List MemPlace} (ht : P.underlying t = some (.int .u64)) (h : DataW.trod enc P W 0 (fun _ => true) true n t cs = some x) : ∃ n : Nat, cs = [.int .u64 (n : Int)] ∧ n < 18446744073709551616 := by
  obtain ⟨n, q, _, w⟩ := DataW.trod_int ht h
  unfold Lit.wf at w
  have h1 : IntKind.u64.min = 0 := by decide
  have h2 : IntKind.u64.max = 18446744073709551615 := by decide
  simp [h1, h2] at w
  exact ⟨n.toNat, by rw [q, Int.toNat_of_nonneg w.1], by omega⟩
theorem opn_s {n : Nat} {cs : List Value} {x : DataW H × List MemPlace} (ht : P.underlying t = some .string) (h : DataW.trod enc P W 0 (fun _ => true) true n t cs = some x) : ∃ s : ByteArray, cs = [.string s] ∧ s.size ≤ Rows.uptoBulk x.1 := by
  obtain ⟨s, q, rfl, w⟩ := DataW.trod_string ht h
  exact ⟨s, q, by simp [Rows.uptoBulk]⟩
theorem Opn.str (ht : P.underlying t = some .string) : Opn enc P W t Rp.str fun s b => s.size ≤ b := fun n cs x h hp => by
  obtain ⟨s, rfl, h1⟩ := opn_s ht h
  exact ⟨s, rfl, h1⟩
/-- A slice of what can be opened. -/
theorem Opn.sl (ht : P.underlying t = some (.slice e)) (hc : P.cellsOf e = R.sz) (hpos : 0 < R.sz) (hK : ∀ d b b', b ≤ b' → K d b → K d b') (hel : Opn enc P W e R K) {n : Nat} {cs : List Value} {x : DataW H × List MemPlace} (hf : DataW.trod enc P W 0 (fun _ => true) true n t cs = some x) (hlt : ∀ p ∈ x.2, p.block < W.heap.size) :
    ∃ A c l, cs = [.slice A l.length c] ∧ SlR R (fun b => b < W.heap.size) W (.slice A l.length c) l ∧ l.length ≤ Rows.uptoBulk x.1 ∧ ∀ y ∈ l, K y (Rows.uptoBulk x.1) := by
  rcases open_slice ht hf with ⟨rfl, rfl⟩ | ⟨a, len, cap, m, k, D, Pl, rfl, _, hl, hm, hmm, rfl, hall⟩
  · exact ⟨none, 0, [], rfl, SlR.nil _ _ _, Nat.zero_le _, fun y hy => by simp at hy⟩
  · simp only [if_true] at hmm
    subst hmm
    have hone : ∀ i, i < m → ∃ (x : α) (cs : List Value), R.ok (fun b => b < W.heap.size) W x cs ∧ K x (Rows.uptoBulk (D i)) ∧ ∀ j u, cs[j]? = some u → W.cell? (a.add (i * R.sz + j)) = some u := fun i hi => by
      obtain ⟨cs', h1, h2⟩ := hall i hi
      obtain ⟨x, hx, hkx⟩ := hel k cs' _ h2 fun p hp => hlt p (List.mem_append_right _ (List.mem_flatMap.2 ⟨i, List.mem_range.2 hi, hp⟩))
      obtain ⟨_, hlen, hcell⟩ := World.cells?_some h1
      refine ⟨x, cs', hx, hkx, fun j u hj => ?_⟩
      have hjl : j < P.cellsOf e := by rw [← hlen]; exact (List.getElem?_eq_some_iff.1 hj).1
      have := hcell j hjl
      rw [hj, hc] at this
      rw [← this, add_add]
    have hex : ∀ q, q ≤ m → ∃ l : List α, l.length = q ∧ ∀ i x, l[i]? = some x → K x (Rows.uptoBulk (D i)) ∧ ∃ cs, R.ok (fun b => b < W.heap.size) W x cs ∧ ∀ j u, cs[j]? = some u → W.cell? (a.add (i * R.sz + j)) = some u := by
      intro q
      induction q with
      | zero => exact fun _ => ⟨[], rfl, fun i x h => by simp at h⟩
      | succ q ih =>
        intro hq
        obtain ⟨l, hll, hli⟩ := ih (by omega)
        obtain ⟨x, cs, h1, hk1, h2⟩ := hone q (by omega)
        refine ⟨l ++ [x], by simp [hll], fun i y hy => ?_⟩
        rcases Nat.lt_or_ge i l.length with hi | hi
        · rw [List.getElem?_append_left hi] at hy; exact hli i y hy
        · rw [List.getElem?_append_right hi] at hy
          have : i - l.length = 0 := by
            have := (List.getElem?_eq_some_iff.1 hy).1; simp at this; omega
          rw [this] at hy
          simp at hy; subst hy
          have hiq : i = q := by omega
          subst hiq
          exact ⟨hk1, cs, h1, h2⟩
    obtain ⟨l, hll, hli⟩ := hex len hl
    subst hll
    have hb : ∀ i, i < l.length → Rows.uptoBulk (D i) ≤ Rows.uptoBulkAll ((List.range l.length).map D) := fun i hi => bulk_mem (List.mem_map.2 ⟨i, List.mem_range.2 hi, rfl⟩)
    have hlb := bulk_len ((List.range l.length).map D)
    rw [List.length_map, List.length_range] at hlb
    have hbb : Rows.uptoBulkAll ((List.range l.length).map D) ≤ Rows.uptoBulk (DataW.slice ((List.range l.length).map D) ((List.range (m - l.length)).map fun j => D (l.length + j))) := by simp only [Rows.uptoBulk]; omega
    refine ⟨some a, m, l, rfl, ⟨_, _, rfl, hl, by unfold maxLen at hm; omega, fun i x hi => ?_⟩, Nat.le_trans hlb hbb, fun y hy => ?_⟩
    · obtain ⟨_, cs, h1, h2⟩ := hli i x hi
      have hin : i < l.length := (List.getElem?_eq_some_iff.1 hi).1
      obtain ⟨b, off, spot⟩ := a
      have hcl := R.len h1
      obtain ⟨u0, hu0⟩ : ∃ u, cs[0]? = some u := ⟨cs[0]'(by omega), List.getElem?_eq_getElem (by omega)⟩
      obtain ⟨_, cz, z1, z2⟩ := hli 0 _ (List.getElem?_eq_getElem (by omega))
      have hzl := R.len z1
      have hspot : spot = none := by simpa [Addr.add] using World.cell?_spot (z2 0 _ (List.getElem?_eq_getElem (by omega)))
      subst hspot
      have hbW : b < W.heap.size := by
        have hmem : MemPlace.cell b off ∈ MemPlace.row ⟨b, off, none⟩ (m * P.cellsOf e) := MemPlace.mem_row.2 ⟨0, by rw [hc]; exact Nat.mul_pos (by omega) hpos, by simp⟩
        exact hlt _ (List.mem_append_left _ hmem)
      refine ⟨b, off, cs, rfl, hbW, hbW, h1, fun j u hj => ?_⟩
      have := h2 j u hj
      rwa [show (⟨b, off, none⟩ : Addr).add (i * R.sz + j) = ⟨b, off + i * R.sz + j, none⟩ by unfold Addr.add; split <;> simp_all [Nat.add_assoc]] at this
    · obtain ⟨i, hi⟩ := List.mem_iff_getElem?.1 hy
      exact hK _ _ _ (Nat.le_trans (hb i (List.getElem?_eq_some_iff.1 hi).1) hbb) (hli i y hi).1
/-- A struct's parts. -/
theorem opn_st {fs : Array Field} (ht : P.underlying t = some (.struct fs)) {k : Nat} (hk : P.cellsOf t = k) {n : Nat} {cs : List Value} {x : DataW H × List MemPlace} (h : DataW.trod enc P W 0 (fun _ => true) true n t cs = some x) (hlt : ∀ p ∈ x.2, p.block < W.heap.size) :
    cs.length = k ∧ ∀ (i : Nat) (f : Field), fs[i]? = some f → ∃ m y, DataW.trod enc P W 0 (fun _ => true) true m f.type ((cs.drop f.offset).take (P.cellsOf f.type)) = some y ∧ Rows.uptoBulk y.1 ≤ Rows.uptoBulk x.1 ∧ ∀ p ∈ y.2, p.block < W.heap.size := by
  obtain ⟨xs, m, _, rfl, hl, hlen, hf⟩ := DataW.trod_struct ht h
  refine ⟨hl.trans hk, fun i f hi => ?_⟩
  have hil : i < xs.length := by
    have := (Array.getElem?_eq_some_iff.1 hi).1
    omega
  refine ⟨m, xs[i], (hf i f hi).trans (List.getElem?_eq_getElem hil), ?_, fun p hp => hlt p (List.mem_flatMap.2 ⟨xs[i], List.getElem_mem hil, hp⟩)⟩
  have := bulk_mem (l := xs.map (·.1)) (List.mem_map.2 ⟨xs[i], List.getElem_mem hil, rfl⟩)
  simp only [Rows.uptoBulk]
  omega
end
theorem okw_st {P : Program} {W : World} {r : Reach} {b : Nat} {t : TypeId} {v : Value} {fs : Array Field} (ht : P.underlying t = some (.struct fs)) (h : Value.okWide P W r b t v) : ∃ cs, v = .agg cs := by
  unfold Value.okWide at h
  rw [ht] at h
  obtain ⟨cs, h1, _⟩ := h
  exact ⟨cs, h1⟩
theorem list2 {β : Type} {cs : List β} (h : cs.length = 2) : ∃ a b, cs = [a, b] := by
  match cs, h with
  | [a, b], _ => exact ⟨a, b, rfl⟩
theorem list4 {β : Type} {cs : List β} (h : cs.length = 4) : ∃ a b c d, cs = [a, b, c, d] := by
  match cs, h with
  | [a, b, c, d], _ => exact ⟨a, b, c, d, rfl⟩
theorem list5 {β : Type} {cs : List β} (h : cs.length = 5) : ∃ a b c d e, cs = [a, b, c, d, e] := by
  match cs, h with
  | [a, b, c, d, e], _ => exact ⟨a, b, c, d, e, rfl⟩
theorem list7 {β : Type} {cs : List β} (h : cs.length = 7) : ∃ a b c d e f g, cs = [a, b, c, d, e, f, g] := by
  match cs, h with
  | [a, b, c, d, e, f, g], _ => exact ⟨a, b, c, d, e, f, g, rfl⟩
end Go.Proofs.YtjkegckfncfoaaaGreat
end
section
namespace Go.Proofs.YtjkegckfncfoaaaGreat
open Go.V Go.Base
open Go.RowKit (Below)
attribute [local irreducible] Act.put Act.eval
set_option linter.unusedVariables false
set_option linter.unusedSimpArgs false
open Go.WideShapes Go.ChangeShapes Go.Deep
/-! A value that is an argument. -/
def ScK (y : ByteArray × Int) (b : Nat) : Prop := y.1.size ≤ b ∧ -9223372036854775808 ≤ y.2 ∧ y.2 ≤ 9223372036854775807
def FdK (y : ByteArray × ByteArray) (b : Nat) : Prop := y.1.size ≤ b ∧ y.2.size ≤ b
def ValK (k : Int) (s : ByteArray) (l : List ByteArray) (z : List (ByteArray × Int)) (h : List (ByteArray × ByteArray)) (b : Nat) : Prop :=
  (-9223372036854775808 ≤ k ∧ k ≤ 9223372036854775807) ∧ s.size ≤ b ∧ (l.length ≤ b ∧ ∀ y ∈ l, y.size ≤ b) ∧ (z.length ≤ b ∧ ∀ y ∈ z, ScK y b) ∧ h.length ≤ b ∧ ∀ y ∈ h, FdK y b
theorem cells9 : Tryz.prog.cellsOf 9 = 1 := by kernel_rfl
theorem cells2 : Tryz.prog.cellsOf 2 = 1 := by kernel_rfl
theorem cells22 : Tryz.prog.cellsOf 33 = 1 := by kernel_rfl
theorem cells23 : Tryz.prog.cellsOf 25 = 1 := by kernel_rfl
theorem cells24 : Tryz.prog.cellsOf 34 = 1 := by kernel_rfl
theorem cells25 : Tryz.prog.cellsOf 35 = 1 := by kernel_rfl
theorem cells27 : Tryz.prog.cellsOf 37 = 5 := by kernel_rfl
theorem cells37 : Tryz.prog.cellsOf 107 = 2 := by kernel_rfl
theorem cells35 : Tryz.prog.cellsOf 110 = 2 := by kernel_rfl
section
variable {H : Type} {enc : TypeId × Value → H} {W : World}
theorem sc_el : Opn enc Tryz.prog W 107 scR ScK := fun n cs x h hp => by
  obtain ⟨hl, hf⟩ := opn_st Tryz.underlying107 cells37 h hp
  obtain ⟨c0, c1, rfl⟩ := list2 hl
  obtain ⟨_, y0, h0, b0, _⟩ := hf 0 _ rfl
  obtain ⟨_, y1, h1, b1, _⟩ := hf 1 _ rfl
  obtain ⟨s, q0, k0⟩ := opn_s Tryz.underlying9 h0
  obtain ⟨n, q1, k1⟩ := opn_i Tryz.underlying2 h1
  simp [cells9, cells2] at q0 q1
  subst q0; subst q1
  exact ⟨(s, n), rfl, Nat.le_trans k0 b0, k1⟩
theorem fd_el : Opn enc Tryz.prog W 110 fdR FdK := fun n cs x h hp => by
  obtain ⟨hl, hf⟩ := opn_st Tryz.underlying110 cells35 h hp
  obtain ⟨c0, c1, rfl⟩ := list2 hl
  obtain ⟨_, y0, h0, b0, _⟩ := hf 0 _ rfl
  obtain ⟨_, y1, h1, b1, _⟩ := hf 1 _ rfl
  obtain ⟨s, q0, k0⟩ := opn_s Tryz.underlying9 h0
  obtain ⟨n, q1, k1⟩ := opn_s Tryz.underlying9 h1
  simp [cells9] at q0 q1
  subst q0; subst q1
  exact ⟨(s, n), rfl, Nat.le_trans k0 b0, Nat.le_trans k1 b1⟩
theorem val_el {n : Nat} {cs : List Value} {x : DataW H × List MemPlace} (h : DataW.trod enc Tryz.prog W 0 (fun _ => true) true n 37 cs = some x) (hp : ∀ p ∈ x.2, p.block < W.heap.size) :
    ∃ k s Al cl l Az cz z Ah ch h', cs = [.int .i64 k, .string s, .slice Al l.length cl, .slice Az z.length cz, .slice Ah h'.length ch] ∧ SlR Rp.str (fun b => b < W.heap.size) W (.slice Al l.length cl) l ∧ SlR scR (fun b => b < W.heap.size) W (.slice Az z.length cz) z ∧ SlR fdR (fun b => b < W.heap.size) W (.slice Ah h'.length ch) h' ∧ ValK k s l z h' (Rows.uptoBulk x.1) := by
  obtain ⟨hl, hf⟩ := opn_st Tryz.underlying37 cells27 h hp
  obtain ⟨c0, c1, c2, c3, c4, rfl⟩ := list5 hl
  obtain ⟨_, y0, h0, b0, p0⟩ := hf 0 _ rfl
  obtain ⟨_, y1, h1, b1, p1⟩ := hf 1 _ rfl
  obtain ⟨_, y2, h2, b2, p2⟩ := hf 2 _ rfl
  obtain ⟨_, y3, h3, b3, p3⟩ := hf 3 _ rfl
  obtain ⟨_, y4, h4, b4, p4⟩ := hf 4 _ rfl
  obtain ⟨k, q0, k0⟩ := opn_i Tryz.underlying33 h0
  obtain ⟨s, q1, k1⟩ := opn_s Tryz.underlying9 h1
  obtain ⟨Al, cl, l, q2, s2, k2, m2⟩ := Opn.sl (R := Rp.str) (K := fun s b => s.size ≤ b) Tryz.underlying25 cells9 (by decide) (fun d b b' h q => Nat.le_trans q h) (Opn.str Tryz.underlying9) h2 p2
  obtain ⟨Az, cz, z, q3, s3, k3, m3⟩ := Opn.sl (R := scR) (K := ScK) Tryz.underlying34 cells37 (by decide) (fun d b b' h q => ⟨Nat.le_trans q.1 h, q.2⟩) sc_el h3 p3
  obtain ⟨Ah, ch, h', q4, s4, k4, m4⟩ := Opn.sl (R := fdR) (K := FdK) Tryz.underlying35 cells35 (by decide) (fun d b b' h q => ⟨Nat.le_trans q.1 h, Nat.le_trans q.2 h⟩) fd_el h4 p4
  simp [cells9, cells22, cells23, cells24, cells25] at q0 q1 q2 q3 q4
  subst q0; subst q1; subst q2; subst q3; subst q4
  exact ⟨k, s, Al, cl, l, Az, cz, z, Ah, ch, h', rfl, s2, s3, s4, k0, by omega, ⟨by omega, fun y hy => Nat.le_trans (m2 y hy) b2⟩, ⟨by omega, fun y hy => ⟨Nat.le_trans (m3 y hy).1 b3, (m3 y hy).2⟩⟩, by omega, fun y hy => ⟨Nat.le_trans (m4 y hy).1 b4, Nat.le_trans (m4 y hy).2 b4⟩⟩
end
end Go.Proofs.YtjkegckfncfoaaaGreat
end
section
namespace Go.Proofs.YtjkegckfncfoaaaGreat
open Go.V Go.Base
open Go.RowKit (Below)
attribute [local irreducible] Act.put Act.eval
set_option linter.unusedVariables false
set_option linter.unusedSimpArgs false
open Go.WideShapes Go.ChangeShapes Go.Deep
/-! A call that is an argument. -/
def CallK (now : Int) (dr : Nat) (role : Int) (b : Nat) : Prop := (-9223372036854775808 ≤ now ∧ now ≤ 9223372036854775807) ∧ dr < 18446744073709551616 ∧ -9223372036854775808 ≤ role ∧ role ≤ 9223372036854775807
theorem cellsC : Tryz.prog.cellsOf 27 = 4 := by kernel_rfl
theorem cellsI : Tryz.prog.cellsOf 3 = 1 := by kernel_rfl
theorem cellsU : Tryz.prog.cellsOf 23 = 1 := by kernel_rfl
theorem cellsR : Tryz.prog.cellsOf 24 = 1 := by kernel_rfl
section
variable {H : Type} {enc : TypeId × Value → H} {W : World}
theorem call_el {n : Nat} {cs : List Value} {x : DataW H × List MemPlace} (h : DataW.trod enc Tryz.prog W 0 (fun _ => true) true n 27 cs = some x) (hp : ∀ p ∈ x.2, p.block < W.heap.size) :
    ∃ now dr role Aa na ca, cs = [.int .i64 now, .int .u64 ((dr : Nat) : Int), .int .i64 role, .slice Aa na ca] ∧ CallK now dr role (Rows.uptoBulk x.1) := by
  obtain ⟨hl, hf⟩ := opn_st Tryz.underlying27 cellsC h hp
  obtain ⟨c0, c1, c2, c3, rfl⟩ := list4 hl
  obtain ⟨_, y0, h0, b0, p0⟩ := hf 0 _ rfl
  obtain ⟨_, y1, h1, b1, p1⟩ := hf 1 _ rfl
  obtain ⟨_, y2, h2, b2, p2⟩ := hf 2 _ rfl
  obtain ⟨_, y3, h3, b3, p3⟩ := hf 3 _ rfl
  obtain ⟨now, q0, k0⟩ := opn_i Tryz.underlying3 h0
  obtain ⟨dr, q1, k1⟩ := opn_w Tryz.underlying23 h1
  obtain ⟨role, q2, k2⟩ := opn_i Tryz.underlying24 h2
  obtain ⟨A, c, l, q3, s3, k3, m3⟩ := Opn.sl (R := Rp.str) (K := fun s b => s.size ≤ b) Tryz.underlying25 cells9 (by decide) (fun d b b' h q => Nat.le_trans q h) (Opn.str Tryz.underlying9) h3 p3
  simp [cellsI, cellsU, cellsR, cells23] at q0 q1 q2 q3
  subst q0; subst q1; subst q2; subst q3
  exact ⟨now, dr, role, A, l.length, c, rfl, k0, k1, k2⟩
/-! Entries that are an argument. -/
def EnK (x : EnD) (b : Nat) : Prop := x.key.size ≤ b ∧ ValK x.k x.s x.l x.z x.h b ∧ -9223372036854775808 ≤ x.till ∧ x.till ≤ 9223372036854775807
theorem ValK.mono {k : Int} {s : ByteArray} {l : List ByteArray} {z : List (ByteArray × Int)} {h : List (ByteArray × ByteArray)} {b b' : Nat} (q : ValK k s l z h b) (hb : b ≤ b') : ValK k s l z h b' :=
  ⟨q.1, Nat.le_trans q.2.1 hb, ⟨Nat.le_trans q.2.2.1.1 hb, fun y hy => Nat.le_trans (q.2.2.1.2 y hy) hb⟩, ⟨Nat.le_trans q.2.2.2.1.1 hb, fun y hy => ⟨Nat.le_trans (q.2.2.2.1.2 y hy).1 hb, (q.2.2.2.1.2 y hy).2⟩⟩, Nat.le_trans q.2.2.2.2.1 hb, fun y hy => ⟨Nat.le_trans (q.2.2.2.2.2 y hy).1 hb, Nat.le_trans (q.2.2.2.2.2 y hy).2 hb⟩⟩
theorem EnK.mono {x : EnD} {b b' : Nat} (q : EnK x b) (hb : b ≤ b') : EnK x b' := ⟨Nat.le_trans q.1 hb, q.2.1.mono hb, q.2.2⟩
theorem cellsE : Tryz.prog.cellsOf 39 = 7 := by kernel_rfl
theorem en_el : Opn enc Tryz.prog W 39 enR EnK := fun n cs x h hp => by
  obtain ⟨hl, hf⟩ := opn_st Tryz.underlying39 cellsE h hp
  obtain ⟨c0, c1, c2, c3, c4, c5, c6, rfl⟩ := list7 hl
  obtain ⟨_, y0, h0, b0, p0⟩ := hf 0 _ rfl
  obtain ⟨_, y1, h1, b1, p1⟩ := hf 1 _ rfl
  obtain ⟨_, y2, h2, b2, p2⟩ := hf 2 _ rfl
  obtain ⟨s, q0, k0⟩ := opn_s Tryz.underlying9 h0
  obtain ⟨k, s', Al, cl, l, Az, cz, z, Ah, ch, h', q1, s1, s2, s3, k1⟩ := val_el h1 p1
  obtain ⟨t, q2, k2⟩ := opn_i Tryz.underlying3 h2
  simp [cells9, cellsI, cells27] at q0 q1 q2
  obtain ⟨rfl, rfl, rfl, rfl, rfl⟩ := q1
  subst q0; subst q2
  exact ⟨⟨s, k, s', l, z, h', t⟩, ⟨_, _, _, rfl, s1, s2, s3⟩, Nat.le_trans k0 b0, k1.mono b1, k2⟩
theorem open_en {A : Option Addr} {n c : Nat} {d : DataW H} {ps : List MemPlace} (hd : DataW.Trod enc Tryz.prog W 0 (fun _ => true) true 22 (.slice A n c) d ps) (hlt : ∀ x ∈ ps, x.block < W.heap.size) :
    ∃ l : List EnD, n = l.length ∧ SlR enR (fun b => b < W.heap.size) W (.slice A n c) l ∧ l.length ≤ Rows.uptoBulk d ∧ ∀ x ∈ l, EnK x (Rows.uptoBulk d) := by
  obtain ⟨fu, hf⟩ := hd
  obtain ⟨A', c', l, q, s, k, m⟩ := Opn.sl (R := enR) (K := EnK) Tryz.underlying22 cellsE (by decide) (fun d b b' h q => q.mono h) en_el hf hlt
  simp [Value.cells] at q
  obtain ⟨rfl, rfl, rfl⟩ := q
  exact ⟨l, rfl, s, k, m⟩
end
end Go.Proofs.YtjkegckfncfoaaaGreat
end
