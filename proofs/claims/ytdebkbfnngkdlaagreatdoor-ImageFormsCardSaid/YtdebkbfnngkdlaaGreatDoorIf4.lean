/- Joined texts: Kf, Lw, Opn, Pn, Kj, Itr, Kk, Mk0, Ki, Kl, Km, Kn, Kg, Kh. -/
import Derived.Test.YtdebkbfnngkdlaaGreatDoorProg
import Derived.Lib.ItoaLen
import Derived.Test.YtdebkbfnngkdlaaGreatDoorCards
import Derived.Test.YtdebkbfnngkdlaaGreatDoorTie
import Derived.WalkKit
import Derived.ProofKit
import Derived.OpenShut
import Derived.Deep.DeepHandedRow
import Derived.Deep.DeepWitnessRowRef
import Derived.Lib.LaidTab
import Derived.Stop.LaidErr
import Derived.Shelf.Vars
import Derived.Test.YtdebkbfnngkdlaaGreatDoorRows
import Derived.Deep.Slices
import Derived.Lib.SmallJoins
import Derived.ChangeSame
import Derived.Lib.OthersKept
import Derived.WideLaws
import Derived.Lib.ParseIntBTie
import Derived.Lib.AtoiErrMem
import Derived.Lib.SplitLaws
import Derived.Test.YtdebkbfnngkdlaaGreatDoorIf3
section
namespace Go.Proofs.YtdebkbfnngkdlaaGreatDoor
open Go.V Go.Base
open Go.RowKit (Below)
attribute [local irreducible] Act.put Act.eval
set_option linter.unusedVariables false
set_option linter.unusedSimpArgs false
set_option maxHeartbeats 4000000
set_option maxRecDepth 20000
/-! ### The variables that are laid; numbers -/
structure Vs (w : World) : Prop where
  lo : 8 ≤ w.heap.size
  tab : Lib.TabIs Tryz.prog w "internal/strconv.uint64pow10" .u64 Lib.pow10Tab
  syn : ∃ tp p, w.var? Tryz.prog "strconv.ErrSyntax" = some #[.iface tp p]
  ran : ∃ tp p, w.var? Tryz.prog "strconv.ErrRange" = some #[.iface tp p]
  mx : ∃ m, w.cell? ⟨0, 0, none⟩ = some (.int .i64 m)
theorem var_fr {w w1 : World} {n : String} {cs : Array Value} (h : w.var? Tryz.prog n = some cs) (f : Fr [] w w1) : w1.var? Tryz.prog n = some cs := by
  unfold World.var? at h ⊢
  obtain ⟨g, hg, h2⟩ := Option.bind_eq_some_iff.1 h
  refine Option.bind_eq_some_iff.2 ⟨g, hg, ?_⟩
  have hlt : g < w.heap.size := Nat.lt_of_not_le fun hle => by rw [Array.getElem?_eq_none hle] at h2; cases h2
  rw [f.block g hlt (by simp)]; exact h2
theorem cell_fr {w w1 : World} {a : Addr} {v : Value} (h : w.cell? a = some v) (f : Fr [] w w1) : w1.cell? a = some v := by
  have hlt : a.block < w.heap.size := Nat.lt_of_not_le fun hle => by unfold World.cell? at h; rw [Array.getElem?_eq_none hle] at h; cases h
  exact (World.cell?_of_block (w := w) (f.block _ hlt (by simp))).trans h
theorem Vs.fr {w w1 : World} (h : Vs w) (f : Fr [] w w1) : Vs w1 := by
  obtain ⟨tp, p, hs⟩ := h.syn
  obtain ⟨tq, q, hr⟩ := h.ran
  obtain ⟨m, hm⟩ := h.mx
  exact ⟨Nat.le_trans h.lo f.size, var_fr h.tab f, ⟨tp, p, var_fr hs f⟩, ⟨tq, q, var_fr hr f⟩, m, cell_fr hm f⟩
theorem var_bel {w w1 : World} {n : String} {cs : Array Value} {g B : Nat} (hg : Tryz.prog.globalNamed n = some g) (hlt : g < B) (h : w.var? Tryz.prog n = some cs) (f : Below B w w1) : w1.var? Tryz.prog n = some cs := by
  unfold World.var? at h ⊢
  rw [hg] at h ⊢
  show (match w1.heap[g]? with | some (.cells cs _ _) => some cs | _ => none) = some cs
  rw [f.block g hlt]; exact h
theorem Vs.bel {w w1 : World} {B : Nat} (h : Vs w) (f : Below B w w1) (hB : 8 ≤ B) : Vs w1 := by
  obtain ⟨tp, p, hs⟩ := h.syn
  obtain ⟨tq, q, hr⟩ := h.ran
  obtain ⟨m, hm⟩ := h.mx
  exact ⟨Nat.le_trans h.lo f.size, var_bel (g := 1) (by kernel_rfl) (by omega) h.tab f, ⟨tp, p, var_bel (g := 2) (by kernel_rfl) (by omega) hs f⟩, ⟨tq, q, var_bel (g := 3) (by kernel_rfl) (by omega) hr f⟩, m, (World.cell?_of_block (w := w) (f.block 0 (by omega))).trans hm⟩
def itoaS (n : Int) : ByteArray := ⟨(Lib.itoa n).toArray⟩
def i64 (n : Int) : Prop := -9223372036854775808 ≤ n ∧ n ≤ 9223372036854775807
theorem itoaS_len {n : Int} (h : i64 n) : (itoaS n).size ≤ 21 := by
  have := Lib.itoa_length_le n h.1 h.2
  show (Lib.itoa n).toArray.size ≤ 21
  simpa using this
theorem fmt_any (w : World) (n : Int) (h : i64 n) (hV : Vs w) : Calls Tryz.prog 126 #[.int .i64 n, .int .i64 10] w fun e w' => e = .returned (.string (itoaS n)) ∧ Fr [] w w' :=
  (Tryz.strconv_FormatInt_10 n h.1 h.2 w hV.tab).mono fun e w' ⟨h1, k, os, h2⟩ => ⟨h1, by
    subst h2
    exact ⟨rfl, rfl, rfl, by simp [Sort.grow], fun i hi _ => by show (w.heap ++ os)[i]? = w.heap[i]?; rw [Array.getElem?_append_left hi]⟩⟩
/-! ### What of a value may be written -/
structure ShV (s : ByteArray) (l : List ByteArray) (z : List (ByteArray × Int)) (h : List (ByteArray × ByteArray)) : Prop where
  s : s.size ≤ 65536
  ll : l.length ≤ 65536
  zl : z.length ≤ 65536
  hl : h.length ≤ 65536
  l : ∀ x ∈ l, x.size ≤ 65536
  z : ∀ x ∈ z, x.1.size ≤ 65536 ∧ i64 x.2
  h : ∀ x ∈ h, x.1.size ≤ 65536 ∧ x.2.size ≤ 65536
theorem at_in {α : Type} (R : Rp α) {l : List α} {i : Nat} (h : i < l.length) : at_ R l (i : Int) ∈ l := by rw [at_el R h]; exact List.getElem_mem h
theorem map_next {α β : Type} (f : α → β) (R : Rp α) {l : List α} {i : Nat} (h : i < l.length) : (l.take (i + 1)).map f = (l.take i).map f ++ [f (at_ R l (i : Int))] := by
  rw [List.take_succ_eq_append_getElem h, List.map_append, at_el R h]; rfl
theorem hexS_len (s : ByteArray) : (hexS s).size ≤ 2 * s.size + 1 := by
  unfold hexS
  split
  · exact Nat.le_add_left ..
  · show (hexL s.data.toList).toArray.size ≤ _
    have h1 := hexL_len s.data.toList
    have h2 : s.data.toList.length = s.size := Array.length_toList
    simp only [List.size_toArray]; omega
def pzS (x : ByteArray × Int) : ByteArray := hexS x.1 ++ ⟨#[58]⟩ ++ itoaS x.2
def phS (x : ByteArray × ByteArray) : ByteArray := hexS x.1 ++ ⟨#[61]⟩ ++ hexS x.2
/-- A value's kind, its parts, as words. -/
def nmD (k : Int) : ByteArray := if k = 1 then ⟨#[115, 116, 114, 105, 110, 103]⟩ else if k = 4 then ⟨#[122, 115, 101, 116]⟩ else if k = 5 then ⟨#[104, 97, 115, 104]⟩ else if k = 3 then ⟨#[115, 101, 116]⟩ else ⟨#[108, 105, 115, 116]⟩
def ptD (k : Int) (s : ByteArray) (l : List ByteArray) (z : List (ByteArray × Int)) (h : List (ByteArray × ByteArray)) : List ByteArray := if k = 1 then [hexS s] else if k = 4 then z.map pzS else if k = 5 then h.map phS else l.map hexS
section
variable {k : Int} {s : ByteArray} {l : List ByteArray} {z : List (ByteArray × Int)} {h : List (ByteArray × ByteArray)}
theorem nm1 (hk : k = 1) : nmD k = ⟨#[115, 116, 114, 105, 110, 103]⟩ ∧ ptD k s l z h = [hexS s] := by subst hk; exact ⟨rfl, rfl⟩
theorem nm4 (hk : k = 4) : nmD k = ⟨#[122, 115, 101, 116]⟩ ∧ ptD k s l z h = z.map pzS := by subst hk; exact ⟨rfl, rfl⟩
theorem nm5 (hk : k = 5) : nmD k = ⟨#[104, 97, 115, 104]⟩ ∧ ptD k s l z h = h.map phS := by subst hk; exact ⟨rfl, rfl⟩
theorem nm3 (hk : k = 3) : nmD k = ⟨#[115, 101, 116]⟩ ∧ ptD k s l z h = l.map hexS := by subst hk; exact ⟨rfl, rfl⟩
theorem nm2 (h1 : ¬ k = 1) (h4 : ¬ k = 4) (h5 : ¬ k = 5) (h3 : ¬ k = 3) : nmD k = ⟨#[108, 105, 115, 116]⟩ ∧ ptD k s l z h = l.map hexS := by
  unfold nmD ptD; rw [if_neg h1, if_neg h4, if_neg h5, if_neg h3, if_neg h1, if_neg h4, if_neg h5]; exact ⟨rfl, rfl⟩
end
theorem ntext_any (w : World) (n : Int) (hn : i64 n) (hV : Vs w) : Calls Tryz.prog 80 #[.int .i64 n] w (fun e w' => e = .returned (.string (itoaS n)) ∧ Fr [] w w') := by
 have hF := Fr.refl [] w
 refine V.en 5 Tryz.func80 fun a h1 => ?_
 refine V.sr h1 [] 2 2 [] fun a h4 => ?_
 refine V.sg fun K5 k6 => ?_
 refine V.run h4 [] 1 1 0 [(3, .int .i64 n)] fun a h7 => ?_
 refine V.cl h7 (Go.Proofs.enters_of Tryz.func126 (by kernel_rfl) rfl) (fmt_any w n hn (hV.fr hF)) ?_
 rintro _ w9 ⟨rfl, hF8⟩
 refine ⟨_, rfl, fun a h10 => ?_⟩
 have hsw9 := hF8.size
 have hF_11 := hF.new hF8
 refine V.re h10 [] 1 0 [(2, .string (itoaS n))] fun a h12 => k6 _ _ ?_
 refine V.ret ?_
 refine V.r1 h12 (.string (itoaS n)) ?_
 exact ⟨rfl, hF_11⟩
theorem words_any (w : World) (k : Int) (s : ByteArray) (Al : Option Addr) (cl : Nat) (l : List ByteArray) (hSl : SlR Rp.str (fun k => k < w.heap.size) w (.slice Al l.length cl) l) (Az : Option Addr) (cz : Nat) (z : List (ByteArray × Int)) (hSz : SlR scR (fun k => k < w.heap.size) w (.slice Az z.length cz) z) (Ah : Option Addr) (ch : Nat) (h : List (ByteArray × ByteArray)) (hSh : SlR fdR (fun k => k < w.heap.size) w (.slice Ah h.length ch) h) (hsh : ShV s l z h) (hV : Vs w) : Calls Tryz.prog 81 #[.agg #[.int .i64 k, .string s, .slice Al l.length cl, .slice Az z.length cz, .slice Ah h.length ch]] w (fun e w' => ∃ A c, e = .returned (.tuple #[.string (nmD k), .slice A (ptD k s l z h).length c]) ∧ OwR Rp.str NoZ w' w.heap.size 9 (.slice A (ptD k s l z h).length c) (ptD k s l z h) ∧ Fr [] w w') := by
 have hF := Fr.refl [] w
 have hlit1 : (⟨#[58]⟩ : ByteArray).size = 1 := rfl
 have hlit2 : (⟨#[61]⟩ : ByteArray).size = 1 := rfl
 have hb0 := hsh.s
 have hb1 := hsh.ll
 have hb2 := hsh.zl
 have hb3 := hsh.hl
 refine V.en 81 Tryz.func81 fun a h1 => ?_
 refine V.sg fun K2 k3 => ?_
 refine V.go (V.mk [(0, .agg #[.int .i64 k, .string s, .slice Al l.length cl, .slice Az z.length cz, .slice Ah h.length ch])] ⟨h1.e, trivial⟩ (by kernel_rfl) [.int .i64 k, .string s, .slice Al l.length cl, .slice Az z.length cz, .slice Ah h.length ch] 46 (fun b => .pointer (some ⟨b, 0, none⟩)) (by kernel_rfl) ?_)
 intro w5 b4 heb4 hB6 hF7 hsb4
 have hF_8 := hF.new hF7
 have hSl_9 := hSl.fr0 hF7
 have hSz_10 := hSz.fr0 hF7
 have hSh_11 := hSh.fr0 hF7
 refine V.pt h1 fun a h12 => ?_
 refine V.re h12 [] 2 3 [] fun a h13 => k3 _ _ ?_
 refine V.sr h13 [] 1 0 [(4, .slice none 0 0)] fun a h16 => ?_
 refine V.sr h16 [] 1 0 [(5, .string ⟨#[108, 105, 115, 116]⟩)] fun a h19 => ?_
 refine V.seq fun K20 k21 => ?_
 refine V.sr h19 [(1, .b hB6 0)] 12 12 [(13, .int .i64 k)] fun a h24 => ?_
 refine V.block ?_
 refine V.seq fun K25 k26 => ?_
 refine V.block ?_
 refine V.seq fun K27 k28 => ?_
 refine V.block ?_
 refine V.seq fun K29 k30 => ?_
 refine V.block ?_
 refine V.seq fun K31 k32 => ?_
 refine V.block ?_
 refine V.seq fun K33 k34 => ?_
 refine V.block ?_
 refine V.seq fun K35 k36 => ?_
 refine V.seq fun K37 k38 => ?_
 refine V.sr h24 [(0, .eq k 1)] 15 15 [(14, .bool (decide (k = 1)))] fun a h41 => ?_
 refine V.cp h41 (k = 1) (fun ht42 => ?_) (fun ht42 => ?_)
 ·
  refine V.exit (V.then_e (V.then_e (V.blk_hit ?_)))
  refine V.then_n (k34 _ _ ?_)
  refine V.seq fun K43 k44 => ?_
  refine V.sg fun K45 k46 => ?_
  refine V.run h41 [(1, .b hB6 1)] 2 22 22 [(23, .string s)] fun a h47 => ?_
  have hxl49 := hexS_len s
  refine V.cl h47 (Go.Proofs.enters_of Tryz.func83 (by kernel_rfl) rfl) (hex_any w5 s (by omega)) ?_
  rintro _ w50 ⟨rfl, hF48⟩
  refine ⟨_, rfl, fun a h51 => ?_⟩
  have hsw50 := hF48.size
  have hF_52 := hF_8.new hF48
  refine V.go (V.mk [(24, .string (hexS s))] ⟨h51.e, trivial⟩ (by kernel_rfl) [.string (hexS s)] 9 (fun b => .slice (some ⟨b, 0, none⟩) 1 1) (by kernel_rfl) ?_)
  intro w58 b57 heb57 hB59 hF60 hsb57
  have hF_61 := hF_52.new hF60
  refine V.pt h51 fun a h66 => ?_
  refine V.re h66 [] 1 0 [(2, .string ⟨#[115, 116, 114, 105, 110, 103]⟩), (3, .slice (some ⟨b57, 0, none⟩) 1 1)] fun a h67 => k46 _ _ ?_
  refine V.ret (V.then_r (V.blk_r (V.then_r (V.blk_r (V.then_r (V.blk_r (V.then_r (V.blk_r (V.then_r (V.blk_r (V.then_r ?_)))))))))))
  refine V.r2 h67 (.string ⟨#[115, 116, 114, 105, 110, 103]⟩) (.slice (some ⟨b57, 0, none⟩) 1 1) ?_
  obtain ⟨hq1, hq2⟩ := nm1 (k := k) (s := s) (l := l) (z := z) (h := h) (by assumption)
  rw [hq1, hq2]
  exact ⟨_, _, rfl, OwR.mkS (cur := [.string (hexS s)]) hB59 rfl (Nat.le_refl _) (by decide) (by omega) rfl, hF_61⟩
 ·
  refine V.skip ?_
  refine V.then_n (k38 _ _ ?_)
  refine V.seq fun K68 k69 => ?_
  refine V.sr h41 [(0, .eq k 4)] 17 17 [(16, .bool (decide (k = 4)))] fun a h72 => ?_
  refine V.cp h72 (k = 4) (fun ht73 => ?_) (fun ht73 => ?_)
  ·
   refine V.exit (V.then_e (V.then_e ?_))
   refine V.blk_miss rfl ?_
   refine V.then_e (V.blk_hit ?_)
   refine V.then_n (k32 _ _ ?_)
   refine V.seq fun K74 k75 => ?_
   refine V.seq fun K76 k77 => ?_
   refine V.sr h72 [(1, .b hB6 3)] 26 26 [(27, .slice Az z.length cz), (28, .int .i64 ((z.length : Nat) : Int)), (29, .int .i64 0)] fun a h80 => ?_
   refine V.block ?_
   refine V.loop3 (fun (i : Nat) (A2 : Option Addr) (c2 : Nat) a_ w_ => En 81 [] a_ [(1, .pointer (some ⟨b4, 0, none⟩)), (4, .slice A2 (((z.take i).map pzS).length) c2), (5, .string ⟨#[108, 105, 115, 116]⟩), (27, .slice Az z.length cz), (28, .int .i64 ((z.length : Nat) : Int)), (29, .int .i64 (i : Int))] ∧ OwR Rp.str NoZ w_ (b4 + 1) 9 (.slice A2 (((z.take i).map pzS).length) c2) ((z.take i).map pzS) ∧ Fr [] w w_ ∧ SlR Rp.str (fun k => k < w.heap.size) w_ (.slice Al l.length cl) l ∧ SlR scR (fun k => k < w.heap.size) w_ (.slice Az z.length cz) z ∧ SlR fdR (fun k => k < w.heap.size) w_ (.slice Ah h.length ch) h ∧ Blk w_ b4 [.int .i64 k, .string s, .slice Al l.length cl, .slice Az z.length cz, .slice Ah h.length ch] 46 ∧ (i ≤ z.length)) (fun (i : Nat) (A2 : Option Addr) (c2 : Nat) => z.length - i) 0 none 0 ?_ ?_
   ·
    refine ⟨((h80.eq 4 (v := (.slice none 0 0)) (u := (.slice none (((z.take 0).map pzS).length) 0)) (rfl)).eq 29 (v := (.int .i64 0)) (u := (.int .i64 (0 : Int))) (V.int_eq (by omega))).only _, (OwR.nil ..), hF_8, hSl_9, hSz_10, hSh_11, hB6, (by omega)⟩
   ·
    rintro i A2 c2 a81 w82 ⟨h83, hO_84, hF_85, hSl_86, hSz_87, hSh_88, hB6_89, hi⟩
    have hfs90 := hF_85.size
    have hlt91 := hB6_89.lt
    have hfl : ((z.take i).map pzS).length = i := by rw [List.length_map, List.length_take]; omega
    refine V.sr h83 [] 1 0 [(30, .bool (decide ((i : Int) < ((z.length : Nat) : Int))))] fun a h94 => ?_
    refine V.seq fun K95 k96 => ?_
    refine V.cp h94 ((i : Int) < ((z.length : Nat) : Int)) (fun ht97 => ?_) (fun ht97 => ?_)
    ·
     refine V.skip ?_
     refine V.then_n (k96 _ _ ?_)
     refine V.seq fun K98 k99 => ?_
     refine V.block ?_
     obtain ⟨g102, o103, hA104, hA104l, hA104z⟩ := hSz_87.addr (by omega)
     obtain ⟨cs105, hok106, hE107⟩ := hSz_87.els hA104 (i : Int) (by omega) (by omega)
     obtain rfl : cs105 = [.string (at_ scR z (i : Int)).1, .int .i64 (at_ scR z (i : Int)).2] := hok106
     refine V.sg fun K100 k101 => ?_
     refine V.run h94 [(0, .ix g102 o103 z.length cz .i64 (i : Int) 2 hA104), (0, .ls ⟨g102, o103 + (i : Int).toNat * 2, none⟩ [.string ((at_ scR z (i : Int)).1), .int .i64 ((at_ scR z (i : Int)).2)] (hE107.cells 0 _ rfl))] 2 31 31 [(32, .agg #[.string ((at_ scR z (i : Int)).1), .int .i64 ((at_ scR z (i : Int)).2)])] fun a h112 => ?_
     refine V.go (V.mk [] trivial (by kernel_rfl) [.string ⟨#[]⟩, .int .i64 0] 98 (fun b => .pointer (some ⟨b, 0, none⟩)) (by kernel_rfl) ?_)
     intro w109 b108 heb108 hB110 hF111 hsb108
     have hO_113 := hO_84.fr0 hF111
     have hF_114 := hF_85.new hF111
     have hSl_115 := hSl_86.fr0 hF111
     have hSz_116 := hSz_87.fr0 hF111
     have hSh_117 := hSh_88.fr0 hF111
     have hB6_118 := hB6_89.fr0 hF111
     refine V.pt h112 fun a h120 => ?_
     refine V.go (V.stn b108 0 (.agg #[.string ((at_ scR z (i : Int)).1), .int .i64 ((at_ scR z (i : Int)).2)]) [.string ((at_ scR z (i : Int)).1), .int .i64 ((at_ scR z (i : Int)).2)] h120.e h120.e rfl rfl (by kernel_rfl) hB110 (by simp) [.string ((at_ scR z (i : Int)).1), .int .i64 ((at_ scR z (i : Int)).2)] rfl ?_)
     intro w121 hB122 hF123 hsw121
     have hO_124 := hO_113.frn hF123 (fun h => h) (by first | exact own_ne hO_113 (by omega) | exact own_ne2 hO_84 (by omega))
     have hF_125 := hF_114.own hF123 (by simp <;> omega)
     have hSl_126 := hSl_115.fr hF123 (by simp <;> omega)
     have hSz_127 := hSz_116.fr hF123 (by simp <;> omega)
     have hSh_128 := hSh_117.fr hF123 (by simp <;> omega)
     have hB6_129 := hB6_118.fr1 hF123 (by omega)
     refine V.nt (k101 _ _ ?_)
     have hxe := hsh.z _ (at_in scR (i := i) (by omega : i < z.length))
     obtain ⟨hxe, hni⟩ := hxe
     refine V.pl [([0,1,2,5,6],some (3,[6])),([4],some (7,[])),([8],some (9,[])),([],some (10,[])),([11],none)] fun w131 hF132 hsw131 => ?_
     have hO_133 := hO_124.fr0 hF132
     have hF_134 := hF_125.new hF132
     have hSl_135 := hSl_126.fr0 hF132
     have hSz_136 := hSz_127.fr0 hF132
     have hSh_137 := hSh_128.fr0 hF132
     have hB6_138 := hB6_129.fr0 hF132
     have hB122_140 := hB122.fr0 hF132
     refine V.pe h120 [(2, .b hB122_140 0), (1, .b hB122_140 1)] 34 34 [(33, .slice A2 (((z.take i).map pzS).length) c2), (35, .string ((at_ scR z (i : Int)).1)), (38, .pointer (some ⟨b108, 1, none⟩)), (39, .int .i64 ((at_ scR z (i : Int)).2))] fun a h141 => ?_
     have hxl143 := hexS_len ((at_ scR z (i : Int)).1)
     refine V.cl h141 (Go.Proofs.enters_of Tryz.func83 (by kernel_rfl) rfl) (hex_any w131 ((at_ scR z (i : Int)).1) (by omega)) ?_
     rintro _ w144 ⟨rfl, hF142⟩
     refine ⟨_, rfl, fun a h145 => ?_⟩
     have hsw144 := hF142.size
     have hO_146 := hO_133.fr0 hF142
     have hF_147 := hF_134.new hF142
     have hSl_148 := hSl_135.fr0 hF142
     have hSz_149 := hSz_136.fr0 hF142
     have hSh_150 := hSh_137.fr0 hF142
     have hB6_151 := hB6_138.fr0 hF142
     have hB122_153 := hB122_140.fr0 hF142
     refine V.eh (fun _ => held_blk (n := 1) (hx := (h141.e (v := (.pointer (some ⟨b108, 1, none⟩))))) hB122_140 hB122_153 (by kernel_rfl) rfl (by simp only [List.length]; omega)) ?_
     refine V.pe0 ?_
     obtain ⟨cat154, hcat155⟩ : ∃ u_ : ByteArray, u_ = (hexS ((at_ scR z (i : Int)).1)) ++ (⟨#[58]⟩ : ByteArray) := ⟨_, rfl⟩
     have hszcat154 : cat154.size = (hexS ((at_ scR z (i : Int)).1)).size + (⟨#[58]⟩ : ByteArray).size := by rw [hcat155, ByteArray.size_append]
     refine V.go (V.catg hcat155 (h145.e (v := (.string (hexS ((at_ scR z (i : Int)).1))))) evc (by omega) ?_)
     refine V.pt h145 fun a h156 => ?_
     refine V.se h156 [] 1 0 [] fun a h157 => ?_
     have hil159 := itoaS_len (n := ((at_ scR z (i : Int)).2)) hni
     refine V.cl h157 (Go.Proofs.enters_of Tryz.func80 (by kernel_rfl) rfl) (ntext_any w144 ((at_ scR z (i : Int)).2) hni (hV.fr hF_147)) ?_
     rintro _ w160 ⟨rfl, hF158⟩
     refine ⟨_, rfl, fun a h161 => ?_⟩
     have hsw160 := hF158.size
     have hO_162 := hO_146.fr0 hF158
     have hF_163 := hF_147.new hF158
     have hSl_164 := hSl_148.fr0 hF158
     have hSz_165 := hSz_149.fr0 hF158
     have hSh_166 := hSh_150.fr0 hF158
     have hB6_167 := hB6_151.fr0 hF158
     refine V.eh trivial ?_
     refine V.pe0 ?_
     obtain ⟨cat170, hcat171⟩ : ∃ u_ : ByteArray, u_ = cat154 ++ (itoaS ((at_ scR z (i : Int)).2)) := ⟨_, rfl⟩
     have hszcat170 : cat170.size = cat154.size + (itoaS ((at_ scR z (i : Int)).2)).size := by rw [hcat171, ByteArray.size_append]
     refine V.go (V.catg hcat171 (h161.e (v := (.string cat154))) (h161.e (v := (.string (itoaS ((at_ scR z (i : Int)).2))))) (by omega) ?_)
     refine V.pt h161 fun a h172 => ?_
     refine V.se h172 [] 1 0 [] fun a h173 => ?_
     refine V.go (V.mk [(41, .string cat170)] ⟨h173.e, trivial⟩ (by kernel_rfl) [.string cat170] 9 (fun b => .slice (some ⟨b, 0, none⟩) 1 1) (by kernel_rfl) ?_)
     intro w175 b174 heb174 hB176 hF177 hsb174
     have hO_178 := hO_162.fr0 hF177
     have hF_179 := hF_163.new hF177
     have hSl_180 := hSl_164.fr0 hF177
     have hSz_181 := hSz_165.fr0 hF177
     have hSh_182 := hSh_166.fr0 hF177
     have hB6_183 := hB6_167.fr0 hF177
     refine V.pt h173 fun a h186 => ?_
     refine V.eh trivial ?_
     refine V.pe h186 [] 1 0 [] fun a h187 => ?_
     refine V.go (V.app (R := Rp.str) (ys := ([cat170])) (news := [.string cat170]) (h187.e (v := (.slice A2 (((z.take i).map pzS).length) c2))) ⟨b174, 0, none⟩ 1 1 (h187.e (v := (.slice (some ⟨b174, 0, none⟩) 1 1))) (by kernel_rfl) (info9) (by kernel_rfl) (by decide) hO_178 rfl ⟨_, [], rfl, rfl, rfl⟩ (blk_cells hB176 0 _ rfl) (by first | omega | (simp; omega)) (by decide) (by omega) ?_)
     intro A188 c189 w190 hO191z hF192 hatw190
     have hsw190 := hF192.size
     have hF_193 := hF_179.own hF192 (own_ge hO_178 (by omega))
     have hSl_194 := hSl_180.fr hF192 (by intro b hb hz; have := own_ge hO_178 (Nat.le_refl _) b hb; (try dsimp only at hz); omega)
     have hSz_195 := hSz_181.fr hF192 (by intro b hb hz; have := own_ge hO_178 (Nat.le_refl _) b hb; (try dsimp only at hz); omega)
     have hSh_196 := hSh_182.fr hF192 (by intro b hb hz; have := own_ge hO_178 (Nat.le_refl _) b hb; (try dsimp only at hz); omega)
     have hB6_197 := hB6_183.fr hF192 (by first | exact own_notin hO_178 (by omega) | exact own_notin2 hO_84 (by omega))
     have hO191 := hO191z.zone (Z' := NoZ) (fun _ _ q => q.1) (fun _ _ q => q)
     refine V.pt h187 fun a h200 => ?_
     refine V.eh trivial ?_
     refine V.pz h200 [] 1 0 [(4, .slice A188 ((((z.take i).map pzS).length) + 1) c189)] fun a h201 => ?_
     refine V.blk_n ?_
     refine V.then_n (k99 _ _ ?_)
     refine V.rr h201 [(0, .i ((i : Int) + 1))] 44 44 [(29, .int .i64 ((i : Int) + 1))] fun a h202 => ?_
     refine V.then_n ?_
     have hqs := map_next pzS scR (show i < z.length by omega)
     rw [show pzS (at_ scR z (i : Int)) = _ from (by rw [hcat171, hcat155]; rfl : pzS (at_ scR z (i : Int)) = cat170)] at hqs
     refine ⟨i + 1, A188, c189, by omega, ?_⟩
     refine ⟨((h202.eq 4 (v := (.slice A188 ((((z.take i).map pzS).length) + 1) c189)) (u := (.slice A188 (((z.take (i + 1)).map pzS).length) c189)) (V.sl_eq (by rw [hqs]; simp))).eq 29 (v := (.int .i64 ((i : Int) + 1))) (u := (.int .i64 ((i + 1) : Int))) (V.int_eq (by omega))).only _, (by rw [hqs]; simpa using hO191), hF_193, hSl_194, hSz_195, hSh_196, hB6_197, (by omega)⟩
    ·
     refine V.exit (V.then_e (V.then_e (V.blk_hit ?_)))
     refine V.then_n (k77 _ _ ?_)
     refine V.sr h94 [] 45 45 [(2, .string ⟨#[122, 115, 101, 116]⟩), (3, .slice A2 (((z.take i).map pzS).length) c2)] fun a h205 => ?_
     refine V.ret (V.then_r (V.blk_r (V.then_r (V.blk_r (V.then_r (V.blk_r (V.then_r (V.blk_r (V.then_r ?_)))))))))
     refine V.r2 h205 (.string ⟨#[122, 115, 101, 116]⟩) (.slice A2 (((z.take i).map pzS).length) c2) ?_
     obtain ⟨hq1, hq2⟩ := nm4 (k := k) (s := s) (l := l) (z := z) (h := h) (by assumption)
     have hqi : (z.take i).map pzS = z.map pzS := by rw [List.take_of_length_le (by omega)]
     rw [hq1, hq2, ← hqi]
     exact ⟨_, _, rfl, hO_84.rebase (by omega), hF_85⟩
  ·
   refine V.skip ?_
   refine V.then_n (k69 _ _ ?_)
   refine V.seq fun K206 k207 => ?_
   refine V.sr h72 [(0, .eq k 5)] 19 19 [(18, .bool (decide (k = 5)))] fun a h210 => ?_
   refine V.cp h210 (k = 5) (fun ht211 => ?_) (fun ht211 => ?_)
   ·
    refine V.exit (V.then_e (V.then_e ?_))
    refine V.blk_miss rfl ?_
    refine V.then_e ?_
    refine V.blk_miss rfl ?_
    refine V.then_e (V.blk_hit ?_)
    refine V.then_n (k30 _ _ ?_)
    refine V.seq fun K212 k213 => ?_
    refine V.seq fun K214 k215 => ?_
    refine V.sr h210 [(1, .b hB6 4)] 46 46 [(47, .slice Ah h.length ch), (48, .int .i64 ((h.length : Nat) : Int)), (49, .int .i64 0)] fun a h218 => ?_
    refine V.block ?_
    refine V.loop3 (fun (i : Nat) (A2 : Option Addr) (c2 : Nat) a_ w_ => En 81 [] a_ [(1, .pointer (some ⟨b4, 0, none⟩)), (4, .slice A2 (((h.take i).map phS).length) c2), (5, .string ⟨#[108, 105, 115, 116]⟩), (47, .slice Ah h.length ch), (48, .int .i64 ((h.length : Nat) : Int)), (49, .int .i64 (i : Int))] ∧ OwR Rp.str NoZ w_ (b4 + 1) 9 (.slice A2 (((h.take i).map phS).length) c2) ((h.take i).map phS) ∧ Fr [] w w_ ∧ SlR Rp.str (fun k => k < w.heap.size) w_ (.slice Al l.length cl) l ∧ SlR scR (fun k => k < w.heap.size) w_ (.slice Az z.length cz) z ∧ SlR fdR (fun k => k < w.heap.size) w_ (.slice Ah h.length ch) h ∧ Blk w_ b4 [.int .i64 k, .string s, .slice Al l.length cl, .slice Az z.length cz, .slice Ah h.length ch] 46 ∧ (i ≤ h.length)) (fun (i : Nat) (A2 : Option Addr) (c2 : Nat) => h.length - i) 0 none 0 ?_ ?_
    ·
     refine ⟨((h218.eq 4 (v := (.slice none 0 0)) (u := (.slice none (((h.take 0).map phS).length) 0)) (rfl)).eq 49 (v := (.int .i64 0)) (u := (.int .i64 (0 : Int))) (V.int_eq (by omega))).only _, (OwR.nil ..), hF_8, hSl_9, hSz_10, hSh_11, hB6, (by omega)⟩
    ·
     rintro i A2 c2 a219 w220 ⟨h221, hO_222, hF_223, hSl_224, hSz_225, hSh_226, hB6_227, hi⟩
     have hfs228 := hF_223.size
     have hlt229 := hB6_227.lt
     have hfl : ((h.take i).map phS).length = i := by rw [List.length_map, List.length_take]; omega
     refine V.sr h221 [] 1 0 [(50, .bool (decide ((i : Int) < ((h.length : Nat) : Int))))] fun a h232 => ?_
     refine V.seq fun K233 k234 => ?_
     refine V.cp h232 ((i : Int) < ((h.length : Nat) : Int)) (fun ht235 => ?_) (fun ht235 => ?_)
     ·
      refine V.skip ?_
      refine V.then_n (k234 _ _ ?_)
      refine V.seq fun K236 k237 => ?_
      refine V.block ?_
      obtain ⟨g240, o241, hA242, hA242l, hA242z⟩ := hSh_226.addr (by omega)
      obtain ⟨cs243, hok244, hE245⟩ := hSh_226.els hA242 (i : Int) (by omega) (by omega)
      obtain rfl : cs243 = [.string (at_ fdR h (i : Int)).1, .string (at_ fdR h (i : Int)).2] := hok244
      refine V.sg fun K238 k239 => ?_
      refine V.run h232 [(0, .ix g240 o241 h.length ch .i64 (i : Int) 2 hA242), (0, .ls ⟨g240, o241 + (i : Int).toNat * 2, none⟩ [.string ((at_ fdR h (i : Int)).1), .string ((at_ fdR h (i : Int)).2)] (hE245.cells 0 _ rfl))] 2 51 51 [(52, .agg #[.string ((at_ fdR h (i : Int)).1), .string ((at_ fdR h (i : Int)).2)])] fun a h250 => ?_
      refine V.go (V.mk [] trivial (by kernel_rfl) [.string ⟨#[]⟩, .string ⟨#[]⟩] 101 (fun b => .pointer (some ⟨b, 0, none⟩)) (by kernel_rfl) ?_)
      intro w247 b246 heb246 hB248 hF249 hsb246
      have hO_251 := hO_222.fr0 hF249
      have hF_252 := hF_223.new hF249
      have hSl_253 := hSl_224.fr0 hF249
      have hSz_254 := hSz_225.fr0 hF249
      have hSh_255 := hSh_226.fr0 hF249
      have hB6_256 := hB6_227.fr0 hF249
      refine V.pt h250 fun a h258 => ?_
      refine V.go (V.stn b246 0 (.agg #[.string ((at_ fdR h (i : Int)).1), .string ((at_ fdR h (i : Int)).2)]) [.string ((at_ fdR h (i : Int)).1), .string ((at_ fdR h (i : Int)).2)] h258.e h258.e rfl rfl (by kernel_rfl) hB248 (by simp) [.string ((at_ fdR h (i : Int)).1), .string ((at_ fdR h (i : Int)).2)] rfl ?_)
      intro w259 hB260 hF261 hsw259
      have hO_262 := hO_251.frn hF261 (fun h => h) (by first | exact own_ne hO_251 (by omega) | exact own_ne2 hO_222 (by omega))
      have hF_263 := hF_252.own hF261 (by simp <;> omega)
      have hSl_264 := hSl_253.fr hF261 (by simp <;> omega)
      have hSz_265 := hSz_254.fr hF261 (by simp <;> omega)
      have hSh_266 := hSh_255.fr hF261 (by simp <;> omega)
      have hB6_267 := hB6_256.fr1 hF261 (by omega)
      refine V.nt (k239 _ _ ?_)
      have hxe := hsh.h _ (at_in fdR (i := i) (by omega : i < h.length))
      obtain ⟨hxe, hxf⟩ := hxe
      refine V.pl [([0,1,2,5,6],some (3,[6])),([4],some (7,[])),([8],some (9,[])),([],some (10,[])),([11],none)] fun w269 hF270 hsw269 => ?_
      have hO_271 := hO_262.fr0 hF270
      have hF_272 := hF_263.new hF270
      have hSl_273 := hSl_264.fr0 hF270
      have hSz_274 := hSz_265.fr0 hF270
      have hSh_275 := hSh_266.fr0 hF270
      have hB6_276 := hB6_267.fr0 hF270
      have hB260_278 := hB260.fr0 hF270
      refine V.pe h258 [(2, .b hB260_278 0), (1, .b hB260_278 1)] 54 54 [(53, .slice A2 (((h.take i).map phS).length) c2), (55, .string ((at_ fdR h (i : Int)).1)), (58, .pointer (some ⟨b246, 1, none⟩)), (59, .string ((at_ fdR h (i : Int)).2))] fun a h279 => ?_
      have hxl281 := hexS_len ((at_ fdR h (i : Int)).1)
      refine V.cl h279 (Go.Proofs.enters_of Tryz.func83 (by kernel_rfl) rfl) (hex_any w269 ((at_ fdR h (i : Int)).1) (by omega)) ?_
      rintro _ w282 ⟨rfl, hF280⟩
      refine ⟨_, rfl, fun a h283 => ?_⟩
      have hsw282 := hF280.size
      have hO_284 := hO_271.fr0 hF280
      have hF_285 := hF_272.new hF280
      have hSl_286 := hSl_273.fr0 hF280
      have hSz_287 := hSz_274.fr0 hF280
      have hSh_288 := hSh_275.fr0 hF280
      have hB6_289 := hB6_276.fr0 hF280
      have hB260_291 := hB260_278.fr0 hF280
      refine V.eh (fun _ => held_blk (n := 1) (hx := (h279.e (v := (.pointer (some ⟨b246, 1, none⟩))))) hB260_278 hB260_291 (by kernel_rfl) rfl (by simp only [List.length]; omega)) ?_
      refine V.pe0 ?_
      obtain ⟨cat292, hcat293⟩ : ∃ u_ : ByteArray, u_ = (hexS ((at_ fdR h (i : Int)).1)) ++ (⟨#[61]⟩ : ByteArray) := ⟨_, rfl⟩
      have hszcat292 : cat292.size = (hexS ((at_ fdR h (i : Int)).1)).size + (⟨#[61]⟩ : ByteArray).size := by rw [hcat293, ByteArray.size_append]
      refine V.go (V.catg hcat293 (h283.e (v := (.string (hexS ((at_ fdR h (i : Int)).1))))) evc (by omega) ?_)
      refine V.pt h283 fun a h294 => ?_
      refine V.se h294 [] 1 0 [] fun a h295 => ?_
      have hxl297 := hexS_len ((at_ fdR h (i : Int)).2)
      refine V.cl h295 (Go.Proofs.enters_of Tryz.func83 (by kernel_rfl) rfl) (hex_any w282 ((at_ fdR h (i : Int)).2) (by omega)) ?_
      rintro _ w298 ⟨rfl, hF296⟩
      refine ⟨_, rfl, fun a h299 => ?_⟩
      have hsw298 := hF296.size
      have hO_300 := hO_284.fr0 hF296
      have hF_301 := hF_285.new hF296
      have hSl_302 := hSl_286.fr0 hF296
      have hSz_303 := hSz_287.fr0 hF296
      have hSh_304 := hSh_288.fr0 hF296
      have hB6_305 := hB6_289.fr0 hF296
      refine V.eh trivial ?_
      refine V.pe0 ?_
      obtain ⟨cat308, hcat309⟩ : ∃ u_ : ByteArray, u_ = cat292 ++ (hexS ((at_ fdR h (i : Int)).2)) := ⟨_, rfl⟩
      have hszcat308 : cat308.size = cat292.size + (hexS ((at_ fdR h (i : Int)).2)).size := by rw [hcat309, ByteArray.size_append]
      refine V.go (V.catg hcat309 (h299.e (v := (.string cat292))) (h299.e (v := (.string (hexS ((at_ fdR h (i : Int)).2))))) (by omega) ?_)
      refine V.pt h299 fun a h310 => ?_
      refine V.se h310 [] 1 0 [] fun a h311 => ?_
      refine V.go (V.mk [(61, .string cat308)] ⟨h311.e, trivial⟩ (by kernel_rfl) [.string cat308] 9 (fun b => .slice (some ⟨b, 0, none⟩) 1 1) (by kernel_rfl) ?_)
      intro w313 b312 heb312 hB314 hF315 hsb312
      have hO_316 := hO_300.fr0 hF315
      have hF_317 := hF_301.new hF315
      have hSl_318 := hSl_302.fr0 hF315
      have hSz_319 := hSz_303.fr0 hF315
      have hSh_320 := hSh_304.fr0 hF315
      have hB6_321 := hB6_305.fr0 hF315
      refine V.pt h311 fun a h324 => ?_
      refine V.eh trivial ?_
      refine V.pe h324 [] 1 0 [] fun a h325 => ?_
      refine V.go (V.app (R := Rp.str) (ys := ([cat308])) (news := [.string cat308]) (h325.e (v := (.slice A2 (((h.take i).map phS).length) c2))) ⟨b312, 0, none⟩ 1 1 (h325.e (v := (.slice (some ⟨b312, 0, none⟩) 1 1))) (by kernel_rfl) (info9) (by kernel_rfl) (by decide) hO_316 rfl ⟨_, [], rfl, rfl, rfl⟩ (blk_cells hB314 0 _ rfl) (by first | omega | (simp; omega)) (by decide) (by omega) ?_)
      intro A326 c327 w328 hO329z hF330 hatw328
      have hsw328 := hF330.size
      have hF_331 := hF_317.own hF330 (own_ge hO_316 (by omega))
      have hSl_332 := hSl_318.fr hF330 (by intro b hb hz; have := own_ge hO_316 (Nat.le_refl _) b hb; (try dsimp only at hz); omega)
      have hSz_333 := hSz_319.fr hF330 (by intro b hb hz; have := own_ge hO_316 (Nat.le_refl _) b hb; (try dsimp only at hz); omega)
      have hSh_334 := hSh_320.fr hF330 (by intro b hb hz; have := own_ge hO_316 (Nat.le_refl _) b hb; (try dsimp only at hz); omega)
      have hB6_335 := hB6_321.fr hF330 (by first | exact own_notin hO_316 (by omega) | exact own_notin2 hO_222 (by omega))
      have hO329 := hO329z.zone (Z' := NoZ) (fun _ _ q => q.1) (fun _ _ q => q)
      refine V.pt h325 fun a h338 => ?_
      refine V.eh trivial ?_
      refine V.pz h338 [] 1 0 [(4, .slice A326 ((((h.take i).map phS).length) + 1) c327)] fun a h339 => ?_
      refine V.blk_n ?_
      refine V.then_n (k237 _ _ ?_)
      refine V.rr h339 [(0, .i ((i : Int) + 1))] 64 64 [(49, .int .i64 ((i : Int) + 1))] fun a h340 => ?_
      refine V.then_n ?_
      have hqs := map_next phS fdR (show i < h.length by omega)
      rw [show phS (at_ fdR h (i : Int)) = _ from (by rw [hcat309, hcat293]; rfl : phS (at_ fdR h (i : Int)) = cat308)] at hqs
      refine ⟨i + 1, A326, c327, by omega, ?_⟩
      refine ⟨((h340.eq 4 (v := (.slice A326 ((((h.take i).map phS).length) + 1) c327)) (u := (.slice A326 (((h.take (i + 1)).map phS).length) c327)) (V.sl_eq (by rw [hqs]; simp))).eq 49 (v := (.int .i64 ((i : Int) + 1))) (u := (.int .i64 ((i + 1) : Int))) (V.int_eq (by omega))).only _, (by rw [hqs]; simpa using hO329), hF_331, hSl_332, hSz_333, hSh_334, hB6_335, (by omega)⟩
     ·
      refine V.exit (V.then_e (V.then_e (V.blk_hit ?_)))
      refine V.then_n (k215 _ _ ?_)
      refine V.sr h232 [] 65 65 [(2, .string ⟨#[104, 97, 115, 104]⟩), (3, .slice A2 (((h.take i).map phS).length) c2)] fun a h343 => ?_
      refine V.ret (V.then_r (V.blk_r (V.then_r (V.blk_r (V.then_r (V.blk_r (V.then_r ?_)))))))
      refine V.r2 h343 (.string ⟨#[104, 97, 115, 104]⟩) (.slice A2 (((h.take i).map phS).length) c2) ?_
      obtain ⟨hq1, hq2⟩ := nm5 (k := k) (s := s) (l := l) (z := z) (h := h) (by assumption)
      have hqi : (h.take i).map phS = h.map phS := by rw [List.take_of_length_le (by omega)]
      rw [hq1, hq2, ← hqi]
      exact ⟨_, _, rfl, hO_222.rebase (by omega), hF_223⟩
   ·
    refine V.skip ?_
    refine V.then_n (k207 _ _ ?_)
    refine V.sr h210 [(0, .eq k 3)] 21 21 [(20, .bool (decide (k = 3)))] fun a h346 => ?_
    refine V.cp h346 (k = 3) (fun ht347 => ?_) (fun ht347 => ?_)
    ·
     refine V.exit (V.then_e ?_)
     refine V.blk_miss rfl ?_
     refine V.then_e ?_
     refine V.blk_miss rfl ?_
     refine V.then_e ?_
     refine V.blk_miss rfl ?_
     refine V.then_e (V.blk_hit ?_)
     refine V.then_n (k28 _ _ ?_)
     refine V.rr h346 [] 1 0 [(5, .string ⟨#[115, 101, 116]⟩)] fun a h348 => ?_
     refine V.blk_n ?_
     refine V.then_n (k26 _ _ ?_)
     refine V.seq fun K349 k350 => ?_
     refine V.sr h348 [(1, .b hB6 2)] 66 66 [(67, .slice Al l.length cl), (68, .int .i64 ((l.length : Nat) : Int)), (69, .int .i64 0)] fun a h353 => ?_
     refine V.block ?_
     refine V.loop3 (fun (i : Nat) (A2 : Option Addr) (c2 : Nat) a_ w_ => En 81 [] a_ [(4, .slice A2 (((l.take i).map hexS).length) c2), (5, .string ⟨#[115, 101, 116]⟩), (67, .slice Al l.length cl), (68, .int .i64 ((l.length : Nat) : Int)), (69, .int .i64 (i : Int))] ∧ OwR Rp.str NoZ w_ (b4 + 1) 9 (.slice A2 (((l.take i).map hexS).length) c2) ((l.take i).map hexS) ∧ Fr [] w w_ ∧ SlR Rp.str (fun k => k < w.heap.size) w_ (.slice Al l.length cl) l ∧ SlR scR (fun k => k < w.heap.size) w_ (.slice Az z.length cz) z ∧ SlR fdR (fun k => k < w.heap.size) w_ (.slice Ah h.length ch) h ∧ Blk w_ b4 [.int .i64 k, .string s, .slice Al l.length cl, .slice Az z.length cz, .slice Ah h.length ch] 46 ∧ (i ≤ l.length)) (fun (i : Nat) (A2 : Option Addr) (c2 : Nat) => l.length - i) 0 none 0 ?_ ?_
     ·
      refine ⟨((h353.eq 4 (v := (.slice none 0 0)) (u := (.slice none (((l.take 0).map hexS).length) 0)) (rfl)).eq 69 (v := (.int .i64 0)) (u := (.int .i64 (0 : Int))) (V.int_eq (by omega))).only _, (OwR.nil ..), hF_8, hSl_9, hSz_10, hSh_11, hB6, (by omega)⟩
     ·
      rintro i A2 c2 a354 w355 ⟨h356, hO_357, hF_358, hSl_359, hSz_360, hSh_361, hB6_362, hi⟩
      have hfs363 := hF_358.size
      have hlt364 := hB6_362.lt
      have hfl : ((l.take i).map hexS).length = i := by rw [List.length_map, List.length_take]; omega
      refine V.sr h356 [] 1 0 [(70, .bool (decide ((i : Int) < ((l.length : Nat) : Int))))] fun a h367 => ?_
      refine V.seq fun K368 k369 => ?_
      refine V.cp h367 ((i : Int) < ((l.length : Nat) : Int)) (fun ht370 => ?_) (fun ht370 => ?_)
      ·
       refine V.skip ?_
       refine V.then_n (k369 _ _ ?_)
       refine V.seq fun K371 k372 => ?_
       refine V.block ?_
       obtain ⟨g375, o376, hA377, hA377l, hA377z⟩ := hSl_359.addr (by omega)
       obtain ⟨cs378, hok379, hE380⟩ := hSl_359.els hA377 (i : Int) (by omega) (by omega)
       obtain rfl : cs378 = [.string (at_ Rp.str l (i : Int))] := hok379
       refine V.sr h367 [(0, .ix g375 o376 l.length cl .i64 (i : Int) 1 hA377), (0, .l ⟨g375, o376 + (i : Int).toNat * 1, none⟩ (.string (at_ Rp.str l (i : Int))) (hE380.at 0 rfl))] 71 72 [(11, .string (at_ Rp.str l (i : Int)))] fun a h381 => ?_
       have hxe := hsh.l _ (at_in Rp.str (i := i) (by omega : i < l.length))
       refine V.rg ?_
       refine V.run h381 [] 2 1 0 [(73, .slice A2 (((l.take i).map hexS).length) c2), (74, .string (at_ Rp.str l (i : Int)))] fun a h382 => ?_
       have hxl384 := hexS_len (at_ Rp.str l (i : Int))
       refine V.cl h382 (Go.Proofs.enters_of Tryz.func83 (by kernel_rfl) rfl) (hex_any w355 (at_ Rp.str l (i : Int)) (by omega)) ?_
       rintro _ w385 ⟨rfl, hF383⟩
       refine ⟨_, rfl, fun a h386 => ?_⟩
       have hsw385 := hF383.size
       have hO_387 := hO_357.fr0 hF383
       have hF_388 := hF_358.new hF383
       have hSl_389 := hSl_359.fr0 hF383
       have hSz_390 := hSz_360.fr0 hF383
       have hSh_391 := hSh_361.fr0 hF383
       have hB6_392 := hB6_362.fr0 hF383
       refine V.go (V.mk [(75, .string (hexS (at_ Rp.str l (i : Int))))] ⟨h386.e, trivial⟩ (by kernel_rfl) [.string (hexS (at_ Rp.str l (i : Int)))] 9 (fun b => .slice (some ⟨b, 0, none⟩) 1 1) (by kernel_rfl) ?_)
       intro w395 b394 heb394 hB396 hF397 hsb394
       have hO_398 := hO_387.fr0 hF397
       have hF_399 := hF_388.new hF397
       have hSl_400 := hSl_389.fr0 hF397
       have hSz_401 := hSz_390.fr0 hF397
       have hSh_402 := hSh_391.fr0 hF397
       have hB6_403 := hB6_392.fr0 hF397
       refine V.pt h386 fun a h405 => ?_
       refine V.go (V.app (R := Rp.str) (ys := ([hexS (at_ Rp.str l (i : Int))])) (news := [.string (hexS (at_ Rp.str l (i : Int)))]) (h405.e (v := (.slice A2 (((l.take i).map hexS).length) c2))) ⟨b394, 0, none⟩ 1 1 (h405.e (v := (.slice (some ⟨b394, 0, none⟩) 1 1))) (by kernel_rfl) (info9) (by kernel_rfl) (by decide) hO_398 rfl ⟨_, [], rfl, rfl, rfl⟩ (blk_cells hB396 0 _ rfl) (by first | omega | (simp; omega)) (by decide) (by omega) ?_)
       intro A406 c407 w408 hO409z hF410 hatw408
       have hsw408 := hF410.size
       have hF_411 := hF_399.own hF410 (own_ge hO_398 (by omega))
       have hSl_412 := hSl_400.fr hF410 (by intro b hb hz; have := own_ge hO_398 (Nat.le_refl _) b hb; (try dsimp only at hz); omega)
       have hSz_413 := hSz_401.fr hF410 (by intro b hb hz; have := own_ge hO_398 (Nat.le_refl _) b hb; (try dsimp only at hz); omega)
       have hSh_414 := hSh_402.fr hF410 (by intro b hb hz; have := own_ge hO_398 (Nat.le_refl _) b hb; (try dsimp only at hz); omega)
       have hB6_415 := hB6_403.fr hF410 (by first | exact own_notin hO_398 (by omega) | exact own_notin2 hO_357 (by omega))
       have hO409 := hO409z.zone (Z' := NoZ) (fun _ _ q => q.1) (fun _ _ q => q)
       refine V.pt h405 fun a h417 => ?_
       refine V.re h417 [] 1 0 [(4, .slice A406 ((((l.take i).map hexS).length) + 1) c407)] fun a h418 => ?_
       refine V.blk_n ?_
       refine V.then_n (k372 _ _ ?_)
       refine V.rr h418 [(0, .i ((i : Int) + 1))] 78 78 [(69, .int .i64 ((i : Int) + 1))] fun a h419 => ?_
       refine V.then_n ?_
       have hqs := map_next hexS Rp.str (show i < l.length by omega)
       refine ⟨i + 1, A406, c407, by omega, ?_⟩
       refine ⟨((h419.eq 4 (v := (.slice A406 ((((l.take i).map hexS).length) + 1) c407)) (u := (.slice A406 (((l.take (i + 1)).map hexS).length) c407)) (V.sl_eq (by rw [hqs]; simp))).eq 69 (v := (.int .i64 ((i : Int) + 1))) (u := (.int .i64 ((i + 1) : Int))) (V.int_eq (by omega))).only _, (by rw [hqs]; simpa using hO409), hF_411, hSl_412, hSz_413, hSh_414, hB6_415, (by omega)⟩
      ·
       refine V.exit (V.then_e (V.then_e (V.blk_hit ?_)))
       refine V.then_n (k350 _ _ ?_)
       refine V.exit (V.blk_hit ?_)
       refine V.then_n (k21 _ _ ?_)
       refine V.sr h367 [] 79 80 [(2, .string ⟨#[115, 101, 116]⟩), (3, .slice A2 (((l.take i).map hexS).length) c2)] fun a h422 => ?_
       refine V.ret ?_
       refine V.r2 h422 (.string ⟨#[115, 101, 116]⟩) (.slice A2 (((l.take i).map hexS).length) c2) ?_
       obtain ⟨hq1, hq2⟩ := nm3 (k := k) (s := s) (l := l) (z := z) (h := h) (by assumption)
       have hqi : (l.take i).map hexS = l.map hexS := by rw [List.take_of_length_le (by omega)]
       rw [hq1, hq2, ← hqi]
       exact ⟨_, _, rfl, hO_357.rebase (by omega), hF_358⟩
    ·
     refine V.skip ?_
     refine V.then_n (k36 _ _ ?_)
     refine V.exit ?_
     refine V.blk_miss rfl ?_
     refine V.then_e ?_
     refine V.blk_miss rfl ?_
     refine V.then_e ?_
     refine V.blk_miss rfl ?_
     refine V.then_e ?_
     refine V.blk_miss rfl ?_
     refine V.then_e (V.blk_hit ?_)
     refine V.then_n (k26 _ _ ?_)
     refine V.seq fun K423 k424 => ?_
     refine V.sr h346 [(1, .b hB6 2)] 66 66 [(67, .slice Al l.length cl), (68, .int .i64 ((l.length : Nat) : Int)), (69, .int .i64 0)] fun a h427 => ?_
     refine V.block ?_
     refine V.loop3 (fun (i : Nat) (A2 : Option Addr) (c2 : Nat) a_ w_ => En 81 [] a_ [(4, .slice A2 (((l.take i).map hexS).length) c2), (5, .string ⟨#[108, 105, 115, 116]⟩), (67, .slice Al l.length cl), (68, .int .i64 ((l.length : Nat) : Int)), (69, .int .i64 (i : Int))] ∧ OwR Rp.str NoZ w_ (b4 + 1) 9 (.slice A2 (((l.take i).map hexS).length) c2) ((l.take i).map hexS) ∧ Fr [] w w_ ∧ SlR Rp.str (fun k => k < w.heap.size) w_ (.slice Al l.length cl) l ∧ SlR scR (fun k => k < w.heap.size) w_ (.slice Az z.length cz) z ∧ SlR fdR (fun k => k < w.heap.size) w_ (.slice Ah h.length ch) h ∧ Blk w_ b4 [.int .i64 k, .string s, .slice Al l.length cl, .slice Az z.length cz, .slice Ah h.length ch] 46 ∧ (i ≤ l.length)) (fun (i : Nat) (A2 : Option Addr) (c2 : Nat) => l.length - i) 0 none 0 ?_ ?_
     ·
      refine ⟨((h427.eq 4 (v := (.slice none 0 0)) (u := (.slice none (((l.take 0).map hexS).length) 0)) (rfl)).eq 69 (v := (.int .i64 0)) (u := (.int .i64 (0 : Int))) (V.int_eq (by omega))).only _, (OwR.nil ..), hF_8, hSl_9, hSz_10, hSh_11, hB6, (by omega)⟩
     ·
      rintro i A2 c2 a428 w429 ⟨h430, hO_431, hF_432, hSl_433, hSz_434, hSh_435, hB6_436, hi⟩
      have hfs437 := hF_432.size
      have hlt438 := hB6_436.lt
      have hfl : ((l.take i).map hexS).length = i := by rw [List.length_map, List.length_take]; omega
      refine V.sr h430 [] 1 0 [(70, .bool (decide ((i : Int) < ((l.length : Nat) : Int))))] fun a h441 => ?_
      refine V.seq fun K442 k443 => ?_
      refine V.cp h441 ((i : Int) < ((l.length : Nat) : Int)) (fun ht444 => ?_) (fun ht444 => ?_)
      ·
       refine V.skip ?_
       refine V.then_n (k443 _ _ ?_)
       refine V.seq fun K445 k446 => ?_
       refine V.block ?_
       obtain ⟨g449, o450, hA451, hA451l, hA451z⟩ := hSl_433.addr (by omega)
       obtain ⟨cs452, hok453, hE454⟩ := hSl_433.els hA451 (i : Int) (by omega) (by omega)
       obtain rfl : cs452 = [.string (at_ Rp.str l (i : Int))] := hok453
       refine V.sr h441 [(0, .ix g449 o450 l.length cl .i64 (i : Int) 1 hA451), (0, .l ⟨g449, o450 + (i : Int).toNat * 1, none⟩ (.string (at_ Rp.str l (i : Int))) (hE454.at 0 rfl))] 71 72 [(11, .string (at_ Rp.str l (i : Int)))] fun a h455 => ?_
       have hxe := hsh.l _ (at_in Rp.str (i := i) (by omega : i < l.length))
       refine V.rg ?_
       refine V.run h455 [] 2 1 0 [(73, .slice A2 (((l.take i).map hexS).length) c2), (74, .string (at_ Rp.str l (i : Int)))] fun a h456 => ?_
       have hxl458 := hexS_len (at_ Rp.str l (i : Int))
       refine V.cl h456 (Go.Proofs.enters_of Tryz.func83 (by kernel_rfl) rfl) (hex_any w429 (at_ Rp.str l (i : Int)) (by omega)) ?_
       rintro _ w459 ⟨rfl, hF457⟩
       refine ⟨_, rfl, fun a h460 => ?_⟩
       have hsw459 := hF457.size
       have hO_461 := hO_431.fr0 hF457
       have hF_462 := hF_432.new hF457
       have hSl_463 := hSl_433.fr0 hF457
       have hSz_464 := hSz_434.fr0 hF457
       have hSh_465 := hSh_435.fr0 hF457
       have hB6_466 := hB6_436.fr0 hF457
       refine V.go (V.mk [(75, .string (hexS (at_ Rp.str l (i : Int))))] ⟨h460.e, trivial⟩ (by kernel_rfl) [.string (hexS (at_ Rp.str l (i : Int)))] 9 (fun b => .slice (some ⟨b, 0, none⟩) 1 1) (by kernel_rfl) ?_)
       intro w469 b468 heb468 hB470 hF471 hsb468
       have hO_472 := hO_461.fr0 hF471
       have hF_473 := hF_462.new hF471
       have hSl_474 := hSl_463.fr0 hF471
       have hSz_475 := hSz_464.fr0 hF471
       have hSh_476 := hSh_465.fr0 hF471
       have hB6_477 := hB6_466.fr0 hF471
       refine V.pt h460 fun a h479 => ?_
       refine V.go (V.app (R := Rp.str) (ys := ([hexS (at_ Rp.str l (i : Int))])) (news := [.string (hexS (at_ Rp.str l (i : Int)))]) (h479.e (v := (.slice A2 (((l.take i).map hexS).length) c2))) ⟨b468, 0, none⟩ 1 1 (h479.e (v := (.slice (some ⟨b468, 0, none⟩) 1 1))) (by kernel_rfl) (info9) (by kernel_rfl) (by decide) hO_472 rfl ⟨_, [], rfl, rfl, rfl⟩ (blk_cells hB470 0 _ rfl) (by first | omega | (simp; omega)) (by decide) (by omega) ?_)
       intro A480 c481 w482 hO483z hF484 hatw482
       have hsw482 := hF484.size
       have hF_485 := hF_473.own hF484 (own_ge hO_472 (by omega))
       have hSl_486 := hSl_474.fr hF484 (by intro b hb hz; have := own_ge hO_472 (Nat.le_refl _) b hb; (try dsimp only at hz); omega)
       have hSz_487 := hSz_475.fr hF484 (by intro b hb hz; have := own_ge hO_472 (Nat.le_refl _) b hb; (try dsimp only at hz); omega)
       have hSh_488 := hSh_476.fr hF484 (by intro b hb hz; have := own_ge hO_472 (Nat.le_refl _) b hb; (try dsimp only at hz); omega)
       have hB6_489 := hB6_477.fr hF484 (by first | exact own_notin hO_472 (by omega) | exact own_notin2 hO_431 (by omega))
       have hO483 := hO483z.zone (Z' := NoZ) (fun _ _ q => q.1) (fun _ _ q => q)
       refine V.pt h479 fun a h491 => ?_
       refine V.re h491 [] 1 0 [(4, .slice A480 ((((l.take i).map hexS).length) + 1) c481)] fun a h492 => ?_
       refine V.blk_n ?_
       refine V.then_n (k446 _ _ ?_)
       refine V.rr h492 [(0, .i ((i : Int) + 1))] 78 78 [(69, .int .i64 ((i : Int) + 1))] fun a h493 => ?_
       refine V.then_n ?_
       have hqs := map_next hexS Rp.str (show i < l.length by omega)
       refine ⟨i + 1, A480, c481, by omega, ?_⟩
       refine ⟨((h493.eq 4 (v := (.slice A480 ((((l.take i).map hexS).length) + 1) c481)) (u := (.slice A480 (((l.take (i + 1)).map hexS).length) c481)) (V.sl_eq (by rw [hqs]; simp))).eq 69 (v := (.int .i64 ((i : Int) + 1))) (u := (.int .i64 ((i + 1) : Int))) (V.int_eq (by omega))).only _, (by rw [hqs]; simpa using hO483), hF_485, hSl_486, hSz_487, hSh_488, hB6_489, (by omega)⟩
      ·
       refine V.exit (V.then_e (V.then_e (V.blk_hit ?_)))
       refine V.then_n (k424 _ _ ?_)
       refine V.exit (V.blk_hit ?_)
       refine V.then_n (k21 _ _ ?_)
       refine V.sr h441 [] 79 80 [(2, .string ⟨#[108, 105, 115, 116]⟩), (3, .slice A2 (((l.take i).map hexS).length) c2)] fun a h496 => ?_
       refine V.ret ?_
       refine V.r2 h496 (.string ⟨#[108, 105, 115, 116]⟩) (.slice A2 (((l.take i).map hexS).length) c2) ?_
       obtain ⟨hq1, hq2⟩ := nm2 (k := k) (s := s) (l := l) (z := z) (h := h) (by assumption) (by assumption) (by assumption) (by assumption)
       have hqi : (l.take i).map hexS = l.map hexS := by rw [List.take_of_length_le (by omega)]
       rw [hq1, hq2, ← hqi]
       exact ⟨_, _, rfl, hO_431.rebase (by omega), hF_432⟩
end Go.Proofs.YtdebkbfnngkdlaaGreatDoor
end
section
namespace Go.Proofs.YtdebkbfnngkdlaaGreatDoor
open Go.ChangeShapes Go.WideShapes Go.ChangeAt Go.RowKit Go.Base Go.V
theorem gErrs : Tryz.prog.globalNamed "strconv.ErrSyntax" = some 2 ∧ Tryz.prog.globalNamed "strconv.ErrRange" = some 3 ∧ Tryz.prog.globalNamed "internal/strconv.uint64pow10" = some 1 := ⟨by kernel_rfl, by kernel_rfl, by kernel_rfl⟩
theorem cells248 : Tryz.prog.cellsOf 250 = 1 ∧ Tryz.prog.cellsOf 9 = 1 ∧ Tryz.prog.cellsOf 239 = 20 ∧ Tryz.prog.cellsOf 29 = 1 := ⟨by kernel_rfl, by kernel_rfl, by kernel_rfl, by kernel_rfl⟩
theorem star : "*" ++ "errors.errorString" = "*errors.errorString" := by decide
theorem row248 (u : TypeId) (h : Tryz.prog.typeName? 3 u = some "*errors.errorString") : u = 248 :=
  typeName_ptr_named (nm := "errors.errorString") (by rw [star]; kernel_rfl) (by kernel_rfl) (by decide) u (by rw [star]; exact h)
theorem vs_of_laid {W : World} (h0 : laidMetH Tryz.prog Rows.imageFormsRow.laid W) (hsh : W.ShapedOpen Tryz.prog) : Vs W := by
  have h : laidMet Tryz.prog Rows.imageFormsRow.laid W := h0
  have h3 := h.tail.tail
  have ht : Lib.TabIs Tryz.prog W "internal/strconv.uint64pow10" .u64 Lib.pow10Tab :=
    Lib.tabIs_of_head (zs := Lib.pow10Tab) gErrs.2.2 (by kernel_rfl) Tryz.underlying239 Tryz.underlying29 cells248.2.2.2 cells248.2.2.1 h3
  have h5 := h3.tail.tail
  obtain ⟨a0, s0, hv0, _⟩ := laid_sentinel h5 gErrs.2.1 (by kernel_rfl) Tryz.underlying75 row248 Tryz.underlying248 Tryz.underlying250 rfl rfl Tryz.underlying9 cells248.1 cells248.2.1
  obtain ⟨a1, s1, hv1, _⟩ := laid_sentinel h5.tail gErrs.1 (by kernel_rfl) Tryz.underlying75 row248 Tryz.underlying248 Tryz.underlying250 rfl rfl Tryz.underlying9 cells248.1 cells248.2.1
  refine ⟨?_, ht, ⟨_, _, hv1⟩, ⟨_, _, hv0⟩, cell_of_shapedOpen_int (g := 0) (t := 3) (zero := #[.int .i64 0]) hsh (of_decide_eq_true (by kernel_rfl)) (by kernel_rfl) rfl (by kernel_rfl) (by kernel_rfl) Tryz.underlying3⟩
  have h7 : ∃ m, (((begin Tryz.prog (fun _ _ => 0) default).world.heap[7]?).bind Obj.row?) = some m := by
    have e : (((begin Tryz.prog (fun _ _ => 0) default).world.heap[7]?).bind Obj.row?).isSome = true := by kernel_rfl
    exact Option.isSome_iff_exists.1 e
  obtain ⟨⟨zero, t⟩, hz⟩ := h7
  obtain ⟨cs, hc, _⟩ := hsh.1 7 zero t (of_decide_eq_true (by kernel_rfl)) hz
  obtain ⟨hlt, _⟩ := Array.getElem?_eq_some_iff.1 hc
  omega
/-! A world that lays the variables. -/
def cell1 : DataW Unit → Value
  | .lit (.int k n) => .int k n
  | _ => .nilIface
def cellsA : DataW Unit → List Value
  | .agg ps => ps.map cell1
  | _ => []
def cellsAA : DataW Unit → List Value
  | .agg ps => ps.flatMap cellsA
  | _ => []
def putC (cs : List Value) : Obj → Obj
  | .cells _ t frozen => .cells cs.toArray t frozen
  | o => o
noncomputable def lowN : Nat := (World.holding Tryz.prog default ⟨#[], #[], []⟩).heap.size
def ranB : ByteArray := ⟨#[118, 97, 108, 117, 101, 32, 111, 117, 116, 32, 111, 102, 32, 114, 97, 110, 103, 101]⟩
def synB : ByteArray := ⟨#[105, 110, 118, 97, 108, 105, 100, 32, 115, 121, 110, 116, 97, 120]⟩
noncomputable def laidW (os : Os) : World :=
  let w0 := World.holding Tryz.prog os ⟨#[.cells #[.string ranB] 250, .cells #[.string synB] 250], #[], []⟩
  { w0 with heap := ((((((w0.heap.modify 1 (putC (cellsA Rows.laid_internal_strconv_uint64pow10))).modify 2 (putC [.iface 248 (.pointer (some ⟨lowN + 1, 0, none⟩))])).modify 3 (putC [.iface 248 (.pointer (some ⟨lowN, 0, none⟩))])).modify 4 (putC (cellsA Rows.laid_unicode_utf8_first))).modify 5 (putC (cellsAA Rows.laid_unicode_utf8_acceptRanges))).modify 6 (putC (cellsA Rows.laid_math_bits_deBruijn32tab))).modify 7 (putC (cellsA Rows.laid_math_bits_deBruijn64tab)) }
set_option maxRecDepth 100000 in
theorem laid_met (os : Os) (args : Array Value) : laidMet Tryz.prog Rows.imageFormsRow.laid ((laidW os).forCall (fun _ _ => 0) ⟨#[], args, []⟩).memory :=
  laidMet_of_run' 8 (by kernel_rfl) (by kernel_rfl)
end Go.Proofs.YtdebkbfnngkdlaaGreatDoor
end
section
namespace Go.Proofs.YtdebkbfnngkdlaaGreatDoor
open Go.V Go.Base Go.RowKit Go.WideShapes Go.ChangeShapes Go.Deep
set_option linter.unusedVariables false
section
variable {H : Type}
theorem bulk_pos (d : DataW H) : 1 ≤ Rows.uptoBulk d := by
  cases d with
  | lit l => cases l <;> simp [Rows.uptoBulk]
  | nil => simp [Rows.uptoBulk]
  | ptr d => simp [Rows.uptoBulk]
  | slice a b => simp [Rows.uptoBulk]
  | agg a => simp [Rows.uptoBulk]
  | iface t d => simp [Rows.uptoBulk]
  | map a => simp [Rows.uptoBulk]
  | held h => simp [Rows.uptoBulk]
theorem bulk_len : ∀ (l : List (DataW H)), l.length ≤ Rows.uptoBulkAll l
  | [] => by simp [Rows.uptoBulkAll]
  | d :: l => by
    have h1 := bulk_pos d
    have h2 := bulk_len l
    simp only [List.length_cons, Rows.uptoBulkAll]
    omega
theorem bulk_mem : ∀ {l : List (DataW H)} {d : DataW H}, d ∈ l → Rows.uptoBulk d ≤ Rows.uptoBulkAll l
  | e :: l, d, h => by
    simp only [Rows.uptoBulkAll]
    rcases List.mem_cons.1 h with rfl | h
    · omega
    · have := bulk_mem h; omega
end
def Opn {α : Type} {H : Type} (enc : TypeId × Value → H) (P : Program) (W : World) (t : TypeId) (R : Rp α) (K : α → Nat → Prop) : Prop :=
  ∀ (n : Nat) (cs : List Value) (x : DataW H × List MemPlace), DataW.trod enc P W 0 (fun _ => true) true n t cs = some x → (∀ p ∈ x.2, p.block < W.heap.size) → ∃ d : α, R.ok (fun b => b < W.heap.size) W d cs ∧ K d (Rows.uptoBulk x.1)
section
variable {α : Type} {R : Rp α} {K : α → Nat → Prop} {H : Type} {enc : TypeId × Value → H} {P : Program} {W : World} {t e : TypeId}
theorem opn_i {n : Nat} {cs : List Value} {x : DataW H × List MemPlace} (ht : P.underlying t = some (.int .i64)) (h : DataW.trod enc P W 0 (fun _ => true) true n t cs = some x) : ∃ n : Int, cs = [.int .i64 n] ∧ -9223372036854775808 ≤ n ∧ n ≤ 9223372036854775807 := by
  obtain ⟨n, q, _, w⟩ := DataW.trod_int ht h
  unfold Lit.wf at w
  have h1 : IntKind.i64.min = -9223372036854775808 := by decide
  have h2 : IntKind.i64.max = 9223372036854775807 := by decide
  simp [h1, h2] at w
  exact ⟨n, q, w.1, w.2⟩
theorem opn_s {n : Nat} {cs : List Value} {x : DataW H × List MemPlace} (ht : P.underlying t = some .string) (h : DataW.trod enc P W 0 (fun _ => true) true n t cs = some x) : ∃ s : ByteArray, cs = [.string s] ∧ s.size ≤ Rows.uptoBulk x.1 := by
  obtain ⟨s, q, rfl, w⟩ := DataW.trod_string ht h
  exact ⟨s, q, by simp [Rows.uptoBulk]⟩
theorem Opn.str (ht : P.underlying t = some .string) : Opn enc P W t Rp.str fun s b => s.size ≤ b := fun n cs x h hp => by
  obtain ⟨s, rfl, h1⟩ := opn_s ht h
  exact ⟨s, rfl, h1⟩
/-- A slice of what can be opened. -/
theorem Opn.sl (ht : P.underlying t = some (.slice e)) (hc : P.cellsOf e = R.sz) (hpos : 0 < R.sz) (hK : ∀ d b b', b ≤ b' → K d b → K d b') (hel : Opn enc P W e R K) {n : Nat} {cs : List Value} {x : DataW H × List MemPlace} (hf : DataW.trod enc P W 0 (fun _ => true) true n t cs = some x) (hlt : ∀ p ∈ x.2, p.block < W.heap.size) :
    ∃ A c l, cs = [.slice A l.length c] ∧ SlR R (fun b => b < W.heap.size) W (.slice A l.length c) l ∧ l.length ≤ Rows.uptoBulk x.1 ∧ ∀ y ∈ l, K y (Rows.uptoBulk x.1) := by
  rcases open_slice ht hf with ⟨rfl, rfl⟩ | ⟨a, len, cap, m, k, D, Pl, rfl, _, hl, hm, hmm, rfl, hall⟩
  · exact ⟨none, 0, [], rfl, SlR.nil _ _ _, Nat.zero_le _, fun y hy => by simp at hy⟩
  · simp only [if_true] at hmm
    subst hmm
    have hone : ∀ i, i < m → ∃ (x : α) (cs : List Value), R.ok (fun b => b < W.heap.size) W x cs ∧ K x (Rows.uptoBulk (D i)) ∧ ∀ j u, cs[j]? = some u → W.cell? (a.add (i * R.sz + j)) = some u := fun i hi => by
      obtain ⟨cs', h1, h2⟩ := hall i hi
      obtain ⟨x, hx, hkx⟩ := hel k cs' _ h2 fun p hp => hlt p (List.mem_append_right _ (List.mem_flatMap.2 ⟨i, List.mem_range.2 hi, hp⟩))
      obtain ⟨_, hlen, hcell⟩ := World.cells?_some h1
      refine ⟨x, cs', hx, hkx, fun j u hj => ?_⟩
      have hjl : j < P.cellsOf e := by rw [← hlen]; exact (List.getElem?_eq_some_iff.1 hj).1
      have := hcell j hjl
      rw [hj, hc] at this
      rw [← this, add_add]
    have hex : ∀ q, q ≤ m → ∃ l : List α, l.length = q ∧ ∀ i x, l[i]? = some x → K x (Rows.uptoBulk (D i)) ∧ ∃ cs, R.ok (fun b => b < W.heap.size) W x cs ∧ ∀ j u, cs[j]? = some u → W.cell? (a.add (i * R.sz + j)) = some u := by
      intro q
      induction q with
      | zero => exact fun _ => ⟨[], rfl, fun i x h => by simp at h⟩
      | succ q ih =>
        intro hq
        obtain ⟨l, hll, hli⟩ := ih (by omega)
        obtain ⟨x, cs, h1, hk1, h2⟩ := hone q (by omega)
        refine ⟨l ++ [x], by simp [hll], fun i y hy => ?_⟩
        rcases Nat.lt_or_ge i l.length with hi | hi
        · rw [List.getElem?_append_left hi] at hy; exact hli i y hy
        · rw [List.getElem?_append_right hi] at hy
          have : i - l.length = 0 := by
            have := (List.getElem?_eq_some_iff.1 hy).1; simp at this; omega
          rw [this] at hy
          simp at hy; subst hy
          have hiq : i = q := by omega
          subst hiq
          exact ⟨hk1, cs, h1, h2⟩
    obtain ⟨l, hll, hli⟩ := hex len hl
    subst hll
    have hb : ∀ i, i < l.length → Rows.uptoBulk (D i) ≤ Rows.uptoBulkAll ((List.range l.length).map D) := fun i hi => bulk_mem (List.mem_map.2 ⟨i, List.mem_range.2 hi, rfl⟩)
    have hlb := bulk_len ((List.range l.length).map D)
    rw [List.length_map, List.length_range] at hlb
    have hbb : Rows.uptoBulkAll ((List.range l.length).map D) ≤ Rows.uptoBulk (DataW.slice ((List.range l.length).map D) ((List.range (m - l.length)).map fun j => D (l.length + j))) := by simp only [Rows.uptoBulk]; omega
    refine ⟨some a, m, l, rfl, ⟨_, _, rfl, hl, by unfold maxLen at hm; omega, fun i x hi => ?_⟩, Nat.le_trans hlb hbb, fun y hy => ?_⟩
    · obtain ⟨_, cs, h1, h2⟩ := hli i x hi
      have hin : i < l.length := (List.getElem?_eq_some_iff.1 hi).1
      obtain ⟨b, off, spot⟩ := a
      have hcl := R.len h1
      obtain ⟨u0, hu0⟩ : ∃ u, cs[0]? = some u := ⟨cs[0]'(by omega), List.getElem?_eq_getElem (by omega)⟩
      obtain ⟨_, cz, z1, z2⟩ := hli 0 _ (List.getElem?_eq_getElem (by omega))
      have hzl := R.len z1
      have hspot : spot = none := by simpa [Addr.add] using World.cell?_spot (z2 0 _ (List.getElem?_eq_getElem (by omega)))
      subst hspot
      have hbW : b < W.heap.size := by
        have hmem : MemPlace.cell b off ∈ MemPlace.row ⟨b, off, none⟩ (m * P.cellsOf e) := MemPlace.mem_row.2 ⟨0, by rw [hc]; exact Nat.mul_pos (by omega) hpos, by simp⟩
        exact hlt _ (List.mem_append_left _ hmem)
      refine ⟨b, off, cs, rfl, hbW, hbW, h1, fun j u hj => ?_⟩
      have := h2 j u hj
      rwa [show (⟨b, off, none⟩ : Addr).add (i * R.sz + j) = ⟨b, off + i * R.sz + j, none⟩ by unfold Addr.add; split <;> simp_all [Nat.add_assoc]] at this
    · obtain ⟨i, hi⟩ := List.mem_iff_getElem?.1 hy
      exact hK _ _ _ (Nat.le_trans (hb i (List.getElem?_eq_some_iff.1 hi).1) hbb) (hli i y hi).1
/-- A struct's parts. -/
theorem opn_st {fs : Array Field} (ht : P.underlying t = some (.struct fs)) {k : Nat} (hk : P.cellsOf t = k) {n : Nat} {cs : List Value} {x : DataW H × List MemPlace} (h : DataW.trod enc P W 0 (fun _ => true) true n t cs = some x) (hlt : ∀ p ∈ x.2, p.block < W.heap.size) :
    cs.length = k ∧ ∀ (i : Nat) (f : Field), fs[i]? = some f → ∃ m y, DataW.trod enc P W 0 (fun _ => true) true m f.type ((cs.drop f.offset).take (P.cellsOf f.type)) = some y ∧ Rows.uptoBulk y.1 ≤ Rows.uptoBulk x.1 ∧ ∀ p ∈ y.2, p.block < W.heap.size := by
  obtain ⟨xs, m, _, rfl, hl, hlen, hf⟩ := DataW.trod_struct ht h
  refine ⟨hl.trans hk, fun i f hi => ?_⟩
  have hil : i < xs.length := by
    have := (Array.getElem?_eq_some_iff.1 hi).1
    omega
  refine ⟨m, xs[i], (hf i f hi).trans (List.getElem?_eq_getElem hil), ?_, fun p hp => hlt p (List.mem_flatMap.2 ⟨xs[i], List.getElem_mem hil, hp⟩)⟩
  have := bulk_mem (l := xs.map (·.1)) (List.mem_map.2 ⟨xs[i], List.getElem_mem hil, rfl⟩)
  simp only [Rows.uptoBulk]
  omega
end
theorem okw_st {P : Program} {W : World} {r : Reach} {b : Nat} {t : TypeId} {v : Value} {fs : Array Field} (ht : P.underlying t = some (.struct fs)) (h : Value.okWide P W r b t v) : ∃ cs, v = .agg cs := by
  unfold Value.okWide at h
  rw [ht] at h
  obtain ⟨cs, h1, _⟩ := h
  exact ⟨cs, h1⟩
theorem list2 {β : Type} {cs : List β} (h : cs.length = 2) : ∃ a b, cs = [a, b] := by
  match cs, h with
  | [a, b], _ => exact ⟨a, b, rfl⟩
theorem list5 {β : Type} {cs : List β} (h : cs.length = 5) : ∃ a b c d e, cs = [a, b, c, d, e] := by
  match cs, h with
  | [a, b, c, d, e], _ => exact ⟨a, b, c, d, e, rfl⟩
theorem list7 {β : Type} {cs : List β} (h : cs.length = 7) : ∃ a b c d e f g, cs = [a, b, c, d, e, f, g] := by
  match cs, h with
  | [a, b, c, d, e, f, g], _ => exact ⟨a, b, c, d, e, f, g, rfl⟩
end Go.Proofs.YtdebkbfnngkdlaaGreatDoor
end
section
namespace Go.Proofs.YtdebkbfnngkdlaaGreatDoor
open Go.Base Go.V Go.ChangeShapes Go.WideShapes Go.Deep
set_option linter.unusedVariables false
set_option linter.unusedSimpArgs false
def StM (s : ByteArray) : Prop := s.size ≤ maxLen
def ScM (y : ByteArray × Int) : Prop := y.1.size ≤ maxLen ∧ i64 y.2
def FdM (y : ByteArray × ByteArray) : Prop := y.1.size ≤ maxLen ∧ y.2.size ≤ maxLen
/-- What a value that is handed in keeps to. -/
structure VaM (k : Int) (s : ByteArray) (l : List ByteArray) (z : List (ByteArray × Int)) (h : List (ByteArray × ByteArray)) : Prop where
  k : i64 k
  s : s.size ≤ maxLen
  l : ∀ y ∈ l, StM y
  z : ∀ y ∈ z, ScM y
  h : ∀ y ∈ h, FdM y
def EnM (x : EnD) : Prop := x.key.size ≤ maxLen ∧ VaM x.k x.s x.l x.z x.h ∧ i64 x.till
theorem celI9 : Tryz.prog.cellsOf 9 = 1 := by kernel_rfl
theorem celI2 : Tryz.prog.cellsOf 2 = 1 := by kernel_rfl
theorem celI3 : Tryz.prog.cellsOf 3 = 1 := by kernel_rfl
theorem celI41 : Tryz.prog.cellsOf 41 = 1 := by kernel_rfl
theorem celI42 : Tryz.prog.cellsOf 42 = 1 := by kernel_rfl
theorem celI43 : Tryz.prog.cellsOf 43 = 1 := by kernel_rfl
theorem celI44 : Tryz.prog.cellsOf 44 = 1 := by kernel_rfl
theorem celI46 : Tryz.prog.cellsOf 46 = 5 := by kernel_rfl
theorem celI55 : Tryz.prog.cellsOf 55 = 7 := by kernel_rfl
theorem celI98 : Tryz.prog.cellsOf 98 = 2 := by kernel_rfl
theorem celI101 : Tryz.prog.cellsOf 101 = 2 := by kernel_rfl
section
variable {H : Type} {enc : TypeId × Value → H} {W : World}
theorem opn_sM {P : Program} {t : TypeId} {n : Nat} {cs : List Value} {x : DataW H × List MemPlace} (ht : P.underlying t = some .string) (h : DataW.trod enc P W 0 (fun _ => true) true n t cs = some x) : ∃ s : ByteArray, cs = [.string s] ∧ s.size ≤ maxLen := by
  obtain ⟨s, q, rfl, w⟩ := DataW.trod_string ht h
  exact ⟨s, q, w⟩
theorem st_el : Opn enc Tryz.prog W 9 Rp.str fun s _ => StM s := fun n cs x h hp => by
  obtain ⟨s, rfl, h1⟩ := opn_sM Tryz.underlying9 h
  exact ⟨s, rfl, h1⟩
theorem sc_el : Opn enc Tryz.prog W 98 scR fun y _ => ScM y := fun n cs x h hp => by
  obtain ⟨hl, hf⟩ := opn_st Tryz.underlying98 celI98 h hp
  obtain ⟨c0, c1, rfl⟩ := list2 hl
  obtain ⟨_, y0, h0, b0, _⟩ := hf 0 _ rfl
  obtain ⟨_, y1, h1, b1, _⟩ := hf 1 _ rfl
  obtain ⟨s, q0, k0⟩ := opn_sM Tryz.underlying9 h0
  obtain ⟨n, q1, k1⟩ := opn_i Tryz.underlying2 h1
  simp [celI9, celI2] at q0 q1
  subst q0; subst q1
  exact ⟨(s, n), rfl, k0, k1⟩
theorem fd_el : Opn enc Tryz.prog W 101 fdR fun y _ => FdM y := fun n cs x h hp => by
  obtain ⟨hl, hf⟩ := opn_st Tryz.underlying101 celI101 h hp
  obtain ⟨c0, c1, rfl⟩ := list2 hl
  obtain ⟨_, y0, h0, b0, _⟩ := hf 0 _ rfl
  obtain ⟨_, y1, h1, b1, _⟩ := hf 1 _ rfl
  obtain ⟨s, q0, k0⟩ := opn_sM Tryz.underlying9 h0
  obtain ⟨n, q1, k1⟩ := opn_sM Tryz.underlying9 h1
  simp [celI9] at q0 q1
  subst q0; subst q1
  exact ⟨(s, n), rfl, k0, k1⟩
theorem val_el {n : Nat} {cs : List Value} {x : DataW H × List MemPlace} (h : DataW.trod enc Tryz.prog W 0 (fun _ => true) true n 46 cs = some x) (hp : ∀ p ∈ x.2, p.block < W.heap.size) :
    ∃ k s Al cl l Az cz z Ah ch h', cs = [.int .i64 k, .string s, .slice Al l.length cl, .slice Az z.length cz, .slice Ah h'.length ch] ∧ SlR Rp.str (fun b => b < W.heap.size) W (.slice Al l.length cl) l ∧ SlR scR (fun b => b < W.heap.size) W (.slice Az z.length cz) z ∧ SlR fdR (fun b => b < W.heap.size) W (.slice Ah h'.length ch) h' ∧ VaM k s l z h' := by
  obtain ⟨hl, hf⟩ := opn_st Tryz.underlying46 celI46 h hp
  obtain ⟨c0, c1, c2, c3, c4, rfl⟩ := list5 hl
  obtain ⟨_, y0, h0, b0, p0⟩ := hf 0 _ rfl
  obtain ⟨_, y1, h1, b1, p1⟩ := hf 1 _ rfl
  obtain ⟨_, y2, h2, b2, p2⟩ := hf 2 _ rfl
  obtain ⟨_, y3, h3, b3, p3⟩ := hf 3 _ rfl
  obtain ⟨_, y4, h4, b4, p4⟩ := hf 4 _ rfl
  obtain ⟨k, q0, k0⟩ := opn_i Tryz.underlying41 h0
  obtain ⟨s, q1, k1⟩ := opn_sM Tryz.underlying9 h1
  obtain ⟨Al, cl, l, q2, s2, k2, m2⟩ := Opn.sl (R := Rp.str) (K := fun s _ => StM s) Tryz.underlying42 celI9 (by decide) (fun d b b' h q => q) st_el h2 p2
  obtain ⟨Az, cz, z, q3, s3, k3, m3⟩ := Opn.sl (R := scR) (K := fun y _ => ScM y) Tryz.underlying43 celI98 (by decide) (fun d b b' h q => q) sc_el h3 p3
  obtain ⟨Ah, ch, h', q4, s4, k4, m4⟩ := Opn.sl (R := fdR) (K := fun y _ => FdM y) Tryz.underlying44 celI101 (by decide) (fun d b b' h q => q) fd_el h4 p4
  simp [celI9, celI41, celI42, celI43, celI44] at q0 q1 q2 q3 q4
  subst q0; subst q1; subst q2; subst q3; subst q4
  exact ⟨k, s, Al, cl, l, Az, cz, z, Ah, ch, h', rfl, s2, s3, s4, k0, k1, m2, m3, m4⟩
theorem en_el : Opn enc Tryz.prog W 55 enR fun x _ => EnM x := fun n cs x h hp => by
  obtain ⟨hl, hf⟩ := opn_st Tryz.underlying55 celI55 h hp
  obtain ⟨c0, c1, c2, c3, c4, c5, c6, rfl⟩ := list7 hl
  obtain ⟨_, y0, h0, b0, p0⟩ := hf 0 _ rfl
  obtain ⟨_, y1, h1, b1, p1⟩ := hf 1 _ rfl
  obtain ⟨_, y2, h2, b2, p2⟩ := hf 2 _ rfl
  obtain ⟨s, q0, k0⟩ := opn_sM Tryz.underlying9 h0
  obtain ⟨k, s', Al, cl, l, Az, cz, z, Ah, ch, h', q1, s1, s2, s3, k1⟩ := val_el h1 p1
  obtain ⟨t, q2, k2⟩ := opn_i Tryz.underlying3 h2
  simp [celI9, celI3, celI46] at q0 q1 q2
  obtain ⟨rfl, rfl, rfl, rfl, rfl⟩ := q1
  subst q0; subst q2
  exact ⟨⟨s, k, s', l, z, h', t⟩, ⟨_, _, _, rfl, s1, s2, s3⟩, k0, k1, k2⟩
theorem open_enM {A : Option Addr} {n c : Nat} {d : DataW H} {ps : List MemPlace} (hd : DataW.Trod enc Tryz.prog W 0 (fun _ => true) true 22 (.slice A n c) d ps) (hlt : ∀ x ∈ ps, x.block < W.heap.size) :
    ∃ l : List EnD, n = l.length ∧ SlR enR (fun b => b < W.heap.size) W (.slice A n c) l ∧ ∀ x ∈ l, EnM x := by
  obtain ⟨fu, hf⟩ := hd
  obtain ⟨A', c', l, q, s, k, m⟩ := Opn.sl (R := enR) (K := fun x _ => EnM x) Tryz.underlying22 celI55 (by decide) (fun d b b' h q => q) en_el hf hlt
  simp [Value.cells] at q
  obtain ⟨rfl, rfl, rfl⟩ := q
  exact ⟨l, rfl, s, m⟩
end
/-! What a cut row keeps to. -/
theorem few_bnd {x : EnD} (h : EnM x) : bndE (fewD x) ∧ ∀ y ∈ (fewD x).z, i64 y.2 := by
  have hz : ∀ y ∈ (fewD x).z, ScM y := fun y hy => h.2.1.z y (List.mem_of_mem_take hy)
  have h1 : (fewD x).l.length ≤ 40 := List.length_take_le ..
  have h2 : (fewD x).z.length ≤ 40 := List.length_take_le ..
  have h3 : (fewD x).h.length ≤ 40 := List.length_take_le ..
  exact ⟨⟨by omega, by omega, by omega, fun y hy => (hz y hy).1⟩, fun y hy => (hz y hy).2⟩
theorem cut_bnd {l : List EnD} (h : ∀ x ∈ l, EnM x) : (∀ x ∈ cutD l, bndE x) ∧ ∀ x ∈ cutD l, ∀ y ∈ x.z, i64 y.2 := by
  have q : ∀ x ∈ cutD l, ∃ y ∈ l, fewD y = x := fun x hx => by
    unfold cutD at hx
    obtain ⟨y, hy, e⟩ := List.mem_map.1 hx
    exact ⟨y, List.mem_of_mem_take hy, e⟩
  refine ⟨fun x hx => ?_, fun x hx => ?_⟩
  · obtain ⟨y, hy, rfl⟩ := q x hx; exact (few_bnd (h y hy)).1
  · obtain ⟨y, hy, rfl⟩ := q x hx; exact (few_bnd (h y hy)).2
end Go.Proofs.YtdebkbfnngkdlaaGreatDoor
end
section
namespace Go.Proofs.YtdebkbfnngkdlaaGreatDoor
open Go.V Go.Base
open Go.RowKit (Below)
attribute [local irreducible] Act.put Act.eval
set_option linter.unusedVariables false
set_option linter.unusedSimpArgs false
set_option maxHeartbeats 4000000
set_option maxRecDepth 20000
/-! ### Numbers, back -/
theorem dd_ok : ∀ u : Nat, Lib.decDigits u ≠ [] ∧ ∀ c ∈ Lib.decDigits u, 48 ≤ c.toNat ∧ c.toNat ≤ 57 := by
  intro u
  induction u using Nat.strongRecOn with
  | _ u ih =>
    have hd : ∀ v : Nat, v < 10 → 48 ≤ (UInt8.ofNat (48 + v)).toNat ∧ (UInt8.ofNat (48 + v)).toNat ≤ 57 := fun v hv => by rw [UInt8.toNat_ofNat']; omega
    by_cases h : u < 10
    · rw [Lib.decDigits, dif_pos h]
      exact ⟨by simp, fun c hc => by rw [List.mem_singleton.1 hc]; exact hd u h⟩
    · obtain ⟨h1, h2⟩ := ih (u / 10) (by omega)
      rw [Lib.decDigits, dif_neg h]
      refine ⟨by simp, fun c hc => ?_⟩
      rcases List.mem_append.1 hc with hc | hc
      · exact h2 c hc
      · rw [List.mem_singleton.1 hc]; exact hd _ (by omega)
theorem pum_dd {M : Nat} (hM : M ≤ 18446744073709551615) : ∀ (u : Nat), u ≤ M → ∀ r : List UInt8, Lib.parseUintM M 0 (Lib.decDigits u ++ r) = Lib.parseUintM M u r := by
  intro u
  induction u using Nat.strongRecOn with
  | _ u ih =>
    intro hu r
    have hd : ∀ v : Nat, v < 10 → (UInt8.ofNat (48 + v)).toNat = 48 + v := fun v hv => by rw [UInt8.toNat_ofNat']; omega
    by_cases h : u < 10
    · rw [Lib.decDigits, dif_pos h, List.singleton_append, Lib.parseUintM, hd u h, if_pos (by omega), if_neg (by omega), if_neg (by omega)]
      congr 1; omega
    · rw [Lib.decDigits, dif_neg h, List.append_assoc, ih (u / 10) (by omega) (by omega), List.singleton_append, Lib.parseUintM, hd (u % 10) (by omega), if_pos (by omega), if_neg (by omega), if_neg (by omega)]
      congr 1; omega
theorem pub_dd {u : Nat} (hu : u ≤ 18446744073709551615) : Lib.parseUintB 64 (Lib.decDigits u) = .ok u := by
  unfold Lib.parseUintB
  rw [if_neg (dd_ok u).1]
  have := pum_dd (M := 18446744073709551615) (Nat.le_refl _) u hu []
  rw [List.append_nil] at this
  exact this
theorem pib_itoa {n : Int} (h : i64 n) : Lib.parseIntB 64 (Lib.itoa n) = .ok n := by
  unfold i64 at h
  unfold Lib.itoa
  by_cases hn : n < 0
  · rw [if_pos hn]
    have h1 := pub_dd (u := n.natAbs) (by omega)
    show (match Lib.parseUintB 64 (if (45 : UInt8).toNat = 43 ∨ (45 : UInt8).toNat = 45 then Lib.decDigits n.natAbs else _) with | .syntax => _ | .range => _ | .ok u => _) = _
    rw [if_pos (.inr rfl), h1]
    show (if ¬ (45 : UInt8).toNat = 45 ∧ 2 ^ 63 ≤ n.natAbs then _ else if (45 : UInt8).toNat = 45 ∧ 2 ^ 63 < n.natAbs then _ else Lib.NumEnd.ok (if (45 : UInt8).toNat = 45 then -((n.natAbs : Nat) : Int) else ((n.natAbs : Nat) : Int))) = _
    rw [if_neg (fun q => q.1 rfl), if_neg (fun q => by have := q.2; omega), if_pos (show (45 : UInt8).toNat = 45 from rfl)]
    congr 1; omega
  · rw [if_neg hn]
    have h1 := pub_dd (u := n.toNat) (by omega)
    obtain ⟨h2, h3⟩ := dd_ok n.toNat
    cases hc : Lib.decDigits n.toNat with
    | nil => exact absurd hc h2
    | cons c r =>
      have h4 := h3 c (by rw [hc]; exact List.mem_cons_self ..)
      rw [hc] at h1
      unfold Lib.parseIntB
      simp only
      rw [if_neg (by omega), h1]
      simp only
      rw [if_neg (fun q => by have := q.2; omega), if_neg (fun q => by have := q.1; omega), if_neg (by omega)]
      congr 1; omega
theorem itoaS_data (n : Int) : (itoaS n).data.toList = Lib.itoa n := by simp [itoaS]
theorem itoaS_inj {n m : Int} (hn : i64 n) (hm : i64 m) (h : itoaS n = itoaS m) : n = m := by
  have h1 := pib_itoa hn
  have h2 := pib_itoa hm
  rw [← itoaS_data, h, itoaS_data, h2] at h1
  injection h1 with h1
  exact h1.symm
/-- A byte that a number may have. -/
def okc (s : ByteArray) (j : Nat) : Prop := (48 ≤ bi s (j : Int) ∧ bi s (j : Int) ≤ 57) ∨ (bi s (j : Int) = 45 ∧ j = 0)
theorem okc_itoa {n : Int} {s : ByteArray} (hs : itoaS n = s) {j : Nat} (hj : j < s.size) : okc s j := by
  have h1 := byt_el hj
  have h2 : s.data.toList = Lib.itoa n := by rw [← hs]; exact itoaS_data n
  rw [h2] at h1
  unfold Lib.itoa at h1
  have hb : bi s (j : Int) = ((byt s (j : Int)).toNat : Int) := rfl
  unfold okc
  split at h1
  · cases j with
    | zero => simp only [List.getElem?_cons_zero, Option.some.injEq] at h1; right; rw [hb, ← h1]; exact ⟨rfl, rfl⟩
    | succ j => rw [List.getElem?_cons_succ] at h1; have := (dd_ok _).2 _ (List.mem_of_getElem? h1); omega
  · have := (dd_ok _).2 _ (List.mem_of_getElem? h1); omega
def prOk (s : ByteArray) : Prop := ∃ n, i64 n ∧ itoaS n = s
noncomputable def prN (s : ByteArray) : Int := @dite Int (prOk s) (Classical.propDecidable _) (fun h => h.choose) fun _ => 0
noncomputable def prC (s : ByteArray) : Int := @ite Int (prOk s) (Classical.propDecidable _) 0 10
theorem pr_yes {s : ByteArray} {n : Int} (hn : i64 n) (h : itoaS n = s) : n = prN s ∧ 0 = prC s := by
  have hp : prOk s := ⟨n, hn, h⟩
  refine ⟨?_, (@if_pos _ (Classical.propDecidable _) hp _ _ _).symm⟩
  unfold prN
  rw [dif_pos hp]
  exact itoaS_inj hn hp.choose_spec.1 (h.trans hp.choose_spec.2.symm)
theorem pr_no {s : ByteArray} (h : ¬ prOk s) : 0 = prN s ∧ 10 = prC s := ⟨by unfold prN; rw [dif_neg h], (@if_neg _ (Classical.propDecidable _) h _ _ _).symm⟩
end Go.Proofs.YtdebkbfnngkdlaaGreatDoor
end
section
namespace Go.V
open Go.Base Go.RowKit
set_option linter.unusedVariables false
/-- The iterator. -/
def Itr (w : World) (b : Nat) (s : ByteArray) (p : Nat) : Prop := w.heap[b]? = some (.stringIter s p)
theorem Itr.lt {w : World} {b : Nat} {s : ByteArray} {p : Nat} (h : Itr w b s p) : b < w.heap.size := Nat.lt_of_not_le fun hle => by unfold Itr at h; rw [Array.getElem?_eq_none hle] at h; cases h
theorem Itr.fr {w w1 : World} {b : Nat} {s : ByteArray} {p : Nat} {l : List Nat} (h : Itr w b s p) (f : Fr l w w1) (hb : b ∉ l) : Itr w1 b s p := (f.block b h.lt hb).trans h
theorem Itr.fr0 {w w1 : World} {b : Nat} {s : ByteArray} {p : Nat} (h : Itr w b s p) (f : Fr [] w w1) : Itr w1 b s p := h.fr f (by simp)
/-- The rune at a place: r, of n bytes. -/
def RuneAt (s : ByteArray) (p : Nat) (r : Int) (n : Nat) : Prop := (bi s (p : Int) < 128 → r = bi s (p : Int) ∧ n = 1) ∧ (128 ≤ bi s (p : Int) → 128 ≤ r) ∧ 1 ≤ n ∧ 0 ≤ r ∧ r ≤ 2147483647
theorem get_bi {s : ByteArray} {p : Nat} (h : p < s.size) : ((s.get! (p + 0)).toNat : Int) = bi s (p : Int) := by
  have h' : p < s.data.size := h
  unfold bi byt
  rw [Int.toNat_natCast, Nat.add_zero, Array.getD_eq_getD_getElem?]
  show ((s.data[p]!).toNat : Int) = _
  rw [getElem!_def]
  cases hq : s.data[p]? with
  | some v => rfl
  | none => rfl
theorem dec_ok {s : ByteArray} {p : Nat} (h : p < s.size) : RuneAt s p ((Utf8.decode s p).1 : Int) (Utf8.decode s p).2 := by
  have hg := get_bi h
  have h3 : ∀ k : Nat, (s.get! (p + k)).toNat < 256 := fun k => UInt8.toNat_lt _
  have h0 := h3 0; have h1 := h3 1; have h2 := h3 2; have h4 := h3 3
  unfold RuneAt Utf8.decode Utf8.runeError
  dsimp only
  split
  · refine ⟨fun _ => ⟨by omega, rfl⟩, fun _ => by dsimp only; omega, Nat.le_refl _, by dsimp only; omega, by dsimp only; omega⟩
  split
  · split
    · refine ⟨fun _ => by omega, fun _ => by dsimp only; omega, by dsimp only; omega, by dsimp only; omega, by dsimp only; omega⟩
    · refine ⟨fun _ => by omega, fun _ => by dsimp only; omega, by dsimp only; omega, by dsimp only; omega, by dsimp only; omega⟩
  split
  · split
    · rename_i q; have q' := q; simp only [ge_iff_le, Bool.and_eq_true, decide_eq_true_eq] at q'
      refine ⟨fun _ => by omega, fun _ => by dsimp only; omega, by dsimp only; omega, by dsimp only; omega, by dsimp only; omega⟩
    · refine ⟨fun _ => by omega, fun _ => by dsimp only; omega, by dsimp only; omega, by dsimp only; omega, by dsimp only; omega⟩
  split
  · split
    · rename_i q; have q' := q; simp only [ge_iff_le, Bool.and_eq_true, decide_eq_true_eq] at q'
      refine ⟨fun _ => by omega, fun _ => by dsimp only; omega, by dsimp only; omega, by dsimp only; omega, by dsimp only; omega⟩
    · refine ⟨fun _ => by omega, fun _ => by dsimp only; omega, by dsimp only; omega, by dsimp only; omega, by dsimp only; omega⟩
  · refine ⟨fun _ => by omega, fun _ => by dsimp only; omega, by dsimp only; omega, by dsimp only; omega, by dsimp only; omega⟩
section
variable {ro : Option Nat} {P : Program} {Q : Exit → Act → World → Prop} {a : Act} {w : World} {ops : Array Oper} {rest : List Oper} {d : Option Tmp} {ty : TypeId} {pos : String} {aft : Array Edge} {g : Option (Nat × Bool)}
theorem rgs {t : TypeId} {x : Operand} {s : ByteArray} (hx : a.eval x = .string s) (ht : P.underlying t = some .string)
    (k : ∀ w1 b, b = w.heap.size → Itr w1 b s 0 → Fr [] w w1 → L ro P ops Q rest (a.put d (.pointer (some ⟨b, 0, none⟩))) w1) : St ro P ops Q rest ⟨d, .range t x, ty, pos, aft, g⟩ a w := by
  refine St.val (v := .pointer (some ⟨w.heap.size, 0, none⟩)) (w' := w.iter s 0) (by simp only [execOp, hx, run_range_string w t s ht, Sem.run_bind, Sem.run_pure, Result.andThen_ok]) (k _ _ rfl (heap_alloc_new w _) (Fr.alloc [] w _))
theorem nxs {x : Operand} {s : ByteArray} {b p : Nat} (hI : Itr w b s p) (hx : a.eval x = .pointer (some ⟨b, 0, none⟩))
    (k1 : p < s.size → ∀ w1 (r : Int) n, RuneAt s p r n → Itr w1 b s (p + n) → Fr [b] w w1 → L ro P ops Q rest (a.put d (.tuple #[.bool true, .int .i64 (p : Int), .int .i32 r])) w1)
    (k2 : ¬ p < s.size → L ro P ops Q rest (a.put d (.tuple #[.bool false])) w) : St ro P ops Q rest ⟨d, .next x true, ty, pos, aft, g⟩ a w := by
  by_cases h : p < s.size
  · refine St.val (v := .tuple #[.bool true, .int .i64 (p : Int), .int .i32 ((Utf8.decode s p).1 : Int)]) (w' := w.iterAt b s (p + (Utf8.decode s p).2)) (by simp only [execOp, hx, Lib.run_next_any_at w b s p ty hI h, Sem.run_bind, Sem.run_pure, Result.andThen_ok]) (k1 h _ _ _ (dec_ok h) (Lib.iterAt_heap w b s p _ hI) ⟨rfl, rfl, rfl, by simp [World.iterAt], fun i hi hn => Lib.iterAt_other w b i s _ (by simpa using hn)⟩)
  · exact St.val (v := .tuple #[.bool false]) (w' := w) (by simp only [execOp, hx, Lib.run_next_end_at w b s p ty hI h, Sem.run_bind, Sem.run_pure, Result.andThen_ok]) (k2 h)
/-- An error held against nil. -/
theorem neqI0 {t t' : TypeId} {x : Operand} (hx : a.eval x = .nilIface) (ht : P.underlying t = some (.interface (P.methodsAt t))) (k : L ro P ops Q rest (a.put d (.bool false)) w) : St ro P ops Q rest ⟨d, .binOp .neq t x (.const .nilIface) t', ty, pos, aft, g⟩ a w := by
  have h1 : (binOp .neq t .nilIface .nilIface).run P w = .ok (.bool false) w := by
    show (do pure (Value.bool (!(← Op.equal t .nilIface .nilIface))) : Sem Value).run P w = _
    rw [Sem.run_bind, run_equal_nil_nil w t ht]; rfl
  have hc : a.eval (.const .nilIface) = .nilIface := rfl
  exact St.val (v := .bool false) (w' := w) (by simp only [execOp, hx, hc, eqGuard_nil_constR, Sem.run_bind, Sem.run_pure, Result.andThen_ok, h1]) k
theorem neqI1 {t t' u : TypeId} {v : Value} {x : Operand} (hx : a.eval x = .iface u v) (ht : P.underlying t = some (.interface (P.methodsAt t))) (k : L ro P ops Q rest (a.put d (.bool true)) w) : St ro P ops Q rest ⟨d, .binOp .neq t x (.const .nilIface) t', ty, pos, aft, g⟩ a w := by
  have h1 : (binOp .neq t (.iface u v) .nilIface).run P w = .ok (.bool true) w := by
    show (do pure (Value.bool (!(← Op.equal t (.iface u v) .nilIface))) : Sem Value).run P w = _
    rw [Sem.run_bind, run_equal_held_nil w t u v ht]; rfl
  have hc : a.eval (.const .nilIface) = .nilIface := rfl
  have hg : eqGuard .neq t x (.const .nilIface) (.iface u v) .nilIface = pure () := rfl
  exact St.val (v := .bool true) (w' := w) (by simp only [execOp, hx, hc, hg, Sem.run_bind, Sem.run_pure, Result.andThen_ok, h1]) k
end
end Go.V
end
section
namespace Go.Proofs.YtdebkbfnngkdlaaGreatDoor
open Go.V Go.Base
open Go.RowKit (Below)
attribute [local irreducible] Act.put Act.eval
set_option linter.unusedVariables false
set_option linter.unusedSimpArgs false
set_option maxHeartbeats 4000000
set_option maxRecDepth 20000
/-! ### ParseInt, by the shelf -/
theorem pi_any (w : World) (s : ByteArray) (hs : s.size ≤ 1099511627776) (hV : Vs w) : Calls Tryz.prog 131 #[.string s, .int .i64 10, .int .i64 64] w fun e w' => ∃ n v, e = .returned (.tuple #[.int .i64 n, v]) ∧ Fr [] w w' ∧ ((v = .nilIface ∧ i64 n ∧ Lib.parseIntB 64 s.data.toList = .ok n) ∨ (∃ u q, v = .iface u q ∧ ∀ m, Lib.parseIntB 64 s.data.toList ≠ .ok m)) := by
  cases h : Lib.parseIntB 64 s.data.toList with
  | ok n =>
    have hb := Lib.parseIntB_bounds h
    refine (Tryz.strconv_ParseInt_10_at64_ok s (by omega) n h w).mono fun e w' ⟨h1, h2⟩ => ⟨n, _, h1, ?_, .inl ⟨rfl, ⟨hb.1, by have h3 : n < 9223372036854775808 := hb.2; omega⟩, rfl⟩⟩
    rcases h2 with rfl | ⟨t, rfl⟩
    · exact Fr.refl _ _
    · exact Fr.of_below (Lib.bytesWorld_below _ _ _) _
  | «syntax» =>
    obtain ⟨tp, p, hv⟩ := hV.syn
    exact (Tryz.strconv_ParseInt_10_at64_syntax_var s (by omega) h tp p w hv).mono fun e w' ⟨N, h1, _, _, h2⟩ => ⟨_, _, h1, Fr.of_below h2 _, .inr ⟨_, _, rfl, fun m hm => by cases hm⟩⟩
  | range =>
    obtain ⟨tp, p, hv⟩ := hV.ran
    exact (Tryz.strconv_ParseInt_10_at64_range_var s (by omega) h tp p w hv).mono fun e w' ⟨N, h1, _, _, h2⟩ => ⟨_, _, h1, Fr.of_below h2 _, .inr ⟨_, _, rfl, fun m hm => by cases hm⟩⟩
theorem pr_bad {s : ByteArray} {p : Nat} (hp : p < s.size) (h : ¬ okc s p) : ¬ prOk s := fun ⟨_, _, hs⟩ => h (okc_itoa hs hp)
theorem pr_err {s : ByteArray} (h : ∀ m, Lib.parseIntB 64 s.data.toList ≠ .ok m) : ¬ prOk s := fun ⟨m, hm, hs⟩ => h m (by rw [← hs, itoaS_data]; exact pib_itoa hm)
theorem pr_other {s : ByteArray} {n : Int} (h : Lib.parseIntB 64 s.data.toList = .ok n) (hne : ¬ itoaS n = s) : ¬ prOk s := fun ⟨m, hm, hs⟩ => hne (by
  have h1 := pib_itoa hm
  rw [← itoaS_data, hs, h] at h1
  injection h1 with h1
  rw [h1]; exact hs)
theorem ok_next {s : ByteArray} {p : Nat} (h : ∀ j, j < p → okc s j) (h1 : okc s p) : ∀ j, j < p + 1 → okc s j := fun j hj => by
  rcases Nat.lt_or_ge j p with h2 | h2
  · exact h j h2
  · obtain rfl : j = p := by omega
    exact h1
theorem parse_any (w : World) (s : ByteArray) (hs : s.size ≤ 1099511627776) (hV : Vs w) : Calls Tryz.prog 90 #[.string s] w (fun e w' => e = .returned (.tuple #[.int .i64 (prN s), .int .i64 (prC s)]) ∧ Fr [] w w') := by
 have hF := Fr.refl [] w
 refine V.en 42 Tryz.func90 fun a h1 => ?_
 refine V.sr h1 [] 2 3 [] fun a h4 => ?_
 refine V.seq fun K5 k6 => ?_
 refine V.sg fun K7 k8 => ?_
 refine V.run h4 [] 1 1 0 [(8, .string s)] fun a h13 => ?_
 refine V.go (V.rgs (h13.e (v := (.string s))) (by kernel_rfl) ?_)
 intro w10 b9 heb9 hI11 hF12
 have hsb9 := hI11.lt
 have hF_14 := hF.new hF12
 refine V.pt h13 fun a h15 => ?_
 refine V.nt (k8 _ _ ?_)
 refine V.block ?_
 refine V.loop1 (fun (p : Nat) a_ w_ => En 42 [] a_ [(0, .string s), (9, .pointer (some ⟨b9, 0, none⟩))] ∧ Itr w_ b9 s p ∧ Fr [] w w_ ∧ (p ≤ s.size) ∧ (∀ j, j < p → okc s j)) (fun (p : Nat) => s.size - p) 0 ?_ ?_
 ·
  refine ⟨h15.only _, hI11, hF_14, (by omega), (fun j hj => by omega)⟩
 ·
  rintro p a16 w17 ⟨h18, hI_19, hF_20, hp, hk⟩
  have hfs21 := hF_20.size
  refine V.sg fun K22 k23 => ?_
  refine V.go (V.nxs hI_19 h18.e ?_ ?_)
  ·
   intro hp24 w25 r26 n27 hr28 hI29 hF30
   have hsw25 := hF30.size
   have hF_31 := hF_20.own hF30 (by simp <;> omega)
   obtain ⟨hr1, hr2, hr3, hr4, hr5⟩ := hr28
   refine V.pt h18 fun a h32 => ?_
   refine V.re h32 [] 1 0 [(11, .bool true)] fun a h33 => k23 _ _ ?_
   refine V.seq fun K34 k35 => ?_
   refine V.ct h33 ?_
   refine V.skip ?_
   refine V.then_n (k35 _ _ ?_)
   refine V.block ?_
   refine V.sr h33 [] 12 13 [(4, .int .i64 (p : Int)), (5, .int .i32 r26)] fun a h38 => ?_
   refine V.seq fun K39 k40 => ?_
   refine V.sg fun K41 k42 => ?_
   refine V.run h38 [] 3 14 15 [(16, .bool (decide (r26 ≥ 48)))] fun a h43 => ?_
   by_cases hg44 : r26 ≥ 48
   ·
    have h45 := h43.kt 16 hg44
    refine V.run h45 [] 4 17 19 [(20, .bool (decide (r26 ≤ 57)))] fun a h46 => ?_
    by_cases hg47 : r26 ≤ 57
    ·
     have h48 := h46.kt 20 hg47
     refine V.re h48 [] 21 26 [(27, .bool true)] fun a h49 => k42 _ _ ?_
     refine V.ct h49 ?_
     refine V.exit (V.then_e (V.blk_hit (V.then_n ?_)))
     have hlt8 : bi s (p : Int) < 128 := by omega
     obtain ⟨hrb, hn1⟩ := hr1 hlt8
     subst hn1
     refine ⟨p + 1, by omega, ?_⟩
     refine ⟨h49.only _, hI29, hF_31, (by omega), (ok_next hk (by unfold okc; omega))⟩
    ·
     have h50 := h46.kf 20 hg47
     refine V.run h50 [(1, .eq r26 45)] 3 21 22 [(23, .bool (decide (r26 = 45)))] fun a h51 => ?_
     by_cases hg52 : r26 = 45
     ·
      have h53 := h51.kt 23 hg52
      refine V.re h53 [(1, .eq (p : Int) 0)] 24 26 [(27, .bool (decide ((p : Int) = 0)))] fun a h54 => k42 _ _ ?_
      refine V.cp h54 ((p : Int) = 0) (fun ht55 => ?_) (fun ht55 => ?_)
      ·
       refine V.exit (V.then_e (V.blk_hit (V.then_n ?_)))
       have hlt8 : bi s (p : Int) < 128 := by omega
       obtain ⟨hrb, hn1⟩ := hr1 hlt8
       subst hn1
       refine ⟨p + 1, by omega, ?_⟩
       refine ⟨h54.only _, hI29, hF_31, (by omega), (ok_next hk (by unfold okc; omega))⟩
      ·
       refine V.skip ?_
       refine V.then_n (k40 _ _ ?_)
       refine V.sr h54 [] 1 0 [(2, .int .i64 0), (3, .int .i64 10)] fun a h58 => ?_
       refine V.ret (V.blk_r (V.then_r (V.blk_r (V.then_r ?_))))
       refine V.r2 h58 (.int .i64 0) (.int .i64 10) ?_
       obtain ⟨hq1, hq2⟩ := pr_no (pr_bad (s := s) (p := p) (by assumption) (fun hq => by unfold okc at hq; omega))
       exact ⟨by rw [← hq1, ← hq2], hF_31⟩
     ·
      have h59 := h51.kf 23 hg52
      refine V.re h59 [] 24 26 [(27, .bool false)] fun a h60 => k42 _ _ ?_
      refine V.cf h60 ?_
      refine V.skip ?_
      refine V.then_n (k40 _ _ ?_)
      refine V.sr h60 [] 1 0 [(2, .int .i64 0), (3, .int .i64 10)] fun a h63 => ?_
      refine V.ret (V.blk_r (V.then_r (V.blk_r (V.then_r ?_))))
      refine V.r2 h63 (.int .i64 0) (.int .i64 10) ?_
      obtain ⟨hq1, hq2⟩ := pr_no (pr_bad (s := s) (p := p) (by assumption) (fun hq => by unfold okc at hq; omega))
      exact ⟨by rw [← hq1, ← hq2], hF_31⟩
   ·
    have h64 := h43.kf 16 hg44
    refine V.run h64 [(3, .eq r26 45)] 7 17 22 [(20, .bool false), (23, .bool (decide (r26 = 45)))] fun a h65 => ?_
    by_cases hg66 : r26 = 45
    ·
     have h67 := h65.kt 23 hg66
     refine V.re h67 [(1, .eq (p : Int) 0)] 24 26 [(27, .bool (decide ((p : Int) = 0)))] fun a h68 => k42 _ _ ?_
     refine V.cp h68 ((p : Int) = 0) (fun ht69 => ?_) (fun ht69 => ?_)
     ·
      refine V.exit (V.then_e (V.blk_hit (V.then_n ?_)))
      have hlt8 : bi s (p : Int) < 128 := by omega
      obtain ⟨hrb, hn1⟩ := hr1 hlt8
      subst hn1
      refine ⟨p + 1, by omega, ?_⟩
      refine ⟨h68.only _, hI29, hF_31, (by omega), (ok_next hk (by unfold okc; omega))⟩
     ·
      refine V.skip ?_
      refine V.then_n (k40 _ _ ?_)
      refine V.sr h68 [] 1 0 [(2, .int .i64 0), (3, .int .i64 10)] fun a h72 => ?_
      refine V.ret (V.blk_r (V.then_r (V.blk_r (V.then_r ?_))))
      refine V.r2 h72 (.int .i64 0) (.int .i64 10) ?_
      obtain ⟨hq1, hq2⟩ := pr_no (pr_bad (s := s) (p := p) (by assumption) (fun hq => by unfold okc at hq; omega))
      exact ⟨by rw [← hq1, ← hq2], hF_31⟩
    ·
     have h73 := h65.kf 23 hg66
     refine V.re h73 [] 24 26 [(27, .bool false)] fun a h74 => k42 _ _ ?_
     refine V.cf h74 ?_
     refine V.skip ?_
     refine V.then_n (k40 _ _ ?_)
     refine V.sr h74 [] 1 0 [(2, .int .i64 0), (3, .int .i64 10)] fun a h77 => ?_
     refine V.ret (V.blk_r (V.then_r (V.blk_r (V.then_r ?_))))
     refine V.r2 h77 (.int .i64 0) (.int .i64 10) ?_
     obtain ⟨hq1, hq2⟩ := pr_no (pr_bad (s := s) (p := p) (by assumption) (fun hq => by unfold okc at hq; omega))
     exact ⟨by rw [← hq1, ← hq2], hF_31⟩
  ·
   intro hp78
   refine V.pt h18 fun a h79 => ?_
   refine V.re h79 [] 1 0 [(11, .bool false)] fun a h80 => k23 _ _ ?_
   refine V.seq fun K81 k82 => ?_
   refine V.cf h80 ?_
   refine V.exit (V.then_e (V.then_e (V.blk_hit ?_)))
   refine V.then_n (k6 _ _ ?_)
   refine V.sg fun K83 k84 => ?_
   refine V.run h80 [] 1 1 0 [(29, .string s)] fun a h85 => ?_
   refine V.cl h85 (Go.Proofs.enters_of Tryz.func131 (by kernel_rfl) rfl) (pi_any w17 s hs (hV.fr hF_20)) ?_
   rintro _ w86 ⟨n87, v88, rfl, hF89, hc90⟩
   refine ⟨_, rfl, fun a h91 => ?_⟩
   have hsw86 := hF89.size
   have hF_93 := hF_20.new hF89
   rcases hc90 with ⟨rfl, hn64, hpi⟩ | ⟨u, q, rfl, hpi⟩
   ·
    refine V.re h91 [] 28 32 [(6, .int .i64 n87), (7, .nilIface)] fun a h94 => k84 _ _ ?_
    refine V.seq fun K95 k96 => ?_
    refine V.sg fun K97 k98 => ?_
    refine V.run h94 [] 1 1 0 [(33, .nilIface)] fun a h99 => ?_
    refine V.go (V.neqI0 (h99.e (v := (.nilIface))) (by kernel_rfl) ?_)
    refine V.pt h99 fun a h100 => ?_
    refine V.run h100 [] 2 1 0 [(35, .bool false), (36, .int .i64 n87)] fun a h101 => ?_
    refine V.clg h101 (Go.Proofs.enters_of Tryz.func126 (by kernel_rfl) rfl) (fmt_any w86 n87 hn64 (hV.fr hF_93)) ?_
    rintro _ w103 ⟨rfl, hF102⟩
    refine ⟨_, rfl, fun a h104 => ?_⟩
    have hsw103 := hF102.size
    have hF_106 := hF_93.new hF102
    refine V.re h104 [(1, .sne (itoaS n87) s)] 38 39 [(40, .bool (decide (¬ (itoaS n87) = s)))] fun a h107 => k98 _ _ ?_
    refine V.cp h107 (¬ (itoaS n87) = s) (fun ht108 => ?_) (fun ht108 => ?_)
    ·
     refine V.sr h107 [] 1 0 [(2, .int .i64 0), (3, .int .i64 10)] fun a h111 => ?_
     refine V.ret (V.then_r ?_)
     refine V.r2 h111 (.int .i64 0) (.int .i64 10) ?_
     obtain ⟨hq1, hq2⟩ := pr_no (pr_other hpi (by assumption))
     exact ⟨by rw [← hq1, ← hq2], hF_106⟩
    ·
     refine V.skip ?_
     refine V.then_n (k96 _ _ ?_)
     refine V.sr h107 [] 41 41 [(2, .int .i64 n87), (3, .int .i64 0)] fun a h114 => ?_
     refine V.ret ?_
     refine V.r2 h114 (.int .i64 n87) (.int .i64 0) ?_
     obtain ⟨hq1, hq2⟩ := pr_yes hn64 (by first | assumption | exact Decidable.of_not_not (by assumption))
     exact ⟨by rw [← hq1, ← hq2], hF_106⟩
   ·
    refine V.re h91 [] 28 32 [(6, .int .i64 n87), (7, (.iface u q))] fun a h115 => k84 _ _ ?_
    refine V.seq fun K116 k117 => ?_
    refine V.sg fun K118 k119 => ?_
    refine V.run h115 [] 1 1 0 [(33, (.iface u q))] fun a h120 => ?_
    refine V.go (V.neqI1 (h120.e (v := ((.iface u q)))) (by kernel_rfl) ?_)
    refine V.pt h120 fun a h121 => ?_
    refine V.re h121 [] 35 39 [(40, .bool true)] fun a h122 => k119 _ _ ?_
    refine V.ct h122 ?_
    refine V.sr h122 [] 1 0 [(2, .int .i64 0), (3, .int .i64 10)] fun a h125 => ?_
    refine V.ret (V.then_r ?_)
    refine V.r2 h125 (.int .i64 0) (.int .i64 10) ?_
    obtain ⟨hq1, hq2⟩ := pr_no (pr_err hpi)
    exact ⟨by rw [← hq1, ← hq2], hF_93⟩
end Go.Proofs.YtdebkbfnngkdlaaGreatDoor
end
section
namespace Go.V
open Go.Base Go.RowKit
set_option linter.unusedVariables false
set_option linter.unusedSimpArgs false
theorem b_or_i64 (x m : Nat) (hx : x < 9223372036854775808) (hm : m < 9223372036854775808) : Value.int .i64 (IntKind.i64.wrap ((BitVec.ofInt 64 (x : Int) ||| BitVec.ofInt 64 (m : Int)).toNat : Int)) = .int .i64 ((x ||| m : Nat) : Int) := by
  have hb : (BitVec.ofInt 64 (x : Int) ||| BitVec.ofInt 64 (m : Int)).toNat = x ||| m := by rw [BitVec.toNat_or, ofInt_nat 64 x (by omega), ofInt_nat 64 m (by omega)]
  have hlt : x ||| m < 2 ^ 63 := Nat.or_lt_two_pow (by omega) (by omega)
  rw [hb]
  exact w_i64 (by omega) (by omega)
section
variable {ro : Option Nat} {P : Program} {Q : Exit → Act → World → Prop} {a : Act} {w : World} {ops : Array Oper} {rest : List Oper} {d : Option Tmp} {ty : TypeId} {pos : String} {aft : Array Edge} {g : Option (Nat × Bool)}
theorem mk0 {α : Type} (R : Rp α) {t e : TypeId} {l c : Operand} {kl kc : IntKind} (m : Nat) (z : Value) (bytes : Nat) (hl : a.eval l = .int kl 0) (hc : a.eval c = .int kc (m : Int)) (ht : P.underlying t = some (.slice e))
    (hinfo : (P.info? e).map (fun i => (i.zero, i.size, i.bytes)) = some (some z, 1, bytes)) (hz : z.cells = #[z]) (hR : R.sz = 1) (hb : bytes * m ≤ 281474976710656) (hn : m ≤ maxLen)
    (k : ∀ w1 b, b = w.heap.size → OwR R NoZ w1 b e (.slice (some ⟨b, 0, none⟩) 0 m) [] → Fr [] w w1 → L ro P ops Q rest (a.put d (.slice (some ⟨b, 0, none⟩) 0 m)) w1) : St ro P ops Q rest ⟨d, .makeSlice t l c, ty, pos, aft, g⟩ a w := by
  obtain ⟨i, hi, hzz⟩ := Option.map_eq_some_iff.1 hinfo
  simp only [Prod.mk.injEq] at hzz
  obtain ⟨hz0, hz1, hz2⟩ := hzz
  subst hz2
  have hb' : (i.bytes : Int) * (m : Int) ≤ 281474976710656 := by
    have h : ((i.bytes * m : Nat) : Int) ≤ 281474976710656 := by omega
    rwa [Int.natCast_mul] at h
  have hr := run_make (P := P) (w := w) t e i z ht hi hz0 kl kc 0 (m : Int) (Int.le_refl _) (by omega) hb' (by unfold maxLen at hn; omega)
  simp only [Int.toNat_natCast, hz1, Nat.mul_one, hz, Int.toNat_zero] at hr
  refine St.val (v := .slice (some ⟨w.heap.size, 0, none⟩) 0 m) (w' := w.alloc (.cells (madeCells #[z] m) e)) (by simp only [execOp, hl, hc, hr, Sem.run_bind, Sem.run_pure, Result.andThen_ok]) (k _ _ rfl ⟨[], ⟨by simp, .inr ⟨w.heap.size, m, madeCells #[z] m, rfl, Nat.le_refl _, heap_alloc_new w _, Nat.zero_le _, hn, ?_, by simp⟩⟩, rfl, fun b _ hz => hz⟩ (Fr.alloc [] w _))
  rw [hR, Nat.mul_one]
  have := congrArg List.length (toList_madeCells_one z m)
  simpa using this
theorem shl (v n : Nat) {t t' : TypeId} {x y : Operand} {k' : IntKind} (hx : a.eval x = .int .i64 (v : Int)) (hy : a.eval y = .int k' (n : Int)) (hn : n ≤ 64) (hv : v * 2 ^ n ≤ 9223372036854775807) (kk : L ro P ops Q rest (a.put d (.int .i64 ((v * 2 ^ n : Nat) : Int))) w) : St ro P ops Q rest ⟨d, .binOp .shl t x y t', ty, pos, aft, g⟩ a w := by
  refine St.val (v := .int .i64 ((v * 2 ^ n : Nat) : Int)) (w' := w) ?_ kk
  have h64 : n ≤ IntKind.i64.bits := hn
  have hc : ((v : Int) * 2 ^ n) = ((v * 2 ^ n : Nat) : Int) := by simp
  simp only [execOp, hx, hy, eqGuard, binOp, Op.shift, nonneg_if, Int.toNat_natCast, Nat.min_eq_left h64, hc]
  rw [← w_i64 (x := ((v * 2 ^ n : Nat) : Int)) (by omega) (by omega)]
  rfl
theorem ori (v m : Nat) {t t' : TypeId} {x y : Operand} (hx : a.eval x = .int .i64 (v : Int)) (hy : a.eval y = .int .i64 (m : Int)) (hv : v < 9223372036854775808) (hm : m < 9223372036854775808) (kk : L ro P ops Q rest (a.put d (.int .i64 ((v ||| m : Nat) : Int))) w) : St ro P ops Q rest ⟨d, .binOp .or t x y t', ty, pos, aft, g⟩ a w := by
  refine St.val (v := .int .i64 ((v ||| m : Nat) : Int)) (w' := w) ?_ kk
  rw [← b_or_i64 v m hv hm]
  simp only [execOp, hx, hy, eqGuard, binOp, Op.intBits]
  rfl
end
end Go.V
end
section
namespace Go.Proofs.YtdebkbfnngkdlaaGreatDoor
open Go.V Go.Base
open Go.RowKit (Below)
attribute [local irreducible] Act.put Act.eval
set_option linter.unusedVariables false
set_option linter.unusedSimpArgs false
set_option maxHeartbeats 4000000
set_option maxRecDepth 20000
/-! ### Hex, back -/
theorem info5 : (Tryz.prog.info? 5).map (fun i => (i.zero, i.size, i.bytes)) = some (some (.int .u8 0), 1, 1) := by kernel_rfl
def dv (c : UInt8) : Int := Lib.indexByte [48, 49, 50, 51, 52, 53, 54, 55, 56, 57, 97, 98, 99, 100, 101, 102] c
theorem ix_range (c : UInt8) : ∀ l : List UInt8, -1 ≤ Lib.indexByte l c ∧ Lib.indexByte l c < (l.length : Int)
  | [] => by unfold Lib.indexByte; simp
  | b :: l => by
    have := ix_range c l
    unfold Lib.indexByte
    rw [List.length_cons]
    split
    · omega
    · split
      · omega
      · omega
theorem dv_range (c : UInt8) : -1 ≤ dv c ∧ dv c ≤ 15 := by
  have := ix_range c [48, 49, 50, 51, 52, 53, 54, 55, 56, 57, 97, 98, 99, 100, 101, 102]
  unfold dv; simp only [List.length_cons, List.length_nil] at this; omega
theorem ib_any (w : World) (s : ByteArray) (i : Int) : Calls Tryz.prog 130 #[.string ⟨#[48, 49, 50, 51, 52, 53, 54, 55, 56, 57, 97, 98, 99, 100, 101, 102]⟩, .int .u8 (bi s i)] w fun e w' => e = .returned (.int .i64 (dv (byt s i))) ∧ w = w' :=
  (Tryz.strings_IndexByte _ (bi s i) w).mono fun e w' ⟨h1, h2⟩ => ⟨by
    have hb : (bi s i).toNat.toUInt8 = byt s i := by show UInt8.ofNat ((byt s i).toNat : Int).toNat = _; rw [Int.toNat_natCast]; exact UInt8.ofNat_toNat
    rw [h1, hb]; rfl, h2.symm⟩
def uhG (s : ByteArray) (i : Nat) : Prop := 0 ≤ dv (byt s (i : Int))
def nibI (s : ByteArray) (k : Nat) : Int := dv (byt s ((2 * k : Nat) : Int)) * 16 + dv (byt s (((2 * k : Nat) : Int) + 1))
def uhS (s : ByteArray) : ByteArray := strI ((List.range (s.size / 2)).map (nibI s))
def uhOk (s : ByteArray) : Prop := s = ⟨#[46]⟩ ∨ (¬ s = ⟨#[]⟩ ∧ s.size % 2 = 0 ∧ AllG (uhG s) s.size)
noncomputable def unhexS (s : ByteArray) : ByteArray := @ite _ (s = ⟨#[46]⟩ ∨ ¬ uhOk s) (Classical.propDecidable _) ⟨#[]⟩ (uhS s)
theorem uh_dot {s : ByteArray} (h : s = ⟨#[46]⟩) : (⟨#[]⟩ : ByteArray) = unhexS s ∧ true = bP (uhOk s) := ⟨(@if_pos _ (Classical.propDecidable _) (Or.inl h) _ _ _).symm, bP_yes (.inl h)⟩
theorem uh_no {s : ByteArray} (h : ¬ uhOk s) : (⟨#[]⟩ : ByteArray) = unhexS s ∧ false = bP (uhOk s) := ⟨(@if_pos _ (Classical.propDecidable _) (Or.inr h) _ _ _).symm, bP_no h⟩
theorem uh_yes {s : ByteArray} (h0 : ¬ s = ⟨#[46]⟩) (h : uhOk s) : uhS s = unhexS s ∧ true = bP (uhOk s) := ⟨(@if_neg _ (Classical.propDecidable _) (fun q => q.elim h0 (fun q => q h)) _ _ _).symm, bP_yes h⟩
theorem or16 (x y : Nat) (hy : y < 16) : x * 2 ^ 4 ||| y = x * 16 + y := by
  have := Nat.shiftLeft_add_eq_or_of_lt (i := 4) (b := y) hy x
  rw [Nat.shiftLeft_eq] at this
  omega
theorem nib_next (s : ByteArray) (k : Nat) : (List.range (k + 1)).map (nibI s) = (List.range k).map (nibI s) ++ [nibI s k] := by rw [List.range_succ, List.map_append]; rfl
theorem uhG_two {s : ByteArray} {k : Nat} (h : AllG (uhG s) (2 * k)) (h1 : 0 ≤ dv (byt s ((2 * k : Nat) : Int))) (h2 : 0 ≤ dv (byt s (((2 * k : Nat) : Int) + 1))) : AllG (uhG s) (2 * (k + 1)) := by
  rw [show 2 * (k + 1) = 2 * k + 1 + 1 by omega]
  exact (h.step h1).step (by unfold uhG; rw [show ((2 * k + 1 : Nat) : Int) = ((2 * k : Nat) : Int) + 1 by omega]; exact h2)
theorem uh_bad {s : ByteArray} {k : Nat} (h0 : ¬ s = ⟨#[46]⟩) (hk : 2 * k + 1 < s.size) (h : dv (byt s ((2 * k : Nat) : Int)) < 0 ∨ dv (byt s (((2 * k : Nat) : Int) + 1)) < 0) : ¬ uhOk s := by
  rintro (q | ⟨_, _, q⟩)
  · exact h0 q
  · have h1 := q (2 * k) (by omega)
    have h2 := q (2 * k + 1) hk
    unfold uhG at h1 h2
    rw [show ((2 * k + 1 : Nat) : Int) = ((2 * k : Nat) : Int) + 1 by omega] at h2
    omega
theorem unhex_any (w : World) (s : ByteArray) (hs : s.size ≤ 1099511627776) : Calls Tryz.prog 89 #[.string s] w (fun e w' => e = .returned (.tuple #[.string (unhexS s), .bool (bP (uhOk s))]) ∧ Fr [] w w') := by
 have hF := Fr.refl [] w
 refine V.en 53 Tryz.func89 fun a h1 => ?_
 refine V.sr h1 [] 2 3 [] fun a h4 => ?_
 refine V.seq fun K5 k6 => ?_
 refine V.sr h4 [(1, .seq s ⟨#[46]⟩)] 8 8 [(9, .bool (decide (s = ⟨#[46]⟩)))] fun a h9 => ?_
 refine V.cp h9 (s = ⟨#[46]⟩) (fun ht10 => ?_) (fun ht10 => ?_)
 ·
  refine V.sr h9 [] 1 0 [(2, .string ⟨#[]⟩), (3, .bool true)] fun a h13 => ?_
  refine V.ret (V.then_r ?_)
  refine V.r2 h13 (.string ⟨#[]⟩) (.bool true) ?_
  obtain ⟨hq1, hq2⟩ := uh_dot (by assumption : s = ⟨#[46]⟩)
  exact ⟨by rw [← hq1, ← hq2]; try rfl, hF⟩
 ·
  refine V.skip ?_
  refine V.then_n (k6 _ _ ?_)
  refine V.seq fun K14 k15 => ?_
  refine V.sg fun K16 k17 => ?_
  refine V.run h9 [(1, .seq s ⟨#[]⟩)] 3 10 11 [(12, .bool (decide (s = ⟨#[]⟩)))] fun a h18 => ?_
  by_cases hg19 : s = ⟨#[]⟩
  ·
   have h20 := h18.kt 12 hg19
   refine V.re h20 [] 13 16 [(17, .bool true)] fun a h21 => k17 _ _ ?_
   refine V.ct h21 ?_
   refine V.sr h21 [] 1 0 [(2, .string ⟨#[]⟩), (3, .bool false)] fun a h24 => ?_
   refine V.ret (V.then_r ?_)
   refine V.r2 h24 (.string ⟨#[]⟩) (.bool false) ?_
   obtain ⟨hq1, hq2⟩ := uh_no (s := s) (fun q => by rcases q with q | ⟨q1, q2, q3⟩ <;> first | (exact absurd q (by assumption)) | (exact absurd (by assumption) q1) | omega)
   exact ⟨by rw [← hq1, ← hq2]; try rfl, hF⟩
  ·
   have h25 := h18.kf 12 hg19
   refine V.re h25 [(2, .q (.int .i64 ((s.size : Int) % 2)) (V.rem_in (by omega))), (0, .ne ((s.size : Int) % 2) 0)] 13 16 [(17, .bool (decide (¬ ((s.size : Int) % 2) = 0)))] fun a h26 => k17 _ _ ?_
   refine V.cp h26 (¬ ((s.size : Int) % 2) = 0) (fun ht27 => ?_) (fun ht27 => ?_)
   ·
    refine V.sr h26 [] 1 0 [(2, .string ⟨#[]⟩), (3, .bool false)] fun a h30 => ?_
    refine V.ret (V.then_r ?_)
    refine V.r2 h30 (.string ⟨#[]⟩) (.bool false) ?_
    obtain ⟨hq1, hq2⟩ := uh_no (s := s) (fun q => by rcases q with q | ⟨q1, q2, q3⟩ <;> first | (exact absurd q (by assumption)) | (exact absurd (by assumption) q1) | omega)
    exact ⟨by rw [← hq1, ← hq2]; try rfl, hF⟩
   ·
    refine V.skip ?_
    refine V.then_n (k15 _ _ ?_)
    refine V.sg fun K31 k32 => ?_
    refine V.run h26 [(2, .q (.int .i64 ((s.size : Int) / 2)) (V.quo_i64 (by omega) (by omega) (by omega)))] 3 18 19 [(20, .int .i64 ((s.size : Int) / 2))] fun a h37 => ?_
    refine V.go (V.mk0 (Rp.int .u8) (s.size / 2) (.int .u8 0) 1 evc ((h37.e (v := (.int .i64 ((s.size : Int) / 2)))).trans (V.int_eq (by omega))) (by kernel_rfl) info5 rfl rfl (by omega) (by unfold maxLen; omega) ?_)
    intro w34 b33 heb33 hO35 hF36
    have hsb33 : b33 < w34.heap.size := (hO35.lt b33 rfl).2
    have hF_38 := hF.new hF36
    refine V.pt h37 fun a h39 => ?_
    refine V.re h39 [] 1 0 [(4, .slice (some ⟨b33, 0, none⟩) 0 (s.size / 2))] fun a h40 => k32 _ _ ?_
    refine V.seq fun K41 k42 => ?_
    refine V.sr h40 [] 1 0 [(5, .int .i64 0)] fun a h45 => ?_
    refine V.block ?_
    refine V.loop3 (fun (k : Nat) (A2 : Option Addr) (c2 : Nat) a_ w_ => En 53 [] a_ [(0, .string s), (4, .slice A2 (((List.range k).map (nibI s)).length) c2), (5, .int .i64 ((2 * k : Nat) : Int))] ∧ OwR (Rp.int .u8) NoZ w_ w.heap.size 5 (.slice A2 (((List.range k).map (nibI s)).length) c2) ((List.range k).map (nibI s)) ∧ Fr [] w w_ ∧ (2 * k ≤ s.size) ∧ (AllG (uhG s) (2 * k))) (fun (k : Nat) (A2 : Option Addr) (c2 : Nat) => s.size - 2 * k) 0 (some ⟨b33, 0, none⟩) (s.size / 2) ?_ ?_
    ·
     refine ⟨((h45.eq 4 (v := (.slice (some ⟨b33, 0, none⟩) 0 (s.size / 2))) (u := (.slice (some ⟨b33, 0, none⟩) (((List.range 0).map (nibI s)).length) (s.size / 2))) (rfl)).eq 5 (v := (.int .i64 0)) (u := (.int .i64 ((2 * 0 : Nat) : Int))) (V.int_eq (by omega))).only _, (hO35.rebase (by omega)), hF_38, (by omega), (AllG.zero _)⟩
    ·
     rintro k A2 c2 a46 w47 ⟨h48, hO_49, hF_50, hk, hG⟩
     have hfs51 := hF_50.size
     have hfl : ((List.range k).map (nibI s)).length = k := by rw [List.length_map, List.length_range]
     have hd1 := dv_range (byt s ((2 * k : Nat) : Int))
     have hd2 := dv_range (byt s (((2 * k : Nat) : Int) + 1))
     refine V.seq fun K52 k53 => ?_
     refine V.sr h48 [] 22 24 [(25, .bool (decide (((2 * k : Nat) : Int) < (s.size : Int))))] fun a h56 => ?_
     refine V.cp h56 (((2 * k : Nat) : Int) < (s.size : Int)) (fun ht57 => ?_) (fun ht57 => ?_)
     ·
      refine V.skip ?_
      refine V.then_n (k53 _ _ ?_)
      refine V.seq fun K58 k59 => ?_
      refine V.block ?_
      refine V.seq fun K60 k61 => ?_
      refine V.pl [([0,1,2,4,5,6,7],some (3,[])),([],some (8,[])),([9,10],none)] fun w62 hF63 hsw62 => ?_
      have hO_64 := hO_49.fr0 hF63
      have hF_65 := hF_50.new hF63
      have hb66 := byt_lt s ((2 * k : Nat) : Int)
      have hb67 := byt_lt s (((2 * k : Nat) : Int) + 1)
      refine V.pe h56 [(2, .ixs s .i64 ((2 * k : Nat) : Int)), (2, .i (((2 * k : Nat) : Int) + 1)), (0, .ixs s .i64 (((2 * k : Nat) : Int) + 1))] 28 34 [(30, .int .u8 (bi s ((2 * k : Nat) : Int))), (35, .int .u8 (bi s (((2 * k : Nat) : Int) + 1)))] fun a h68 => ?_
      refine V.cl h68 (Go.Proofs.enters_of Tryz.func130 (by kernel_rfl) rfl) (ib_any w62 s ((2 * k : Nat) : Int)) ?_
      rintro _ _ ⟨rfl, rfl⟩
      refine ⟨_, rfl, fun a h69 => ?_⟩
      refine V.eh trivial ?_
      refine V.pe h69 [] 1 0 [] fun a h70 => ?_
      refine V.cl h70 (Go.Proofs.enters_of Tryz.func130 (by kernel_rfl) rfl) (ib_any w62 s (((2 * k : Nat) : Int) + 1)) ?_
      rintro _ _ ⟨rfl, rfl⟩
      refine ⟨_, rfl, fun a h71 => ?_⟩
      refine V.eh trivial ?_
      refine V.pz h71 [] 1 0 [(6, .int .i64 (dv (byt s ((2 * k : Nat) : Int)))), (7, .int .i64 (dv (byt s (((2 * k : Nat) : Int) + 1))))] fun a h72 => k61 _ _ ?_
      refine V.seq fun K73 k74 => ?_
      refine V.sg fun K75 k76 => ?_
      refine V.run h72 [] 3 37 38 [(39, .bool (decide ((dv (byt s ((2 * k : Nat) : Int))) < 0)))] fun a h77 => ?_
      by_cases hg78 : (dv (byt s ((2 * k : Nat) : Int))) < 0
      ·
       have h79 := h77.kt 39 hg78
       refine V.re h79 [] 40 41 [(42, .bool true)] fun a h80 => k76 _ _ ?_
       refine V.ct h80 ?_
       refine V.sr h80 [] 1 0 [(2, .string ⟨#[]⟩), (3, .bool false)] fun a h83 => ?_
       refine V.ret (V.then_r (V.blk_r (V.then_r (V.then_r (V.blk_r (V.then_r ?_))))))
       refine V.r2 h83 (.string ⟨#[]⟩) (.bool false) ?_
       obtain ⟨hq1, hq2⟩ := uh_no (uh_bad (k := k) (by assumption) (by omega) (by omega))
       exact ⟨by rw [← hq1, ← hq2]; try rfl, hF_65⟩
      ·
       have h84 := h77.kf 39 hg78
       refine V.re h84 [] 40 41 [(42, .bool (decide ((dv (byt s (((2 * k : Nat) : Int) + 1))) < 0)))] fun a h85 => k76 _ _ ?_
       refine V.cp h85 ((dv (byt s (((2 * k : Nat) : Int) + 1))) < 0) (fun ht86 => ?_) (fun ht86 => ?_)
       ·
        refine V.sr h85 [] 1 0 [(2, .string ⟨#[]⟩), (3, .bool false)] fun a h89 => ?_
        refine V.ret (V.then_r (V.blk_r (V.then_r (V.then_r (V.blk_r (V.then_r ?_))))))
        refine V.r2 h89 (.string ⟨#[]⟩) (.bool false) ?_
        obtain ⟨hq1, hq2⟩ := uh_no (uh_bad (k := k) (by assumption) (by omega) (by omega))
        exact ⟨by rw [← hq1, ← hq2]; try rfl, hF_65⟩
       ·
        refine V.skip ?_
        refine V.then_n (k74 _ _ ?_)
        have hor := or16 (dv (byt s ((2 * k : Nat) : Int))).toNat (dv (byt s (((2 * k : Nat) : Int) + 1))).toNat (by omega)
        refine V.rg ?_
        refine V.run h85 [] 2 1 0 [(43, .slice A2 (((List.range k).map (nibI s)).length) c2), (44, .int .i64 (dv (byt s ((2 * k : Nat) : Int))))] fun a h90 => ?_
        refine V.go (V.shl (dv (byt s ((2 * k : Nat) : Int))).toNat 4 ((h90.e (v := (.int .i64 (dv (byt s ((2 * k : Nat) : Int)))))).trans (V.int_eq (by omega))) evc (by decide) (by omega) ?_)
        refine V.pt h90 fun a h91 => ?_
        refine V.run h91 [] 1 1 0 [(46, .int .i64 (dv (byt s (((2 * k : Nat) : Int) + 1))))] fun a h92 => ?_
        refine V.go (V.ori ((dv (byt s ((2 * k : Nat) : Int))).toNat * 2 ^ 4) (dv (byt s (((2 * k : Nat) : Int) + 1))).toNat h92.e ((h92.e (v := (.int .i64 (dv (byt s (((2 * k : Nat) : Int) + 1)))))).trans (V.int_eq (by omega))) (by omega) (by omega) ?_)
        refine V.pt h92 fun a h93 => ?_
        refine V.run h93 [(0, .q (.int .u8 (((dv (byt s ((2 * k : Nat) : Int))).toNat * 2 ^ 4 ||| (dv (byt s (((2 * k : Nat) : Int) + 1))).toNat : Nat) : Int)) (V.w_u8 (by omega) (by omega)))] 1 1 0 [(48, .int .u8 (((dv (byt s ((2 * k : Nat) : Int))).toNat * 2 ^ 4 ||| (dv (byt s (((2 * k : Nat) : Int) + 1))).toNat : Nat) : Int))] fun a h94 => ?_
        refine V.go (V.mk [(48, .int .u8 (((dv (byt s ((2 * k : Nat) : Int))).toNat * 2 ^ 4 ||| (dv (byt s (((2 * k : Nat) : Int) + 1))).toNat : Nat) : Int))] ⟨h94.e, trivial⟩ (by kernel_rfl) [.int .u8 (((dv (byt s ((2 * k : Nat) : Int))).toNat * 2 ^ 4 ||| (dv (byt s (((2 * k : Nat) : Int) + 1))).toNat : Nat) : Int)] 5 (fun b => .slice (some ⟨b, 0, none⟩) 1 1) (by kernel_rfl) ?_)
        intro w96 b95 heb95 hB97 hF98 hsb95
        have hO_99 := hO_64.fr0 hF98
        have hF_100 := hF_65.new hF98
        refine V.pt h94 fun a h101 => ?_
        refine V.go (V.app (R := (Rp.int .u8)) (ys := ([(((dv (byt s ((2 * k : Nat) : Int))).toNat * 2 ^ 4 ||| (dv (byt s (((2 * k : Nat) : Int) + 1))).toNat : Nat) : Int)])) (news := [.int .u8 (((dv (byt s ((2 * k : Nat) : Int))).toNat * 2 ^ 4 ||| (dv (byt s (((2 * k : Nat) : Int) + 1))).toNat : Nat) : Int)]) (h101.e (v := (.slice A2 (((List.range k).map (nibI s)).length) c2))) ⟨b95, 0, none⟩ 1 1 (h101.e (v := (.slice (some ⟨b95, 0, none⟩) 1 1))) (by kernel_rfl) (info5) (by kernel_rfl) (by decide) hO_99 rfl ⟨[.int .u8 (((dv (byt s ((2 * k : Nat) : Int))).toNat * 2 ^ 4 ||| (dv (byt s (((2 * k : Nat) : Int) + 1))).toNat : Nat) : Int)], [], rfl, rfl, rfl⟩ (blk_cells hB97 0 _ rfl) (by first | omega | (simp; omega)) (by decide) (by omega) ?_)
        intro A102 c103 w104 hO105z hF106 hatw104
        have hsw104 := hF106.size
        have hF_107 := hF_100.own hF106 (own_ge hO_99 (by omega))
        have hO105 := hO105z.zone (Z' := NoZ) (fun _ _ q => q.1) (fun _ _ q => q)
        refine V.pt h101 fun a h108 => ?_
        refine V.re h108 [] 1 0 [(4, .slice A102 ((((List.range k).map (nibI s)).length) + 1) c103)] fun a h109 => ?_
        refine V.blk_n ?_
        refine V.then_n (k59 _ _ ?_)
        refine V.rr h109 [(1, .i (((2 * k : Nat) : Int) + 2))] 26 27 [(5, .int .i64 (((2 * k : Nat) : Int) + 2))] fun a h110 => ?_
        refine V.then_n ?_
        have hqs := nib_next s k
        rw [show nibI s k = (((dv (byt s ((2 * k : Nat) : Int))).toNat * 2 ^ 4 ||| (dv (byt s (((2 * k : Nat) : Int) + 1))).toNat : Nat) : Int) from (by unfold nibI; omega)] at hqs
        refine ⟨k + 1, A102, c103, by omega, ?_⟩
        refine ⟨((h110.eq 4 (v := (.slice A102 ((((List.range k).map (nibI s)).length) + 1) c103)) (u := (.slice A102 (((List.range (k + 1)).map (nibI s)).length) c103)) (V.sl_eq (by rw [hqs]; simp))).eq 5 (v := (.int .i64 (((2 * k : Nat) : Int) + 2))) (u := (.int .i64 ((2 * (k + 1) : Nat) : Int))) (V.int_eq (by omega))).only _, (by rw [hqs, List.length_append]; exact hO105), hF_107, (by omega), (uhG_two hG (by omega) (by omega))⟩
     ·
      refine V.exit (V.then_e (V.then_e (V.blk_hit ?_)))
      refine V.then_n (k42 _ _ ?_)
      refine V.sg fun K111 k112 => ?_
      refine V.run h56 [] 1 1 0 [(51, .slice A2 (((List.range k).map (nibI s)).length) c2)] fun a h113 => ?_
      refine V.go (V.b2s (e := 5) (xs := ((List.range k).map (nibI s))) (hO_49.read (Z' := fun _ => True) (fun _ _ _ => trivial) (fun _ _ _ => trivial)) (by kernel_rfl) (by kernel_rfl) (by kernel_rfl) (h113.e (v := (.slice A2 (((List.range k).map (nibI s)).length) c2))) ?_)
      refine V.pt h113 fun a h114 => ?_
      refine V.re h114 [] 1 0 [(2, .string (strI ((List.range k).map (nibI s)))), (3, .bool true)] fun a h115 => k112 _ _ ?_
      refine V.ret ?_
      refine V.r2 h115 (.string (strI ((List.range k).map (nibI s)))) (.bool true) ?_
      have hke : k = s.size / 2 := by omega
      subst hke
      obtain ⟨hq1, hq2⟩ := uh_yes (s := s) (by assumption) (.inr ⟨by assumption, by omega, hG.le (by omega)⟩)
      exact ⟨by rw [← hq1, ← hq2]; try rfl, hF_50⟩
/-! ### A text cut in two -/
def cuA (s : ByteArray) (c : UInt8) : ByteArray := ⟨(Lib.cut s.data.toList [c]).1.toArray⟩
def cuB (s : ByteArray) (c : UInt8) : ByteArray := ⟨(Lib.cut s.data.toList [c]).2.1.toArray⟩
def cuF (s : ByteArray) (c : UInt8) : Bool := (Lib.cut s.data.toList [c]).2.2
theorem cu_len (s : ByteArray) (c : UInt8) : (cuA s c).size ≤ s.size ∧ (cuB s c).size ≤ s.size := by
  have h0 : s.data.toList.length = s.size := Array.length_toList
  have h1 : (cuA s c).size = (Lib.cut s.data.toList [c]).1.length := List.size_toArray
  have h2 : (cuB s c).size = (Lib.cut s.data.toList [c]).2.1.length := List.size_toArray
  rw [h1, h2]
  unfold Lib.cut
  split
  · exact ⟨by rw [List.length_take]; omega, by rw [List.length_drop]; omega⟩
  · exact ⟨Nat.le_of_eq h0, Nat.zero_le _⟩
theorem fr_drewN (w : World) : ∀ n, Fr [] w (w.drewN n) := fun n => ⟨rfl, rfl, rfl, Nat.le_refl _, fun _ _ _ => rfl⟩
theorem cu_any (w : World) (s : ByteArray) (c : UInt8) (hs : s.size < 4294967281) (hV : Vs w) : Calls Tryz.prog 43 #[.string s, .string ⟨#[c]⟩] w fun e w' => e = .returned (.tuple #[.string (cuA s c), .string (cuB s c), .bool (cuF s c)]) ∧ Fr [] w w' := by
  obtain ⟨m, hm⟩ := hV.mx
  exact (Tryz.strings_Cut s ⟨#[c]⟩ m w hs hm).mono fun e w' ⟨h1, n, h2⟩ => ⟨h1, h2 ▸ fr_drewN w n⟩
theorem prC_0 {s : ByteArray} : prC s = 0 ↔ prOk s := by
  unfold prC
  constructor
  · intro h; split at h
    · assumption
    · cases h
  · intro h; rw [if_pos h]
theorem nb_no {p : Prop} (h : (!(bP p)) = true) : ¬ p := fun hp => by rw [← bP_yes hp] at h; cases h
theorem nb_yes {p : Prop} (h : ¬ (!(bP p)) = true) : p := bP_of (by simpa using h)
theorem nf_no {b : Bool} (h : (!b) = true) : ¬ b = true := fun hb => by rw [hb] at h; cases h
theorem nf_yes {b : Bool} (h : ¬ (!b) = true) : b = true := by simpa using h
theorem part_s (w : World) (b : Nat) (key s : ByteArray) (till : Int) (x : ByteArray) (hB : Blk w b [.string key, .int .i64 1, .string s, .slice none 0 0, .slice none 0 0, .slice none 0 0, .int .i64 till] 55) (hx : x.size ≤ 67108864) (hb8 : 8 ≤ b) (hV : Vs w) : Calls Tryz.prog 91 #[.pointer (some ⟨b, 1, none⟩), .string x] w (fun e w' => e = .returned (.bool (bP (uhOk x))) ∧ (uhOk x → Blk w' b [.string key, .int .i64 1, .string (unhexS x), .slice none 0 0, .slice none 0 0, .slice none 0 0, .int .i64 till] 55) ∧ Below b w w') := by
 have hL := Below.refl b w
 have hltb := hB.lt
 refine V.en 107 Tryz.func91 fun a h1 => ?_
 refine V.sr h1 [] 4 4 [] fun a h4 => ?_
 refine V.sr h4 [] 14 14 [(5, .string x), (6, .string ⟨#[]⟩), (7, .bool false)] fun a h7 => ?_
 refine V.seq fun K8 k9 => ?_
 refine V.sr h7 [(3, .b hB 1)] 15 17 [(18, .int .i64 1)] fun a h12 => ?_
 refine V.block ?_
 refine V.sr h12 [] 20 20 [(19, .bool false)] fun a h15 => ?_
 refine V.cf h15 ?_
 refine V.sr h15 [] 28 28 [(27, .bool false)] fun a h18 => ?_
 refine V.cf h18 ?_
 refine V.rr h18 [] 1 0 [(7, .bool true)] fun a h19 => ?_
 refine V.blk_n ?_
 refine V.then_n (k9 _ _ ?_)
 refine V.sg fun K20 k21 => ?_
 refine V.run h19 [] 1 1 0 [(36, .string x)] fun a h22 => ?_
 refine V.cl h22 (Go.Proofs.enters_of Tryz.func89 (by kernel_rfl) rfl) (unhex_any w x (by omega)) ?_
 rintro _ w24 ⟨rfl, hF23⟩
 refine ⟨_, rfl, fun a h25 => ?_⟩
 have hsw24 := hF23.size
 have hL_26 := bel_fr hL hF23 (by omega) (by simp <;> omega)
 have hB_27 := hB.fr0 hF23
 refine V.re h25 [] 35 39 [(8, .string (unhexS x)), (9, .bool (bP (uhOk x)))] fun a h28 => k21 _ _ ?_
 refine V.seq fun K29 k30 => ?_
 refine V.sg fun K31 k32 => ?_
 refine V.run h28 [] 3 40 41 [(42, .bool (!(bP (uhOk x))))] fun a h33 => ?_
 by_cases hg34 : (!(bP (uhOk x))) = true
 ·
  have h35 := h33.kbt 42 hg34
  refine V.re h35 [] 43 44 [(45, .bool true)] fun a h36 => k32 _ _ ?_
  refine V.ct h36 ?_
  refine V.sr h36 [] 1 0 [(4, .bool false)] fun a h39 => ?_
  refine V.ret (V.then_r ?_)
  refine V.r1 h39 (.bool false) ?_
  exact ⟨congrArg (fun b => Ending.returned (Value.bool b)) (bP_no (nb_no (by assumption))), fun hq => absurd hq (nb_no (by assumption)), hL_26⟩
 ·
  have h40 := h33.kbf 42 hg34
  refine V.re h40 [] 43 44 [(45, .bool false)] fun a h41 => k32 _ _ ?_
  refine V.cf h41 ?_
  refine V.skip ?_
  refine V.then_n (k30 _ _ ?_)
  refine V.seq fun K42 k43 => ?_
  refine V.sr h41 [(3, .b hB_27 1)] 46 48 [(49, .int .i64 1)] fun a h46 => ?_
  refine V.block ?_
  refine V.sr h46 [] 61 61 [(60, .bool true)] fun a h49 => ?_
  refine V.ct h49 ?_
  refine V.rg ?_
  refine V.run h49 [] 4 62 64 [(63, .string (unhexS x)), (65, .pointer (some ⟨b, 2, none⟩))] fun a h53 => ?_
  refine V.go (V.stn b 2 (.string (unhexS x)) [.string (unhexS x)] h53.e h53.e rfl rfl (by kernel_rfl) hB_27 (by simp) [.string key, .int .i64 1, .string (unhexS x), .slice none 0 0, .slice none 0 0, .slice none 0 0, .int .i64 till] rfl ?_)
  intro w50 hB51 hF52 hsw50
  have hL_54 := bel_fr hL_26 hF52 (by omega) (by simp <;> omega)
  refine V.nil ?_
  refine V.blk_n ?_
  refine V.then_n (k43 _ _ ?_)
  refine V.sr h53 [] 1 0 [(4, .bool true)] fun a h57 => ?_
  refine V.ret ?_
  refine V.r1 h57 (.bool true) ?_
  exact ⟨congrArg (fun b => Ending.returned (Value.bool b)) (bP_yes (nb_yes (by assumption))), fun _ => hB51, hL_54⟩
theorem part_l (w : World) (b : Nat) (key s : ByteArray) (till : Int) (x : ByteArray) (A : Option Addr) (c : Nat) (l : List ByteArray) (k : Int) (hB : Blk w b [.string key, .int .i64 k, .string s, .slice A l.length c, .slice none 0 0, .slice none 0 0, .int .i64 till] 55) (hO : OwR Rp.str NoZ w (b + 1) 9 (.slice A l.length c) l) (hl : l.length ≤ 1099511627776) (hk1 : ¬ k = 1) (hk4 : ¬ k = 4) (hk5 : ¬ k = 5) (hx : x.size ≤ 67108864) (hb8 : 8 ≤ b) (hV : Vs w) : Calls Tryz.prog 91 #[.pointer (some ⟨b, 1, none⟩), .string x] w (fun e w' => ∃ A' c', e = .returned (.bool (bP (uhOk x))) ∧ (uhOk x → Blk w' b [.string key, .int .i64 k, .string s, .slice A' (l.length + 1) c', .slice none 0 0, .slice none 0 0, .int .i64 till] 55 ∧ OwR Rp.str NoZ w' (b + 1) 9 (.slice A' (l.length + 1) c') (l ++ [unhexS x])) ∧ Below b w w') := by
 have hL := Below.refl b w
 have hltb := hB.lt
 refine V.en 107 Tryz.func91 fun a h1 => ?_
 refine V.sr h1 [] 4 4 [] fun a h4 => ?_
 refine V.sr h4 [] 14 14 [(5, .string x), (6, .string ⟨#[]⟩), (7, .bool false)] fun a h7 => ?_
 refine V.seq fun K8 k9 => ?_
 refine V.sr h7 [(3, .b hB 1)] 15 17 [(18, .int .i64 k)] fun a h12 => ?_
 refine V.block ?_
 refine V.sr h12 [(0, .eq k 4)] 20 20 [(19, .bool (decide (k = 4)))] fun a h15 => ?_
 refine V.cp h15 (k = 4) (fun ht16 => ?_) (fun ht16 => ?_)
 · exact absurd ht16 (by omega)
 ·
  refine V.sr h15 [(0, .eq k 5)] 28 28 [(27, .bool (decide (k = 5)))] fun a h19 => ?_
  refine V.cp h19 (k = 5) (fun ht20 => ?_) (fun ht20 => ?_)
  · exact absurd ht20 (by omega)
  ·
   refine V.rr h19 [] 1 0 [(7, .bool true)] fun a h21 => ?_
   refine V.blk_n ?_
   refine V.then_n (k9 _ _ ?_)
   refine V.sg fun K22 k23 => ?_
   refine V.run h21 [] 1 1 0 [(36, .string x)] fun a h24 => ?_
   refine V.cl h24 (Go.Proofs.enters_of Tryz.func89 (by kernel_rfl) rfl) (unhex_any w x (by omega)) ?_
   rintro _ w26 ⟨rfl, hF25⟩
   refine ⟨_, rfl, fun a h27 => ?_⟩
   have hsw26 := hF25.size
   have hL_28 := bel_fr hL hF25 (by omega) (by simp <;> omega)
   have hB_29 := hB.fr0 hF25
   have hO_30 := hO.fr0 hF25
   refine V.re h27 [] 35 39 [(8, .string (unhexS x)), (9, .bool (bP (uhOk x)))] fun a h31 => k23 _ _ ?_
   refine V.seq fun K32 k33 => ?_
   refine V.sg fun K34 k35 => ?_
   refine V.run h31 [] 3 40 41 [(42, .bool (!(bP (uhOk x))))] fun a h36 => ?_
   by_cases hg37 : (!(bP (uhOk x))) = true
   ·
    have h38 := h36.kbt 42 hg37
    refine V.re h38 [] 43 44 [(45, .bool true)] fun a h39 => k35 _ _ ?_
    refine V.ct h39 ?_
    refine V.sr h39 [] 1 0 [(4, .bool false)] fun a h42 => ?_
    refine V.ret (V.then_r ?_)
    refine V.r1 h42 (.bool false) ?_
    exact ⟨none, 0, congrArg (fun b => Ending.returned (Value.bool b)) (bP_no (nb_no (by assumption))), fun hq => absurd hq (nb_no (by assumption)), hL_28⟩
   ·
    have h43 := h36.kbf 42 hg37
    refine V.re h43 [] 43 44 [(45, .bool false)] fun a h44 => k35 _ _ ?_
    refine V.cf h44 ?_
    refine V.skip ?_
    refine V.then_n (k33 _ _ ?_)
    refine V.seq fun K45 k46 => ?_
    refine V.sr h44 [(3, .b hB_29 1)] 46 48 [(49, .int .i64 k)] fun a h49 => ?_
    refine V.block ?_
    refine V.sr h49 [(0, .eq k 1)] 61 61 [(60, .bool (decide (k = 1)))] fun a h52 => ?_
    refine V.cp h52 (k = 1) (fun ht53 => ?_) (fun ht53 => ?_)
    · exact absurd ht53 (by omega)
    ·
     refine V.sg fun K54 k55 => ?_
     refine V.run h52 [(0, .eq k 4)] 1 1 0 [(67, .bool (decide (k = 4)))] fun a h56 => ?_
     have h57 := h56.kf 67 ht16
     refine V.re h57 [] 1 0 [(66, .bool false)] fun a h58 => k55 _ _ ?_
     refine V.cf h58 ?_
     refine V.sg fun K59 k60 => ?_
     refine V.run h58 [(0, .eq k 5)] 1 1 0 [(88, .bool (decide (k = 5)))] fun a h61 => ?_
     have h62 := h61.kf 88 ht20
     refine V.re h62 [] 1 0 [(87, .bool false)] fun a h63 => k60 _ _ ?_
     refine V.cf h63 ?_
     refine V.rg ?_
     refine V.run h63 [(4, .b hB_29 3)] 6 51 53 [(50, .pointer (some ⟨b, 1, none⟩)), (54, .slice A l.length c), (55, .string (unhexS x))] fun a h64 => ?_
     refine V.go (V.mk [(55, .string (unhexS x))] ⟨h64.e, trivial⟩ (by kernel_rfl) [.string (unhexS x)] 9 (fun b => .slice (some ⟨b, 0, none⟩) 1 1) (by kernel_rfl) ?_)
     intro w66 b65 heb65 hB67 hF68 hsb65
     have hL_69 := bel_fr hL_28 hF68 (by omega) (by simp <;> omega)
     have hB_70 := hB_29.fr0 hF68
     have hO_71 := hO_30.fr0 hF68
     refine V.pt h64 fun a h72 => ?_
     refine V.go (V.app (R := Rp.str) (ys := ([unhexS x])) (news := [.string (unhexS x)]) (h72.e (v := (.slice A l.length c))) ⟨b65, 0, none⟩ 1 1 (h72.e (v := (.slice (some ⟨b65, 0, none⟩) 1 1))) (by kernel_rfl) (info9) (by kernel_rfl) (by decide) hO_71 rfl ⟨_, [], rfl, rfl, rfl⟩ (blk_cells hB67 0 _ rfl) (by first | omega | (simp; omega)) (by decide) (by omega) ?_)
     intro A73 c74 w75 hO76z hF77 hatw75
     have hsw75 := hF77.size
     have hL_78 := bel_fr hL_69 hF77 (by omega) (own_ge hO_71 (by omega))
     have hB_79 := hB_70.fr hF77 (by first | exact own_notin hO_71 (by omega))
     have hO76 := hO76z.zone (Z' := NoZ) (fun _ _ q => q.1) (fun _ _ q => q)
     refine V.pt h72 fun a h80 => ?_
     refine V.run h80 [] 2 58 58 [(59, .pointer (some ⟨b, 3, none⟩))] fun a h84 => ?_
     refine V.go (V.stn b 3 (.slice A73 ((l.length) + 1) c74) [.slice A73 ((l.length) + 1) c74] h84.e h84.e rfl rfl (by kernel_rfl) hB_79 (by simp) [.string key, .int .i64 k, .string s, .slice A73 ((l.length) + 1) c74, .slice none 0 0, .slice none 0 0, .int .i64 till] rfl ?_)
     intro w81 hB82 hF83 hsw81
     have hL_85 := bel_fr hL_78 hF83 (by omega) (by simp <;> omega)
     have hO76_86 := hO76.frn hF83 (fun h => h) (by first | exact own_ne hO76 (by omega) | exact own_ne2 hO76 (by omega))
     refine V.nil ?_
     refine V.blk_n ?_
     refine V.then_n (k46 _ _ ?_)
     have h87 := h84.only []
     refine V.sr h87 [] 1 0 [(4, .bool true)] fun a h90 => ?_
     refine V.ret ?_
     refine V.r1 h90 (.bool true) ?_
     exact ⟨_, _, congrArg (fun b => Ending.returned (Value.bool b)) (bP_yes (nb_yes (by assumption))), fun _ => ⟨hB82, hO76_86⟩, hL_85⟩
theorem part_z (w : World) (b : Nat) (key s : ByteArray) (till : Int) (x : ByteArray) (A : Option Addr) (c : Nat) (l : List (ByteArray × Int)) (hB : Blk w b [.string key, .int .i64 4, .string s, .slice none 0 0, .slice A l.length c, .slice none 0 0, .int .i64 till] 55) (hO : OwR scR NoZ w (b + 1) 98 (.slice A l.length c) l) (hl : l.length ≤ 1099511627776) (hx : x.size ≤ 67108864) (hb8 : 8 ≤ b) (hV : Vs w) : Calls Tryz.prog 91 #[.pointer (some ⟨b, 1, none⟩), .string x] w (fun e w' => ∃ A' c', e = .returned (.bool (bP (cuF x 58 = true ∧ uhOk (cuA x 58) ∧ prOk (cuB x 58)))) ∧ ((cuF x 58 = true ∧ uhOk (cuA x 58) ∧ prOk (cuB x 58)) → Blk w' b [.string key, .int .i64 4, .string s, .slice none 0 0, .slice A' (l.length + 1) c', .slice none 0 0, .int .i64 till] 55 ∧ OwR scR NoZ w' (b + 1) 98 (.slice A' (l.length + 1) c') (l ++ [(unhexS (cuA x 58), prN (cuB x 58))])) ∧ Below b w w') := by
 have hL := Below.refl b w
 have hltb := hB.lt
 refine V.en 107 Tryz.func91 fun a h1 => ?_
 refine V.sr h1 [] 4 4 [] fun a h4 => ?_
 refine V.sr h4 [] 14 14 [(5, .string x), (6, .string ⟨#[]⟩), (7, .bool false)] fun a h7 => ?_
 refine V.seq fun K8 k9 => ?_
 refine V.sr h7 [(3, .b hB 1)] 15 17 [(18, .int .i64 4)] fun a h12 => ?_
 refine V.block ?_
 refine V.sr h12 [] 20 20 [(19, .bool true)] fun a h15 => ?_
 refine V.ct h15 ?_
 refine V.rg ?_
 refine V.run h15 [] 1 1 0 [(22, .string x)] fun a h16 => ?_
 have hcl18 := cu_len x 58
 refine V.cl h16 (Go.Proofs.enters_of Tryz.func43 (by kernel_rfl) rfl) (cu_any w x 58 (by omega) (hV.bel hL hb8)) ?_
 rintro _ w19 ⟨rfl, hF17⟩
 refine ⟨_, rfl, fun a h20 => ?_⟩
 have hsw19 := hF17.size
 have hL_21 := bel_fr hL hF17 (by omega) (by simp <;> omega)
 have hB_22 := hB.fr0 hF17
 have hO_23 := hO.fr0 hF17
 refine V.re h20 [] 21 26 [(5, .string (cuA x 58)), (6, .string (cuB x 58)), (7, .bool (cuF x 58))] fun a h24 => ?_
 refine V.blk_n ?_
 refine V.then_n (k9 _ _ ?_)
 refine V.sg fun K25 k26 => ?_
 refine V.run h24 [] 1 1 0 [(36, .string (cuA x 58))] fun a h27 => ?_
 refine V.cl h27 (Go.Proofs.enters_of Tryz.func89 (by kernel_rfl) rfl) (unhex_any w19 (cuA x 58) (by omega)) ?_
 rintro _ w29 ⟨rfl, hF28⟩
 refine ⟨_, rfl, fun a h30 => ?_⟩
 have hsw29 := hF28.size
 have hL_31 := bel_fr hL_21 hF28 (by omega) (by simp <;> omega)
 have hB_32 := hB_22.fr0 hF28
 have hO_33 := hO_23.fr0 hF28
 refine V.re h30 [] 35 39 [(8, .string (unhexS (cuA x 58))), (9, .bool (bP (uhOk (cuA x 58))))] fun a h34 => k26 _ _ ?_
 refine V.seq fun K35 k36 => ?_
 refine V.sg fun K37 k38 => ?_
 refine V.run h34 [] 3 40 41 [(42, .bool (!(bP (uhOk (cuA x 58)))))] fun a h39 => ?_
 by_cases hg40 : (!(bP (uhOk (cuA x 58)))) = true
 ·
  have h41 := h39.kbt 42 hg40
  refine V.re h41 [] 43 44 [(45, .bool true)] fun a h42 => k38 _ _ ?_
  refine V.ct h42 ?_
  refine V.sr h42 [] 1 0 [(4, .bool false)] fun a h45 => ?_
  refine V.ret (V.then_r ?_)
  refine V.r1 h45 (.bool false) ?_
  exact ⟨none, 0, congrArg (fun b => Ending.returned (Value.bool b)) (bP_no (fun ⟨q1, q2, q3⟩ => by first | exact nb_no (by assumption) q2 | exact nf_no (by assumption) q1)), fun hq => absurd hq (fun ⟨q1, q2, q3⟩ => by first | exact nb_no (by assumption) q2 | exact nf_no (by assumption) q1), hL_31⟩
 ·
  have h46 := h39.kbf 42 hg40
  refine V.re h46 [] 43 44 [(45, .bool (!(cuF x 58)))] fun a h47 => k38 _ _ ?_
  refine V.cb h47 (!(cuF x 58)) (fun ht48 => ?_) (fun ht48 => ?_)
  ·
   refine V.sr h47 [] 1 0 [(4, .bool false)] fun a h51 => ?_
   refine V.ret (V.then_r ?_)
   refine V.r1 h51 (.bool false) ?_
   exact ⟨none, 0, congrArg (fun b => Ending.returned (Value.bool b)) (bP_no (fun ⟨q1, q2, q3⟩ => by first | exact nb_no (by assumption) q2 | exact nf_no (by assumption) q1)), fun hq => absurd hq (fun ⟨q1, q2, q3⟩ => by first | exact nb_no (by assumption) q2 | exact nf_no (by assumption) q1), hL_31⟩
  ·
   refine V.skip ?_
   refine V.then_n (k36 _ _ ?_)
   refine V.seq fun K52 k53 => ?_
   refine V.sr h47 [(3, .b hB_32 1)] 46 48 [(49, .int .i64 4)] fun a h56 => ?_
   refine V.block ?_
   refine V.sr h56 [] 61 61 [(60, .bool false)] fun a h59 => ?_
   refine V.cf h59 ?_
   refine V.sr h59 [] 67 67 [(66, .bool true)] fun a h62 => ?_
   refine V.ct h62 ?_
   refine V.sg fun K63 k64 => ?_
   refine V.run h62 [] 1 1 0 [(69, .string (cuB x 58))] fun a h65 => ?_
   refine V.cl h65 (Go.Proofs.enters_of Tryz.func90 (by kernel_rfl) rfl) (parse_any w29 (cuB x 58) (by omega) (hV.bel hL_31 hb8)) ?_
   rintro _ w67 ⟨rfl, hF66⟩
   refine ⟨_, rfl, fun a h68 => ?_⟩
   have hsw67 := hF66.size
   have hL_69 := bel_fr hL_31 hF66 (by omega) (by simp <;> omega)
   have hB_70 := hB_32.fr0 hF66
   have hO_71 := hO_33.fr0 hF66
   refine V.re h68 [] 68 72 [(10, .int .i64 (prN (cuB x 58))), (11, .int .i64 (prC (cuB x 58)))] fun a h72 => k64 _ _ ?_
   have h73 := h72.only [(0, .pointer (some ⟨b, 1, none⟩)), (8, .string (unhexS (cuA x 58))), (10, .int .i64 (prN (cuB x 58))), (11, .int .i64 (prC (cuB x 58)))]
   refine V.sg fun K74 k75 => ?_
   refine V.run h73 [(4, .b hB_70 4)] 8 74 79 [(73, .pointer (some ⟨b, 1, none⟩)), (77, .slice A l.length c), (80, .agg #[.string (unhexS (cuA x 58)), .int .i64 (prN (cuB x 58))])] fun a h76 => ?_
   refine V.go (V.mk [(80, .agg #[.string (unhexS (cuA x 58)), .int .i64 (prN (cuB x 58))])] ⟨h76.e, trivial⟩ (by kernel_rfl) [.string (unhexS (cuA x 58)), .int .i64 (prN (cuB x 58))] 98 (fun b => .slice (some ⟨b, 0, none⟩) 1 1) (by kernel_rfl) ?_)
   intro w78 b77 heb77 hB79 hF80 hsb77
   have hL_81 := bel_fr hL_69 hF80 (by omega) (by simp <;> omega)
   have hB_82 := hB_70.fr0 hF80
   have hO_83 := hO_71.fr0 hF80
   refine V.pt h76 fun a h84 => ?_
   refine V.go (V.app (R := scR) (ys := ([(unhexS (cuA x 58), prN (cuB x 58))])) (news := [.string (unhexS (cuA x 58)), .int .i64 (prN (cuB x 58))]) (h84.e (v := (.slice A l.length c))) ⟨b77, 0, none⟩ 1 1 (h84.e (v := (.slice (some ⟨b77, 0, none⟩) 1 1))) (by kernel_rfl) (info98) (by kernel_rfl) (by decide) hO_83 rfl ⟨[.string (unhexS (cuA x 58)), .int .i64 (prN (cuB x 58))], [], rfl, rfl, rfl⟩ (blk_cells hB79 0 _ rfl) (by first | omega | (simp; omega)) (by decide) (by omega) ?_)
   intro A85 c86 w87 hO88z hF89 hatw87
   have hsw87 := hF89.size
   have hL_90 := bel_fr hL_81 hF89 (by omega) (own_ge hO_83 (by omega))
   have hB_91 := hB_82.fr hF89 (by first | exact own_notin hO_83 (by omega))
   have hO88 := hO88z.zone (Z' := NoZ) (fun _ _ q => q.1) (fun _ _ q => q)
   refine V.pt h84 fun a h92 => ?_
   refine V.run h92 [] 2 83 83 [(84, .pointer (some ⟨b, 4, none⟩))] fun a h96 => ?_
   refine V.go (V.stn b 4 (.slice A85 ((l.length) + 1) c86) [.slice A85 ((l.length) + 1) c86] h96.e h96.e rfl rfl (by kernel_rfl) hB_91 (by simp) [.string key, .int .i64 4, .string s, .slice none 0 0, .slice A85 ((l.length) + 1) c86, .slice none 0 0, .int .i64 till] rfl ?_)
   intro w93 hB94 hF95 hsw93
   have hL_97 := bel_fr hL_90 hF95 (by omega) (by simp <;> omega)
   have hO88_98 := hO88.frn hF95 (fun h => h) (by first | exact own_ne hO88 (by omega) | exact own_ne2 hO88 (by omega))
   refine V.nt (k75 _ _ ?_)
   refine V.sr h96 [(1, .eq (prC (cuB x 58)) 0)] 85 86 [(4, .bool (decide ((prC (cuB x 58)) = 0)))] fun a h101 => ?_
   refine V.ret (V.blk_r (V.then_r ?_))
   refine V.r1 h101 (.bool (decide ((prC (cuB x 58)) = 0))) ?_
   exact ⟨_, _, congrArg (fun b => Ending.returned (Value.bool b)) ((bP_dec (p := prC (cuB x 58) = 0)).trans (congrArg bP (propext ⟨fun q => ⟨nf_yes (by assumption), nb_yes (by assumption), prC_0.1 q⟩, fun q => prC_0.2 q.2.2⟩))), fun _ => ⟨hB94, hO88_98⟩, hL_97⟩
theorem part_h (w : World) (b : Nat) (key s : ByteArray) (till : Int) (x : ByteArray) (A : Option Addr) (c : Nat) (l : List (ByteArray × ByteArray)) (hB : Blk w b [.string key, .int .i64 5, .string s, .slice none 0 0, .slice none 0 0, .slice A l.length c, .int .i64 till] 55) (hO : OwR fdR NoZ w (b + 1) 101 (.slice A l.length c) l) (hl : l.length ≤ 1099511627776) (hx : x.size ≤ 67108864) (hb8 : 8 ≤ b) (hV : Vs w) : Calls Tryz.prog 91 #[.pointer (some ⟨b, 1, none⟩), .string x] w (fun e w' => ∃ A' c', e = .returned (.bool (bP (cuF x 61 = true ∧ uhOk (cuA x 61) ∧ uhOk (cuB x 61)))) ∧ ((cuF x 61 = true ∧ uhOk (cuA x 61) ∧ uhOk (cuB x 61)) → Blk w' b [.string key, .int .i64 5, .string s, .slice none 0 0, .slice none 0 0, .slice A' (l.length + 1) c', .int .i64 till] 55 ∧ OwR fdR NoZ w' (b + 1) 101 (.slice A' (l.length + 1) c') (l ++ [(unhexS (cuA x 61), unhexS (cuB x 61))])) ∧ Below b w w') := by
 have hL := Below.refl b w
 have hltb := hB.lt
 refine V.en 107 Tryz.func91 fun a h1 => ?_
 refine V.sr h1 [] 4 4 [] fun a h4 => ?_
 refine V.sr h4 [] 14 14 [(5, .string x), (6, .string ⟨#[]⟩), (7, .bool false)] fun a h7 => ?_
 refine V.seq fun K8 k9 => ?_
 refine V.sr h7 [(3, .b hB 1)] 15 17 [(18, .int .i64 5)] fun a h12 => ?_
 refine V.block ?_
 refine V.sr h12 [] 20 20 [(19, .bool false)] fun a h15 => ?_
 refine V.cf h15 ?_
 refine V.sr h15 [] 28 28 [(27, .bool true)] fun a h18 => ?_
 refine V.ct h18 ?_
 refine V.rg ?_
 refine V.run h18 [] 1 1 0 [(30, .string x)] fun a h19 => ?_
 have hcl21 := cu_len x 61
 refine V.cl h19 (Go.Proofs.enters_of Tryz.func43 (by kernel_rfl) rfl) (cu_any w x 61 (by omega) (hV.bel hL hb8)) ?_
 rintro _ w22 ⟨rfl, hF20⟩
 refine ⟨_, rfl, fun a h23 => ?_⟩
 have hsw22 := hF20.size
 have hL_24 := bel_fr hL hF20 (by omega) (by simp <;> omega)
 have hB_25 := hB.fr0 hF20
 have hO_26 := hO.fr0 hF20
 refine V.re h23 [] 29 34 [(5, .string (cuA x 61)), (6, .string (cuB x 61)), (7, .bool (cuF x 61))] fun a h27 => ?_
 refine V.blk_n ?_
 refine V.then_n (k9 _ _ ?_)
 refine V.sg fun K28 k29 => ?_
 refine V.run h27 [] 1 1 0 [(36, .string (cuA x 61))] fun a h30 => ?_
 refine V.cl h30 (Go.Proofs.enters_of Tryz.func89 (by kernel_rfl) rfl) (unhex_any w22 (cuA x 61) (by omega)) ?_
 rintro _ w32 ⟨rfl, hF31⟩
 refine ⟨_, rfl, fun a h33 => ?_⟩
 have hsw32 := hF31.size
 have hL_34 := bel_fr hL_24 hF31 (by omega) (by simp <;> omega)
 have hB_35 := hB_25.fr0 hF31
 have hO_36 := hO_26.fr0 hF31
 refine V.re h33 [] 35 39 [(8, .string (unhexS (cuA x 61))), (9, .bool (bP (uhOk (cuA x 61))))] fun a h37 => k29 _ _ ?_
 refine V.seq fun K38 k39 => ?_
 refine V.sg fun K40 k41 => ?_
 refine V.run h37 [] 3 40 41 [(42, .bool (!(bP (uhOk (cuA x 61)))))] fun a h42 => ?_
 by_cases hg43 : (!(bP (uhOk (cuA x 61)))) = true
 ·
  have h44 := h42.kbt 42 hg43
  refine V.re h44 [] 43 44 [(45, .bool true)] fun a h45 => k41 _ _ ?_
  refine V.ct h45 ?_
  refine V.sr h45 [] 1 0 [(4, .bool false)] fun a h48 => ?_
  refine V.ret (V.then_r ?_)
  refine V.r1 h48 (.bool false) ?_
  exact ⟨none, 0, congrArg (fun b => Ending.returned (Value.bool b)) (bP_no (fun ⟨q1, q2, q3⟩ => by first | exact nb_no (by assumption) q2 | exact nf_no (by assumption) q1)), fun hq => absurd hq (fun ⟨q1, q2, q3⟩ => by first | exact nb_no (by assumption) q2 | exact nf_no (by assumption) q1), hL_34⟩
 ·
  have h49 := h42.kbf 42 hg43
  refine V.re h49 [] 43 44 [(45, .bool (!(cuF x 61)))] fun a h50 => k41 _ _ ?_
  refine V.cb h50 (!(cuF x 61)) (fun ht51 => ?_) (fun ht51 => ?_)
  ·
   refine V.sr h50 [] 1 0 [(4, .bool false)] fun a h54 => ?_
   refine V.ret (V.then_r ?_)
   refine V.r1 h54 (.bool false) ?_
   exact ⟨none, 0, congrArg (fun b => Ending.returned (Value.bool b)) (bP_no (fun ⟨q1, q2, q3⟩ => by first | exact nb_no (by assumption) q2 | exact nf_no (by assumption) q1)), fun hq => absurd hq (fun ⟨q1, q2, q3⟩ => by first | exact nb_no (by assumption) q2 | exact nf_no (by assumption) q1), hL_34⟩
  ·
   refine V.skip ?_
   refine V.then_n (k39 _ _ ?_)
   refine V.seq fun K55 k56 => ?_
   refine V.sr h50 [(3, .b hB_35 1)] 46 48 [(49, .int .i64 5)] fun a h59 => ?_
   refine V.block ?_
   refine V.sr h59 [] 61 61 [(60, .bool false)] fun a h62 => ?_
   refine V.cf h62 ?_
   refine V.sr h62 [] 67 67 [(66, .bool false)] fun a h65 => ?_
   refine V.cf h65 ?_
   refine V.sr h65 [] 88 88 [(87, .bool true)] fun a h68 => ?_
   refine V.ct h68 ?_
   refine V.sg fun K69 k70 => ?_
   refine V.run h68 [] 1 1 0 [(90, .string (cuB x 61))] fun a h71 => ?_
   refine V.cl h71 (Go.Proofs.enters_of Tryz.func89 (by kernel_rfl) rfl) (unhex_any w32 (cuB x 61) (by omega)) ?_
   rintro _ w73 ⟨rfl, hF72⟩
   refine ⟨_, rfl, fun a h74 => ?_⟩
   have hsw73 := hF72.size
   have hL_75 := bel_fr hL_34 hF72 (by omega) (by simp <;> omega)
   have hB_76 := hB_35.fr0 hF72
   have hO_77 := hO_36.fr0 hF72
   refine V.re h74 [] 89 93 [(12, .string (unhexS (cuB x 61))), (13, .bool (bP (uhOk (cuB x 61))))] fun a h78 => k70 _ _ ?_
   have h79 := h78.only [(0, .pointer (some ⟨b, 1, none⟩)), (8, .string (unhexS (cuA x 61))), (12, .string (unhexS (cuB x 61))), (13, .bool (bP (uhOk (cuB x 61))))]
   refine V.sg fun K80 k81 => ?_
   refine V.run h79 [(4, .b hB_76 5)] 8 95 100 [(94, .pointer (some ⟨b, 1, none⟩)), (98, .slice A l.length c), (101, .agg #[.string (unhexS (cuA x 61)), .string (unhexS (cuB x 61))])] fun a h82 => ?_
   refine V.go (V.mk [(101, .agg #[.string (unhexS (cuA x 61)), .string (unhexS (cuB x 61))])] ⟨h82.e, trivial⟩ (by kernel_rfl) [.string (unhexS (cuA x 61)), .string (unhexS (cuB x 61))] 101 (fun b => .slice (some ⟨b, 0, none⟩) 1 1) (by kernel_rfl) ?_)
   intro w84 b83 heb83 hB85 hF86 hsb83
   have hL_87 := bel_fr hL_75 hF86 (by omega) (by simp <;> omega)
   have hB_88 := hB_76.fr0 hF86
   have hO_89 := hO_77.fr0 hF86
   refine V.pt h82 fun a h90 => ?_
   refine V.go (V.app (R := fdR) (ys := ([(unhexS (cuA x 61), unhexS (cuB x 61))])) (news := [.string (unhexS (cuA x 61)), .string (unhexS (cuB x 61))]) (h90.e (v := (.slice A l.length c))) ⟨b83, 0, none⟩ 1 1 (h90.e (v := (.slice (some ⟨b83, 0, none⟩) 1 1))) (by kernel_rfl) (info101) (by kernel_rfl) (by decide) hO_89 rfl ⟨[.string (unhexS (cuA x 61)), .string (unhexS (cuB x 61))], [], rfl, rfl, rfl⟩ (blk_cells hB85 0 _ rfl) (by first | omega | (simp; omega)) (by decide) (by omega) ?_)
   intro A91 c92 w93 hO94z hF95 hatw93
   have hsw93 := hF95.size
   have hL_96 := bel_fr hL_87 hF95 (by omega) (own_ge hO_89 (by omega))
   have hB_97 := hB_88.fr hF95 (by first | exact own_notin hO_89 (by omega))
   have hO94 := hO94z.zone (Z' := NoZ) (fun _ _ q => q.1) (fun _ _ q => q)
   refine V.pt h90 fun a h98 => ?_
   refine V.run h98 [] 2 104 104 [(105, .pointer (some ⟨b, 5, none⟩))] fun a h102 => ?_
   refine V.go (V.stn b 5 (.slice A91 ((l.length) + 1) c92) [.slice A91 ((l.length) + 1) c92] h102.e h102.e rfl rfl (by kernel_rfl) hB_97 (by simp) [.string key, .int .i64 5, .string s, .slice none 0 0, .slice none 0 0, .slice A91 ((l.length) + 1) c92, .int .i64 till] rfl ?_)
   intro w99 hB100 hF101 hsw99
   have hL_103 := bel_fr hL_96 hF101 (by omega) (by simp <;> omega)
   have hO94_104 := hO94.frn hF101 (fun h => h) (by first | exact own_ne hO94 (by omega) | exact own_ne2 hO94 (by omega))
   refine V.nt (k81 _ _ ?_)
   refine V.sr h102 [] 106 106 [(4, .bool (bP (uhOk (cuB x 61))))] fun a h107 => ?_
   refine V.ret (V.blk_r (V.then_r ?_))
   refine V.r1 h107 (.bool (bP (uhOk (cuB x 61)))) ?_
   exact ⟨_, _, congrArg (fun b => Ending.returned (Value.bool b)) (congrArg bP (propext ⟨fun q => ⟨nf_yes (by assumption), nb_yes (by assumption), q⟩, fun q => q.2.2⟩)), fun _ => ⟨hB100, hO94_104⟩, hL_103⟩
/-! ### An entry that is being built -/
def EnB (w : World) (b : Nat) (e : EnD) : Prop :=
  ∃ Al cl Az cz Ah ch, Blk w b [.string e.key, .int .i64 e.k, .string e.s, .slice Al e.l.length cl, .slice Az e.z.length cz, .slice Ah e.h.length ch, .int .i64 e.till] 55 ∧
    OwR Rp.str NoZ w (b + 1) 9 (.slice Al e.l.length cl) e.l ∧ OwR scR NoZ w (b + 1) 98 (.slice Az e.z.length cz) e.z ∧ OwR fdR NoZ w (b + 1) 101 (.slice Ah e.h.length ch) e.h ∧
    (e.k = 1 ∨ e.k = 4 ∨ e.k = 5 → Al = none ∧ cl = 0 ∧ e.l = []) ∧ (¬ e.k = 4 → Az = none ∧ cz = 0 ∧ e.z = []) ∧ (¬ e.k = 5 → Ah = none ∧ ch = 0 ∧ e.h = [])
def ptOk (k : Int) (x : ByteArray) : Prop := if k = 4 then (cuF x 58 = true ∧ uhOk (cuA x 58) ∧ prOk (cuB x 58)) else if k = 5 then (cuF x 61 = true ∧ uhOk (cuA x 61) ∧ uhOk (cuB x 61)) else uhOk x
noncomputable def ptE (e : EnD) (x : ByteArray) : EnD :=
  if e.k = 1 then ⟨e.key, e.k, unhexS x, e.l, e.z, e.h, e.till⟩ else if e.k = 4 then ⟨e.key, e.k, e.s, e.l, e.z ++ [(unhexS (cuA x 58), prN (cuB x 58))], e.h, e.till⟩
  else if e.k = 5 then ⟨e.key, e.k, e.s, e.l, e.z, e.h ++ [(unhexS (cuA x 61), unhexS (cuB x 61))], e.till⟩ else ⟨e.key, e.k, e.s, e.l ++ [unhexS x], e.z, e.h, e.till⟩
theorem len1 {α : Type} (l : List α) (x : α) : (l ++ [x]).length = l.length + 1 := by simp
theorem part_any (w : World) (b : Nat) (e : EnD) (x : ByteArray) (hE : EnB w b e) (hll : e.l.length ≤ 1099511627776) (hzl : e.z.length ≤ 1099511627776) (hhl : e.h.length ≤ 1099511627776) (hx : x.size ≤ 67108864) (hb8 : 8 ≤ b) (hV : Vs w) :
    Calls Tryz.prog 91 #[.pointer (some ⟨b, 1, none⟩), .string x] w fun o w' => o = .returned (.bool (bP (ptOk e.k x))) ∧ (ptOk e.k x → EnB w' b (ptE e x)) ∧ Below b w w' := by
  obtain ⟨key, k, s, l, z, h, till⟩ := e
  obtain ⟨Al, cl, Az, cz, Ah, ch, hB, hO1, hO2, hO3, h1, h2, h3⟩ := hE
  simp only at hB hO1 hO2 hO3 h1 h2 h3 hll hzl hhl
  by_cases k1 : k = 1
  · subst k1
    obtain ⟨rfl, rfl, rfl⟩ := h1 (.inl rfl)
    obtain ⟨rfl, rfl, rfl⟩ := h2 (by decide)
    obtain ⟨rfl, rfl, rfl⟩ := h3 (by decide)
    exact (part_s w b key s till x hB hx hb8 hV).mono fun o w' ⟨q1, q2, q3⟩ => ⟨q1, fun q => ⟨none, 0, none, 0, none, 0, q2 q, OwR.nil .., OwR.nil .., OwR.nil .., fun _ => ⟨rfl, rfl, rfl⟩, fun _ => ⟨rfl, rfl, rfl⟩, fun _ => ⟨rfl, rfl, rfl⟩⟩, q3⟩
  by_cases k4 : k = 4
  · subst k4
    obtain ⟨rfl, rfl, rfl⟩ := h1 (.inr (.inl rfl))
    obtain ⟨rfl, rfl, rfl⟩ := h3 (by decide)
    have e2 : ptE ⟨key, 4, s, [], z, [], till⟩ x = ⟨key, 4, s, [], z ++ [(unhexS (cuA x 58), prN (cuB x 58))], [], till⟩ := by unfold ptE; simp only; rw [if_neg (by decide), if_pos trivial]
    rw [e2]
    refine (part_z w b key s till x Az cz z hB hO2 hzl hx hb8 hV).mono fun o w' ⟨A', c', q1, q2, q3⟩ => ⟨q1, fun q => ?_, q3⟩
    obtain ⟨q4, q5⟩ := q2 q
    exact ⟨none, 0, A', c', none, 0, by rw [show (⟨key, 4, s, [], z ++ [(unhexS (cuA x 58), prN (cuB x 58))], [], till⟩ : EnD).z.length = z.length + 1 from len1 ..]; exact q4, OwR.nil .., by rw [show (⟨key, 4, s, [], z ++ [(unhexS (cuA x 58), prN (cuB x 58))], [], till⟩ : EnD).z.length = z.length + 1 from len1 ..]; exact q5, OwR.nil .., fun _ => ⟨rfl, rfl, rfl⟩, fun q => absurd rfl q, fun _ => ⟨rfl, rfl, rfl⟩⟩
  by_cases k5 : k = 5
  · subst k5
    obtain ⟨rfl, rfl, rfl⟩ := h1 (.inr (.inr rfl))
    obtain ⟨rfl, rfl, rfl⟩ := h2 (by decide)
    have e2 : ptE ⟨key, 5, s, [], [], h, till⟩ x = ⟨key, 5, s, [], [], h ++ [(unhexS (cuA x 61), unhexS (cuB x 61))], till⟩ := by unfold ptE; simp only; rw [if_neg (by decide), if_neg (by decide), if_pos trivial]
    rw [e2]
    refine (part_h w b key s till x Ah ch h hB hO3 hhl hx hb8 hV).mono fun o w' ⟨A', c', q1, q2, q3⟩ => ⟨q1, fun q => ?_, q3⟩
    obtain ⟨q4, q5⟩ := q2 q
    exact ⟨none, 0, none, 0, A', c', by rw [show (⟨key, 5, s, [], [], h ++ [(unhexS (cuA x 61), unhexS (cuB x 61))], till⟩ : EnD).h.length = h.length + 1 from len1 ..]; exact q4, OwR.nil .., OwR.nil .., by rw [show (⟨key, 5, s, [], [], h ++ [(unhexS (cuA x 61), unhexS (cuB x 61))], till⟩ : EnD).h.length = h.length + 1 from len1 ..]; exact q5, fun _ => ⟨rfl, rfl, rfl⟩, fun _ => ⟨rfl, rfl, rfl⟩, fun q => absurd rfl q⟩
  · obtain ⟨rfl, rfl, rfl⟩ := h2 k4
    obtain ⟨rfl, rfl, rfl⟩ := h3 k5
    have e1 : ptOk k x = uhOk x := by unfold ptOk; rw [if_neg k4, if_neg k5]
    have e2 : ptE ⟨key, k, s, l, [], [], till⟩ x = ⟨key, k, s, l ++ [unhexS x], [], [], till⟩ := by unfold ptE; simp only; rw [if_neg k1, if_neg k4, if_neg k5]
    rw [show (⟨key, k, s, l, [], [], till⟩ : EnD).k = k from rfl, e1, e2]
    refine (part_l w b key s till x Al cl l k hB hO1 hll k1 k4 k5 hx hb8 hV).mono fun o w' ⟨A', c', q1, q2, q3⟩ => ⟨q1, fun q => ?_, q3⟩
    obtain ⟨q4, q5⟩ := q2 q
    exact ⟨A', c', none, 0, none, 0, by rw [show (⟨key, k, s, l ++ [unhexS x], [], [], till⟩ : EnD).l.length = l.length + 1 from len1 ..]; exact q4, by rw [show (⟨key, k, s, l ++ [unhexS x], [], [], till⟩ : EnD).l.length = l.length + 1 from len1 ..]; exact q5, OwR.nil .., OwR.nil .., fun q => by rcases q with q | q | q <;> contradiction, fun _ => ⟨rfl, rfl, rfl⟩, fun _ => ⟨rfl, rfl, rfl⟩⟩
theorem EnB.fr {w w1 : World} {b : Nat} {e : EnD} {ls : List Nat} (h : EnB w b e) (f : Fr ls w w1) (hl : ∀ i ∈ ls, i < b) : EnB w1 b e := by
  obtain ⟨Al, cl, Az, cz, Ah, ch, hB, hO1, hO2, hO3, h1, h2, h3⟩ := h
  have hn : ∀ {v : Value} {α : Type} {R : Rp α} {t : TypeId} {xs : List α}, OwR R NoZ w (b + 1) t v xs → ∀ i, v.ownBlock = some i → i ∉ ls := fun hO i hi hm => by have := (hO.lt i hi).1; have := hl i hm; omega
  exact ⟨Al, cl, Az, cz, Ah, ch, hB.fr f (fun hm => by have := hl b hm; omega), hO1.fr f (fun _ _ q => q) (hn hO1), hO2.fr f (fun _ _ q => q) (hn hO2), hO3.fr f (fun _ _ q => q) (hn hO3), h1, h2, h3⟩
theorem EnB.lt {w : World} {b : Nat} {e : EnD} (h : EnB w b e) : b < w.heap.size := by obtain ⟨_, _, _, _, _, _, hB, _⟩ := h; exact hB.lt
/-! ### A line's words; the entry that they make -/
def spl (s : ByteArray) : List ByteArray := Lib.splitB ⟨#[32]⟩ 0 (Lib.countB s ⟨#[32]⟩) s
theorem spl_len (s : ByteArray) : (spl s).length = Lib.countB s ⟨#[32]⟩ + 1 := Lib.splitB_all ⟨#[32]⟩ (by decide) 0 _ s rfl
theorem spl_le (s : ByteArray) : (spl s).length ≤ s.size + 1 := by rw [spl_len]; have := Lib.countB_le ⟨#[32]⟩ (by decide) s.size s (Nat.le_refl _); omega
theorem splitB_size (sep : ByteArray) : ∀ (k : Nat) (s : ByteArray), ∀ x ∈ Lib.splitB sep 0 k s, x.size ≤ s.size
  | 0, s, x, hx => by rw [List.mem_singleton.1 hx]; exact Nat.le_refl _
  | k + 1, s, x, hx => by
    unfold Lib.splitB at hx
    split at hx
    · rw [List.mem_singleton.1 hx]; exact Nat.le_refl _
    · rcases List.mem_cons.1 hx with rfl | hx
      · rw [ByteArray.size_extract]; omega
      · have := splitB_size sep k _ x hx
        rw [ByteArray.size_extract] at this; omega
theorem spl_size {s x : ByteArray} (h : x ∈ spl s) : x.size ≤ s.size := splitB_size _ _ _ x h
theorem sp_any (w : World) (s : ByteArray) (hs : s.size < 4294967281) (hV : Vs w) : Calls Tryz.prog 87 #[.string s, .string ⟨#[32]⟩] w fun e w' => ∃ b, e = .returned (.slice (some ⟨b, 0, none⟩) (spl s).length (spl s).length) ∧ SlR Rp.str (fun k => w.heap.size ≤ k ∧ k < w'.heap.size) w' (.slice (some ⟨b, 0, none⟩) (spl s).length (spl s).length) (spl s) ∧ Fr [] w w' := by
  obtain ⟨m, hm⟩ := hV.mx
  refine (Tryz.strings_Split s ⟨#[32]⟩ m w hs hm (by decide)).mono fun e w' ⟨h1, h2⟩ => ⟨w.heap.size, by rw [h1, spl_len], ?_, h2 ▸ Fr.alloc [] w _⟩
  subst h2
  have hB : Blk (w.alloc (.cells ((spl s).map Value.string).toArray 9)) w.heap.size ((spl s).map Value.string) 9 := heap_alloc_new w _
  have hO := OwR.mkS (base := w.heap.size) (l := spl s) hB (by rw [List.length_map]) (Nat.le_refl _) (by have := spl_le s; unfold maxLen; omega) (Nat.le_refl _) (by rw [List.take_of_length_le (by rw [List.length_map]; exact Nat.le_refl _)])
  exact hO.read (fun _ _ q => q.elim) fun b q h => ⟨q, h⟩
def kinds6 : List ByteArray := [⟨#[]⟩, ⟨#[115, 116, 114, 105, 110, 103]⟩, ⟨#[108, 105, 115, 116]⟩, ⟨#[115, 101, 116]⟩, ⟨#[122, 115, 101, 116]⟩, ⟨#[104, 97, 115, 104]⟩]
def kindI (x : ByteArray) : Int := Lib.idxOfS kinds6 x
theorem ki_any (w : World) (b : Nat) (x : ByteArray) (hB : Blk w b (kinds6.map Value.string) 9) : Calls Tryz.prog 88 #[.slice (some ⟨b, 0, none⟩) 6 6, .string x] w fun e w' => e = .returned (.int .i64 (kindI x)) ∧ w = w' :=
  (Tryz.slices_Index_string b 0 6 6 kinds6 x w (Nat.le_refl _) (by decide) (fun j hj => by
    rw [hB.cell, Nat.zero_add, List.getElem?_map, List.getElem?_eq_getElem hj, List.getD_eq_getElem?_getD, List.getElem?_eq_getElem hj]; rfl)).mono fun e w' ⟨h1, h2⟩ => ⟨h1, h2.symm⟩
theorem unhexS_len (x : ByteArray) : (unhexS x).size ≤ x.size := by
  unfold unhexS
  split
  · exact Nat.zero_le _
  · unfold uhS; rw [strI_size, List.length_map, List.length_range]; omega
theorem prN_i64 (x : ByteArray) : i64 (prN x) := by
  unfold prN
  split
  · rename_i h; exact h.choose_spec.1
  · unfold i64; omega
/-- What may be of an entry of n parts. -/
structure BdE (e : EnD) (n : Nat) : Prop where
  l : e.l.length ≤ n
  z : e.z.length ≤ n
  h : e.h.length ≤ n
  x : ∀ x ∈ e.z, x.1.size ≤ 67108864 ∧ i64 x.2
theorem BdE.step {e : EnD} {n : Nat} {x : ByteArray} (h : BdE e n) (hx : x.size ≤ 67108864) : BdE (ptE e x) (n + 1) := by
  obtain ⟨h1, h2, h3, h4⟩ := h
  unfold ptE
  split
  · exact ⟨by show e.l.length ≤ _; omega, by show e.z.length ≤ _; omega, by show e.h.length ≤ _; omega, h4⟩
  split
  · refine ⟨by show e.l.length ≤ _; omega, by show (e.z ++ [_]).length ≤ _; rw [len1]; omega, by show e.h.length ≤ _; omega, fun y hy => ?_⟩
    rcases List.mem_append.1 (show y ∈ e.z ++ [_] from hy) with hy | hy
    · exact h4 y hy
    · rw [List.mem_singleton.1 hy]; exact ⟨Nat.le_trans (unhexS_len _) (Nat.le_trans (cu_len x 58).1 hx), prN_i64 _⟩
  split
  · exact ⟨by show e.l.length ≤ _; omega, by show e.z.length ≤ _; omega, by show (e.h ++ [_]).length ≤ _; rw [len1]; omega, h4⟩
  · exact ⟨by show (e.l ++ [_]).length ≤ _; rw [len1]; omega, by show e.z.length ≤ _; omega, by show e.h.length ≤ _; omega, h4⟩
theorem ptE_k (e : EnD) (x : ByteArray) : (ptE e x).k = e.k ∧ (ptE e x).key = e.key ∧ (ptE e x).till = e.till := by
  unfold ptE
  split
  · exact ⟨rfl, rfl, rfl⟩
  split
  · exact ⟨rfl, rfl, rfl⟩
  split <;> exact ⟨rfl, rfl, rfl⟩
theorem fold_k : ∀ (xs : List ByteArray) (e : EnD), (xs.foldl ptE e).k = e.k ∧ (xs.foldl ptE e).key = e.key ∧ (xs.foldl ptE e).till = e.till
  | [], e => ⟨rfl, rfl, rfl⟩
  | x :: xs, e => by
    have h1 := fold_k xs (ptE e x)
    have h2 := ptE_k e x
    rw [List.foldl_cons]
    exact ⟨h1.1.trans h2.1, h1.2.1.trans h2.2.1, h1.2.2.trans h2.2.2⟩
theorem fold_bd : ∀ (xs : List ByteArray) (e : EnD) (n : Nat), BdE e n → (∀ x ∈ xs, x.size ≤ 67108864) → BdE (xs.foldl ptE e) (n + xs.length)
  | [], e, n, h, _ => h
  | x :: xs, e, n, h, hx => by
    have := fold_bd xs (ptE e x) (n + 1) (h.step (hx x (List.mem_cons_self ..))) fun y hy => hx y (List.mem_cons_of_mem _ hy)
    rw [List.foldl_cons, List.length_cons]
    rw [show n + (xs.length + 1) = n + 1 + xs.length by omega]; exact this
theorem fold_next {xs : List ByteArray} {i : Nat} (e : EnD) (h : i < xs.length) : (xs.take (i + 1)).foldl ptE e = ptE ((xs.take i).foldl ptE e) (at_ Rp.str xs (i : Int)) := by
  rw [List.take_succ_eq_append_getElem h, List.foldl_append, at_el Rp.str h]; rfl
/-! ### Lines -/
theorem tail_le {c : UInt8} {B : Nat} : ∀ {xs : List (List UInt8)}, (∀ x ∈ xs, x.length ≤ B) → (Lib.joinTail [c] xs).length ≤ xs.length * (B + 1)
  | [], _ => Nat.zero_le _
  | x :: xs, h => by
    have h1 := tail_le (c := c) (xs := xs) fun y hy => h y (List.mem_cons_of_mem _ hy)
    have h2 := h x (List.mem_cons_self ..)
    unfold Lib.joinTail at h1 ⊢
    rw [List.map_cons, List.flatten_cons, List.length_append, List.length_append, List.length_singleton, List.length_cons, Nat.add_mul]
    omega
theorem join_le {c : UInt8} {B : Nat} {xs : List (List UInt8)} (h : ∀ x ∈ xs, x.length ≤ B) : (Lib.join xs [c]).length ≤ xs.length * (B + 1) := by
  cases xs with
  | nil => exact Nat.zero_le _
  | cons x xs =>
    have h1 := tail_le (c := c) (xs := xs) fun y hy => h y (List.mem_cons_of_mem _ hy)
    have h2 := h x (List.mem_cons_self ..)
    rw [Lib.join_cons, List.length_append, List.length_cons, Nat.add_mul]; omega
def joinS (xs : List ByteArray) (c : UInt8) : ByteArray := ⟨(Lib.join (xs.map (·.data.toList)) [c]).toArray⟩
theorem join_le2 {c : UInt8} {B : Nat} {xs : List ByteArray} (h : ∀ x ∈ xs, x.size ≤ B) : (Lib.join (xs.map (·.data.toList)) [c]).length ≤ xs.length * (B + 1) := by
  have h1 := join_le (c := c) (B := B) (xs := xs.map (·.data.toList)) fun y hy => by
    obtain ⟨x, hx, rfl⟩ := List.mem_map.1 hy
    exact Nat.le_trans (Nat.le_of_eq Array.length_toList) (h x hx)
  rwa [List.length_map] at h1
theorem jn_any (w : World) (base c : Nat) (A : Option Addr) (xs : List ByteArray) (hO : OwR Rp.str NoZ w base 9 (.slice A xs.length c) xs) (hN : xs.length ≤ 65540) (hB : ∀ x ∈ xs, x.size ≤ 262200) :
    Calls Tryz.prog 82 #[.slice A xs.length c, .string ⟨#[32]⟩] w fun e w' => e = .returned (.string (joinS xs 32)) ∧ Fr [] w w' := by
  have hl := join_le2 (c := 32) hB
  have hm : xs.length * (262200 + 1) ≤ 65540 * (262200 + 1) := Nat.mul_le_mul_right _ hN
  have hS := hO.is
  rcases Nat.eq_zero_or_pos xs.length with h0 | h0
  · obtain rfl : xs = [] := List.eq_nil_of_length_eq_zero h0
    exact (Tryz.strings_Join_none A c _ w).mono fun e w' ⟨h1, h2⟩ => ⟨h1, h2 ▸ Fr.refl _ _⟩
  · obtain ⟨g, o, rfl, hg, -⟩ := hS.addr h0
    refine (Tryz.strings_Join g o c xs ⟨#[32]⟩ w (fun j x hj => ?_) hg (by omega) hO.cap (by show (Lib.join _ [32]).length ≤ _; omega)).mono fun e w' ⟨h1, h2⟩ => ⟨h1, Fr.of_below h2 _⟩
    obtain ⟨A', c', e, _, _, h3⟩ := hS
    obtain ⟨g', o', cs, hA, _, _, hok, hc⟩ := h3 j x hj
    injection e with e1 _ _
    rw [← e1] at hA
    injection hA with hA
    obtain ⟨rfl, rfl⟩ : g = g' ∧ o = o' := by injection hA with q1 q2 _; exact ⟨q1, q2⟩
    have hcs : cs = [.string x] := hok
    subst hcs
    have := hc 0 _ rfl
    rwa [show Rp.str.sz = 1 from rfl, Nat.mul_one, Nat.add_zero] at this
def atS (t : Int) : ByteArray := if t = -1 then ⟨#[45]⟩ else itoaS t
def lnD (key : ByteArray) (k : Int) (s : ByteArray) (l : List ByteArray) (z : List (ByteArray × Int)) (h : List (ByteArray × ByteArray)) (t : Int) : ByteArray := joinS ([nmD k, hexS key, atS t] ++ ptD k s l z h) 32
theorem nmD_len (k : Int) : (nmD k).size ≤ 6 := by unfold nmD; split <;> (try split) <;> (try split) <;> (try split) <;> decide
theorem pz_len {x : ByteArray × Int} (h : x.1.size ≤ 65536 ∧ i64 x.2) : (pzS x).size ≤ 262200 := by
  have h1 := hexS_len x.1
  have h2 := itoaS_len h.2
  have h3 : (⟨#[58]⟩ : ByteArray).size = 1 := rfl
  unfold pzS; rw [ByteArray.size_append, ByteArray.size_append]; omega
theorem ph_len {x : ByteArray × ByteArray} (h : x.1.size ≤ 65536 ∧ x.2.size ≤ 65536) : (phS x).size ≤ 262200 := by
  have h1 := hexS_len x.1
  have h2 := hexS_len x.2
  have h3 : (⟨#[61]⟩ : ByteArray).size = 1 := rfl
  unfold phS; rw [ByteArray.size_append, ByteArray.size_append]; omega
theorem pt_len {k : Int} {s : ByteArray} {l : List ByteArray} {z : List (ByteArray × Int)} {h : List (ByteArray × ByteArray)} (hs : ShV s l z h) : (ptD k s l z h).length ≤ 65536 ∧ ∀ x ∈ ptD k s l z h, x.size ≤ 262200 := by
  have hx : ∀ y : ByteArray, y.size ≤ 65536 → (hexS y).size ≤ 262200 := fun y hy => by have := hexS_len y; omega
  unfold ptD
  split
  · exact ⟨by simp, fun x hm => by rw [List.mem_singleton.1 hm]; exact hx _ hs.s⟩
  split
  · exact ⟨by rw [List.length_map]; exact hs.zl, fun x hm => by obtain ⟨y, hy, rfl⟩ := List.mem_map.1 hm; exact pz_len (hs.z y hy)⟩
  split
  · exact ⟨by rw [List.length_map]; exact hs.hl, fun x hm => by obtain ⟨y, hy, rfl⟩ := List.mem_map.1 hm; exact ph_len (hs.h y hy)⟩
  · exact ⟨by rw [List.length_map]; exact hs.ll, fun x hm => by obtain ⟨y, hy, rfl⟩ := List.mem_map.1 hm; exact hx _ (hs.l y hy)⟩
theorem ln_parts {key : ByteArray} {k : Int} {s : ByteArray} {l : List ByteArray} {z : List (ByteArray × Int)} {h : List (ByteArray × ByteArray)} {a : ByteArray} (hk : key.size ≤ 65536) (ha : a.size ≤ 21) (hs : ShV s l z h) :
    ([nmD k, hexS key, a] ++ ptD k s l z h).length ≤ 65540 ∧ ∀ x ∈ [nmD k, hexS key, a] ++ ptD k s l z h, x.size ≤ 262200 := by
  obtain ⟨h1, h2⟩ := pt_len (k := k) hs
  have h3 := nmD_len k
  have h4 := hexS_len key
  refine ⟨by rw [List.length_append]; simp only [List.length_cons, List.length_nil]; omega, fun x hm => ?_⟩
  rcases List.mem_append.1 hm with hm | hm
  · simp only [List.mem_cons, List.not_mem_nil, or_false] at hm
    rcases hm with rfl | rfl | rfl <;> omega
  · exact h2 x hm
theorem lnD_len {key : ByteArray} {k : Int} {s : ByteArray} {l : List ByteArray} {z : List (ByteArray × Int)} {h : List (ByteArray × ByteArray)} {t : Int} (hk : key.size ≤ 65536) (ht : i64 t) (hs : ShV s l z h) : (lnD key k s l z h t).size ≤ 17184718080 := by
  have ha : (atS t).size ≤ 21 := by unfold atS; split; exact Nat.le_add_left ..; exact itoaS_len ht
  obtain ⟨h1, h2⟩ := ln_parts (k := k) (a := atS t) hk ha hs
  have h3 := join_le2 (c := 32) h2
  have hm : ([nmD k, hexS key, atS t] ++ ptD k s l z h).length * (262200 + 1) ≤ 65540 * (262200 + 1) := Nat.mul_le_mul_right _ h1
  have h4 : (lnD key k s l z h t).size = (Lib.join (([nmD k, hexS key, atS t] ++ ptD k s l z h).map (·.data.toList)) [32]).length := by unfold lnD joinS; exact List.size_toArray
  omega
theorem line_any (w : World) (key : ByteArray) (k : Int) (s : ByteArray) (Al : Option Addr) (cl : Nat) (l : List ByteArray) (hSl : SlR Rp.str (fun k => k < w.heap.size) w (.slice Al l.length cl) l) (Az : Option Addr) (cz : Nat) (z : List (ByteArray × Int)) (hSz : SlR scR (fun k => k < w.heap.size) w (.slice Az z.length cz) z) (Ah : Option Addr) (ch : Nat) (h : List (ByteArray × ByteArray)) (hSh : SlR fdR (fun k => k < w.heap.size) w (.slice Ah h.length ch) h) (at' : Int) (hk : key.size ≤ 65536) (ht : i64 at') (hsh : ShV s l z h) (hV : Vs w) : Calls Tryz.prog 36 #[.agg #[.string key, .int .i64 k, .string s, .slice Al l.length cl, .slice Az z.length cz, .slice Ah h.length ch, .int .i64 at']] w (fun e w' => e = .returned (.string (lnD key k s l z h at')) ∧ Fr [] w w') := by
 have hF := Fr.refl [] w
 have hlit1 : (⟨#[45]⟩ : ByteArray).size = 1 := rfl
 have hptl := (pt_len (k := k) hsh).1
 refine V.en 27 Tryz.func36 fun a h1 => ?_
 refine V.sg fun K2 k3 => ?_
 refine V.go (V.mk [(0, .agg #[.string key, .int .i64 k, .string s, .slice Al l.length cl, .slice Az z.length cz, .slice Ah h.length ch, .int .i64 at'])] ⟨h1.e, trivial⟩ (by kernel_rfl) [.string key, .int .i64 k, .string s, .slice Al l.length cl, .slice Az z.length cz, .slice Ah h.length ch, .int .i64 at'] 55 (fun b => .pointer (some ⟨b, 0, none⟩)) (by kernel_rfl) ?_)
 intro w5 b4 heb4 hB6 hF7 hsb4
 have hF_8 := hF.new hF7
 have hSl_9 := hSl.fr0 hF7
 have hSz_10 := hSz.fr0 hF7
 have hSh_11 := hSh.fr0 hF7
 refine V.pt h1 fun a h12 => ?_
 refine V.re h12 [] 2 2 [] fun a h13 => k3 _ _ ?_
 refine V.sr h13 [] 1 0 [(3, .string ⟨#[45]⟩)] fun a h16 => ?_
 refine V.seq fun K17 k18 => ?_
 refine V.sr h16 [(1, .b hB6 6), (0, .ne at' (-1))] 6 7 [(8, .bool (decide (¬ at' = (-1))))] fun a h21 => ?_
 refine V.cp h21 (¬ at' = (-1)) (fun ht22 => ?_) (fun ht22 => ?_)
 ·
  refine V.rg ?_
  refine V.run h21 [(1, .b hB6 6)] 2 9 9 [(10, .int .i64 at')] fun a h23 => ?_
  have hil25 := itoaS_len (n := at') ht
  refine V.cl h23 (Go.Proofs.enters_of Tryz.func80 (by kernel_rfl) rfl) (ntext_any w5 at' ht (hV.fr hF_8)) ?_
  rintro _ w26 ⟨rfl, hF24⟩
  refine ⟨_, rfl, fun a h27 => ?_⟩
  have hsw26 := hF24.size
  have hF_28 := hF_8.new hF24
  have hSl_29 := hSl_9.fr0 hF24
  have hSz_30 := hSz_10.fr0 hF24
  have hSh_31 := hSh_11.fr0 hF24
  have hB6_32 := hB6.fr0 hF24
  refine V.re h27 [] 1 0 [(3, .string (itoaS at'))] fun a h33 => k18 _ _ ?_
  refine V.sg fun K34 k35 => ?_
  refine V.run h33 [(1, .bs hB6_32 1 [.int .i64 k, .string s, .slice Al l.length cl, .slice Az z.length cz, .slice Ah h.length ch])] 2 13 13 [(14, .agg #[.int .i64 k, .string s, .slice Al l.length cl, .slice Az z.length cz, .slice Ah h.length ch])] fun a h36 => ?_
  refine V.cl h36 (Go.Proofs.enters_of Tryz.func81 (by kernel_rfl) rfl) (words_any w26 k s Al cl l hSl_29.old Az cz z hSz_30.old Ah ch h hSh_31.old hsh (hV.fr hF_28)) ?_
  rintro _ w42 ⟨A37, c38, rfl, hO39, hF40⟩
  refine ⟨_, rfl, fun a h43 => ?_⟩
  have hsw42 := hF40.size
  have hF_44 := hF_28.new hF40
  have hB6_48 := hB6_32.fr0 hF40
  have hS41 := hO39.read (Z' := fun k => k < w42.heap.size) (fun _ _ h => h.elim) (fun _ _ h => h)
  refine V.re h43 [] 12 17 [(4, .string (nmD k)), (5, .slice A37 ((ptD k s l z h).length) c38)] fun a h49 => k35 _ _ ?_
  refine V.sg fun K50 k51 => ?_
  refine V.run h49 [(2, .b hB6_48 0)] 3 19 19 [(18, .string (nmD k)), (20, .string key)] fun a h52 => ?_
  have hxl54 := hexS_len key
  refine V.cl h52 (Go.Proofs.enters_of Tryz.func83 (by kernel_rfl) rfl) (hex_any w42 key (by omega)) ?_
  rintro _ w55 ⟨rfl, hF53⟩
  refine ⟨_, rfl, fun a h56 => ?_⟩
  have hsw55 := hF53.size
  have hF_57 := hF_44.new hF53
  have hS41_62 := hS41.fr0 hF53
  refine V.run h56 [] 1 1 0 [(22, .string (itoaS at'))] fun a h63 => ?_
  refine V.go (V.mk [(18, .string (nmD k)), (21, .string (hexS key)), (22, .string (itoaS at'))] ⟨h63.e, h63.e, h63.e, trivial⟩ (by kernel_rfl) [.string (nmD k), .string (hexS key), .string (itoaS at')] 9 (fun b => .slice (some ⟨b, 0, none⟩) 3 3) (by kernel_rfl) ?_)
  intro w65 b64 heb64 hB66 hF67 hsb64
  have hF_68 := hF_57.new hF67
  have hS41_73 := hS41_62.fr0 hF67
  refine V.pt h63 fun a h74 => ?_
  refine V.run h74 [] 1 1 0 [(24, .slice A37 ((ptD k s l z h).length) c38)] fun a h76 => ?_
  have hO75 := OwR.mkS (base := b64) (l := [nmD k, hexS key, itoaS at']) hB66 rfl (Nat.le_refl _) (show 3 ≤ maxLen from by decide) (Nat.le_refl _) rfl
  refine V.go (V.appS (R := Rp.str) (h76.e (v := (.slice (some ⟨b64, 0, none⟩) 3 3))) (h76.e (v := (.slice A37 ((ptD k s l z h).length) c38))) (by kernel_rfl) info9 (by kernel_rfl) (by decide) hO75 hS41_73 (fun _ _ h => h) (by (try simp only [List.length_cons, List.length_nil]); omega) (by decide) (by omega) ?_)
  intro A77 c78 w79 hO80 hF81
  have hsw79 := hF81.size
  have hF_82 := hF_68.own hF81 (own_ge hO75 (by omega))
  refine V.pt h76 fun a h88 => ?_
  have hjl : (([nmD k, hexS key, itoaS at']) ++ (ptD k s l z h)).length = ([nmD k, hexS key, itoaS at']).length + ((ptD k s l z h)).length := List.length_append
  rw [← hjl] at hO80
  refine V.cl (av := #[.slice A77 (([nmD k, hexS key, itoaS at']).length + ((ptD k s l z h)).length) c78, .string ⟨#[32]⟩]) h88 (Go.Proofs.enters_of Tryz.func82 (by kernel_rfl) rfl) (by rw [← hjl]; exact jn_any w79 _ c78 A77 (([nmD k, hexS key, itoaS at']) ++ (ptD k s l z h)) hO80 (ln_parts hk (by first | omega | exact itoaS_len ht) hsh).1 (ln_parts hk (by first | omega | exact itoaS_len ht) hsh).2) ?_
  rintro _ w90 ⟨rfl, hF89⟩
  refine ⟨_, rfl, fun a h91 => ?_⟩
  have hsw90 := hF89.size
  have hF_92 := hF_82.new hF89
  refine V.re h91 [] 1 0 [(2, .string (joinS (([nmD k, hexS key, itoaS at']) ++ (ptD k s l z h)) 32))] fun a h98 => k51 _ _ ?_
  refine V.ret ?_
  refine V.r1 h98 (.string (joinS (([nmD k, hexS key, itoaS at']) ++ (ptD k s l z h)) 32)) ?_
  exact ⟨by unfold lnD atS; rw [if_neg (by assumption)]; try rfl, hF_92⟩
 ·
  refine V.skip ?_
  refine V.then_n (k18 _ _ ?_)
  refine V.sg fun K99 k100 => ?_
  refine V.run h21 [(1, .bs hB6 1 [.int .i64 k, .string s, .slice Al l.length cl, .slice Az z.length cz, .slice Ah h.length ch])] 2 13 13 [(14, .agg #[.int .i64 k, .string s, .slice Al l.length cl, .slice Az z.length cz, .slice Ah h.length ch])] fun a h101 => ?_
  refine V.cl h101 (Go.Proofs.enters_of Tryz.func81 (by kernel_rfl) rfl) (words_any w5 k s Al cl l hSl_9.old Az cz z hSz_10.old Ah ch h hSh_11.old hsh (hV.fr hF_8)) ?_
  rintro _ w107 ⟨A102, c103, rfl, hO104, hF105⟩
  refine ⟨_, rfl, fun a h108 => ?_⟩
  have hsw107 := hF105.size
  have hF_109 := hF_8.new hF105
  have hB6_113 := hB6.fr0 hF105
  have hS106 := hO104.read (Z' := fun k => k < w107.heap.size) (fun _ _ h => h.elim) (fun _ _ h => h)
  refine V.re h108 [] 12 17 [(4, .string (nmD k)), (5, .slice A102 ((ptD k s l z h).length) c103)] fun a h114 => k100 _ _ ?_
  refine V.sg fun K115 k116 => ?_
  refine V.run h114 [(2, .b hB6_113 0)] 3 19 19 [(18, .string (nmD k)), (20, .string key)] fun a h117 => ?_
  have hxl119 := hexS_len key
  refine V.cl h117 (Go.Proofs.enters_of Tryz.func83 (by kernel_rfl) rfl) (hex_any w107 key (by omega)) ?_
  rintro _ w120 ⟨rfl, hF118⟩
  refine ⟨_, rfl, fun a h121 => ?_⟩
  have hsw120 := hF118.size
  have hF_122 := hF_109.new hF118
  have hS106_127 := hS106.fr0 hF118
  refine V.run h121 [] 1 1 0 [(22, .string ⟨#[45]⟩)] fun a h128 => ?_
  refine V.go (V.mk [(18, .string (nmD k)), (21, .string (hexS key)), (22, .string ⟨#[45]⟩)] ⟨h128.e, h128.e, h128.e, trivial⟩ (by kernel_rfl) [.string (nmD k), .string (hexS key), .string ⟨#[45]⟩] 9 (fun b => .slice (some ⟨b, 0, none⟩) 3 3) (by kernel_rfl) ?_)
  intro w130 b129 heb129 hB131 hF132 hsb129
  have hF_133 := hF_122.new hF132
  have hS106_138 := hS106_127.fr0 hF132
  refine V.pt h128 fun a h139 => ?_
  refine V.run h139 [] 1 1 0 [(24, .slice A102 ((ptD k s l z h).length) c103)] fun a h141 => ?_
  have hO140 := OwR.mkS (base := b129) (l := [nmD k, hexS key, ⟨#[45]⟩]) hB131 rfl (Nat.le_refl _) (show 3 ≤ maxLen from by decide) (Nat.le_refl _) rfl
  refine V.go (V.appS (R := Rp.str) (h141.e (v := (.slice (some ⟨b129, 0, none⟩) 3 3))) (h141.e (v := (.slice A102 ((ptD k s l z h).length) c103))) (by kernel_rfl) info9 (by kernel_rfl) (by decide) hO140 hS106_138 (fun _ _ h => h) (by (try simp only [List.length_cons, List.length_nil]); omega) (by decide) (by omega) ?_)
  intro A142 c143 w144 hO145 hF146
  have hsw144 := hF146.size
  have hF_147 := hF_133.own hF146 (own_ge hO140 (by omega))
  refine V.pt h141 fun a h153 => ?_
  have hjl : (([nmD k, hexS key, ⟨#[45]⟩]) ++ (ptD k s l z h)).length = ([nmD k, hexS key, ⟨#[45]⟩]).length + ((ptD k s l z h)).length := List.length_append
  rw [← hjl] at hO145
  refine V.cl (av := #[.slice A142 (([nmD k, hexS key, ⟨#[45]⟩]).length + ((ptD k s l z h)).length) c143, .string ⟨#[32]⟩]) h153 (Go.Proofs.enters_of Tryz.func82 (by kernel_rfl) rfl) (by rw [← hjl]; exact jn_any w144 _ c143 A142 (([nmD k, hexS key, ⟨#[45]⟩]) ++ (ptD k s l z h)) hO145 (ln_parts hk (by first | omega | exact itoaS_len ht) hsh).1 (ln_parts hk (by first | omega | exact itoaS_len ht) hsh).2) ?_
  rintro _ w155 ⟨rfl, hF154⟩
  refine ⟨_, rfl, fun a h156 => ?_⟩
  have hsw155 := hF154.size
  have hF_157 := hF_147.new hF154
  refine V.re h156 [] 1 0 [(2, .string (joinS (([nmD k, hexS key, ⟨#[45]⟩]) ++ (ptD k s l z h)) 32))] fun a h163 => k116 _ _ ?_
  refine V.ret ?_
  refine V.r1 h163 (.string (joinS (([nmD k, hexS key, ⟨#[45]⟩]) ++ (ptD k s l z h)) 32)) ?_
  exact ⟨by unfold lnD atS; rw [if_pos (by omega)]; try rfl, hF_157⟩
/-! ### The text of a row -/
theorem bl_any (w : World) (b n : Nat) (l : List UInt8) (h : BldI w b n l) : Calls Tryz.prog 38 #[.pointer (some ⟨b, 0, none⟩)] w fun e w' => e = .returned (.int .i64 ((l.length : Nat) : Int)) ∧ w = w' :=
  (Tryz.Builder_Len b b _ w h.is).mono fun e w' ⟨h1, h2⟩ => ⟨by rw [h1, Lib.byteCells_length], h2.symm⟩
theorem btl_len (s : ByteArray) : s.data.toList.length = s.size := Array.length_toList
def lnE (e : EnD) : List UInt8 := (lnD e.key e.k e.s e.l e.z e.h e.till).data.toList ++ [10]
def txB (l : List EnD) : List UInt8 := (l.map lnE).flatten
theorem txB_next {l : List EnD} {i : Nat} (h : i < l.length) : txB (l.take (i + 1)) = txB (l.take i) ++ (lnD (at_ enR l (i : Int)).key (at_ enR l (i : Int)).k (at_ enR l (i : Int)).s (at_ enR l (i : Int)).l (at_ enR l (i : Int)).z (at_ enR l (i : Int)).h (at_ enR l (i : Int)).till).data.toList ++ [10] := by
  unfold txB; rw [map_next lnE enR h, List.flatten_append, List.flatten_singleton, List.append_assoc]; rfl
theorem txB_le (l : List EnD) (i : Nat) : (txB (l.take i)).length ≤ (txB l).length := by
  have h : txB l = txB (l.take i) ++ txB (l.drop i) := by unfold txB; rw [← List.flatten_append, ← List.map_append, List.take_append_drop]
  rw [h, List.length_append]; omega
noncomputable def txN (l : List EnD) : Int := if imgN l = 0 then (if (txB l).length > 67108864 then 2 else 0) else imgN l
noncomputable def txS (l : List EnD) : ByteArray := if txN l = 0 then ⟨(txB l).toArray⟩ else ⟨#[]⟩
theorem tx_no {l : List EnD} (h : ¬ imgN l = 0) : txN l = imgN l ∧ txS l = ⟨#[]⟩ := by
  have h1 : txN l = imgN l := if_neg h
  exact ⟨h1, by unfold txS; rw [h1, if_neg h]⟩
theorem tx_long {l : List EnD} (h : imgN l = 0) (i : Nat) (hl : (txB (l.take i)).length > 67108864) : txN l = 2 ∧ txS l = ⟨#[]⟩ := by
  have h0 := txB_le l i
  have h1 : txN l = 2 := by unfold txN; rw [if_pos h, if_pos (by omega)]
  exact ⟨h1, by unfold txS; rw [h1]; rfl⟩
theorem tx_yes {l : List EnD} (h : imgN l = 0) (hl : ¬ (txB l).length > 67108864) : txN l = 0 ∧ txS l = ⟨(txB l).toArray⟩ := by
  have h1 : txN l = 0 := by unfold txN; rw [if_pos h, if_neg hl]
  exact ⟨h1, by unfold txS; rw [h1]; rfl⟩
theorem mem_at {α : Type} (R : Rp α) {l : List α} {x : α} (h : x ∈ l) : ∃ i, i < l.length ∧ at_ R l ((i : Nat) : Int) = x := by
  obtain ⟨i, hi, e⟩ := List.mem_iff_getElem.1 h
  exact ⟨i, hi, by rw [at_el R hi]; exact e⟩
theorem shV_of {k : Int} {s : ByteArray} {l : List ByteArray} {z : List (ByteArray × Int)} {h : List (ByteArray × ByteArray)} (hv : okV k s l z h) (hi : ∀ x ∈ z, i64 x.2) : ShV s l z h := by
  have e0 : (⟨#[]⟩ : ByteArray).size ≤ 65536 := Nat.zero_le _
  have nl : ∀ {α : Type} {x : α} {q : List α} {p : Prop}, q.length = 0 → x ∈ q → p := fun h0 hx => by rw [List.eq_nil_of_length_eq_zero h0] at hx; cases hx
  have gl : ∀ {r : Bool}, AllG (gT l r) l.length → ∀ x ∈ l, x.size ≤ 65536 := fun hg x hx => by obtain ⟨i, hi, rfl⟩ := mem_at Rp.str hx; exact (hg i hi).1
  unfold okV at hv
  split at hv
  · obtain ⟨h1, h2, h3, h4⟩ := hv
    exact ⟨h1, by omega, by omega, by omega, fun x hx => nl h2 hx, fun x hx => nl h3 hx, fun x hx => nl h4 hx⟩
  split at hv
  · obtain ⟨rfl, h2, h3, h4, h5⟩ := hv
    exact ⟨e0, by omega, by omega, by omega, gl h5, fun x hx => nl h2 hx, fun x hx => nl h3 hx⟩
  split at hv
  · obtain ⟨rfl, h2, h3, h4, h5⟩ := hv
    exact ⟨e0, by omega, by omega, by omega, gl h5, fun x hx => nl h2 hx, fun x hx => nl h3 hx⟩
  split at hv
  · obtain ⟨rfl, h2, h3, h4, h5, _⟩ := hv
    exact ⟨e0, by omega, by omega, by omega, fun x hx => nl h2 hx, fun x hx => ⟨by obtain ⟨i, hi, rfl⟩ := mem_at scR hx; exact (h5 i hi).1, hi x hx⟩, fun x hx => nl h3 hx⟩
  split at hv
  · obtain ⟨rfl, h2, h3, h4, h5⟩ := hv
    exact ⟨e0, by omega, by omega, by omega, fun x hx => nl h2 hx, fun x hx => nl h3 hx, fun x hx => by obtain ⟨i, hi, rfl⟩ := mem_at fdR hx; exact ⟨(h5 i hi).1, (h5 i hi).2.1⟩⟩
  · exact hv.elim
/-- What an image's entries are good for. -/
theorem img_at {l : List EnD} (h : imgN l = 0) (hz : ∀ e ∈ l, ∀ x ∈ e.z, i64 x.2) {i : Nat} (hi : i < l.length) :
    (at_ enR l (i : Int)).key.size ≤ 65536 ∧ i64 (at_ enR l (i : Int)).till ∧ ShV (at_ enR l (i : Int)).s (at_ enR l (i : Int)).l (at_ enR l (i : Int)).z (at_ enR l (i : Int)).h := by
  unfold imgN at h
  split at h
  · cases h
  split at h
  · rename_i h2
    obtain ⟨h3, h4, h5⟩ := (h2 i hi).1
    exact ⟨h3, by unfold i64; omega, shV_of h5 (hz _ (at_in enR hi))⟩
  · cases h
theorem text_any (w : World) (Al : Option Addr) (cl : Nat) (l : List EnD) (hSl : SlR enR (fun k => k < w.heap.size) w (.slice Al l.length cl) l) (hbn : ∀ x ∈ l, bndE x) (hzi : ∀ e ∈ l, ∀ x ∈ e.z, i64 x.2) (hV : Vs w) : Calls Tryz.prog 9 #[.slice Al l.length cl] w (fun e w' => e = .returned (.tuple #[.string (txS l), .int .i64 (txN l)]) ∧ Fr [] w w') := by
 have hF := Fr.refl [] w
 have hlen0 := hSl.len_le
 refine V.en 27 Tryz.func9 fun a h1 => ?_
 refine V.sr h1 [] 2 3 [] fun a h4 => ?_
 refine V.seq fun K5 k6 => ?_
 refine V.sg fun K7 k8 => ?_
 refine V.run h4 [] 1 1 0 [(8, .slice Al l.length cl)] fun a h9 => ?_
 refine V.cl h9 (Go.Proofs.enters_of Tryz.func20 (by kernel_rfl) rfl) (check_any w Al cl l hSl.old hbn) ?_
 rintro _ w11 ⟨rfl, hF10⟩
 refine ⟨_, rfl, fun a h12 => ?_⟩
 have hsw11 := hF10.size
 have hF_13 := hF.new hF10
 have hSl_14 := hSl.fr0 hF10
 refine V.re h12 [] 1 0 [(4, .int .i64 (imgN l))] fun a h15 => k8 _ _ ?_
 refine V.sr h15 [(1, .ne (imgN l) 0)] 10 10 [(11, .bool (decide (¬ (imgN l) = 0)))] fun a h18 => ?_
 refine V.cp h18 (¬ (imgN l) = 0) (fun ht19 => ?_) (fun ht19 => ?_)
 ·
  refine V.sr h18 [] 12 12 [(2, .string ⟨#[]⟩), (3, .int .i64 (imgN l))] fun a h22 => ?_
  refine V.ret (V.then_r ?_)
  refine V.r2 h22 (.string ⟨#[]⟩) (.int .i64 (imgN l)) ?_
  obtain ⟨hq1, hq2⟩ := tx_no (by assumption)
  exact ⟨by rw [hq1, hq2], hF_13⟩
 ·
  refine V.skip ?_
  refine V.then_n (k6 _ _ ?_)
  refine V.seq fun K23 k24 => ?_
  have h0 : imgN l = 0 := Decidable.of_not_not (by assumption)
  refine V.rg ?_
  refine V.go (V.mk [] trivial (by kernel_rfl) [.pointer none, .slice none 0 0] 73 (fun b => .pointer (some ⟨b, 0, none⟩)) (by kernel_rfl) ?_)
  intro w26 b25 heb25 hB27 hF28 hsb25
  have hF_29 := hF_13.new hF28
  have hSl_30 := hSl_14.fr0 hF28
  refine V.pt h18 fun a h31 => ?_
  refine V.nt (k24 _ _ ?_)
  refine V.seq fun K32 k33 => ?_
  refine V.seq fun K34 k35 => ?_
  have hB36 := bld_new hB27 (hB27).lt
  refine V.rr h31 [] 1 0 [(13, .slice Al l.length cl), (14, .int .i64 ((l.length : Nat) : Int)), (15, .int .i64 0)] fun a h37 => ?_
  refine V.then_n (k35 _ _ ?_)
  refine V.block ?_
  refine V.loop1 (fun (i : Nat) a_ w_ => En 27 [] a_ [(5, .pointer (some ⟨b25, 0, none⟩)), (13, .slice Al l.length cl), (14, .int .i64 ((l.length : Nat) : Int)), (15, .int .i64 (i : Int))] ∧ BldI w_ b25 w_.heap.size (txB (l.take i)) ∧ Fr [] w w_ ∧ SlR enR (fun k => k < w.heap.size) w_ (.slice Al l.length cl) l ∧ (i ≤ l.length) ∧ ((txB (l.take i)).length ≤ 67108864)) (fun (i : Nat) => l.length - i) 0 ?_ ?_
  ·
   refine ⟨(h37.eq 15 (v := (.int .i64 0)) (u := (.int .i64 (0 : Int))) (V.int_eq (by omega))).only _, (hB36.up (by omega) (by omega)), hF_29, hSl_30, (by omega), (by simp [txB])⟩
  ·
   rintro i a38 w39 ⟨h40, hB_41, hF_42, hSl_43, hi, hm⟩
   have hfs44 := hF_42.size
   refine V.sr h40 [] 1 0 [(16, .bool (decide ((i : Int) < ((l.length : Nat) : Int))))] fun a h47 => ?_
   refine V.seq fun K48 k49 => ?_
   refine V.cp h47 ((i : Int) < ((l.length : Nat) : Int)) (fun ht50 => ?_) (fun ht50 => ?_)
   ·
    refine V.skip ?_
    refine V.then_n (k49 _ _ ?_)
    refine V.seq fun K51 k52 => ?_
    refine V.block ?_
    obtain ⟨g55, o56, hA57, hA57l, hA57z⟩ := hSl_43.addr (by omega)
    obtain ⟨cs58, hok59, hE60⟩ := hSl_43.els hA57 (i : Int) (by omega) (by omega)
    obtain ⟨Al61, cl62, Az63, cz64, Ah65, ch66, rfl, hS67, hS68, hS69⟩ := en_open hok59
    refine V.sg fun K53 k54 => ?_
    refine V.run h47 [(0, .ix g55 o56 l.length cl .i64 (i : Int) 7 hA57), (0, .ls ⟨g55, o56 + (i : Int).toNat * 7, none⟩ [.string ((at_ enR l (i : Int)).key), .int .i64 ((at_ enR l (i : Int)).k), .string ((at_ enR l (i : Int)).s), .slice Al61 ((at_ enR l (i : Int)).l.length) cl62, .slice Az63 ((at_ enR l (i : Int)).z.length) cz64, .slice Ah65 ((at_ enR l (i : Int)).h.length) ch66, .int .i64 ((at_ enR l (i : Int)).till)] (hE60.cells 0 _ rfl))] 2 17 17 [(18, .agg #[.string ((at_ enR l (i : Int)).key), .int .i64 ((at_ enR l (i : Int)).k), .string ((at_ enR l (i : Int)).s), .slice Al61 ((at_ enR l (i : Int)).l.length) cl62, .slice Az63 ((at_ enR l (i : Int)).z.length) cz64, .slice Ah65 ((at_ enR l (i : Int)).h.length) ch66, .int .i64 ((at_ enR l (i : Int)).till)])] fun a h74 => ?_
    refine V.go (V.mk [] trivial (by kernel_rfl) [.string ⟨#[]⟩, .int .i64 0, .string ⟨#[]⟩, .slice none 0 0, .slice none 0 0, .slice none 0 0, .int .i64 0] 55 (fun b => .pointer (some ⟨b, 0, none⟩)) (by kernel_rfl) ?_)
    intro w71 b70 heb70 hB72 hF73 hsb70
    have hB_75 := hB_41.fr hF73 (by simp <;> omega)
    have hF_76 := hF_42.new hF73
    have hSl_77 := hSl_43.fr0 hF73
    have hS67_78 := hS67.fr0 hF73
    have hS68_79 := hS68.fr0 hF73
    have hS69_80 := hS69.fr0 hF73
    refine V.pt h74 fun a h82 => ?_
    refine V.go (V.stn b70 0 (.agg #[.string ((at_ enR l (i : Int)).key), .int .i64 ((at_ enR l (i : Int)).k), .string ((at_ enR l (i : Int)).s), .slice Al61 ((at_ enR l (i : Int)).l.length) cl62, .slice Az63 ((at_ enR l (i : Int)).z.length) cz64, .slice Ah65 ((at_ enR l (i : Int)).h.length) ch66, .int .i64 ((at_ enR l (i : Int)).till)]) [.string ((at_ enR l (i : Int)).key), .int .i64 ((at_ enR l (i : Int)).k), .string ((at_ enR l (i : Int)).s), .slice Al61 ((at_ enR l (i : Int)).l.length) cl62, .slice Az63 ((at_ enR l (i : Int)).z.length) cz64, .slice Ah65 ((at_ enR l (i : Int)).h.length) ch66, .int .i64 ((at_ enR l (i : Int)).till)] h82.e h82.e rfl rfl (by kernel_rfl) hB72 (by simp) [.string ((at_ enR l (i : Int)).key), .int .i64 ((at_ enR l (i : Int)).k), .string ((at_ enR l (i : Int)).s), .slice Al61 ((at_ enR l (i : Int)).l.length) cl62, .slice Az63 ((at_ enR l (i : Int)).z.length) cz64, .slice Ah65 ((at_ enR l (i : Int)).h.length) ch66, .int .i64 ((at_ enR l (i : Int)).till)] rfl ?_)
    intro w83 hB84 hF85 hsw83
    have hB_86 := hB_75.fr hF85 (by simp <;> omega)
    have hF_87 := hF_76.own hF85 (by simp <;> omega)
    have hSl_88 := hSl_77.fr hF85 (by simp <;> omega)
    have hS67_89 := hS67_78.fr hF85 (by simp <;> omega)
    have hS68_90 := hS68_79.fr hF85 (by simp <;> omega)
    have hS69_91 := hS69_80.fr hF85 (by simp <;> omega)
    refine V.nt (k54 _ _ ?_)
    refine V.seq fun K93 k94 => ?_
    obtain ⟨hek, het, heh⟩ := img_at h0 hzi (i := i) (by omega)
    refine V.rg ?_
    refine V.run h82 [(0, .bs hB84 0 [.string ((at_ enR l (i : Int)).key), .int .i64 ((at_ enR l (i : Int)).k), .string ((at_ enR l (i : Int)).s), .slice Al61 ((at_ enR l (i : Int)).l.length) cl62, .slice Az63 ((at_ enR l (i : Int)).z.length) cz64, .slice Ah65 ((at_ enR l (i : Int)).h.length) ch66, .int .i64 ((at_ enR l (i : Int)).till)])] 1 1 0 [(19, .agg #[.string ((at_ enR l (i : Int)).key), .int .i64 ((at_ enR l (i : Int)).k), .string ((at_ enR l (i : Int)).s), .slice Al61 ((at_ enR l (i : Int)).l.length) cl62, .slice Az63 ((at_ enR l (i : Int)).z.length) cz64, .slice Ah65 ((at_ enR l (i : Int)).h.length) ch66, .int .i64 ((at_ enR l (i : Int)).till)])] fun a h95 => ?_
    have hll97 := lnD_len (k := ((at_ enR l (i : Int)).k)) hek het heh
    refine V.cl h95 (Go.Proofs.enters_of Tryz.func36 (by kernel_rfl) rfl) (line_any w83 ((at_ enR l (i : Int)).key) ((at_ enR l (i : Int)).k) ((at_ enR l (i : Int)).s) Al61 cl62 ((at_ enR l (i : Int)).l) hS67_89.old Az63 cz64 ((at_ enR l (i : Int)).z) hS68_90.old Ah65 ch66 ((at_ enR l (i : Int)).h) hS69_91.old ((at_ enR l (i : Int)).till) hek het heh (hV.fr hF_87)) ?_
    rintro _ w98 ⟨rfl, hF96⟩
    refine ⟨_, rfl, fun a h99 => ?_⟩
    have hsw98 := hF96.size
    have hB_100 := hB_86.fr hF96 (by simp <;> omega)
    have hF_101 := hF_87.new hF96
    have hSl_102 := hSl_88.fr0 hF96
    have hS67_103 := hS67_89.fr0 hF96
    have hS68_104 := hS68_90.fr0 hF96
    have hS69_105 := hS69_91.fr0 hF96
    refine V.cl h99 (Go.Proofs.enters_of Tryz.func35 (by kernel_rfl) rfl) (ws_any w98 b25 _ (txB (l.take i)) (lnD ((at_ enR l (i : Int)).key) ((at_ enR l (i : Int)).k) ((at_ enR l (i : Int)).s) ((at_ enR l (i : Int)).l) ((at_ enR l (i : Int)).z) ((at_ enR l (i : Int)).h) ((at_ enR l (i : Int)).till)) hB_100 (by (try simp only [List.length_append, List.length_cons, List.length_nil, btl_len] at *); omega)) ?_
    rintro _ w110 ⟨rfl, hB108, hL109⟩
    refine ⟨_, rfl, fun a h111 => ?_⟩
    have hsw110 := hL109.size
    have hF_112 := V.Fr.bel hF_101 hL109 (by omega)
    have hSl_113 := hSl_102.mono (fun k hk hz => ⟨hz, hL109.block k (by (try dsimp only at hz); omega)⟩) hL109.size
    have hS67_114 := hS67_103.mono (fun k hk hz => ⟨hz, hL109.block k (by (try dsimp only at hz); omega)⟩) hL109.size
    have hS68_115 := hS68_104.mono (fun k hk hz => ⟨hz, hL109.block k (by (try dsimp only at hz); omega)⟩) hL109.size
    have hS69_116 := hS69_105.mono (fun k hk hz => ⟨hz, hL109.block k (by (try dsimp only at hz); omega)⟩) hL109.size
    refine V.nt (k94 _ _ ?_)
    refine V.sg fun K117 k118 => ?_
    refine V.cl h111 (Go.Proofs.enters_of Tryz.func37 (by kernel_rfl) rfl) (wb_any w110 b25 _ ((txB (l.take i)) ++ (lnD ((at_ enR l (i : Int)).key) ((at_ enR l (i : Int)).k) ((at_ enR l (i : Int)).s) ((at_ enR l (i : Int)).l) ((at_ enR l (i : Int)).z) ((at_ enR l (i : Int)).h) ((at_ enR l (i : Int)).till)).data.toList) (10 : UInt8) hB108 (by (try simp only [List.length_append, List.length_cons, List.length_nil, btl_len] at *); omega)) ?_
    rintro _ w121 ⟨rfl, hB119, hL120⟩
    refine ⟨_, rfl, fun a h122 => ?_⟩
    have hsw121 := hL120.size
    have hF_123 := V.Fr.bel hF_112 hL120 (by omega)
    have hSl_124 := hSl_113.mono (fun k hk hz => ⟨hz, hL120.block k (by (try dsimp only at hz); omega)⟩) hL120.size
    have hS67_125 := hS67_114.mono (fun k hk hz => ⟨hz, hL120.block k (by (try dsimp only at hz); omega)⟩) hL120.size
    have hS68_126 := hS68_115.mono (fun k hk hz => ⟨hz, hL120.block k (by (try dsimp only at hz); omega)⟩) hL120.size
    have hS69_127 := hS69_116.mono (fun k hk hz => ⟨hz, hL120.block k (by (try dsimp only at hz); omega)⟩) hL120.size
    refine V.nt (k118 _ _ ?_)
    refine V.sg fun K128 k129 => ?_
    refine V.cl h122 (Go.Proofs.enters_of Tryz.func38 (by kernel_rfl) rfl) (bl_any w121 b25 _ (((txB (l.take i)) ++ (lnD ((at_ enR l (i : Int)).key) ((at_ enR l (i : Int)).k) ((at_ enR l (i : Int)).s) ((at_ enR l (i : Int)).l) ((at_ enR l (i : Int)).z) ((at_ enR l (i : Int)).h) ((at_ enR l (i : Int)).till)).data.toList) ++ [(10 : UInt8)]) hB119) ?_
    rintro _ _ ⟨rfl, rfl⟩
    refine ⟨_, rfl, fun a h130 => ?_⟩
    refine V.re h130 [] 1 0 [(24, .bool (decide ((((((txB (l.take i)) ++ (lnD ((at_ enR l (i : Int)).key) ((at_ enR l (i : Int)).k) ((at_ enR l (i : Int)).s) ((at_ enR l (i : Int)).l) ((at_ enR l (i : Int)).z) ((at_ enR l (i : Int)).h) ((at_ enR l (i : Int)).till)).data.toList) ++ [(10 : UInt8)]).length : Nat) : Int) > 67108864)))] fun a h131 => k129 _ _ ?_
    refine V.cp h131 ((((((txB (l.take i)) ++ (lnD ((at_ enR l (i : Int)).key) ((at_ enR l (i : Int)).k) ((at_ enR l (i : Int)).s) ((at_ enR l (i : Int)).l) ((at_ enR l (i : Int)).z) ((at_ enR l (i : Int)).h) ((at_ enR l (i : Int)).till)).data.toList) ++ [(10 : UInt8)]).length : Nat) : Int) > 67108864) (fun ht132 => ?_) (fun ht132 => ?_)
    ·
     refine V.sr h131 [] 1 0 [(2, .string ⟨#[]⟩), (3, .int .i64 2)] fun a h135 => ?_
     refine V.ret (V.blk_r (V.then_r (V.then_r (V.blk_r (V.then_r ?_)))))
     refine V.r2 h135 (.string ⟨#[]⟩) (.int .i64 2) ?_
     obtain ⟨hq1, hq2⟩ := tx_long h0 (i + 1) (by rw [txB_next (by omega)]; omega)
     exact ⟨by rw [hq1, hq2], hF_123⟩
    ·
     refine V.skip (V.blk_n ?_)
     refine V.then_n (k52 _ _ ?_)
     refine V.rr h131 [(0, .i ((i : Int) + 1))] 25 25 [(15, .int .i64 ((i : Int) + 1))] fun a h136 => ?_
     refine V.then_n ?_
     refine ⟨i + 1, by omega, ?_⟩
     refine ⟨(h136.eq 15 (v := (.int .i64 ((i : Int) + 1))) (u := (.int .i64 ((i + 1) : Int))) (V.int_eq (by omega))).only _, (by rw [txB_next (by omega)]; exact hB119.up (by omega) (by omega)), hF_123, hSl_124, (by omega), (by rw [txB_next (by omega)]; omega)⟩
   ·
    refine V.exit (V.then_e (V.then_e (V.blk_hit ?_)))
    refine V.then_n (k33 _ _ ?_)
    refine V.sg fun K137 k138 => ?_
    refine V.cl h47 (Go.Proofs.enters_of Tryz.func39 (by kernel_rfl) rfl) (bs_any w39 b25 _ (txB (l.take i)) hB_41) ?_
    rintro _ w140 ⟨rfl, hL139⟩
    refine ⟨_, rfl, fun a h141 => ?_⟩
    have hsw140 := hL139.size
    have hF_142 := V.Fr.bel hF_42 hL139 (by omega)
    have hSl_143 := hSl_43.mono (fun k hk hz => ⟨hz, hL139.block k (by (try dsimp only at hz); omega)⟩) hL139.size
    refine V.re h141 [] 1 0 [(2, .string ⟨(txB (l.take i)).toArray⟩), (3, .int .i64 0)] fun a h144 => k138 _ _ ?_
    refine V.ret ?_
    refine V.r2 h144 (.string ⟨(txB (l.take i)).toArray⟩) (.int .i64 0) ?_
    have hql : txB (l.take i) = txB l := by rw [List.take_of_length_le (by omega)]
    rw [hql] at hm ⊢
    obtain ⟨hq1, hq2⟩ := tx_yes h0 (by omega)
    exact ⟨by rw [hq1, hq2], hF_142⟩
end Go.Proofs.YtdebkbfnngkdlaaGreatDoor
end
