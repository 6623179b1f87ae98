/- Joined texts: Mw, Lm. -/
import Derived.Test.YtalhmegjomfbaaaProg
import Derived.Test.YtalhmegjomfbaaaMq5
section
namespace Go.Proofs.Ytalhmegjomfbaaa
open Go.V Go.Base
open Go.RowKit (Below)
attribute [local irreducible] Act.put Act.eval
set_option linter.unusedVariables false
set_option linter.unusedSimpArgs false
set_option maxHeartbeats 4000000
set_option maxRecDepth 20000
theorem info93 : (Try.prog.info? 93).map (fun i => (i.zero, i.size, i.bytes)) = some (some (.agg #[.string ⟨#[]⟩, .string ⟨#[]⟩]), 2, 32) := S.info93
theorem info94 : (Try.prog.info? 94).map (fun i => (i.zero, i.size, i.bytes)) = some (some (.slice none 0 0), 1, 24) := S.info94
/-! ### A mapped table, as data -/
theorem w_n1 {n : Nat} (h : n < 9223372036854775807) : Value.int .i64 (IntKind.i64.wrap ((n : Int) + 1)) = .int .i64 ((n + 1 : Nat) : Int) := w_i64 (by omega) (by omega)
def bang (k : ByteArray) : ByteArray := k ++ ⟨#[33]⟩
def m1 (x : ByteArray × Int) : ByteArray × ByteArray := (x.1, bang x.1)
def mapTb (T : Tb Int) : Tb ByteArray := ⟨T.seed, T.a.map (List.map m1), T.b.map (List.map m1), T.moved, T.n⟩
theorem flat_map (l : List (List (ByteArray × Int))) : (l.map (List.map m1)).flatten = l.flatten.map m1 := by rw [List.map_flatten]
theorem mapTb_ok {T : Tb Int} (h : T.Ok) : (mapTb T).Ok := by
  obtain ⟨h1, h2, h3, h4, h5, h6, h7, h8, h9, h10⟩ := h
  have hk : ∀ (l : List (List (ByteArray × Int))), (∀ (i : Nat), ∀ x ∈ l.getD i [], x.1.size ≤ 9223372036854775807) → ∀ (i : Nat), ∀ x ∈ (l.map (List.map m1)).getD i [], x.1.size ≤ 9223372036854775807 := fun l hl i x hx => by
    rw [List.getD_eq_getElem?_getD, List.getElem?_map] at hx
    rcases hq : l[i]? with _ | y
    · rw [hq] at hx; simp at hx
    · rw [hq] at hx
      simp only [Option.map_some, Option.getD_some, List.mem_map] at hx
      obtain ⟨z, hz, rfl⟩ := hx
      exact hl i z (by rw [List.getD_eq_getElem?_getD, hq]; exact hz)
  refine ⟨h1, ?_, ?_, ?_, ?_, ?_, h7, ?_, ⟨hk _ h9, hk _ h10⟩⟩ <;> simp only [mapTb, List.length_map]
  · exact h2
  · exact h3
  · exact h4
  · exact h5
  · exact h6
  · rw [← List.map_append, flat_map, List.length_map]; exact h8
/-- A row of buckets, so far: i buckets, j items of the next. -/
def mrow (xs : List (List (ByteArray × Int))) (i j : Nat) : List (List (ByteArray × ByteArray)) := (List.range xs.length).map fun q => if q < i then (xs.getD q []).map m1 else if q = i then ((xs.getD i []).take j).map m1 else []
theorem mrow_len (xs : List (List (ByteArray × Int))) (i j : Nat) : (mrow xs i j).length = xs.length := by simp [mrow]
theorem mrow_get? {xs : List (List (ByteArray × Int))} {i j q : Nat} (hq : q < xs.length) : (mrow xs i j)[q]? = some (if q < i then (xs.getD q []).map m1 else if q = i then ((xs.getD i []).take j).map m1 else []) := by
  unfold mrow
  rw [List.getElem?_map, List.getElem?_range hq]; rfl
theorem mrow_out {xs : List (List (ByteArray × Int))} {i j q : Nat} (hq : xs.length ≤ q) : (mrow xs i j)[q]? = none := List.getElem?_eq_none (by rw [mrow_len]; exact hq)
theorem mrow_zero (xs : List (List (ByteArray × Int))) : mrow xs 0 0 = List.replicate xs.length [] := by
  apply List.ext_getElem?
  intro q
  rcases Nat.lt_or_ge q xs.length with hq | hq
  · rw [mrow_get? hq, List.getElem?_replicate, if_pos hq, if_neg (Nat.not_lt_zero _)]
    by_cases h : q = 0
    · subst h; rw [if_pos rfl]; simp
    · rw [if_neg h]
  · rw [mrow_out hq, List.getElem?_replicate, if_neg (by omega)]
theorem mrow_item {xs : List (List (ByteArray × Int))} {i j : Nat} (hi : i < xs.length) (hj : j < (xs.getD i []).length) : (mrow xs i j).set i ((mrow xs i j).getD i [] ++ [m1 (at_ itI (xs.getD i []) (j : Int))]) = mrow xs i (j + 1) := by
  have hg : (mrow xs i j).getD i [] = ((xs.getD i []).take j).map m1 := by
    rw [List.getD_eq_getElem?_getD, mrow_get? hi, if_neg (by omega), if_pos rfl]; rfl
  have ha : at_ itI (xs.getD i []) (j : Int) = (xs.getD i [])[j] := by
    unfold at_; rw [Int.toNat_natCast, List.getD_eq_getElem?_getD, List.getElem?_eq_getElem hj]; rfl
  rw [hg, ha, ← List.map_singleton, ← List.map_append, ← List.take_succ_eq_append_getElem hj]
  apply List.ext_getElem?
  intro q
  rcases Nat.lt_or_ge q xs.length with hq | hq
  · rw [mrow_get? hq]
    by_cases h : i = q
    · subst h; rw [List.getElem?_set_self (by rw [mrow_len]; exact hi), if_neg (by omega), if_pos rfl]
    · rw [List.getElem?_set_ne h, mrow_get? hq]
      congr 1
      split
      · rfl
      · rw [if_neg (fun e => h e.symm), if_neg (fun e => h e.symm)]
  · rw [mrow_out hq, List.getElem?_eq_none (by rw [List.length_set, mrow_len]; exact hq)]
theorem mrow_getl {xs : List (List (ByteArray × Int))} {i j : Nat} (hi : i < xs.length) (hj : j ≤ (xs.getD i []).length) : ((mrow xs i j).getD i []).length = j := by
  rw [List.getD_eq_getElem?_getD, mrow_get? hi, if_neg (by omega), if_pos rfl]
  simp only [Option.getD_some, List.length_map, List.length_take]
  omega
theorem mrow_bucket {xs : List (List (ByteArray × Int))} {i : Nat} : mrow xs i (xs.getD i []).length = mrow xs (i + 1) 0 := by
  apply List.ext_getElem?
  intro q
  rcases Nat.lt_or_ge q xs.length with hq | hq
  · rw [mrow_get? hq, mrow_get? hq]
    by_cases h1 : q < i
    · rw [if_pos h1, if_pos (by omega)]
    · rw [if_neg h1]
      by_cases h2 : q = i
      · subst h2; rw [if_pos rfl, if_pos (by omega), List.take_length]
      · rw [if_neg h2, if_neg (by omega)]
        by_cases h3 : q = i + 1
        · rw [if_pos h3]; simp
        · rw [if_neg h3]
  · rw [mrow_out hq, mrow_out hq]
theorem mrow_end (xs : List (List (ByteArray × Int))) : mrow xs xs.length 0 = xs.map (List.map m1) := by
  apply List.ext_getElem?
  intro q
  rcases Nat.lt_or_ge q xs.length with hq | hq
  · rw [mrow_get? hq, if_pos hq, List.getElem?_map, List.getD_eq_getElem?_getD, List.getElem?_eq_getElem hq]; rfl
  · rw [mrow_out hq, List.getElem?_map, List.getElem?_eq_none hq]; rfl
theorem take_flat {xs : List (List (ByteArray × Int))} {i : Nat} (hi : i < xs.length) : (xs.take (i + 1)).flatten.length = (xs.take i).flatten.length + (xs.getD i []).length := by
  rw [List.take_succ_eq_append_getElem hi, List.flatten_append, List.length_append, List.getD_eq_getElem?_getD, List.getElem?_eq_getElem hi]; simp
theorem take_flat_le (xs : List (List (ByteArray × Int))) (i : Nat) : (xs.take i).flatten.length ≤ xs.flatten.length := by
  have := congrArg List.length (congrArg List.flatten (List.take_append_drop i xs))
  rw [List.flatten_append, List.length_append] at this
  omega
theorem it_in {xs : List (List (ByteArray × Int))} {i j : Nat} (hi : i < xs.length) (hj : j < (xs.getD i []).length) : at_ itI (xs.getD i []) (j : Int) ∈ xs.flatten := by
  rw [List.mem_flatten]
  refine ⟨xs.getD i [], ?_, List.mem_of_getElem? (at_some itI (by omega) (by omega))⟩
  rw [List.getD_eq_getElem?_getD, List.getElem?_eq_getElem hi]
  exact List.getElem_mem hi
/-! ### A table's rows, read -/
theorem own_zone {α : Type} {R : Rp α} {w : World} {base : Nat} {e : TypeId} {v : Value} {xs : List α} (h : OwR R NoZ w base e v xs) (hf : ∀ (Z Z' : Nat → Prop) x cs, R.ok Z w x cs → R.ok Z' w x cs) {Z : Nat → Prop} (hz : ∀ b, v.ownBlock = some b → Z b) : SlR R Z w v xs := by
  obtain ⟨cs, h1, h2, h3⟩ := h
  rcases h1.2 with ⟨rfl, hn⟩ | ⟨g, cap, cur, rfl, hg, hr⟩
  · obtain rfl : xs = [] := List.eq_nil_of_length_eq_zero hn
    exact SlR.nil _ _ _
  · have hq : OwR R NoZ w g e (.slice (some ⟨g, 0, none⟩) xs.length cap) xs := ⟨cs, ⟨h1.1, .inr ⟨g, cap, cur, rfl, Nat.le_refl _, hr⟩⟩, h2, h3⟩
    have hs := hq.read (Z' := fun b => g ≤ b) (fun _ _ h => h.elim) (fun _ h _ => h)
    obtain ⟨A', c', e', l1, l2, l3⟩ := hs
    injection e' with e1 e2 e3
    refine ⟨_, cap, rfl, by rw [e3]; exact l1, l2, fun i x hi => ?_⟩
    obtain ⟨g', o', cs', hA, hZ, hg', hok, hc⟩ := l3 i x hi
    rw [← e1] at hA
    injection hA with hA
    injection hA with hA1 hA2
    refine ⟨g, 0, cs', rfl, hz g rfl, hA1 ▸ hg', hf _ _ _ _ hok, by rw [hA1, hA2]; exact hc⟩
theorem rows_rd {w : World} {g : Nat} {vs : List Value} {te e : TypeId} {xs : List (List (ByteArray × Int))} {Z : Nat → Prop} (hR : Row idV w g vs te) (hl : vs.length = xs.length) (hb : xs.length ≤ 4398046511104) (hg : Z g)
    (ho : ∀ (i : Nat) (v : Value), vs[i]? = some v → OwR itI NoZ w 0 e v (xs.getD i []) ∧ ∀ b, v.ownBlock = some b → Z b) : SlR (Rp.slice itI) Z w (.slice (some ⟨g, 0, none⟩) xs.length xs.length) xs := by
  refine ⟨_, _, rfl, Nat.le_refl _, by omega, fun i x hi => ?_⟩
  have hlt := (List.getElem?_eq_some_iff.1 hi).1
  have hv : vs[i]? = some (vs.getD i nilS) := by rw [List.getD_eq_getElem?_getD, List.getElem?_eq_getElem (by omega)]; rfl
  have hx : xs.getD i [] = x := by rw [List.getD_eq_getElem?_getD, hi]; rfl
  obtain ⟨h1, h2⟩ := ho i _ hv
  rw [hx] at h1
  refine ⟨g, 0, [vs.getD i nilS], rfl, hg, hR.lt, ⟨_, rfl, own_zone h1 (fun _ _ _ _ q => q) h2⟩, fun j u hj => ?_⟩
  have hj' : j = 0 := by have := (List.getElem?_eq_some_iff.1 hj).1; simpa using this
  subst hj'
  simp at hj
  subst hj
  exact hR.at i nilS (by omega)
theorem sl_open {Z : Nat → Prop} {w : World} {d : List (ByteArray × Int)} {cs : List Value} (h : (Rp.slice itI).ok Z w d cs) : ∃ A c, cs = [.slice A d.length c] ∧ SlR itI Z w (.slice A d.length c) d := by
  obtain ⟨v, rfl, hv⟩ := h
  obtain ⟨A, c, rfl, _⟩ := hv.slice
  exact ⟨A, c, rfl, hv⟩
section
variable {w : World} {e cb : Nat} {H : Nat → Prop} {l : List Nat} {vsA vsB : List Value} {xa xb : List (List (ByteArray × Int))} (hK : Bks itI w e H l (vsA ++ vsB) (xa ++ xb)) (hl : vsA.length = xa.length) (hc : cb ∈ l)
include hK hl hc
theorem rdA : ∀ (i : Nat) (v : Value), vsA[i]? = some v → OwR itI NoZ w 0 e v (xa.getD i []) ∧ ∀ b, v.ownBlock = some b → b < w.heap.size ∧ b ≠ cb := fun i v hv => by
  have hlt := (List.getElem?_eq_some_iff.1 hv).1
  have hv' : (vsA ++ vsB)[i]? = some v := by rw [List.getElem?_append_left hlt]; exact hv
  have h1 := hK.own i v hv'
  rw [appA_get (by omega)] at h1
  exact ⟨h1, fun b hb => ⟨(h1.lt b hb).2, fun q => (hK.hom i v b hv' hb).1 (by rw [q]; exact hc)⟩⟩
theorem rdB : ∀ (i : Nat) (v : Value), vsB[i]? = some v → OwR itI NoZ w 0 e v (xb.getD i []) ∧ ∀ b, v.ownBlock = some b → b < w.heap.size ∧ b ≠ cb := fun i v hv => by
  have hv' : (vsA ++ vsB)[vsA.length + i]? = some v := by rw [List.getElem?_append_right (by omega)]; rw [← hv]; congr 1; omega
  have h1 := hK.own _ v hv'
  rw [hl, appB_get] at h1
  exact ⟨h1, fun b hb => ⟨(h1.lt b hb).2, fun q => (hK.hom _ v b hv' hb).1 (by rw [q]; exact hc)⟩⟩
end
theorem TabM_mk2 {tt te e : TypeId} {w1 : World} {H : Nat → Prop} {av av' : List Nat} {t gA gB na nb sd : Nat} {mv nn : Int} {vsA vsB : List Value} {T : Tb ByteArray} {xa xb : List (List (ByteArray × ByteArray))} (blk : Blk w1 t [.int .u64 (sd : Int), .slice (some ⟨gA, 0, none⟩) na na, .slice (some ⟨gB, 0, none⟩) nb nb, .int .i64 mv, .int .i64 nn] tt) (ra : Row idV w1 gA vsA te) (rb : Row idV w1 gB vsB te) (la : vsA.length = xa.length) (bk : Bks S.itI w1 e H av' (vsA ++ vsB) (xa ++ xb)) (hs : ∀ k ∈ t :: gA :: gB :: av, k ∈ av') (ne : t ≠ gA) (ne2 : t ≠ gB) (ne3 : gA ≠ gB) (pt : H t ∧ t ∉ av) (pg : H gA ∧ gA ∉ av) (ph : H gB ∧ gB ∉ av)
    (e1 : sd = T.seed) (e2 : na = T.a.length) (e3 : mv = (T.moved : Int)) (e4 : nn = (T.n : Int)) (e5 : xa = T.a) (e6 : xb = T.b) (e7 : nb = T.b.length) : TabM tt te e S.itI w1 H av t gA gB vsA vsB T := by
  subst e1; subst e2; subst e3; subst e4; subst e5; subst e6; subst e7
  refine ⟨blk, ra, rb, la, ?_, bk.sub hs fun k hk _ q => q, ne, ne2, ne3, pt, pg, ph⟩
  have := bk.len
  simp at this
  omega
theorem mapf_any (w : World) (cb n : Nat) (k : ByteArray) (v : Int) (hB : Blk w cb [.int .i64 ((n : Nat) : Int)] 3) (hn : n ≤ 1099511627776) (hk : k.size ≤ 100) : Calls Try.prog 33 #[.string k, .int .i64 v, .pointer (some ⟨cb, 0, none⟩)] w (fun e w' => e = .returned (.string (bang k)) ∧ Blk w' cb [.int .i64 ((n + 1 : Nat) : Int)] 3 ∧ Fr [cb] w w') := by
 have hF := Fr.refl [cb] w
 have hsm : (⟨#[33]⟩ : ByteArray).size = 1 := rfl
 refine V.en 10 Try.func33 fun a h1 => ?_
 refine V.sr h1 [] 5 5 [] fun a h4 => ?_
 refine V.sg fun K5 k6 => ?_
 refine V.run h4 [(0, .b hB 0), (0, .q (.int .i64 ((n + 1 : Nat) : Int)) (w_n1 (by omega)))] 2 6 6 [(7, .int .i64 ((n + 1 : Nat) : Int))] fun a h10 => ?_
 refine V.go (V.stn cb 0 (.int .i64 ((n + 1 : Nat) : Int)) [.int .i64 ((n + 1 : Nat) : Int)] h10.e h10.e rfl rfl (by kernel_rfl) hB (by simp) [.int .i64 ((n + 1 : Nat) : Int)] rfl ?_)
 intro w7 hB8 hF9 hsw7
 have hF_11 := hF.trans hF9 (by simp <;> omega)
 refine V.nt (k6 _ _ ?_)
 refine V.sg fun K12 k13 => ?_
 refine V.run h10 [] 1 1 0 [(8, .string k)] fun a h16 => ?_
 obtain ⟨cat14, hcat15⟩ : ∃ z : ByteArray, z = k ++ (⟨#[33]⟩ : ByteArray) := ⟨_, rfl⟩
 have hszcat14 : cat14.size = k.size + (⟨#[33]⟩ : ByteArray).size := by rw [hcat15, ByteArray.size_append]
 refine V.go (V.catg hcat15 (h16.e (v := (.string k))) evc (by omega) ?_)
 refine V.pt h16 fun a h17 => ?_
 refine V.re h17 [] 1 0 [(5, .string cat14)] fun a h18 => k13 _ _ ?_
 refine V.ret ?_
 refine V.r1 h18 (.string cat14) ?_
 exact ⟨congrArg (fun z => Ending.returned (Value.string z)) hcat15, hB8, hF_11⟩
theorem map_N (w : World) (H : Nat → Prop) (t gA cb : Nat) (vsA : List Value) (T : Tb Int) (hok : T.Ok) (hT : TabN 67 87 86 itI w H [cb] t gA vsA T) (hb : T.b = []) (hC : Blk w cb [.int .i64 ((0 : Nat) : Int)] 3) (hks1 : ∀ x ∈ (T.a ++ T.b).flatten, x.1.size ≤ 100) : Calls Try.prog 32 #[.pointer (some ⟨t, 0, none⟩), .func (.func 33) #[] #[.pointer (some ⟨cb, 0, none⟩)]] w (fun e w' => ∃ u, e = .returned (.pointer (some ⟨u, 0, none⟩)) ∧ TabX 91 94 93 S.itI w' (fun k => w.heap.size ≤ k ∧ k < w'.heap.size) [cb] u (mapTb T) ∧ Blk w' cb [.int .i64 (T.n : Int)] 3 ∧ FrP (fun k => k = cb) w w') := by
 have hok0 := hok
 have hP := FrP.refl (fun k => k = cb) w
 have hltc := hC.lt
 obtain ⟨hsd, hpa, hla, hlb, hmv, hmz, hnn, hcn, hks⟩ := id hok
 obtain ⟨hB, hRA, hlA, hK, hne, hpt, hpg⟩ := hT
 have hltt := hB.lt
 have hltg := hRA.lt
 have hb0 := hb
 have hcs : T.a.flatten.length + T.b.flatten.length = T.n := by rw [List.flatten_append, List.length_append] at hcn; exact hcn
 have hSa : SlR (Rp.slice itI) (fun k => k < w.heap.size ∧ k ≠ cb) w (.slice (some ⟨gA, 0, none⟩) T.a.length T.a.length) T.a := rows_rd hRA hlA (by omega) ⟨hRA.lt, fun q => hpg.2 (by simp [q])⟩ (rdA hK hlA (by simp))
 refine V.en 96 Try.func32 fun a h1 => ?_
 refine V.sr h1 [] 4 4 [] fun a h4 => ?_
 refine V.seq fun K5 k6 => ?_
 refine V.sg fun K7 k8 => ?_
 refine V.run h4 [] 1 1 0 [(12, .pointer (some ⟨t, 0, none⟩))] fun a h9 => ?_
 refine V.cl h9 (Go.Proofs.enters_of Try.func51 (by kernel_rfl) rfl) (made_N w t T.seed T.a.length 0 0 gA 0 (.int .i64 (T.moved : Int)) (.int .i64 (T.n : Int)) hB) ?_
 rintro _ w11 ⟨rfl, hF10⟩
 refine ⟨_, rfl, fun a h12 => ?_⟩
 have hsw11 := hF10.size
 have hP_13 := hP.tr0 hF10
 have hB_14 := hB.fr0 hF10
 have hC_15 := hC.fr0 hF10
 have hSa_16 := hSa.fr0 hF10
 refine V.re h12 [] 14 17 [(18, .bool false)] fun a h17 => k8 _ _ ?_
 refine V.cf h17 ?_
 refine V.skip ?_
 refine V.then_n (k6 _ _ ?_)
 refine V.seq fun K18 k19 => ?_
 refine V.pl [([0,1,2,3,4,5,6,7,8,9,10,11,12],some (13,[])),([14],none)] fun w20 hF21 hsw20 => ?_
 have hP_22 := hP_13.tr0 hF21
 have hB_23 := hB_14.fr0 hF21
 have hC_24 := hC_15.fr0 hF21
 have hSa_25 := hSa_16.fr0 hF21
 refine V.pe h17 [(3, .b hB_23 0), (3, .b hB_23 3), (3, .b hB_23 4)] 19 30 [(31, .agg #[.int .u64 (T.seed : Int), .slice none 0 0, .slice none 0 0, .int .i64 (T.moved : Int), .int .i64 (T.n : Int)])] fun a h26 => ?_
 refine V.go (V.mk [(31, .agg #[.int .u64 (T.seed : Int), .slice none 0 0, .slice none 0 0, .int .i64 (T.moved : Int), .int .i64 (T.n : Int)])] ⟨h26.e, trivial⟩ (by kernel_rfl) [.int .u64 (T.seed : Int), .slice none 0 0, .slice none 0 0, .int .i64 (T.moved : Int), .int .i64 (T.n : Int)] 91 (fun b => .pointer (some ⟨b, 0, none⟩)) (by kernel_rfl) ?_)
 intro w28 b27 heb27 hB29 hF30 hsb27
 have hP_31 := hP_22.tr0 hF30
 have hB_32 := hB_23.fr0 hF30
 have hC_33 := hC_24.fr0 hF30
 have hSa_34 := hSa_25.fr0 hF30
 refine V.pt h26 fun a h35 => ?_
 refine V.eh trivial ?_
 refine V.pz h35 [] 1 0 [(5, .pointer (some ⟨b27, 0, none⟩))] fun a h36 => k19 _ _ ?_
 refine V.seq fun K37 k38 => ?_
 refine V.sr h36 [(3, .bs hB_32 1 [.slice (some ⟨gA, 0, none⟩) T.a.length T.a.length, .slice none 0 0])] 33 35 [(36, .agg #[.slice (some ⟨gA, 0, none⟩) T.a.length T.a.length, .slice none 0 0]), (37, .int .i64 0)] fun a h41 => ?_
 refine V.block ?_
 refine V.loopR 3 ?_
 refine V.rnd ?_
 refine V.sr h41 [] 1 0 [(38, .bool true)] fun a h44 => ?_
 refine V.seq fun K45 k46 => ?_
 refine V.ct h44 ?_
 refine V.skip ?_
 refine V.then_n (k46 _ _ ?_)
 refine V.seq fun K47 k48 => ?_
 refine V.block ?_
 refine V.sr h44 [] 39 40 [(6, .int .i64 0), (7, .slice (some ⟨gA, 0, none⟩) T.a.length T.a.length)] fun a h51 => ?_
 refine V.seq fun K52 k53 => ?_
 refine V.sr h51 [] 41 41 [(42, .bool false)] fun a h56 => ?_
 refine V.cf h56 ?_
 refine V.skip ?_
 refine V.then_n (k53 _ _ ?_)
 refine V.seq fun K57 k58 => ?_
 refine V.pl [([0,1,2,3,5,6],some (4,[])),([7],some (8,[])),([],none)] fun w59 hF60 hsw59 => ?_
 have hP_61 := hP_31.tr0 hF60
 have hC_63 := hC_33.fr0 hF60
 have hSa_64 := hSa_34.fr0 hF60
 have hB29_65 := hB29.fr0 hF60
 refine V.pe h56 [] 43 48 [(44, .int .i64 0), (46, .int .i64 ((T.a.length : Nat) : Int)), (49, .pointer (some ⟨b27, 1, none⟩))] fun a h66 => ?_
 refine V.go (V.mks (enc := idV) (T.a.length) (.slice none 0 0) nilS 24 ((h66.e (v := (.int .i64 ((T.a.length : Nat) : Int)))).trans (V.int_eq (by omega))) ((h66.e (v := (.int .i64 ((T.a.length : Nat) : Int)))).trans (V.int_eq (by omega))) (by kernel_rfl) info94 rfl rfl (by omega) (by omega) ?_)
 intro w68 b67 heb67 hR69 hF70
 have hsb67 := hR69.lt
 have hP_71 := hP_61.tr0 hF70
 have hC_73 := hC_63.fr0 hF70
 have hSa_74 := hSa_64.fr0 hF70
 have hB29_75 := hB29_65.fr0 hF70
 refine V.pt h66 fun a h76 => ?_
 refine V.eh trivial ?_
 refine V.pe h76 [] 1 0 [(50, .pointer (some ⟨b27, 1, none⟩))] fun a h77 => ?_
 refine V.go (V.stn b27 1 (.slice (some ⟨b67, 0, none⟩) T.a.length T.a.length) [.slice (some ⟨b67, 0, none⟩) T.a.length T.a.length] h77.e h77.e rfl rfl (by kernel_rfl) hB29_75 (by simp) [.int .u64 (T.seed : Int), .slice (some ⟨b67, 0, none⟩) T.a.length T.a.length, .slice none 0 0, .int .i64 (T.moved : Int), .int .i64 (T.n : Int)] rfl ?_)
 intro w78 hB79 hF80 hsw78
 have hP_81 := hP_71.tr1 hF80 (by first | exact .inr (by omega) | exact .inl rfl)
 have hC_83 := hC_73.fr1 hF80 (by omega)
 have hSa_84 := hSa_74.fr hF80 (by simp <;> omega)
 have hR69_85 := hR69.fr1 hF80 (by omega)
 refine V.eh trivial ?_
 refine V.pz h77 [] 1 0 [] fun a h86 => k58 _ _ ?_
 have h87 := h86.only [(1, .func (.func 33) #[] #[.pointer (some ⟨cb, 0, none⟩)]), (5, .pointer (some ⟨b27, 0, none⟩)), (6, .int .i64 0), (7, .slice (some ⟨gA, 0, none⟩) T.a.length T.a.length), (36, .agg #[.slice (some ⟨gA, 0, none⟩) T.a.length T.a.length, .slice none 0 0]), (37, .int .i64 0)]
 refine V.seq fun K88 k89 => ?_
 have hK0A : Bks S.itI w78 93 (fun k => w.heap.size ≤ k) [b27, b67, cb] (List.replicate (T.a.length) nilS ++ []) (List.replicate (T.a.length) [] ++ []) := by rw [List.append_nil, List.append_nil]; exact Bks.nil _ _ _ _ (by intro k hk; simp only [List.mem_cons, List.not_mem_nil, or_false] at hk; rcases hk with rfl | rfl | rfl <;> omega) _
 refine V.rr h87 [] 1 0 [(51, .slice (some ⟨gA, 0, none⟩) T.a.length T.a.length), (52, .int .i64 ((T.a.length : Nat) : Int)), (53, .int .i64 0)] fun a h90 => ?_
 refine V.then_n (k89 _ _ ?_)
 refine V.block ?_
 refine V.loop4 (fun (iA : Nat) (vbA : List Value) (xbA : List (List (ByteArray × ByteArray))) (ncA : Nat) a_ w_ => En 96 [] a_ [(1, .func (.func 33) #[] #[.pointer (some ⟨cb, 0, none⟩)]), (5, .pointer (some ⟨b27, 0, none⟩)), (6, .int .i64 0), (36, .agg #[.slice (some ⟨gA, 0, none⟩) T.a.length T.a.length, .slice none 0 0]), (37, .int .i64 0), (51, .slice (some ⟨gA, 0, none⟩) T.a.length T.a.length), (52, .int .i64 ((T.a.length : Nat) : Int)), (53, .int .i64 ((iA : Nat) : Int))] ∧ Row idV w_ b67 vbA 94 ∧ Bks S.itI w_ 93 (fun k => w.heap.size ≤ k) (b27 :: b67 :: cb :: []) (vbA ++ []) (xbA ++ []) ∧ Blk w_ cb [.int .i64 ((ncA : Nat) : Int)] 3 ∧ FrP (fun k => k = cb) w w_ ∧ SlR (Rp.slice itI) (fun k => k < w.heap.size ∧ k ≠ cb) w_ (.slice (some ⟨gA, 0, none⟩) T.a.length T.a.length) T.a ∧ Blk w_ b27 [.int .u64 (T.seed : Int), .slice (some ⟨b67, 0, none⟩) T.a.length T.a.length, .slice none 0 0, .int .i64 (T.moved : Int), .int .i64 (T.n : Int)] 91 ∧ (iA ≤ T.a.length) ∧ (vbA.length = xbA.length) ∧ (xbA = mrow T.a iA 0) ∧ (ncA = 0 + (T.a.take iA).flatten.length)) (fun (iA : Nat) (vbA : List Value) (xbA : List (List (ByteArray × ByteArray))) (ncA : Nat) => T.a.length - iA) 0 (List.replicate (T.a.length) nilS) (List.replicate (T.a.length) [] : List (List (ByteArray × ByteArray))) 0 ?_ ?_
 ·
  refine ⟨(h90.eq 53 (v := (.int .i64 0)) (u := (.int .i64 ((0 : Nat) : Int))) (rfl)).only _, hR69_85, hK0A, hC_83, hP_81, hSa_84, hB79, (by omega), (by simp), (mrow_zero _).symm, (by simp)⟩
 ·
  rintro iA vbA xbA ncA a91 w92 ⟨h93, hRO_94, hK_95, hC_96, hP_97, hSa_98, hB79_99, hiA, hlbA, hxbA, hncA⟩
  have hlt100 := hRO_94.lt
  have hlt101 := hC_96.lt
  have hfs102 := hP_97.size
  have hlt103 := hB79_99.lt
  have hflA := take_flat_le T.a iA
  have hxlA : xbA.length = T.a.length := by rw [hxbA, mrow_len]
  refine V.sr h93 [] 1 0 [(54, .bool (decide (((iA : Nat) : Int) < ((T.a.length : Nat) : Int))))] fun a h106 => ?_
  refine V.seq fun K107 k108 => ?_
  refine V.cp h106 (((iA : Nat) : Int) < ((T.a.length : Nat) : Int)) (fun ht109 => ?_) (fun ht109 => ?_)
  ·
   refine V.skip ?_
   refine V.then_n (k108 _ _ ?_)
   refine V.seq fun K110 k111 => ?_
   refine V.block ?_
   obtain ⟨cs114, hok115, hE116⟩ := hSa_98.els rfl ((iA : Nat) : Int) (by omega) (by omega)
   obtain ⟨A117, c118, rfl, hS119⟩ := sl_open (d := T.a.getD iA []) hok115
   refine V.sr h106 [(1, .ix gA 0 T.a.length T.a.length .i64 ((iA : Nat) : Int) 1 rfl), (0, .l ⟨gA, 0 + ((iA : Nat) : Int).toNat * 1, none⟩ (.slice A117 ((T.a.getD iA []).length) c118) (hE116.at 0 rfl))] 55 57 [(8, .int .i64 ((iA : Nat) : Int)), (9, .slice A117 ((T.a.getD iA []).length) c118)] fun a h120 => ?_
   refine V.sr h120 [] 1 0 [(58, .slice A117 ((T.a.getD iA []).length) c118), (59, .int .i64 (((T.a.getD iA []).length : Nat) : Int)), (60, .int .i64 0)] fun a h123 => ?_
   refine V.block ?_
   refine V.loop4 (fun (jA : Nat) (vcA : List Value) (xcA : List (List (ByteArray × ByteArray))) (ndA : Nat) a_ w_ => En 96 [] a_ [(1, .func (.func 33) #[] #[.pointer (some ⟨cb, 0, none⟩)]), (5, .pointer (some ⟨b27, 0, none⟩)), (6, .int .i64 0), (8, .int .i64 ((iA : Nat) : Int)), (36, .agg #[.slice (some ⟨gA, 0, none⟩) T.a.length T.a.length, .slice none 0 0]), (37, .int .i64 0), (51, .slice (some ⟨gA, 0, none⟩) T.a.length T.a.length), (52, .int .i64 ((T.a.length : Nat) : Int)), (53, .int .i64 ((iA : Nat) : Int)), (58, .slice A117 ((T.a.getD iA []).length) c118), (59, .int .i64 (((T.a.getD iA []).length : Nat) : Int)), (60, .int .i64 ((jA : Nat) : Int))] ∧ Row idV w_ b67 vcA 94 ∧ Bks S.itI w_ 93 (fun k => w.heap.size ≤ k) (b27 :: b67 :: cb :: []) (vcA ++ []) (xcA ++ []) ∧ Blk w_ cb [.int .i64 ((ndA : Nat) : Int)] 3 ∧ FrP (fun k => k = cb) w w_ ∧ SlR (Rp.slice itI) (fun k => k < w.heap.size ∧ k ≠ cb) w_ (.slice (some ⟨gA, 0, none⟩) T.a.length T.a.length) T.a ∧ Blk w_ b27 [.int .u64 (T.seed : Int), .slice (some ⟨b67, 0, none⟩) T.a.length T.a.length, .slice none 0 0, .int .i64 (T.moved : Int), .int .i64 (T.n : Int)] 91 ∧ SlR itI (fun k => k < w.heap.size ∧ k ≠ cb) w_ (.slice A117 ((T.a.getD iA []).length) c118) (T.a.getD iA []) ∧ (jA ≤ (T.a.getD iA []).length) ∧ (vcA.length = xcA.length) ∧ (xcA = mrow T.a iA jA) ∧ (ndA = ncA + jA)) (fun (jA : Nat) (vcA : List Value) (xcA : List (List (ByteArray × ByteArray))) (ndA : Nat) => (T.a.getD iA []).length - jA) 0 vbA xbA ncA ?_ ?_
   ·
    refine ⟨(h123.eq 60 (v := (.int .i64 0)) (u := (.int .i64 ((0 : Nat) : Int))) (rfl)).only _, hRO_94, hK_95, hC_96, hP_97, hSa_98, hB79_99, hS119, (by omega), hlbA, hxbA, (by omega)⟩
   ·
    rintro jA vcA xcA ndA a124 w125 ⟨h126, hRO_127, hK_128, hC_129, hP_130, hSa_131, hB79_132, hS119_133, hjA, hlcA, hxcA, hndA⟩
    have hlt134 := hRO_127.lt
    have hlt135 := hC_129.lt
    have hfs136 := hP_130.size
    have hlt137 := hB79_132.lt
    have hxgA : (xcA.getD iA []).length = jA := by rw [hxcA]; exact mrow_getl (by omega) (by omega)
    have hxmA : xcA.length = T.a.length := by rw [hxcA, mrow_len]
    have htfA := take_flat (xs := T.a) (i := iA) (by omega)
    have htgA := take_flat_le T.a (iA + 1)
    refine V.sr h126 [] 1 0 [(61, .bool (decide (((jA : Nat) : Int) < (((T.a.getD iA []).length : Nat) : Int))))] fun a h140 => ?_
    refine V.seq fun K141 k142 => ?_
    refine V.cp h140 (((jA : Nat) : Int) < (((T.a.getD iA []).length : Nat) : Int)) (fun ht143 => ?_) (fun ht143 => ?_)
    ·
     refine V.skip ?_
     refine V.then_n (k142 _ _ ?_)
     refine V.seq fun K144 k145 => ?_
     refine V.block ?_
     obtain ⟨g148, o149, hA150, hA150l, hA150z⟩ := hS119_133.addr (by omega)
     obtain ⟨cs151, hok152, hE153⟩ := hS119_133.els hA150 ((jA : Nat) : Int) (by omega) (by omega)
     refine V.sg fun K146 k147 => ?_
     refine V.run h140 [(0, .ix g148 o149 ((T.a.getD iA []).length) c118 .i64 ((jA : Nat) : Int) 2 hA150)] 1 1 0 [(62, .pointer (some ⟨g148, o149 + ((jA : Nat) : Int).toNat * 2, none⟩))] fun a h154 => ?_
     obtain rfl : cs151 = [.string (at_ itI (T.a.getD iA []) ((jA : Nat) : Int)).1, .int .i64 (at_ itI (T.a.getD iA []) ((jA : Nat) : Int)).2] := hok152
     refine V.run h154 [(0, .ls ⟨g148, o149 + ((jA : Nat) : Int).toNat * 2, none⟩ [.string ((at_ itI (T.a.getD iA []) ((jA : Nat) : Int)).1), .int .i64 ((at_ itI (T.a.getD iA []) ((jA : Nat) : Int)).2)] (hE153.cells 0 _ rfl))] 1 1 0 [(63, .agg #[.string ((at_ itI (T.a.getD iA []) ((jA : Nat) : Int)).1), .int .i64 ((at_ itI (T.a.getD iA []) ((jA : Nat) : Int)).2)])] fun a h159 => ?_
     refine V.go (V.mk [] trivial (by kernel_rfl) [.string ⟨#[]⟩, .int .i64 0] 86 (fun b => .pointer (some ⟨b, 0, none⟩)) (by kernel_rfl) ?_)
     intro w156 b155 heb155 hB157 hF158 hsb155
     have hRO_160 := hRO_127.fr0 hF158
     have hK_161 := hK_128.alloc hF158 heb155 (by omega)
     have hC_162 := hC_129.fr0 hF158
     have hP_163 := hP_130.tr0 hF158
     have hSa_164 := hSa_131.fr0 hF158
     have hB79_165 := hB79_132.fr0 hF158
     have hS119_166 := hS119_133.fr0 hF158
     refine V.pt h159 fun a h168 => ?_
     refine V.go (V.stn b155 0 (.agg #[.string ((at_ itI (T.a.getD iA []) ((jA : Nat) : Int)).1), .int .i64 ((at_ itI (T.a.getD iA []) ((jA : Nat) : Int)).2)]) [.string ((at_ itI (T.a.getD iA []) ((jA : Nat) : Int)).1), .int .i64 ((at_ itI (T.a.getD iA []) ((jA : Nat) : Int)).2)] h168.e h168.e rfl rfl (by kernel_rfl) hB157 (by simp) [.string ((at_ itI (T.a.getD iA []) ((jA : Nat) : Int)).1), .int .i64 ((at_ itI (T.a.getD iA []) ((jA : Nat) : Int)).2)] rfl ?_)
     intro w169 hB170 hF171 hsw169
     have hRO_172 := hRO_160.fr1 hF171 (by omega)
     have hK_173 := hK_161.fr hF171 (by simp)
     have hC_174 := hC_162.fr1 hF171 (by omega)
     have hP_175 := hP_163.tr1 hF171 (by first | exact .inr (by omega) | exact .inl rfl)
     have hSa_176 := hSa_164.fr hF171 (by simp <;> omega)
     have hB79_177 := hB79_165.fr1 hF171 (by omega)
     have hS119_178 := hS119_166.fr hF171 (by simp <;> omega)
     refine V.nt (k147 _ _ ?_)
     have hkaA := (hks1 _ (by rw [List.flatten_append]; exact List.mem_append.2 (.inl (it_in (xs := T.a) (i := iA) (j := jA) (by omega) (by omega)))))
     refine V.pl [([0,1,2,3,4,5,6,7,8,9,10,11,12,13,14,15,16,17,18,19,20,21,22],some (23,[5,12,15,17])),([24],some (25,[5,12,15])),([],some (26,[5])),([27],some (28,[])),([],none)] fun w180 hF181 hsw180 => ?_
     have hRO_182 := hRO_172.fr0 hF181
     have hK_183 := hK_173.fr0 hF181
     have hC_184 := hC_174.fr0 hF181
     have hP_185 := hP_175.tr0 hF181
     have hSa_186 := hSa_176.fr0 hF181
     have hB79_187 := hB79_177.fr0 hF181
     have hS119_188 := hS119_178.fr0 hF181
     have hB170_190 := hB170.fr0 hF181
     obtain ⟨A191, c192, hv193⟩ := hK_183.getA hlcA (i := iA) (by omega) nilS
     have hS194 := hK_183.slA hlcA (i := iA) (by omega) hv193
     refine V.pe h168 [(5, .b hB79_187 1), (6, .b hB79_187 1), (1, .ix b67 0 T.a.length T.a.length .i64 ((iA : Nat) : Int) 1 rfl), (0, .l ⟨b67, 0 + ((iA : Nat) : Int).toNat * 1, none⟩ (.slice A191 ((xcA.getD iA []).length) c192) ((hRO_182.at iA nilS (by omega)).trans (congrArg some hv193))), (1, .b hB170_190 0), (2, .b hB170_190 0), (1, .b hB170_190 1)] 64 85 [(68, .pointer (some ⟨b27, 1, none⟩)), (69, .slice (some ⟨b67, 0, none⟩) T.a.length T.a.length), (70, .int .i64 ((iA : Nat) : Int)), (75, .pointer (some ⟨b27, 1, none⟩)), (78, .pointer (some ⟨b67, 0 + ((iA : Nat) : Int).toNat * 1, none⟩)), (79, .slice A191 ((xcA.getD iA []).length) c192), (80, .pointer (some ⟨b155, 0, none⟩)), (81, .string ((at_ itI (T.a.getD iA []) ((jA : Nat) : Int)).1)), (82, .func (.func 33) #[] #[.pointer (some ⟨cb, 0, none⟩)]), (84, .string ((at_ itI (T.a.getD iA []) ((jA : Nat) : Int)).1)), (86, .int .i64 ((at_ itI (T.a.getD iA []) ((jA : Nat) : Int)).2))] fun a h195 => ?_
     refine V.cl h195 (Go.Proofs.enters_of Try.func33 (by kernel_rfl) rfl) (mapf_any w180 cb ndA ((at_ itI (T.a.getD iA []) ((jA : Nat) : Int)).1) ((at_ itI (T.a.getD iA []) ((jA : Nat) : Int)).2) hC_184 (by omega) hkaA) ?_
     rintro _ w198 ⟨rfl, hC196, hF197⟩
     refine ⟨_, rfl, fun a h199 => ?_⟩
     have hsw198 := hF197.size
     have hRO_200 := hRO_182.fr1 hF197 (by omega)
     have hK_201 := hK_183.fr hF197 (by simp)
     have hP_202 := hP_185.tr1 hF197 (by first | exact .inr (by omega) | exact .inl rfl)
     have hSa_203 := hSa_186.fr hF197 (by simp <;> omega)
     have hB79_204 := hB79_187.fr1 hF197 (by omega)
     have hS119_205 := hS119_188.fr hF197 (by simp <;> omega)
     have hB170_207 := hB170_190.fr1 hF197 (by omega)
     refine V.eh ⟨(fun _ => held_blk (n := 1) (hx := (h195.e (v := (.pointer (some ⟨b27, 1, none⟩))))) hB79_187 hB79_204 (by kernel_rfl) rfl (by simp only [List.length]; omega)), (fun _ => held_blk (n := 1) (hx := (h195.e (v := (.pointer (some ⟨b27, 1, none⟩))))) hB79_187 hB79_204 (by kernel_rfl) rfl (by simp only [List.length]; omega)), (fun _ => held_row (hx := (h195.e (v := (.pointer (some ⟨b67, 0 + ((iA : Nat) : Int).toNat * 1, none⟩))))) hRO_182 hRO_200 (by kernel_rfl) (by omega)), (fun _ => held_blk (n := 1) (hx := (h195.e (v := (.pointer (some ⟨b155, 0, none⟩))))) hB170_190 hB170_207 (by kernel_rfl) rfl (by simp only [List.length]; omega))⟩ ?_
     refine V.pe h199 [] 1 0 [(88, .agg #[.string ((at_ itI (T.a.getD iA []) ((jA : Nat) : Int)).1), .string (bang ((at_ itI (T.a.getD iA []) ((jA : Nat) : Int)).1))])] fun a h208 => ?_
     refine V.go (V.mk [(88, .agg #[.string ((at_ itI (T.a.getD iA []) ((jA : Nat) : Int)).1), .string (bang ((at_ itI (T.a.getD iA []) ((jA : Nat) : Int)).1))])] ⟨h208.e, trivial⟩ (by kernel_rfl) [.string ((at_ itI (T.a.getD iA []) ((jA : Nat) : Int)).1), .string (bang ((at_ itI (T.a.getD iA []) ((jA : Nat) : Int)).1))] 93 (fun b => .slice (some ⟨b, 0, none⟩) 1 1) (by kernel_rfl) ?_)
     intro w210 b209 heb209 hB211 hF212 hsb209
     have hRO_213 := hRO_200.fr0 hF212
     have hK_214 := hK_201.alloc hF212 heb209 (by omega)
     have hP_215 := hP_202.tr0 hF212
     have hSa_216 := hSa_203.fr0 hF212
     have hB79_217 := hB79_204.fr0 hF212
     have hS119_218 := hS119_205.fr0 hF212
     have hC196_221 := hC196.fr0 hF212
     refine V.pt h208 fun a h222 => ?_
     refine V.eh ⟨(fun _ => held_blk (n := 1) (hx := (h208.e (v := (.pointer (some ⟨b27, 1, none⟩))))) hB79_204 hB79_217 (by kernel_rfl) rfl (by simp only [List.length]; omega)), (fun _ => held_blk (n := 1) (hx := (h208.e (v := (.pointer (some ⟨b27, 1, none⟩))))) hB79_204 hB79_217 (by kernel_rfl) rfl (by simp only [List.length]; omega)), (fun _ => held_row (hx := (h208.e (v := (.pointer (some ⟨b67, 0 + ((iA : Nat) : Int).toNat * 1, none⟩))))) hRO_200 hRO_213 (by kernel_rfl) (by omega))⟩ ?_
     refine V.pe h222 [] 1 0 [] fun a h223 => ?_
     refine V.go (V.appRA (R := S.itI) (ys := ([((at_ itI (T.a.getD iA []) ((jA : Nat) : Int)).1, bang ((at_ itI (T.a.getD iA []) ((jA : Nat) : Int)).1))])) (news := [.string ((at_ itI (T.a.getD iA []) ((jA : Nat) : Int)).1), .string (bang ((at_ itI (T.a.getD iA []) ((jA : Nat) : Int)).1))]) hK_214 hlcA (i := iA) (by omega) hv193 (h223.e (v := (.slice A191 ((xcA.getD iA []).length) c192))) ⟨b209, 0, none⟩ 1 1 (h223.e (v := (.slice (some ⟨b209, 0, none⟩) 1 1))) (by kernel_rfl) (info93) (by kernel_rfl) (by decide) rfl ⟨[.string ((at_ itI (T.a.getD iA []) ((jA : Nat) : Int)).1), .string (bang ((at_ itI (T.a.getD iA []) ((jA : Nat) : Int)).1))], [], rfl, rfl, rfl⟩ (blk_cells hB211 0 _ rfl) (by omega) (by decide) (by (try dsimp only); omega) ?_)
     intro A224 c225 w226 hK227 hF228 ho229
     have hsw226 := hF228.size
     have hRO_230 := hRO_213.fr hF228 (fun hm => (ho229 _ hm).1 (by simp))
     have hP_231 := hP_215.tr hF228 (fun k hk => .inr (by have h1 := (ho229 k hk).2; (try dsimp only at h1); omega))
     have hSa_232 := hSa_216.fr hF228 (fun k hk hz => by have h1 := (ho229 k hk).2; (try dsimp only at hz h1); omega)
     have hB79_233 := hB79_217.fr hF228 (fun hm => (ho229 _ hm).1 (by simp))
     have hS119_234 := hS119_218.fr hF228 (fun k hk hz => by have h1 := (ho229 k hk).2; (try dsimp only at hz h1); omega)
     have hC196_236 := hC196_221.fr hF228 (fun hm => (ho229 _ hm).1 (by simp))
     refine V.pt h223 fun a h237 => ?_
     refine V.eh (fun _ => held_blk (n := 1) (hx := (h223.e (v := (.pointer (some ⟨b27, 1, none⟩))))) hB79_217 hB79_233 (by kernel_rfl) rfl (by simp only [List.length]; omega)) ?_
     refine V.pe h237 [(0, .ix b67 0 T.a.length T.a.length .i64 ((iA : Nat) : Int) 1 rfl)] 1 0 [(91, .pointer (some ⟨b67, 0 + ((iA : Nat) : Int).toNat * 1, none⟩))] fun a h238 => ?_
     refine V.go (V.strow (enc := idV) b67 (((iA : Nat) : Int).toNat) (.slice A224 ((xcA.getD iA []).length + 1) c225) h238.e h238.e rfl rfl (by kernel_rfl) hRO_230 (by first | omega | (simp only [List.length_set, List.length_replicate]; omega)) ?_)
     intro w239 hR240 hF241 hsw239
     have hP_242 := hP_231.tr1 hF241 (by first | exact .inr (by omega) | exact .inl rfl)
     have hSa_243 := hSa_232.fr hF241 (by simp <;> omega)
     have hB79_244 := hB79_233.fr1 hF241 (by omega)
     have hS119_245 := hS119_234.fr hF241 (by simp <;> omega)
     have hC196_247 := hC196_236.fr1 hF241 (by omega)
     have hK227_248 := hK227.fr hF241 (by simp)
     refine V.eh trivial ?_
     refine V.pz h238 [] 1 0 [] fun a h249 => ?_
     refine V.blk_n ?_
     refine V.then_n (k145 _ _ ?_)
     refine V.rr h249 [(0, .i (((jA : Nat) : Int) + 1))] 92 92 [(60, .int .i64 (((jA : Nat) : Int) + 1))] fun a h250 => ?_
     refine V.then_n ?_
     refine ⟨jA + 1, vcA.set (((iA : Nat) : Int).toNat) (.slice A224 ((xcA.getD iA []).length + 1) c225), (xcA.set iA (xcA.getD iA [] ++ [((at_ itI (T.a.getD iA []) ((jA : Nat) : Int)).1, bang ((at_ itI (T.a.getD iA []) ((jA : Nat) : Int)).1))])), ndA + 1, by omega, ?_⟩
     refine ⟨(h250.eq 60 (v := (.int .i64 (((jA : Nat) : Int) + 1))) (u := (.int .i64 (((jA + 1) : Nat) : Int))) (V.int_eq (by omega))).only _, hR240, (hK227_248.sub (fun k hk => List.mem_cons_of_mem _ (List.mem_cons_of_mem _ (hk))) (fun k _ _ q => q)), hC196_247, hP_242, hSa_243, hB79_244, hS119_245, (by omega), (by simp [hlcA]), (by rw [hxcA]; exact mrow_item (by omega) (by omega)), (by omega)⟩
    ·
     refine V.exit (V.then_e (V.then_e (V.blk_hit (V.blk_n ?_))))
     refine V.then_n (k111 _ _ ?_)
     refine V.rr h140 [(0, .i (((iA : Nat) : Int) + 1))] 93 93 [(53, .int .i64 (((iA : Nat) : Int) + 1))] fun a h251 => ?_
     refine V.then_n ?_
     obtain rfl : jA = (T.a.getD iA []).length := by omega
     refine ⟨iA + 1, vcA, xcA, ndA, by omega, ?_⟩
     refine ⟨(h251.eq 53 (v := (.int .i64 (((iA : Nat) : Int) + 1))) (u := (.int .i64 (((iA + 1) : Nat) : Int))) (V.int_eq (by omega))).only _, hRO_127, hK_128, hC_129, hP_130, hSa_131, hB79_132, (by omega), hlcA, (hxcA.trans mrow_bucket), (by have := take_flat (xs := T.a) (i := iA) (by omega); omega)⟩
  ·
   refine V.exit (V.then_e (V.then_e (V.blk_hit (V.blk_n ?_))))
   refine V.then_n (k48 _ _ ?_)
   refine V.rr h106 [] 94 94 [(37, .int .i64 1)] fun a h252 => ?_
   refine V.then_n ?_
   refine V.rnd ?_
   have hiAe : iA = T.a.length := by omega
   refine V.sr h252 [] 1 0 [(38, .bool true)] fun a h255 => ?_
   refine V.seq fun K256 k257 => ?_
   refine V.ct h255 ?_
   refine V.skip ?_
   refine V.then_n (k257 _ _ ?_)
   refine V.seq fun K258 k259 => ?_
   refine V.block ?_
   refine V.sr h255 [] 39 40 [(6, .int .i64 1), (7, .slice none 0 0)] fun a h262 => ?_
   refine V.seq fun K263 k264 => ?_
   refine V.sr h262 [] 41 41 [(42, .bool true)] fun a h267 => ?_
   refine V.ct h267 ?_
   refine V.exit (V.then_e (V.blk_hit ?_))
   refine V.then_n (k259 _ _ ?_)
   refine V.rr h267 [] 94 94 [(37, .int .i64 2)] fun a h268 => ?_
   refine V.then_n ?_
   refine V.rnd ?_
   have hiAe : iA = T.a.length := by omega
   refine V.sr h268 [] 1 0 [(38, .bool false)] fun a h271 => ?_
   refine V.seq fun K272 k273 => ?_
   refine V.cf h271 ?_
   refine V.exit (V.then_e (V.then_e (V.blk_hit ?_)))
   refine V.then_n (k38 _ _ ?_)
   refine V.sr h271 [] 95 95 [(4, .pointer (some ⟨b27, 0, none⟩))] fun a h276 => ?_
   refine V.ret ?_
   refine V.r1 h276 (.pointer (some ⟨b27, 0, none⟩)) ?_
   have hKe := (hK_95.sub (fun k hk => hk) (fun k hk _ q => ⟨q, hk⟩) : Bks S.itI w92 93 (fun k => w.heap.size ≤ k ∧ k < w92.heap.size) _ _ _)
   have hiAe : iA = T.a.length := by omega
   have hxe : xbA = (mapTb T).a := by rw [hxbA, hiAe]; exact mrow_end _
   have hle : T.a.length = (mapTb T).a.length := by simp [mapTb]
   have hlto := hB79_99.lt
   have hltA := hRO_94.lt
   rw [List.append_nil, List.append_nil] at hKe
   have hce : ((ncA : Nat) : Int) = (T.n : Int) := by rw [hncA, hiAe, List.take_length]; rw [hb0, List.append_nil] at hcn; omega
   have hC9 := hC_96
   rw [hce] at hC9
   exact ⟨b27, rfl, ⟨mapTb_ok hok0, .inl ⟨by show T.b.map _ = []; rw [hb0]; rfl, b67, vbA, TabN.mk2 (T := mapTb T) hB79_99 hRO_94 hKe (by simp) (by omega) ⟨⟨by omega, hB79_99.lt⟩, by simp only [List.mem_singleton]; omega⟩ ⟨⟨by omega, hRO_94.lt⟩, by simp only [List.mem_singleton]; omega⟩ rfl hle rfl rfl hxe⟩⟩, hC9, hP_97⟩
theorem map_M (w : World) (H : Nat → Prop) (t gA gB cb : Nat) (vsA vsB : List Value) (T : Tb Int) (hok : T.Ok) (hT : TabM 67 87 86 itI w H [cb] t gA gB vsA vsB T) (hb : T.b ≠ []) (hC : Blk w cb [.int .i64 ((0 : Nat) : Int)] 3) (hks1 : ∀ x ∈ (T.a ++ T.b).flatten, x.1.size ≤ 100) : Calls Try.prog 32 #[.pointer (some ⟨t, 0, none⟩), .func (.func 33) #[] #[.pointer (some ⟨cb, 0, none⟩)]] w (fun e w' => ∃ u, e = .returned (.pointer (some ⟨u, 0, none⟩)) ∧ TabX 91 94 93 S.itI w' (fun k => w.heap.size ≤ k ∧ k < w'.heap.size) [cb] u (mapTb T) ∧ Blk w' cb [.int .i64 (T.n : Int)] 3 ∧ FrP (fun k => k = cb) w w') := by
 have hok0 := hok
 have hP := FrP.refl (fun k => k = cb) w
 have hltc := hC.lt
 obtain ⟨hsd, hpa, hla, hlb, hmv, hmz, hnn, hcn, hks⟩ := id hok
 obtain ⟨hB, hRA, hRB, hlA, hlB, hK, hne, hne2, hne3, hpt, hpg, hph⟩ := hT
 have hltg2 := hRB.lt
 have hltt := hB.lt
 have hltg := hRA.lt
 have hcs : T.a.flatten.length + T.b.flatten.length = T.n := by rw [List.flatten_append, List.length_append] at hcn; exact hcn
 have hSa : SlR (Rp.slice itI) (fun k => k < w.heap.size ∧ k ≠ cb) w (.slice (some ⟨gA, 0, none⟩) T.a.length T.a.length) T.a := rows_rd hRA hlA (by omega) ⟨hRA.lt, fun q => hpg.2 (by simp [q])⟩ (rdA hK hlA (by simp))
 have hSb : SlR (Rp.slice itI) (fun k => k < w.heap.size ∧ k ≠ cb) w (.slice (some ⟨gB, 0, none⟩) T.b.length T.b.length) T.b := rows_rd hRB hlB (by omega) ⟨hRB.lt, fun q => hph.2 (by simp [q])⟩ (rdB hK hlA (by simp))
 refine V.en 96 Try.func32 fun a h1 => ?_
 refine V.sr h1 [] 4 4 [] fun a h4 => ?_
 refine V.seq fun K5 k6 => ?_
 refine V.sg fun K7 k8 => ?_
 refine V.run h4 [] 1 1 0 [(12, .pointer (some ⟨t, 0, none⟩))] fun a h9 => ?_
 refine V.cl h9 (Go.Proofs.enters_of Try.func51 (by kernel_rfl) rfl) (made_M w t T.seed T.a.length T.b.length 0 gA gB (.int .i64 (T.moved : Int)) (.int .i64 (T.n : Int)) hB) ?_
 rintro _ w11 ⟨rfl, hF10⟩
 refine ⟨_, rfl, fun a h12 => ?_⟩
 have hsw11 := hF10.size
 have hP_13 := hP.tr0 hF10
 have hB_14 := hB.fr0 hF10
 have hC_15 := hC.fr0 hF10
 have hSa_16 := hSa.fr0 hF10
 have hSb_17 := hSb.fr0 hF10
 refine V.re h12 [] 14 17 [(18, .bool false)] fun a h18 => k8 _ _ ?_
 refine V.cf h18 ?_
 refine V.skip ?_
 refine V.then_n (k6 _ _ ?_)
 refine V.seq fun K19 k20 => ?_
 refine V.pl [([0,1,2,3,4,5,6,7,8,9,10,11,12],some (13,[])),([14],none)] fun w21 hF22 hsw21 => ?_
 have hP_23 := hP_13.tr0 hF22
 have hB_24 := hB_14.fr0 hF22
 have hC_25 := hC_15.fr0 hF22
 have hSa_26 := hSa_16.fr0 hF22
 have hSb_27 := hSb_17.fr0 hF22
 refine V.pe h18 [(3, .b hB_24 0), (3, .b hB_24 3), (3, .b hB_24 4)] 19 30 [(31, .agg #[.int .u64 (T.seed : Int), .slice none 0 0, .slice none 0 0, .int .i64 (T.moved : Int), .int .i64 (T.n : Int)])] fun a h28 => ?_
 refine V.go (V.mk [(31, .agg #[.int .u64 (T.seed : Int), .slice none 0 0, .slice none 0 0, .int .i64 (T.moved : Int), .int .i64 (T.n : Int)])] ⟨h28.e, trivial⟩ (by kernel_rfl) [.int .u64 (T.seed : Int), .slice none 0 0, .slice none 0 0, .int .i64 (T.moved : Int), .int .i64 (T.n : Int)] 91 (fun b => .pointer (some ⟨b, 0, none⟩)) (by kernel_rfl) ?_)
 intro w30 b29 heb29 hB31 hF32 hsb29
 have hP_33 := hP_23.tr0 hF32
 have hB_34 := hB_24.fr0 hF32
 have hC_35 := hC_25.fr0 hF32
 have hSa_36 := hSa_26.fr0 hF32
 have hSb_37 := hSb_27.fr0 hF32
 refine V.pt h28 fun a h38 => ?_
 refine V.eh trivial ?_
 refine V.pz h38 [] 1 0 [(5, .pointer (some ⟨b29, 0, none⟩))] fun a h39 => k20 _ _ ?_
 refine V.seq fun K40 k41 => ?_
 refine V.sr h39 [(3, .bs hB_34 1 [.slice (some ⟨gA, 0, none⟩) T.a.length T.a.length, .slice (some ⟨gB, 0, none⟩) T.b.length T.b.length])] 33 35 [(36, .agg #[.slice (some ⟨gA, 0, none⟩) T.a.length T.a.length, .slice (some ⟨gB, 0, none⟩) T.b.length T.b.length]), (37, .int .i64 0)] fun a h44 => ?_
 refine V.block ?_
 refine V.loopR 3 ?_
 refine V.rnd ?_
 refine V.sr h44 [] 1 0 [(38, .bool true)] fun a h47 => ?_
 refine V.seq fun K48 k49 => ?_
 refine V.ct h47 ?_
 refine V.skip ?_
 refine V.then_n (k49 _ _ ?_)
 refine V.seq fun K50 k51 => ?_
 refine V.block ?_
 refine V.sr h47 [] 39 40 [(6, .int .i64 0), (7, .slice (some ⟨gA, 0, none⟩) T.a.length T.a.length)] fun a h54 => ?_
 refine V.seq fun K55 k56 => ?_
 refine V.sr h54 [] 41 41 [(42, .bool false)] fun a h59 => ?_
 refine V.cf h59 ?_
 refine V.skip ?_
 refine V.then_n (k56 _ _ ?_)
 refine V.seq fun K60 k61 => ?_
 refine V.pl [([0,1,2,3,5,6],some (4,[])),([7],some (8,[])),([],none)] fun w62 hF63 hsw62 => ?_
 have hP_64 := hP_33.tr0 hF63
 have hC_66 := hC_35.fr0 hF63
 have hSa_67 := hSa_36.fr0 hF63
 have hSb_68 := hSb_37.fr0 hF63
 have hB31_69 := hB31.fr0 hF63
 refine V.pe h59 [] 43 48 [(44, .int .i64 0), (46, .int .i64 ((T.a.length : Nat) : Int)), (49, .pointer (some ⟨b29, 1, none⟩))] fun a h70 => ?_
 refine V.go (V.mks (enc := idV) (T.a.length) (.slice none 0 0) nilS 24 ((h70.e (v := (.int .i64 ((T.a.length : Nat) : Int)))).trans (V.int_eq (by omega))) ((h70.e (v := (.int .i64 ((T.a.length : Nat) : Int)))).trans (V.int_eq (by omega))) (by kernel_rfl) info94 rfl rfl (by omega) (by omega) ?_)
 intro w72 b71 heb71 hR73 hF74
 have hsb71 := hR73.lt
 have hP_75 := hP_64.tr0 hF74
 have hC_77 := hC_66.fr0 hF74
 have hSa_78 := hSa_67.fr0 hF74
 have hSb_79 := hSb_68.fr0 hF74
 have hB31_80 := hB31_69.fr0 hF74
 refine V.pt h70 fun a h81 => ?_
 refine V.eh trivial ?_
 refine V.pe h81 [] 1 0 [(50, .pointer (some ⟨b29, 1, none⟩))] fun a h82 => ?_
 refine V.go (V.stn b29 1 (.slice (some ⟨b71, 0, none⟩) T.a.length T.a.length) [.slice (some ⟨b71, 0, none⟩) T.a.length T.a.length] h82.e h82.e rfl rfl (by kernel_rfl) hB31_80 (by simp) [.int .u64 (T.seed : Int), .slice (some ⟨b71, 0, none⟩) T.a.length T.a.length, .slice none 0 0, .int .i64 (T.moved : Int), .int .i64 (T.n : Int)] rfl ?_)
 intro w83 hB84 hF85 hsw83
 have hP_86 := hP_75.tr1 hF85 (by first | exact .inr (by omega) | exact .inl rfl)
 have hC_88 := hC_77.fr1 hF85 (by omega)
 have hSa_89 := hSa_78.fr hF85 (by simp <;> omega)
 have hSb_90 := hSb_79.fr hF85 (by simp <;> omega)
 have hR73_91 := hR73.fr1 hF85 (by omega)
 refine V.eh trivial ?_
 refine V.pz h82 [] 1 0 [] fun a h92 => k61 _ _ ?_
 have h93 := h92.only [(1, .func (.func 33) #[] #[.pointer (some ⟨cb, 0, none⟩)]), (5, .pointer (some ⟨b29, 0, none⟩)), (6, .int .i64 0), (7, .slice (some ⟨gA, 0, none⟩) T.a.length T.a.length), (36, .agg #[.slice (some ⟨gA, 0, none⟩) T.a.length T.a.length, .slice (some ⟨gB, 0, none⟩) T.b.length T.b.length]), (37, .int .i64 0)]
 refine V.seq fun K94 k95 => ?_
 have hK0A : Bks S.itI w83 93 (fun k => w.heap.size ≤ k) [b29, b71, cb] (List.replicate (T.a.length) nilS ++ []) (List.replicate (T.a.length) [] ++ []) := by rw [List.append_nil, List.append_nil]; exact Bks.nil _ _ _ _ (by intro k hk; simp only [List.mem_cons, List.not_mem_nil, or_false] at hk; rcases hk with rfl | rfl | rfl <;> omega) _
 refine V.rr h93 [] 1 0 [(51, .slice (some ⟨gA, 0, none⟩) T.a.length T.a.length), (52, .int .i64 ((T.a.length : Nat) : Int)), (53, .int .i64 0)] fun a h96 => ?_
 refine V.then_n (k95 _ _ ?_)
 refine V.block ?_
 refine V.loop4 (fun (iA : Nat) (vbA : List Value) (xbA : List (List (ByteArray × ByteArray))) (ncA : Nat) a_ w_ => En 96 [] a_ [(1, .func (.func 33) #[] #[.pointer (some ⟨cb, 0, none⟩)]), (5, .pointer (some ⟨b29, 0, none⟩)), (6, .int .i64 0), (36, .agg #[.slice (some ⟨gA, 0, none⟩) T.a.length T.a.length, .slice (some ⟨gB, 0, none⟩) T.b.length T.b.length]), (37, .int .i64 0), (51, .slice (some ⟨gA, 0, none⟩) T.a.length T.a.length), (52, .int .i64 ((T.a.length : Nat) : Int)), (53, .int .i64 ((iA : Nat) : Int))] ∧ Row idV w_ b71 vbA 94 ∧ Bks S.itI w_ 93 (fun k => w.heap.size ≤ k) (b29 :: b71 :: cb :: []) (vbA ++ []) (xbA ++ []) ∧ Blk w_ cb [.int .i64 ((ncA : Nat) : Int)] 3 ∧ FrP (fun k => k = cb) w w_ ∧ SlR (Rp.slice itI) (fun k => k < w.heap.size ∧ k ≠ cb) w_ (.slice (some ⟨gA, 0, none⟩) T.a.length T.a.length) T.a ∧ SlR (Rp.slice itI) (fun k => k < w.heap.size ∧ k ≠ cb) w_ (.slice (some ⟨gB, 0, none⟩) T.b.length T.b.length) T.b ∧ Blk w_ b29 [.int .u64 (T.seed : Int), .slice (some ⟨b71, 0, none⟩) T.a.length T.a.length, .slice none 0 0, .int .i64 (T.moved : Int), .int .i64 (T.n : Int)] 91 ∧ (iA ≤ T.a.length) ∧ (vbA.length = xbA.length) ∧ (xbA = mrow T.a iA 0) ∧ (ncA = 0 + (T.a.take iA).flatten.length)) (fun (iA : Nat) (vbA : List Value) (xbA : List (List (ByteArray × ByteArray))) (ncA : Nat) => T.a.length - iA) 0 (List.replicate (T.a.length) nilS) (List.replicate (T.a.length) [] : List (List (ByteArray × ByteArray))) 0 ?_ ?_
 ·
  refine ⟨(h96.eq 53 (v := (.int .i64 0)) (u := (.int .i64 ((0 : Nat) : Int))) (rfl)).only _, hR73_91, hK0A, hC_88, hP_86, hSa_89, hSb_90, hB84, (by omega), (by simp), (mrow_zero _).symm, (by simp)⟩
 ·
  rintro iA vbA xbA ncA a97 w98 ⟨h99, hRO_100, hK_101, hC_102, hP_103, hSa_104, hSb_105, hB84_106, hiA, hlbA, hxbA, hncA⟩
  have hlt107 := hRO_100.lt
  have hlt108 := hC_102.lt
  have hfs109 := hP_103.size
  have hlt110 := hB84_106.lt
  have hflA := take_flat_le T.a iA
  have hxlA : xbA.length = T.a.length := by rw [hxbA, mrow_len]
  refine V.sr h99 [] 1 0 [(54, .bool (decide (((iA : Nat) : Int) < ((T.a.length : Nat) : Int))))] fun a h113 => ?_
  refine V.seq fun K114 k115 => ?_
  refine V.cp h113 (((iA : Nat) : Int) < ((T.a.length : Nat) : Int)) (fun ht116 => ?_) (fun ht116 => ?_)
  ·
   refine V.skip ?_
   refine V.then_n (k115 _ _ ?_)
   refine V.seq fun K117 k118 => ?_
   refine V.block ?_
   obtain ⟨cs121, hok122, hE123⟩ := hSa_104.els rfl ((iA : Nat) : Int) (by omega) (by omega)
   obtain ⟨A124, c125, rfl, hS126⟩ := sl_open (d := T.a.getD iA []) hok122
   refine V.sr h113 [(1, .ix gA 0 T.a.length T.a.length .i64 ((iA : Nat) : Int) 1 rfl), (0, .l ⟨gA, 0 + ((iA : Nat) : Int).toNat * 1, none⟩ (.slice A124 ((T.a.getD iA []).length) c125) (hE123.at 0 rfl))] 55 57 [(8, .int .i64 ((iA : Nat) : Int)), (9, .slice A124 ((T.a.getD iA []).length) c125)] fun a h127 => ?_
   refine V.sr h127 [] 1 0 [(58, .slice A124 ((T.a.getD iA []).length) c125), (59, .int .i64 (((T.a.getD iA []).length : Nat) : Int)), (60, .int .i64 0)] fun a h130 => ?_
   refine V.block ?_
   refine V.loop4 (fun (jA : Nat) (vcA : List Value) (xcA : List (List (ByteArray × ByteArray))) (ndA : Nat) a_ w_ => En 96 [] a_ [(1, .func (.func 33) #[] #[.pointer (some ⟨cb, 0, none⟩)]), (5, .pointer (some ⟨b29, 0, none⟩)), (6, .int .i64 0), (8, .int .i64 ((iA : Nat) : Int)), (36, .agg #[.slice (some ⟨gA, 0, none⟩) T.a.length T.a.length, .slice (some ⟨gB, 0, none⟩) T.b.length T.b.length]), (37, .int .i64 0), (51, .slice (some ⟨gA, 0, none⟩) T.a.length T.a.length), (52, .int .i64 ((T.a.length : Nat) : Int)), (53, .int .i64 ((iA : Nat) : Int)), (58, .slice A124 ((T.a.getD iA []).length) c125), (59, .int .i64 (((T.a.getD iA []).length : Nat) : Int)), (60, .int .i64 ((jA : Nat) : Int))] ∧ Row idV w_ b71 vcA 94 ∧ Bks S.itI w_ 93 (fun k => w.heap.size ≤ k) (b29 :: b71 :: cb :: []) (vcA ++ []) (xcA ++ []) ∧ Blk w_ cb [.int .i64 ((ndA : Nat) : Int)] 3 ∧ FrP (fun k => k = cb) w w_ ∧ SlR (Rp.slice itI) (fun k => k < w.heap.size ∧ k ≠ cb) w_ (.slice (some ⟨gA, 0, none⟩) T.a.length T.a.length) T.a ∧ SlR (Rp.slice itI) (fun k => k < w.heap.size ∧ k ≠ cb) w_ (.slice (some ⟨gB, 0, none⟩) T.b.length T.b.length) T.b ∧ Blk w_ b29 [.int .u64 (T.seed : Int), .slice (some ⟨b71, 0, none⟩) T.a.length T.a.length, .slice none 0 0, .int .i64 (T.moved : Int), .int .i64 (T.n : Int)] 91 ∧ SlR itI (fun k => k < w.heap.size ∧ k ≠ cb) w_ (.slice A124 ((T.a.getD iA []).length) c125) (T.a.getD iA []) ∧ (jA ≤ (T.a.getD iA []).length) ∧ (vcA.length = xcA.length) ∧ (xcA = mrow T.a iA jA) ∧ (ndA = ncA + jA)) (fun (jA : Nat) (vcA : List Value) (xcA : List (List (ByteArray × ByteArray))) (ndA : Nat) => (T.a.getD iA []).length - jA) 0 vbA xbA ncA ?_ ?_
   ·
    refine ⟨(h130.eq 60 (v := (.int .i64 0)) (u := (.int .i64 ((0 : Nat) : Int))) (rfl)).only _, hRO_100, hK_101, hC_102, hP_103, hSa_104, hSb_105, hB84_106, hS126, (by omega), hlbA, hxbA, (by omega)⟩
   ·
    rintro jA vcA xcA ndA a131 w132 ⟨h133, hRO_134, hK_135, hC_136, hP_137, hSa_138, hSb_139, hB84_140, hS126_141, hjA, hlcA, hxcA, hndA⟩
    have hlt142 := hRO_134.lt
    have hlt143 := hC_136.lt
    have hfs144 := hP_137.size
    have hlt145 := hB84_140.lt
    have hxgA : (xcA.getD iA []).length = jA := by rw [hxcA]; exact mrow_getl (by omega) (by omega)
    have hxmA : xcA.length = T.a.length := by rw [hxcA, mrow_len]
    have htfA := take_flat (xs := T.a) (i := iA) (by omega)
    have htgA := take_flat_le T.a (iA + 1)
    refine V.sr h133 [] 1 0 [(61, .bool (decide (((jA : Nat) : Int) < (((T.a.getD iA []).length : Nat) : Int))))] fun a h148 => ?_
    refine V.seq fun K149 k150 => ?_
    refine V.cp h148 (((jA : Nat) : Int) < (((T.a.getD iA []).length : Nat) : Int)) (fun ht151 => ?_) (fun ht151 => ?_)
    ·
     refine V.skip ?_
     refine V.then_n (k150 _ _ ?_)
     refine V.seq fun K152 k153 => ?_
     refine V.block ?_
     obtain ⟨g156, o157, hA158, hA158l, hA158z⟩ := hS126_141.addr (by omega)
     obtain ⟨cs159, hok160, hE161⟩ := hS126_141.els hA158 ((jA : Nat) : Int) (by omega) (by omega)
     refine V.sg fun K154 k155 => ?_
     refine V.run h148 [(0, .ix g156 o157 ((T.a.getD iA []).length) c125 .i64 ((jA : Nat) : Int) 2 hA158)] 1 1 0 [(62, .pointer (some ⟨g156, o157 + ((jA : Nat) : Int).toNat * 2, none⟩))] fun a h162 => ?_
     obtain rfl : cs159 = [.string (at_ itI (T.a.getD iA []) ((jA : Nat) : Int)).1, .int .i64 (at_ itI (T.a.getD iA []) ((jA : Nat) : Int)).2] := hok160
     refine V.run h162 [(0, .ls ⟨g156, o157 + ((jA : Nat) : Int).toNat * 2, none⟩ [.string ((at_ itI (T.a.getD iA []) ((jA : Nat) : Int)).1), .int .i64 ((at_ itI (T.a.getD iA []) ((jA : Nat) : Int)).2)] (hE161.cells 0 _ rfl))] 1 1 0 [(63, .agg #[.string ((at_ itI (T.a.getD iA []) ((jA : Nat) : Int)).1), .int .i64 ((at_ itI (T.a.getD iA []) ((jA : Nat) : Int)).2)])] fun a h167 => ?_
     refine V.go (V.mk [] trivial (by kernel_rfl) [.string ⟨#[]⟩, .int .i64 0] 86 (fun b => .pointer (some ⟨b, 0, none⟩)) (by kernel_rfl) ?_)
     intro w164 b163 heb163 hB165 hF166 hsb163
     have hRO_168 := hRO_134.fr0 hF166
     have hK_169 := hK_135.alloc hF166 heb163 (by omega)
     have hC_170 := hC_136.fr0 hF166
     have hP_171 := hP_137.tr0 hF166
     have hSa_172 := hSa_138.fr0 hF166
     have hSb_173 := hSb_139.fr0 hF166
     have hB84_174 := hB84_140.fr0 hF166
     have hS126_175 := hS126_141.fr0 hF166
     refine V.pt h167 fun a h177 => ?_
     refine V.go (V.stn b163 0 (.agg #[.string ((at_ itI (T.a.getD iA []) ((jA : Nat) : Int)).1), .int .i64 ((at_ itI (T.a.getD iA []) ((jA : Nat) : Int)).2)]) [.string ((at_ itI (T.a.getD iA []) ((jA : Nat) : Int)).1), .int .i64 ((at_ itI (T.a.getD iA []) ((jA : Nat) : Int)).2)] h177.e h177.e rfl rfl (by kernel_rfl) hB165 (by simp) [.string ((at_ itI (T.a.getD iA []) ((jA : Nat) : Int)).1), .int .i64 ((at_ itI (T.a.getD iA []) ((jA : Nat) : Int)).2)] rfl ?_)
     intro w178 hB179 hF180 hsw178
     have hRO_181 := hRO_168.fr1 hF180 (by omega)
     have hK_182 := hK_169.fr hF180 (by simp)
     have hC_183 := hC_170.fr1 hF180 (by omega)
     have hP_184 := hP_171.tr1 hF180 (by first | exact .inr (by omega) | exact .inl rfl)
     have hSa_185 := hSa_172.fr hF180 (by simp <;> omega)
     have hSb_186 := hSb_173.fr hF180 (by simp <;> omega)
     have hB84_187 := hB84_174.fr1 hF180 (by omega)
     have hS126_188 := hS126_175.fr hF180 (by simp <;> omega)
     refine V.nt (k155 _ _ ?_)
     have hkaA := (hks1 _ (by rw [List.flatten_append]; exact List.mem_append.2 (.inl (it_in (xs := T.a) (i := iA) (j := jA) (by omega) (by omega)))))
     refine V.pl [([0,1,2,3,4,5,6,7,8,9,10,11,12,13,14,15,16,17,18,19,20,21,22],some (23,[5,12,15,17])),([24],some (25,[5,12,15])),([],some (26,[5])),([27],some (28,[])),([],none)] fun w190 hF191 hsw190 => ?_
     have hRO_192 := hRO_181.fr0 hF191
     have hK_193 := hK_182.fr0 hF191
     have hC_194 := hC_183.fr0 hF191
     have hP_195 := hP_184.tr0 hF191
     have hSa_196 := hSa_185.fr0 hF191
     have hSb_197 := hSb_186.fr0 hF191
     have hB84_198 := hB84_187.fr0 hF191
     have hS126_199 := hS126_188.fr0 hF191
     have hB179_201 := hB179.fr0 hF191
     obtain ⟨A202, c203, hv204⟩ := hK_193.getA hlcA (i := iA) (by omega) nilS
     have hS205 := hK_193.slA hlcA (i := iA) (by omega) hv204
     refine V.pe h177 [(5, .b hB84_198 1), (6, .b hB84_198 1), (1, .ix b71 0 T.a.length T.a.length .i64 ((iA : Nat) : Int) 1 rfl), (0, .l ⟨b71, 0 + ((iA : Nat) : Int).toNat * 1, none⟩ (.slice A202 ((xcA.getD iA []).length) c203) ((hRO_192.at iA nilS (by omega)).trans (congrArg some hv204))), (1, .b hB179_201 0), (2, .b hB179_201 0), (1, .b hB179_201 1)] 64 85 [(68, .pointer (some ⟨b29, 1, none⟩)), (69, .slice (some ⟨b71, 0, none⟩) T.a.length T.a.length), (70, .int .i64 ((iA : Nat) : Int)), (75, .pointer (some ⟨b29, 1, none⟩)), (78, .pointer (some ⟨b71, 0 + ((iA : Nat) : Int).toNat * 1, none⟩)), (79, .slice A202 ((xcA.getD iA []).length) c203), (80, .pointer (some ⟨b163, 0, none⟩)), (81, .string ((at_ itI (T.a.getD iA []) ((jA : Nat) : Int)).1)), (82, .func (.func 33) #[] #[.pointer (some ⟨cb, 0, none⟩)]), (84, .string ((at_ itI (T.a.getD iA []) ((jA : Nat) : Int)).1)), (86, .int .i64 ((at_ itI (T.a.getD iA []) ((jA : Nat) : Int)).2))] fun a h206 => ?_
     refine V.cl h206 (Go.Proofs.enters_of Try.func33 (by kernel_rfl) rfl) (mapf_any w190 cb ndA ((at_ itI (T.a.getD iA []) ((jA : Nat) : Int)).1) ((at_ itI (T.a.getD iA []) ((jA : Nat) : Int)).2) hC_194 (by omega) hkaA) ?_
     rintro _ w209 ⟨rfl, hC207, hF208⟩
     refine ⟨_, rfl, fun a h210 => ?_⟩
     have hsw209 := hF208.size
     have hRO_211 := hRO_192.fr1 hF208 (by omega)
     have hK_212 := hK_193.fr hF208 (by simp)
     have hP_213 := hP_195.tr1 hF208 (by first | exact .inr (by omega) | exact .inl rfl)
     have hSa_214 := hSa_196.fr hF208 (by simp <;> omega)
     have hSb_215 := hSb_197.fr hF208 (by simp <;> omega)
     have hB84_216 := hB84_198.fr1 hF208 (by omega)
     have hS126_217 := hS126_199.fr hF208 (by simp <;> omega)
     have hB179_219 := hB179_201.fr1 hF208 (by omega)
     refine V.eh ⟨(fun _ => held_blk (n := 1) (hx := (h206.e (v := (.pointer (some ⟨b29, 1, none⟩))))) hB84_198 hB84_216 (by kernel_rfl) rfl (by simp only [List.length]; omega)), (fun _ => held_blk (n := 1) (hx := (h206.e (v := (.pointer (some ⟨b29, 1, none⟩))))) hB84_198 hB84_216 (by kernel_rfl) rfl (by simp only [List.length]; omega)), (fun _ => held_row (hx := (h206.e (v := (.pointer (some ⟨b71, 0 + ((iA : Nat) : Int).toNat * 1, none⟩))))) hRO_192 hRO_211 (by kernel_rfl) (by omega)), (fun _ => held_blk (n := 1) (hx := (h206.e (v := (.pointer (some ⟨b163, 0, none⟩))))) hB179_201 hB179_219 (by kernel_rfl) rfl (by simp only [List.length]; omega))⟩ ?_
     refine V.pe h210 [] 1 0 [(88, .agg #[.string ((at_ itI (T.a.getD iA []) ((jA : Nat) : Int)).1), .string (bang ((at_ itI (T.a.getD iA []) ((jA : Nat) : Int)).1))])] fun a h220 => ?_
     refine V.go (V.mk [(88, .agg #[.string ((at_ itI (T.a.getD iA []) ((jA : Nat) : Int)).1), .string (bang ((at_ itI (T.a.getD iA []) ((jA : Nat) : Int)).1))])] ⟨h220.e, trivial⟩ (by kernel_rfl) [.string ((at_ itI (T.a.getD iA []) ((jA : Nat) : Int)).1), .string (bang ((at_ itI (T.a.getD iA []) ((jA : Nat) : Int)).1))] 93 (fun b => .slice (some ⟨b, 0, none⟩) 1 1) (by kernel_rfl) ?_)
     intro w222 b221 heb221 hB223 hF224 hsb221
     have hRO_225 := hRO_211.fr0 hF224
     have hK_226 := hK_212.alloc hF224 heb221 (by omega)
     have hP_227 := hP_213.tr0 hF224
     have hSa_228 := hSa_214.fr0 hF224
     have hSb_229 := hSb_215.fr0 hF224
     have hB84_230 := hB84_216.fr0 hF224
     have hS126_231 := hS126_217.fr0 hF224
     have hC207_234 := hC207.fr0 hF224
     refine V.pt h220 fun a h235 => ?_
     refine V.eh ⟨(fun _ => held_blk (n := 1) (hx := (h220.e (v := (.pointer (some ⟨b29, 1, none⟩))))) hB84_216 hB84_230 (by kernel_rfl) rfl (by simp only [List.length]; omega)), (fun _ => held_blk (n := 1) (hx := (h220.e (v := (.pointer (some ⟨b29, 1, none⟩))))) hB84_216 hB84_230 (by kernel_rfl) rfl (by simp only [List.length]; omega)), (fun _ => held_row (hx := (h220.e (v := (.pointer (some ⟨b71, 0 + ((iA : Nat) : Int).toNat * 1, none⟩))))) hRO_211 hRO_225 (by kernel_rfl) (by omega))⟩ ?_
     refine V.pe h235 [] 1 0 [] fun a h236 => ?_
     refine V.go (V.appRA (R := S.itI) (ys := ([((at_ itI (T.a.getD iA []) ((jA : Nat) : Int)).1, bang ((at_ itI (T.a.getD iA []) ((jA : Nat) : Int)).1))])) (news := [.string ((at_ itI (T.a.getD iA []) ((jA : Nat) : Int)).1), .string (bang ((at_ itI (T.a.getD iA []) ((jA : Nat) : Int)).1))]) hK_226 hlcA (i := iA) (by omega) hv204 (h236.e (v := (.slice A202 ((xcA.getD iA []).length) c203))) ⟨b221, 0, none⟩ 1 1 (h236.e (v := (.slice (some ⟨b221, 0, none⟩) 1 1))) (by kernel_rfl) (info93) (by kernel_rfl) (by decide) rfl ⟨[.string ((at_ itI (T.a.getD iA []) ((jA : Nat) : Int)).1), .string (bang ((at_ itI (T.a.getD iA []) ((jA : Nat) : Int)).1))], [], rfl, rfl, rfl⟩ (blk_cells hB223 0 _ rfl) (by omega) (by decide) (by (try dsimp only); omega) ?_)
     intro A237 c238 w239 hK240 hF241 ho242
     have hsw239 := hF241.size
     have hRO_243 := hRO_225.fr hF241 (fun hm => (ho242 _ hm).1 (by simp))
     have hP_244 := hP_227.tr hF241 (fun k hk => .inr (by have h1 := (ho242 k hk).2; (try dsimp only at h1); omega))
     have hSa_245 := hSa_228.fr hF241 (fun k hk hz => by have h1 := (ho242 k hk).2; (try dsimp only at hz h1); omega)
     have hSb_246 := hSb_229.fr hF241 (fun k hk hz => by have h1 := (ho242 k hk).2; (try dsimp only at hz h1); omega)
     have hB84_247 := hB84_230.fr hF241 (fun hm => (ho242 _ hm).1 (by simp))
     have hS126_248 := hS126_231.fr hF241 (fun k hk hz => by have h1 := (ho242 k hk).2; (try dsimp only at hz h1); omega)
     have hC207_250 := hC207_234.fr hF241 (fun hm => (ho242 _ hm).1 (by simp))
     refine V.pt h236 fun a h251 => ?_
     refine V.eh (fun _ => held_blk (n := 1) (hx := (h236.e (v := (.pointer (some ⟨b29, 1, none⟩))))) hB84_230 hB84_247 (by kernel_rfl) rfl (by simp only [List.length]; omega)) ?_
     refine V.pe h251 [(0, .ix b71 0 T.a.length T.a.length .i64 ((iA : Nat) : Int) 1 rfl)] 1 0 [(91, .pointer (some ⟨b71, 0 + ((iA : Nat) : Int).toNat * 1, none⟩))] fun a h252 => ?_
     refine V.go (V.strow (enc := idV) b71 (((iA : Nat) : Int).toNat) (.slice A237 ((xcA.getD iA []).length + 1) c238) h252.e h252.e rfl rfl (by kernel_rfl) hRO_243 (by first | omega | (simp only [List.length_set, List.length_replicate]; omega)) ?_)
     intro w253 hR254 hF255 hsw253
     have hP_256 := hP_244.tr1 hF255 (by first | exact .inr (by omega) | exact .inl rfl)
     have hSa_257 := hSa_245.fr hF255 (by simp <;> omega)
     have hSb_258 := hSb_246.fr hF255 (by simp <;> omega)
     have hB84_259 := hB84_247.fr1 hF255 (by omega)
     have hS126_260 := hS126_248.fr hF255 (by simp <;> omega)
     have hC207_262 := hC207_250.fr1 hF255 (by omega)
     have hK240_263 := hK240.fr hF255 (by simp)
     refine V.eh trivial ?_
     refine V.pz h252 [] 1 0 [] fun a h264 => ?_
     refine V.blk_n ?_
     refine V.then_n (k153 _ _ ?_)
     refine V.rr h264 [(0, .i (((jA : Nat) : Int) + 1))] 92 92 [(60, .int .i64 (((jA : Nat) : Int) + 1))] fun a h265 => ?_
     refine V.then_n ?_
     refine ⟨jA + 1, vcA.set (((iA : Nat) : Int).toNat) (.slice A237 ((xcA.getD iA []).length + 1) c238), (xcA.set iA (xcA.getD iA [] ++ [((at_ itI (T.a.getD iA []) ((jA : Nat) : Int)).1, bang ((at_ itI (T.a.getD iA []) ((jA : Nat) : Int)).1))])), ndA + 1, by omega, ?_⟩
     refine ⟨(h265.eq 60 (v := (.int .i64 (((jA : Nat) : Int) + 1))) (u := (.int .i64 (((jA + 1) : Nat) : Int))) (V.int_eq (by omega))).only _, hR254, (hK240_263.sub (fun k hk => List.mem_cons_of_mem _ (List.mem_cons_of_mem _ (hk))) (fun k _ _ q => q)), hC207_262, hP_256, hSa_257, hSb_258, hB84_259, hS126_260, (by omega), (by simp [hlcA]), (by rw [hxcA]; exact mrow_item (by omega) (by omega)), (by omega)⟩
    ·
     refine V.exit (V.then_e (V.then_e (V.blk_hit (V.blk_n ?_))))
     refine V.then_n (k118 _ _ ?_)
     refine V.rr h148 [(0, .i (((iA : Nat) : Int) + 1))] 93 93 [(53, .int .i64 (((iA : Nat) : Int) + 1))] fun a h266 => ?_
     refine V.then_n ?_
     obtain rfl : jA = (T.a.getD iA []).length := by omega
     refine ⟨iA + 1, vcA, xcA, ndA, by omega, ?_⟩
     refine ⟨(h266.eq 53 (v := (.int .i64 (((iA : Nat) : Int) + 1))) (u := (.int .i64 (((iA + 1) : Nat) : Int))) (V.int_eq (by omega))).only _, hRO_134, hK_135, hC_136, hP_137, hSa_138, hSb_139, hB84_140, (by omega), hlcA, (hxcA.trans mrow_bucket), (by have := take_flat (xs := T.a) (i := iA) (by omega); omega)⟩
  ·
   refine V.exit (V.then_e (V.then_e (V.blk_hit (V.blk_n ?_))))
   refine V.then_n (k51 _ _ ?_)
   refine V.rr h113 [] 94 94 [(37, .int .i64 1)] fun a h267 => ?_
   refine V.then_n ?_
   refine V.rnd ?_
   have hiAe : iA = T.a.length := by omega
   refine V.sr h267 [] 1 0 [(38, .bool true)] fun a h270 => ?_
   refine V.seq fun K271 k272 => ?_
   refine V.ct h270 ?_
   refine V.skip ?_
   refine V.then_n (k272 _ _ ?_)
   refine V.seq fun K273 k274 => ?_
   refine V.block ?_
   refine V.sr h270 [] 39 40 [(6, .int .i64 1), (7, .slice (some ⟨gB, 0, none⟩) T.b.length T.b.length)] fun a h277 => ?_
   refine V.seq fun K278 k279 => ?_
   refine V.sr h277 [] 41 41 [(42, .bool false)] fun a h282 => ?_
   refine V.cf h282 ?_
   refine V.skip ?_
   refine V.then_n (k279 _ _ ?_)
   refine V.seq fun K283 k284 => ?_
   refine V.pl [([0,1,2,3,5,6],some (4,[])),([7],some (8,[])),([],none)] fun w285 hF286 hsw285 => ?_
   have hRO_287 := hRO_100.fr0 hF286
   have hK_288 := hK_101.fr0 hF286
   have hC_289 := hC_102.fr0 hF286
   have hP_290 := hP_103.tr0 hF286
   have hSa_291 := hSa_104.fr0 hF286
   have hSb_292 := hSb_105.fr0 hF286
   have hB84_293 := hB84_106.fr0 hF286
   refine V.pe h282 [] 43 48 [(44, .int .i64 1), (46, .int .i64 ((T.b.length : Nat) : Int)), (49, .pointer (some ⟨b29, 1, none⟩))] fun a h294 => ?_
   refine V.go (V.mks (enc := idV) (T.b.length) (.slice none 0 0) nilS 24 ((h294.e (v := (.int .i64 ((T.b.length : Nat) : Int)))).trans (V.int_eq (by omega))) ((h294.e (v := (.int .i64 ((T.b.length : Nat) : Int)))).trans (V.int_eq (by omega))) (by kernel_rfl) info94 rfl rfl (by omega) (by omega) ?_)
   intro w296 b295 heb295 hR297 hF298
   have hsb295 := hR297.lt
   have hRO_299 := hRO_287.fr0 hF298
   have hK_300 := hK_288.alloc hF298 heb295 (by omega)
   have hC_301 := hC_289.fr0 hF298
   have hP_302 := hP_290.tr0 hF298
   have hSa_303 := hSa_291.fr0 hF298
   have hSb_304 := hSb_292.fr0 hF298
   have hB84_305 := hB84_293.fr0 hF298
   refine V.pt h294 fun a h306 => ?_
   refine V.eh trivial ?_
   refine V.pe h306 [] 1 0 [(50, .pointer (some ⟨b29, 2, none⟩))] fun a h307 => ?_
   refine V.go (V.stn b29 2 (.slice (some ⟨b295, 0, none⟩) T.b.length T.b.length) [.slice (some ⟨b295, 0, none⟩) T.b.length T.b.length] h307.e h307.e rfl rfl (by kernel_rfl) hB84_305 (by simp) [.int .u64 (T.seed : Int), .slice (some ⟨b71, 0, none⟩) T.a.length T.a.length, .slice (some ⟨b295, 0, none⟩) T.b.length T.b.length, .int .i64 (T.moved : Int), .int .i64 (T.n : Int)] rfl ?_)
   intro w308 hB309 hF310 hsw308
   have hRO_311 := hRO_299.fr1 hF310 (by omega)
   have hK_312 := hK_300.fr hF310 (by simp)
   have hC_313 := hC_301.fr1 hF310 (by omega)
   have hP_314 := hP_302.tr1 hF310 (by first | exact .inr (by omega) | exact .inl rfl)
   have hSa_315 := hSa_303.fr hF310 (by simp <;> omega)
   have hSb_316 := hSb_304.fr hF310 (by simp <;> omega)
   have hR297_317 := hR297.fr1 hF310 (by omega)
   refine V.eh trivial ?_
   refine V.pz h307 [] 1 0 [] fun a h318 => k284 _ _ ?_
   refine V.seq fun K319 k320 => ?_
   have hK0B := hK_312.addNil (T.b.length)
   simp only [List.append_nil] at hK0B
   refine V.rr h318 [] 1 0 [(51, .slice (some ⟨gB, 0, none⟩) T.b.length T.b.length), (52, .int .i64 ((T.b.length : Nat) : Int)), (53, .int .i64 0)] fun a h321 => ?_
   refine V.then_n (k320 _ _ ?_)
   refine V.block ?_
   refine V.loop4 (fun (iB : Nat) (vbB : List Value) (xbB : List (List (ByteArray × ByteArray))) (ncB : Nat) a_ w_ => En 96 [] a_ [(1, .func (.func 33) #[] #[.pointer (some ⟨cb, 0, none⟩)]), (5, .pointer (some ⟨b29, 0, none⟩)), (6, .int .i64 1), (36, .agg #[.slice (some ⟨gA, 0, none⟩) T.a.length T.a.length, .slice (some ⟨gB, 0, none⟩) T.b.length T.b.length]), (37, .int .i64 1), (51, .slice (some ⟨gB, 0, none⟩) T.b.length T.b.length), (52, .int .i64 ((T.b.length : Nat) : Int)), (53, .int .i64 ((iB : Nat) : Int))] ∧ Row idV w_ b295 vbB 94 ∧ Bks S.itI w_ 93 (fun k => w.heap.size ≤ k) (b295 :: b29 :: b71 :: cb :: []) (vbA ++ vbB) (xbA ++ xbB) ∧ Blk w_ cb [.int .i64 ((ncB : Nat) : Int)] 3 ∧ Row idV w_ b71 vbA 94 ∧ FrP (fun k => k = cb) w w_ ∧ SlR (Rp.slice itI) (fun k => k < w.heap.size ∧ k ≠ cb) w_ (.slice (some ⟨gA, 0, none⟩) T.a.length T.a.length) T.a ∧ SlR (Rp.slice itI) (fun k => k < w.heap.size ∧ k ≠ cb) w_ (.slice (some ⟨gB, 0, none⟩) T.b.length T.b.length) T.b ∧ Blk w_ b29 [.int .u64 (T.seed : Int), .slice (some ⟨b71, 0, none⟩) T.a.length T.a.length, .slice (some ⟨b295, 0, none⟩) T.b.length T.b.length, .int .i64 (T.moved : Int), .int .i64 (T.n : Int)] 91 ∧ (iB ≤ T.b.length) ∧ (vbB.length = xbB.length) ∧ (xbB = mrow T.b iB 0) ∧ (ncB = T.a.flatten.length + (T.b.take iB).flatten.length)) (fun (iB : Nat) (vbB : List Value) (xbB : List (List (ByteArray × ByteArray))) (ncB : Nat) => T.b.length - iB) 0 (List.replicate (T.b.length) nilS) (List.replicate (T.b.length) [] : List (List (ByteArray × ByteArray))) ncA ?_ ?_
   ·
    refine ⟨(h321.eq 53 (v := (.int .i64 0)) (u := (.int .i64 ((0 : Nat) : Int))) (rfl)).only _, hR297_317, hK0B, hC_313, hRO_311, hP_314, hSa_315, hSb_316, hB309, (by omega), (by simp), (mrow_zero _).symm, (by rw [hncA, hiAe, List.take_length]; simp)⟩
   ·
    rintro iB vbB xbB ncB a322 w323 ⟨h324, hRO_325, hK_326, hC_327, hRO_328, hP_329, hSa_330, hSb_331, hB309_332, hiB, hlbB, hxbB, hncB⟩
    have hlt333 := hRO_325.lt
    have hlt334 := hC_327.lt
    have hlt335 := hRO_328.lt
    have hfs336 := hP_329.size
    have hlt337 := hB309_332.lt
    have hflB := take_flat_le T.b iB
    have hxlB : xbB.length = T.b.length := by rw [hxbB, mrow_len]
    refine V.sr h324 [] 1 0 [(54, .bool (decide (((iB : Nat) : Int) < ((T.b.length : Nat) : Int))))] fun a h340 => ?_
    refine V.seq fun K341 k342 => ?_
    refine V.cp h340 (((iB : Nat) : Int) < ((T.b.length : Nat) : Int)) (fun ht343 => ?_) (fun ht343 => ?_)
    ·
     refine V.skip ?_
     refine V.then_n (k342 _ _ ?_)
     refine V.seq fun K344 k345 => ?_
     refine V.block ?_
     obtain ⟨cs348, hok349, hE350⟩ := hSb_331.els rfl ((iB : Nat) : Int) (by omega) (by omega)
     obtain ⟨A351, c352, rfl, hS353⟩ := sl_open (d := T.b.getD iB []) hok349
     refine V.sr h340 [(1, .ix gB 0 T.b.length T.b.length .i64 ((iB : Nat) : Int) 1 rfl), (0, .l ⟨gB, 0 + ((iB : Nat) : Int).toNat * 1, none⟩ (.slice A351 ((T.b.getD iB []).length) c352) (hE350.at 0 rfl))] 55 57 [(8, .int .i64 ((iB : Nat) : Int)), (9, .slice A351 ((T.b.getD iB []).length) c352)] fun a h354 => ?_
     refine V.sr h354 [] 1 0 [(58, .slice A351 ((T.b.getD iB []).length) c352), (59, .int .i64 (((T.b.getD iB []).length : Nat) : Int)), (60, .int .i64 0)] fun a h357 => ?_
     refine V.block ?_
     refine V.loop4 (fun (jB : Nat) (vcB : List Value) (xcB : List (List (ByteArray × ByteArray))) (ndB : Nat) a_ w_ => En 96 [] a_ [(1, .func (.func 33) #[] #[.pointer (some ⟨cb, 0, none⟩)]), (5, .pointer (some ⟨b29, 0, none⟩)), (6, .int .i64 1), (8, .int .i64 ((iB : Nat) : Int)), (36, .agg #[.slice (some ⟨gA, 0, none⟩) T.a.length T.a.length, .slice (some ⟨gB, 0, none⟩) T.b.length T.b.length]), (37, .int .i64 1), (51, .slice (some ⟨gB, 0, none⟩) T.b.length T.b.length), (52, .int .i64 ((T.b.length : Nat) : Int)), (53, .int .i64 ((iB : Nat) : Int)), (58, .slice A351 ((T.b.getD iB []).length) c352), (59, .int .i64 (((T.b.getD iB []).length : Nat) : Int)), (60, .int .i64 ((jB : Nat) : Int))] ∧ Row idV w_ b295 vcB 94 ∧ Bks S.itI w_ 93 (fun k => w.heap.size ≤ k) (b295 :: b29 :: b71 :: cb :: []) (vbA ++ vcB) (xbA ++ xcB) ∧ Blk w_ cb [.int .i64 ((ndB : Nat) : Int)] 3 ∧ Row idV w_ b71 vbA 94 ∧ FrP (fun k => k = cb) w w_ ∧ SlR (Rp.slice itI) (fun k => k < w.heap.size ∧ k ≠ cb) w_ (.slice (some ⟨gA, 0, none⟩) T.a.length T.a.length) T.a ∧ SlR (Rp.slice itI) (fun k => k < w.heap.size ∧ k ≠ cb) w_ (.slice (some ⟨gB, 0, none⟩) T.b.length T.b.length) T.b ∧ Blk w_ b29 [.int .u64 (T.seed : Int), .slice (some ⟨b71, 0, none⟩) T.a.length T.a.length, .slice (some ⟨b295, 0, none⟩) T.b.length T.b.length, .int .i64 (T.moved : Int), .int .i64 (T.n : Int)] 91 ∧ SlR itI (fun k => k < w.heap.size ∧ k ≠ cb) w_ (.slice A351 ((T.b.getD iB []).length) c352) (T.b.getD iB []) ∧ (jB ≤ (T.b.getD iB []).length) ∧ (vcB.length = xcB.length) ∧ (xcB = mrow T.b iB jB) ∧ (ndB = ncB + jB)) (fun (jB : Nat) (vcB : List Value) (xcB : List (List (ByteArray × ByteArray))) (ndB : Nat) => (T.b.getD iB []).length - jB) 0 vbB xbB ncB ?_ ?_
     ·
      refine ⟨(h357.eq 60 (v := (.int .i64 0)) (u := (.int .i64 ((0 : Nat) : Int))) (rfl)).only _, hRO_325, hK_326, hC_327, hRO_328, hP_329, hSa_330, hSb_331, hB309_332, hS353, (by omega), hlbB, hxbB, (by omega)⟩
     ·
      rintro jB vcB xcB ndB a358 w359 ⟨h360, hRO_361, hK_362, hC_363, hRO_364, hP_365, hSa_366, hSb_367, hB309_368, hS353_369, hjB, hlcB, hxcB, hndB⟩
      have hlt370 := hRO_361.lt
      have hlt371 := hC_363.lt
      have hlt372 := hRO_364.lt
      have hfs373 := hP_365.size
      have hlt374 := hB309_368.lt
      have hxgB : (xcB.getD iB []).length = jB := by rw [hxcB]; exact mrow_getl (by omega) (by omega)
      have hxmB : xcB.length = T.b.length := by rw [hxcB, mrow_len]
      have htfB := take_flat (xs := T.b) (i := iB) (by omega)
      have htgB := take_flat_le T.b (iB + 1)
      refine V.sr h360 [] 1 0 [(61, .bool (decide (((jB : Nat) : Int) < (((T.b.getD iB []).length : Nat) : Int))))] fun a h377 => ?_
      refine V.seq fun K378 k379 => ?_
      refine V.cp h377 (((jB : Nat) : Int) < (((T.b.getD iB []).length : Nat) : Int)) (fun ht380 => ?_) (fun ht380 => ?_)
      ·
       refine V.skip ?_
       refine V.then_n (k379 _ _ ?_)
       refine V.seq fun K381 k382 => ?_
       refine V.block ?_
       obtain ⟨g385, o386, hA387, hA387l, hA387z⟩ := hS353_369.addr (by omega)
       obtain ⟨cs388, hok389, hE390⟩ := hS353_369.els hA387 ((jB : Nat) : Int) (by omega) (by omega)
       refine V.sg fun K383 k384 => ?_
       refine V.run h377 [(0, .ix g385 o386 ((T.b.getD iB []).length) c352 .i64 ((jB : Nat) : Int) 2 hA387)] 1 1 0 [(62, .pointer (some ⟨g385, o386 + ((jB : Nat) : Int).toNat * 2, none⟩))] fun a h391 => ?_
       obtain rfl : cs388 = [.string (at_ itI (T.b.getD iB []) ((jB : Nat) : Int)).1, .int .i64 (at_ itI (T.b.getD iB []) ((jB : Nat) : Int)).2] := hok389
       refine V.run h391 [(0, .ls ⟨g385, o386 + ((jB : Nat) : Int).toNat * 2, none⟩ [.string ((at_ itI (T.b.getD iB []) ((jB : Nat) : Int)).1), .int .i64 ((at_ itI (T.b.getD iB []) ((jB : Nat) : Int)).2)] (hE390.cells 0 _ rfl))] 1 1 0 [(63, .agg #[.string ((at_ itI (T.b.getD iB []) ((jB : Nat) : Int)).1), .int .i64 ((at_ itI (T.b.getD iB []) ((jB : Nat) : Int)).2)])] fun a h396 => ?_
       refine V.go (V.mk [] trivial (by kernel_rfl) [.string ⟨#[]⟩, .int .i64 0] 86 (fun b => .pointer (some ⟨b, 0, none⟩)) (by kernel_rfl) ?_)
       intro w393 b392 heb392 hB394 hF395 hsb392
       have hRO_397 := hRO_361.fr0 hF395
       have hK_398 := hK_362.alloc hF395 heb392 (by omega)
       have hC_399 := hC_363.fr0 hF395
       have hRO_400 := hRO_364.fr0 hF395
       have hP_401 := hP_365.tr0 hF395
       have hSa_402 := hSa_366.fr0 hF395
       have hSb_403 := hSb_367.fr0 hF395
       have hB309_404 := hB309_368.fr0 hF395
       have hS353_405 := hS353_369.fr0 hF395
       refine V.pt h396 fun a h407 => ?_
       refine V.go (V.stn b392 0 (.agg #[.string ((at_ itI (T.b.getD iB []) ((jB : Nat) : Int)).1), .int .i64 ((at_ itI (T.b.getD iB []) ((jB : Nat) : Int)).2)]) [.string ((at_ itI (T.b.getD iB []) ((jB : Nat) : Int)).1), .int .i64 ((at_ itI (T.b.getD iB []) ((jB : Nat) : Int)).2)] h407.e h407.e rfl rfl (by kernel_rfl) hB394 (by simp) [.string ((at_ itI (T.b.getD iB []) ((jB : Nat) : Int)).1), .int .i64 ((at_ itI (T.b.getD iB []) ((jB : Nat) : Int)).2)] rfl ?_)
       intro w408 hB409 hF410 hsw408
       have hRO_411 := hRO_397.fr1 hF410 (by omega)
       have hK_412 := hK_398.fr hF410 (by simp)
       have hC_413 := hC_399.fr1 hF410 (by omega)
       have hRO_414 := hRO_400.fr1 hF410 (by omega)
       have hP_415 := hP_401.tr1 hF410 (by first | exact .inr (by omega) | exact .inl rfl)
       have hSa_416 := hSa_402.fr hF410 (by simp <;> omega)
       have hSb_417 := hSb_403.fr hF410 (by simp <;> omega)
       have hB309_418 := hB309_404.fr1 hF410 (by omega)
       have hS353_419 := hS353_405.fr hF410 (by simp <;> omega)
       refine V.nt (k384 _ _ ?_)
       have hkaB := (hks1 _ (by rw [List.flatten_append]; exact List.mem_append.2 (.inr (it_in (xs := T.b) (i := iB) (j := jB) (by omega) (by omega)))))
       refine V.pl [([0,1,2,3,4,5,6,7,8,9,10,11,12,13,14,15,16,17,18,19,20,21,22],some (23,[5,12,15,17])),([24],some (25,[5,12,15])),([],some (26,[5])),([27],some (28,[])),([],none)] fun w421 hF422 hsw421 => ?_
       have hRO_423 := hRO_411.fr0 hF422
       have hK_424 := hK_412.fr0 hF422
       have hC_425 := hC_413.fr0 hF422
       have hRO_426 := hRO_414.fr0 hF422
       have hP_427 := hP_415.tr0 hF422
       have hSa_428 := hSa_416.fr0 hF422
       have hSb_429 := hSb_417.fr0 hF422
       have hB309_430 := hB309_418.fr0 hF422
       have hS353_431 := hS353_419.fr0 hF422
       have hB409_433 := hB409.fr0 hF422
       obtain ⟨A434, c435, hv436⟩ := hK_424.getB hlbA (i := iB) (by omega) nilS
       have hS437 := hK_424.slB hlbA (i := iB) (by omega) hv436
       refine V.pe h407 [(5, .b hB309_430 2), (6, .b hB309_430 2), (1, .ix b295 0 T.b.length T.b.length .i64 ((iB : Nat) : Int) 1 rfl), (0, .l ⟨b295, 0 + ((iB : Nat) : Int).toNat * 1, none⟩ (.slice A434 ((xcB.getD iB []).length) c435) ((hRO_423.at iB nilS (by omega)).trans (congrArg some hv436))), (1, .b hB409_433 0), (2, .b hB409_433 0), (1, .b hB409_433 1)] 64 85 [(68, .pointer (some ⟨b29, 2, none⟩)), (69, .slice (some ⟨b295, 0, none⟩) T.b.length T.b.length), (70, .int .i64 ((iB : Nat) : Int)), (75, .pointer (some ⟨b29, 2, none⟩)), (78, .pointer (some ⟨b295, 0 + ((iB : Nat) : Int).toNat * 1, none⟩)), (79, .slice A434 ((xcB.getD iB []).length) c435), (80, .pointer (some ⟨b392, 0, none⟩)), (81, .string ((at_ itI (T.b.getD iB []) ((jB : Nat) : Int)).1)), (82, .func (.func 33) #[] #[.pointer (some ⟨cb, 0, none⟩)]), (84, .string ((at_ itI (T.b.getD iB []) ((jB : Nat) : Int)).1)), (86, .int .i64 ((at_ itI (T.b.getD iB []) ((jB : Nat) : Int)).2))] fun a h438 => ?_
       refine V.cl h438 (Go.Proofs.enters_of Try.func33 (by kernel_rfl) rfl) (mapf_any w421 cb ndB ((at_ itI (T.b.getD iB []) ((jB : Nat) : Int)).1) ((at_ itI (T.b.getD iB []) ((jB : Nat) : Int)).2) hC_425 (by omega) hkaB) ?_
       rintro _ w441 ⟨rfl, hC439, hF440⟩
       refine ⟨_, rfl, fun a h442 => ?_⟩
       have hsw441 := hF440.size
       have hRO_443 := hRO_423.fr1 hF440 (by omega)
       have hK_444 := hK_424.fr hF440 (by simp)
       have hRO_445 := hRO_426.fr1 hF440 (by omega)
       have hP_446 := hP_427.tr1 hF440 (by first | exact .inr (by omega) | exact .inl rfl)
       have hSa_447 := hSa_428.fr hF440 (by simp <;> omega)
       have hSb_448 := hSb_429.fr hF440 (by simp <;> omega)
       have hB309_449 := hB309_430.fr1 hF440 (by omega)
       have hS353_450 := hS353_431.fr hF440 (by simp <;> omega)
       have hB409_452 := hB409_433.fr1 hF440 (by omega)
       refine V.eh ⟨(fun _ => held_blk (n := 1) (hx := (h438.e (v := (.pointer (some ⟨b29, 2, none⟩))))) hB309_430 hB309_449 (by kernel_rfl) rfl (by simp only [List.length]; omega)), (fun _ => held_blk (n := 1) (hx := (h438.e (v := (.pointer (some ⟨b29, 2, none⟩))))) hB309_430 hB309_449 (by kernel_rfl) rfl (by simp only [List.length]; omega)), (fun _ => held_row (hx := (h438.e (v := (.pointer (some ⟨b295, 0 + ((iB : Nat) : Int).toNat * 1, none⟩))))) hRO_423 hRO_443 (by kernel_rfl) (by omega)), (fun _ => held_blk (n := 1) (hx := (h438.e (v := (.pointer (some ⟨b392, 0, none⟩))))) hB409_433 hB409_452 (by kernel_rfl) rfl (by simp only [List.length]; omega))⟩ ?_
       refine V.pe h442 [] 1 0 [(88, .agg #[.string ((at_ itI (T.b.getD iB []) ((jB : Nat) : Int)).1), .string (bang ((at_ itI (T.b.getD iB []) ((jB : Nat) : Int)).1))])] fun a h453 => ?_
       refine V.go (V.mk [(88, .agg #[.string ((at_ itI (T.b.getD iB []) ((jB : Nat) : Int)).1), .string (bang ((at_ itI (T.b.getD iB []) ((jB : Nat) : Int)).1))])] ⟨h453.e, trivial⟩ (by kernel_rfl) [.string ((at_ itI (T.b.getD iB []) ((jB : Nat) : Int)).1), .string (bang ((at_ itI (T.b.getD iB []) ((jB : Nat) : Int)).1))] 93 (fun b => .slice (some ⟨b, 0, none⟩) 1 1) (by kernel_rfl) ?_)
       intro w455 b454 heb454 hB456 hF457 hsb454
       have hRO_458 := hRO_443.fr0 hF457
       have hK_459 := hK_444.alloc hF457 heb454 (by omega)
       have hRO_460 := hRO_445.fr0 hF457
       have hP_461 := hP_446.tr0 hF457
       have hSa_462 := hSa_447.fr0 hF457
       have hSb_463 := hSb_448.fr0 hF457
       have hB309_464 := hB309_449.fr0 hF457
       have hS353_465 := hS353_450.fr0 hF457
       have hC439_468 := hC439.fr0 hF457
       refine V.pt h453 fun a h469 => ?_
       refine V.eh ⟨(fun _ => held_blk (n := 1) (hx := (h453.e (v := (.pointer (some ⟨b29, 2, none⟩))))) hB309_449 hB309_464 (by kernel_rfl) rfl (by simp only [List.length]; omega)), (fun _ => held_blk (n := 1) (hx := (h453.e (v := (.pointer (some ⟨b29, 2, none⟩))))) hB309_449 hB309_464 (by kernel_rfl) rfl (by simp only [List.length]; omega)), (fun _ => held_row (hx := (h453.e (v := (.pointer (some ⟨b295, 0 + ((iB : Nat) : Int).toNat * 1, none⟩))))) hRO_443 hRO_458 (by kernel_rfl) (by omega))⟩ ?_
       refine V.pe h469 [] 1 0 [] fun a h470 => ?_
       refine V.go (V.appRB (R := S.itI) (ys := ([((at_ itI (T.b.getD iB []) ((jB : Nat) : Int)).1, bang ((at_ itI (T.b.getD iB []) ((jB : Nat) : Int)).1))])) (news := [.string ((at_ itI (T.b.getD iB []) ((jB : Nat) : Int)).1), .string (bang ((at_ itI (T.b.getD iB []) ((jB : Nat) : Int)).1))]) hK_459 hlbA (i := iB) (by omega) hv436 (h470.e (v := (.slice A434 ((xcB.getD iB []).length) c435))) ⟨b454, 0, none⟩ 1 1 (h470.e (v := (.slice (some ⟨b454, 0, none⟩) 1 1))) (by kernel_rfl) (info93) (by kernel_rfl) (by decide) rfl ⟨[.string ((at_ itI (T.b.getD iB []) ((jB : Nat) : Int)).1), .string (bang ((at_ itI (T.b.getD iB []) ((jB : Nat) : Int)).1))], [], rfl, rfl, rfl⟩ (blk_cells hB456 0 _ rfl) (by omega) (by decide) (by (try dsimp only); omega) ?_)
       intro A471 c472 w473 hK474 hF475 ho476
       have hsw473 := hF475.size
       have hRO_477 := hRO_458.fr hF475 (fun hm => (ho476 _ hm).1 (by simp))
       have hRO_478 := hRO_460.fr hF475 (fun hm => (ho476 _ hm).1 (by simp))
       have hP_479 := hP_461.tr hF475 (fun k hk => .inr (by have h1 := (ho476 k hk).2; (try dsimp only at h1); omega))
       have hSa_480 := hSa_462.fr hF475 (fun k hk hz => by have h1 := (ho476 k hk).2; (try dsimp only at hz h1); omega)
       have hSb_481 := hSb_463.fr hF475 (fun k hk hz => by have h1 := (ho476 k hk).2; (try dsimp only at hz h1); omega)
       have hB309_482 := hB309_464.fr hF475 (fun hm => (ho476 _ hm).1 (by simp))
       have hS353_483 := hS353_465.fr hF475 (fun k hk hz => by have h1 := (ho476 k hk).2; (try dsimp only at hz h1); omega)
       have hC439_485 := hC439_468.fr hF475 (fun hm => (ho476 _ hm).1 (by simp))
       refine V.pt h470 fun a h486 => ?_
       refine V.eh (fun _ => held_blk (n := 1) (hx := (h470.e (v := (.pointer (some ⟨b29, 2, none⟩))))) hB309_464 hB309_482 (by kernel_rfl) rfl (by simp only [List.length]; omega)) ?_
       refine V.pe h486 [(0, .ix b295 0 T.b.length T.b.length .i64 ((iB : Nat) : Int) 1 rfl)] 1 0 [(91, .pointer (some ⟨b295, 0 + ((iB : Nat) : Int).toNat * 1, none⟩))] fun a h487 => ?_
       refine V.go (V.strow (enc := idV) b295 (((iB : Nat) : Int).toNat) (.slice A471 ((xcB.getD iB []).length + 1) c472) h487.e h487.e rfl rfl (by kernel_rfl) hRO_477 (by first | omega | (simp only [List.length_set, List.length_replicate]; omega)) ?_)
       intro w488 hR489 hF490 hsw488
       have hRO_491 := hRO_478.fr1 hF490 (by omega)
       have hP_492 := hP_479.tr1 hF490 (by first | exact .inr (by omega) | exact .inl rfl)
       have hSa_493 := hSa_480.fr hF490 (by simp <;> omega)
       have hSb_494 := hSb_481.fr hF490 (by simp <;> omega)
       have hB309_495 := hB309_482.fr1 hF490 (by omega)
       have hS353_496 := hS353_483.fr hF490 (by simp <;> omega)
       have hC439_498 := hC439_485.fr1 hF490 (by omega)
       have hK474_499 := hK474.fr hF490 (by simp)
       refine V.eh trivial ?_
       refine V.pz h487 [] 1 0 [] fun a h500 => ?_
       refine V.blk_n ?_
       refine V.then_n (k382 _ _ ?_)
       refine V.rr h500 [(0, .i (((jB : Nat) : Int) + 1))] 92 92 [(60, .int .i64 (((jB : Nat) : Int) + 1))] fun a h501 => ?_
       refine V.then_n ?_
       refine ⟨jB + 1, vcB.set (((iB : Nat) : Int).toNat) (.slice A471 ((xcB.getD iB []).length + 1) c472), (xcB.set iB (xcB.getD iB [] ++ [((at_ itI (T.b.getD iB []) ((jB : Nat) : Int)).1, bang ((at_ itI (T.b.getD iB []) ((jB : Nat) : Int)).1))])), ndB + 1, by omega, ?_⟩
       refine ⟨(h501.eq 60 (v := (.int .i64 (((jB : Nat) : Int) + 1))) (u := (.int .i64 (((jB + 1) : Nat) : Int))) (V.int_eq (by omega))).only _, hR489, (hK474_499.sub (fun k hk => List.mem_cons_of_mem _ (List.mem_cons_of_mem _ (hk))) (fun k _ _ q => q)), hC439_498, hRO_491, hP_492, hSa_493, hSb_494, hB309_495, hS353_496, (by omega), (by simp [hlcB]), (by rw [hxcB]; exact mrow_item (by omega) (by omega)), (by omega)⟩
      ·
       refine V.exit (V.then_e (V.then_e (V.blk_hit (V.blk_n ?_))))
       refine V.then_n (k345 _ _ ?_)
       refine V.rr h377 [(0, .i (((iB : Nat) : Int) + 1))] 93 93 [(53, .int .i64 (((iB : Nat) : Int) + 1))] fun a h502 => ?_
       refine V.then_n ?_
       obtain rfl : jB = (T.b.getD iB []).length := by omega
       refine ⟨iB + 1, vcB, xcB, ndB, by omega, ?_⟩
       refine ⟨(h502.eq 53 (v := (.int .i64 (((iB : Nat) : Int) + 1))) (u := (.int .i64 (((iB + 1) : Nat) : Int))) (V.int_eq (by omega))).only _, hRO_361, hK_362, hC_363, hRO_364, hP_365, hSa_366, hSb_367, hB309_368, (by omega), hlcB, (hxcB.trans mrow_bucket), (by have := take_flat (xs := T.b) (i := iB) (by omega); omega)⟩
    ·
     refine V.exit (V.then_e (V.then_e (V.blk_hit (V.blk_n ?_))))
     refine V.then_n (k274 _ _ ?_)
     refine V.rr h340 [] 94 94 [(37, .int .i64 2)] fun a h503 => ?_
     refine V.then_n ?_
     refine V.rnd ?_
     have hiAe : iA = T.a.length := by omega
     refine V.sr h503 [] 1 0 [(38, .bool false)] fun a h506 => ?_
     refine V.seq fun K507 k508 => ?_
     refine V.cf h506 ?_
     refine V.exit (V.then_e (V.then_e (V.blk_hit ?_)))
     refine V.then_n (k41 _ _ ?_)
     refine V.sr h506 [] 95 95 [(4, .pointer (some ⟨b29, 0, none⟩))] fun a h511 => ?_
     refine V.ret ?_
     refine V.r1 h511 (.pointer (some ⟨b29, 0, none⟩)) ?_
     have hKe := (hK_326.sub (fun k hk => hk) (fun k hk _ q => ⟨q, hk⟩) : Bks S.itI w323 93 (fun k => w.heap.size ≤ k ∧ k < w323.heap.size) _ _ _)
     have hiAe : iA = T.a.length := by omega
     have hxe : xbA = (mapTb T).a := by rw [hxbA, hiAe]; exact mrow_end _
     have hle : T.a.length = (mapTb T).a.length := by simp [mapTb]
     have hlto := hB309_332.lt
     have hltA := hRO_328.lt
     have hiBe : iB = T.b.length := by omega
     have hxf : xbB = (mapTb T).b := by rw [hxbB, hiBe]; exact mrow_end _
     have hlf : T.b.length = (mapTb T).b.length := by simp [mapTb]
     have hltB := hRO_325.lt
     have hce : ((ncB : Nat) : Int) = (T.n : Int) := by rw [hncB, hiBe, List.take_length]; rw [List.flatten_append, List.length_append] at hcn; omega
     have hC9 := hC_327
     rw [hce] at hC9
     exact ⟨b29, rfl, ⟨mapTb_ok hok0, .inr ⟨fun h => hb (List.map_eq_nil_iff.1 h), b71, b295, vbA, vbB, TabM_mk2 (T := mapTb T) hB309_332 hRO_328 hRO_325 hlbA hKe (by simp) (by omega) (by omega) (by omega) ⟨⟨by omega, hB309_332.lt⟩, by simp only [List.mem_singleton]; omega⟩ ⟨⟨by omega, hRO_328.lt⟩, by simp only [List.mem_singleton]; omega⟩ ⟨⟨by omega, hRO_325.lt⟩, by simp only [List.mem_singleton]; omega⟩ rfl hle rfl rfl hxe hxf hlf⟩⟩, hC9, hP_329⟩
/-! ### Keys that are short -/
def KP (l : List (List (ByteArray × Int))) : Prop := ∀ (i : Nat), ∀ x ∈ l.getD i [], x.1.size ≤ 100
theorem KP.set {l : List (List (ByteArray × Int))} (h : KP l) (i : Nat) {y : List (ByteArray × Int)} (hy : ∀ x ∈ y, x.1.size ≤ 100) : KP (l.set i y) := by
  intro j x hx
  by_cases hj : i = j
  · subst hj
    rcases Nat.lt_or_ge i l.length with hl | hl
    · rw [Go.V.getD_set_self hl] at hx; exact hy x hx
    · rw [List.set_eq_of_length_le hl] at hx; exact h i x hx
  · rw [Go.V.getD_set_ne hj] at hx; exact h j x hx
theorem KP.put {seed : Nat} {b : List (List (ByteArray × Int))} (h : KP b) {x : ByteArray × Int} (hx : x.1.size ≤ 100) : KP (putB seed b x) :=
  KP.set h _ fun y hy => by
    rcases List.mem_append.1 hy with hy | hy
    · exact h _ y hy
    · rw [List.mem_singleton.1 hy]; exact hx
theorem KP.puts {seed : Nat} : ∀ (l : List (ByteArray × Int)) {b : List (List (ByteArray × Int))}, KP b → (∀ x ∈ l, x.1.size ≤ 100) → KP (l.foldl (putB seed) b)
  | [], b, h, _ => h
  | x :: l, b, h, hl => KP.puts l (h.put (hl x (List.mem_cons_self ..))) fun y hy => hl y (List.mem_cons_of_mem _ hy)
theorem KP.nils (n : Nat) : KP (List.replicate n ([] : List (ByteArray × Int))) := by
  intro i x hx
  have : (List.replicate n ([] : List (ByteArray × Int))).getD i [] = [] := by
    rw [List.getD_eq_getElem?_getD, List.getElem?_replicate]; split <;> rfl
  rw [this] at hx; cases hx
theorem KP.nil : KP [] := KP.nils 0
theorem KP.setV {l : List (List (ByteArray × Int))} (h : KP l) (i j : Nat) (v : Int) : KP (setV l i j v) :=
  KP.set h _ fun y hy => by
    obtain ⟨q, hq⟩ := List.mem_iff_getElem?.1 hy
    rw [List.getElem?_modify] at hq
    obtain ⟨z, hz, rfl⟩ := Option.map_eq_some_iff.1 hq
    have := h i z (List.mem_of_getElem? hz)
    split <;> exact this
theorem KP.rm {l : List (List (ByteArray × Int))} (h : KP l) (i j : Nat) : KP (rmV l i j) := KP.set h _ fun y hy => h i y (List.mem_of_mem_eraseIdx hy)
def KT (T : Tb Int) : Prop := KP T.a ∧ KP T.b
theorem KT.new (seed : Nat) : KT (newT seed) := ⟨KP.nils 4, KP.nil⟩
theorem KT.start {T : Tb Int} (h : KP T.a) (n : Nat) : KT (startT T n) := ⟨h, KP.nils n⟩
theorem KT.step {T : Tb Int} (h : KT T) : KT (tbStep T) := by
  have hm : KT (movedT T) := ⟨KP.set h.1 _ fun x hx => (by cases hx), KP.puts _ h.2 (h.1 T.moved)⟩
  unfold tbStep
  split
  · exact h
  · split
    · exact hm
    · split
      · exact KT.start hm.2 _
      · exact ⟨hm.2, KP.nil⟩
theorem KT.put {T : Tb Int} (h : KT T) {k : ByteArray} (hk : k.size ≤ 100) (v : Int) : KT (putT T k v) := by
  have h1 := h.step
  unfold putT put1T
  split
  · unfold updT
    split
    · exact ⟨KP.setV h1.1 _ _ _, h1.2⟩
    · exact ⟨h1.1, KP.setV h1.2 _ _ _⟩
  · unfold insT
    split
    · split
      · exact KT.start (KP.put h1.1 hk) _
      · exact ⟨KP.put h1.1 hk, h1.2⟩
    · exact ⟨h1.1, KP.put h1.2 hk⟩
theorem KT.del {T : Tb Int} (h : KT T) (k : ByteArray) : KT (delT T k) := by
  have h1 := h.step
  unfold delT del1T
  split
  · have h2 : KT (rm1T (tbStep T) k) := by
      unfold rm1T
      split
      · exact ⟨KP.rm h1.1 _ _, h1.2⟩
      · exact ⟨h1.1, KP.rm h1.2 _ _⟩
    unfold shrT
    split
    · exact KT.start h2.1 _
    · exact h2
  · exact h1
theorem KT.act {T : Tb Int} (h : KT T) (o : OpD) : KT (actT T o) := by
  unfold actT
  split
  · exact h.put (keyS_le _) _
  · split
    · exact h.step
    · split
      · exact h.del _
      · split
        · exact h.step
        · exact h
theorem KT.mem {T : Tb Int} (h : KT T) : ∀ x ∈ (T.a ++ T.b).flatten, x.1.size ≤ 100 := fun x hx => by
  rw [List.mem_flatten] at hx
  obtain ⟨y, hy, hx⟩ := hx
  rcases List.mem_append.1 hy with hy | hy <;> obtain ⟨i, hi⟩ := List.mem_iff_getElem?.1 hy
  · exact h.1 i x (by rw [List.getD_eq_getElem?_getD, hi]; exact hx)
  · exact h.2 i x (by rw [List.getD_eq_getElem?_getD, hi]; exact hx)
/-! ### A table that goes on, beside the reference's and the mapped one -/
def F3 (w0 w : World) (av : List Nat) (t : Nat) (S2 : Tb Int) (r : Nat) (T : Tb Int) (u : Nat) (U : Tb ByteArray) : Prop :=
  ∃ Hr Hu : Nat → Prop, D1 (Zx w0 fun k => Hr k ∨ Hu k) w av t S2 ∧ TabX 40 42 60 itI w Hr av r T ∧ TabX 91 94 93 S.itI w Hu av u U ∧ ∀ k, Hr k ∨ Hu k → w0.heap.size ≤ k ∧ k < w.heap.size
def G3 (w0 w : World) (av : List Nat) (t : Nat) (S2 : Tb Int) (r2 : Nat) (R2 : Tb Int) (r : Nat) (T : Tb Int) (u : Nat) (U : Tb ByteArray) : Prop :=
  ∃ Hr Hu : Nat → Prop, D2 (Zx w0 fun k => Hr k ∨ Hu k) w av t S2 r2 R2 ∧ TabX 40 42 60 itI w Hr av r T ∧ TabX 91 94 93 S.itI w Hu av u U ∧ ∀ k, Hr k ∨ Hu k → w0.heap.size ≤ k ∧ k < w.heap.size
section
variable {w0 w w1 : World} {av av' : List Nat} {t r r2 u cb : Nat} {S2 R2 T : Tb Int} {U : Tb ByteArray} {P : Program} {f : FuncId} {args : Array Value}
theorem F3.mk (h : D2 (fun k => w0.heap.size ≤ k) w [cb] t T r T) (f : FrP (fun k => k = cb) w w1) (hu : TabX 91 94 93 S.itI w1 (fun k => w.heap.size ≤ k ∧ k < w1.heap.size) [cb] u U) (hw : w0.heap.size ≤ w.heap.size) : F3 w0 w1 [cb] t T r T u U := by
  obtain ⟨Ht, Hr, h1, h2, h3, h4⟩ := h
  have hs := f.size
  refine ⟨Hr, _, ⟨Ht, h1.frP f fun k hk => .inl (by simp [hk]), fun k hk => ⟨⟨(h3 k hk).1, fun hq => ?_⟩, by have := (h3 k hk).2.1; omega⟩⟩, h2.frP f fun k hk => .inl (by simp [hk]), hu, fun k hk => ?_⟩
  · rcases hq with hq | hq
    · exact (h3 k hk).2.2 hq
    · have := (h3 k hk).2.1; omega
  · rcases hk with hk | hk
    · have := h4 k hk; exact ⟨this.1, by omega⟩
    · exact ⟨by omega, hk.2⟩
theorem F3.fr (h : F3 w0 w av t S2 r T u U) {l : List Nat} (f : Fr l w w1) (hl : ∀ k ∈ l, k ∈ av ∨ ¬ w0.heap.size ≤ k) : F3 w0 w1 av t S2 r T u U := by
  obtain ⟨Hr, Hu, h1, h2, h3, h4⟩ := h
  have hs := f.size
  exact ⟨Hr, Hu, h1.fr f fun k hk => (hl k hk).imp id fun q hq => q hq.1, h2.fr f fun k hk => (hl k hk).imp id fun q hq => q (h4 k (.inl hq)).1, h3.fr f fun k hk => (hl k hk).imp id fun q hq => q (h4 k (.inr hq)).1, fun k hk => ⟨(h4 k hk).1, by have := (h4 k hk).2; omega⟩⟩
theorem F3.fr0 (h : F3 w0 w av t S2 r T u U) (f : Fr [] w w1) : F3 w0 w1 av t S2 r T u U := h.fr f fun k hk => by cases hk
theorem F3.alloc (h : F3 w0 w av t S2 r T u U) (f : Fr [] w w1) {b : Nat} (hb : b = w.heap.size) (hlt : b < w1.heap.size) : F3 w0 w1 (b :: av) t S2 r T u U := by
  obtain ⟨Hr, Hu, h1, h2, h3, h4⟩ := h
  have hs := f.size
  exact ⟨Hr, Hu, h1.alloc f hb hlt, h2.alloc f hb hlt, h3.alloc f hb hlt, fun k hk => ⟨(h4 k hk).1, by have := (h4 k hk).2; omega⟩⟩
theorem F3.sub (h : F3 w0 w av t S2 r T u U) (hs : ∀ k ∈ av', k ∈ av) : F3 w0 w av' t S2 r T u U := by
  obtain ⟨Hr, Hu, h1, h2, h3, h4⟩ := h
  exact ⟨Hr, Hu, h1.sub hs, h2.sub hs fun _ _ q => q, h3.sub hs fun _ _ q => q, h4⟩
theorem F3.avh (h : F3 w0 w av t S2 r T u U) : ∀ k ∈ av, k < w.heap.size := by
  obtain ⟨Hr, Hu, h1, _⟩ := h
  exact Go.Proofs.Ytalhmegjomfbaaa.avh h1
theorem F3.two (h : F3 w0 w av t S2 r T u U) (f : Fr [] w w1) (h2 : TabX 40 42 60 itI w1 (gr (fun _ => False) w w1) av r2 R2) (hw : w0.heap.size ≤ w.heap.size) : G3 w0 w1 av t S2 r2 R2 r T u U := by
  obtain ⟨Hr, Hu, h1, h3, h4, h5⟩ := h
  have hs := f.size
  exact ⟨Hr, Hu, (h1.fr0 f).two f h2 h1 (fun k hk => ⟨by omega, fun hq => by have := (h5 k hq).2; omega⟩), h3.fr0 f, h4.fr0 f, fun k hk => ⟨(h5 k hk).1, by have := (h5 k hk).2; omega⟩⟩
theorem G3.fr0 (h : G3 w0 w av t S2 r2 R2 r T u U) (f : Fr [] w w1) : G3 w0 w1 av t S2 r2 R2 r T u U := by
  obtain ⟨Hr, Hu, h1, h2, h3, h4⟩ := h
  have hs := f.size
  exact ⟨Hr, Hu, h1.fr f (fun k hk => by cases hk), h2.fr0 f, h3.fr0 f, fun k hk => ⟨(h4 k hk).1, by have := (h4 k hk).2; omega⟩⟩
theorem G3.act (h : G3 w0 w av t S2 r2 R2 r T u U) (N : Nat) (o : OpD) (hgT : Gd S2 N) (hgU : Gd R2 0) (hN : N < 1000000) (ho : o.ok) (hw : w0.heap.size ≤ w.heap.size) :
    Calls Try.prog 16 #[.pointer (some ⟨t, 0, none⟩), .pointer (some ⟨r2, 0, none⟩), .agg #[.int .i64 o.kind, .string o.key, .int .i64 o.v, .int .u64 (o.draw : Int)]] w (fun e w' => (∃ b, e = .returned (.bool b)) ∧ F3 w0 w' av t (actT S2 o) r T u U ∧ FrP (zn (fun k => w0.heap.size ≤ k) av) w w') := by
  obtain ⟨Hr, Hu, h1, h2, h3, h4⟩ := h
  refine (act_new w _ av t r2 S2 R2 N o h1 hgT hgU hN ho fun k hk => ⟨by omega, fun hq => by have := (h4 k hq).2; omega⟩).mono fun e w1 ⟨hb, q1, q2⟩ => ?_
  have hs := q2.size
  exact ⟨hb, ⟨Hr, Hu, q1, h2.frP q2 fun k hk => .inr fun hq => hk.1.2 (.inl hq), h3.frP q2 fun k hk => .inr fun hq => hk.1.2 (.inr hq), fun k hk => ⟨(h4 k hk).1, by have := (h4 k hk).2; omega⟩⟩, q2.mono fun k hk => ⟨hk.1.1, hk.2⟩⟩
theorem F3.rdU {R : Ending → World → Prop} (h : F3 w0 w av t S2 r T u U) (hc : ∀ H, TabX 91 94 93 S.itI w H av u U → (∀ k, H k → k < w.heap.size) → Calls P f args w R) : Calls P f args w R := by
  obtain ⟨Hr, Hu, h1, h2, h3, h4⟩ := h
  exact hc Hu h3 fun k hk => (h4 k (.inr hk)).2
theorem F3.rdR {R : Ending → World → Prop} (h : F3 w0 w av t S2 r T u U) (hc : ∀ H, TabX 40 42 60 itI w H av r T → (∀ k, H k → k < w.heap.size) → Calls P f args w R) : Calls P f args w R := by
  obtain ⟨Hr, Hu, h1, h2, h3, h4⟩ := h
  exact hc Hr h2 fun k hk => (h4 k (.inl hk)).2
theorem F3.blkR (h : F3 w0 w av t S2 r T u U) : ∃ v0 A c B d, Blk w r [v0, .slice A T.a.length c, .slice B T.b.length d, .int .i64 (T.moved : Int), .int .i64 (T.n : Int)] 40 := by
  obtain ⟨Hr, Hu, h1, h2, _⟩ := h
  rcases h2.2 with ⟨hb, gA, vsA, h⟩ | ⟨hb, gA, gB, vsA, vsB, h⟩
  · have hq := h.blk
    have h0 : T.b.length = 0 := by rw [hb]; rfl
    exact ⟨.int .u64 (T.seed : Int), some ⟨gA, 0, none⟩, T.a.length, none, 0, by rw [h0]; exact hq⟩
  · exact ⟨_, _, _, _, _, h.blk⟩
theorem map_D2 (w : World) (cb : Nat) (h : D2 (fun k => w0.heap.size ≤ k) w [cb] t T r T) (hC : Blk w cb [.int .i64 0] 3) (hw : w0.heap.size ≤ w.heap.size) (hks1 : ∀ x ∈ (T.a ++ T.b).flatten, x.1.size ≤ 100) :
    Calls Try.prog 32 #[.pointer (some ⟨t, 0, none⟩), .func (.func 33) #[] #[.pointer (some ⟨cb, 0, none⟩)]] w (fun e w' => ∃ u, e = .returned (.pointer (some ⟨u, 0, none⟩)) ∧ F3 w0 w' [cb] t T r T u (mapTb T) ∧ Blk w' cb [.int .i64 (T.n : Int)] 3 ∧ FrP (fun k => k = cb) w w') := by
  obtain ⟨Ht, Hr, h1, h2, h3, h4⟩ := id h
  rcases h1.2 with ⟨hb, gA, vsA, hT⟩ | ⟨hb, gA, gB, vsA, vsB, hT⟩
  · exact (map_N w Ht t gA cb vsA T h1.1 hT hb hC hks1).mono fun e w' ⟨u, he, q1, q2, q3⟩ => ⟨u, he, F3.mk h q3 q1 hw, q2, q3⟩
  · exact (map_M w Ht t gA gB cb vsA vsB T h1.1 hT hb hC hks1).mono fun e w' ⟨u, he, q1, q2, q3⟩ => ⟨u, he, F3.mk h q3 q1 hw, q2, q3⟩
end
theorem t_bang {z k : ByteArray} (h : z = k ++ ⟨#[33]⟩) : Value.bool ((bang k).toList == z.toList) = .bool true := by subst h; exact V.t_ssame _
theorem map1_any (w : World) (rb nb wb g1 g2 : Nat) (A : Option Addr) (c i : Nat) (l : List (ByteArray × Int)) (hR : Blk w rb [.bool true] 4) (hN : Blk w nb [.int .i64 (i : Int)] 3) (hW : Blk w wb [.slice A l.length c] 42) (hS : SlR itI (fun k => g1 ≤ k ∧ k < g2) w (.slice A l.length c) l) (hi : i < l.length) (hl : l.length ≤ 1000000) (hrg : ¬ (g1 ≤ rb ∧ rb < g2)) (hng : ¬ (g1 ≤ nb ∧ nb < g2)) (hrn : rb ≠ nb) (hrw : rb ≠ wb) (hnw : nb ≠ wb) (hk1 : (at_ itI l (i : Int)).1.size ≤ 100) : Calls Try.prog 35 #[.string ((at_ itI l (i : Int)).1), .string (bang (at_ itI l (i : Int)).1), .pointer (some ⟨rb, 0, none⟩), .pointer (some ⟨nb, 0, none⟩), .pointer (some ⟨wb, 0, none⟩)] w (fun e w' => e = .returned (.bool true) ∧ Blk w' rb [.bool true] 4 ∧ Blk w' nb [.int .i64 ((i : Int) + 1)] 3 ∧ Fr [rb, nb] w w') := by
 have hF := Fr.refl [rb, nb] w
 have hsm : (⟨#[33]⟩ : ByteArray).size = 1 := rfl
 refine V.en 33 Try.func35 fun a h1 => ?_
 refine V.sr h1 [] 7 7 [] fun a h4 => ?_
 refine V.sg fun K5 k6 => ?_
 refine V.run h4 [(0, .b hR 0), (1, .b hN 0), (0, .b hW 0)] 8 8 14 [(15, .bool (decide ((i : Int) < ((l.length : Nat) : Int))))] fun a h7 => ?_
 by_cases hg8 : (i : Int) < ((l.length : Nat) : Int)
 ·
  have h9 := h7.kt 15 hg8
  obtain ⟨g10, o11, hA12, hA12l, hA12z⟩ := hS.addr (by omega)
  obtain ⟨cs13, hok14, hE15⟩ := hS.els hA12 (i : Int) (by omega) (by omega)
  refine V.run h9 [(0, .b hW 0), (0, .b hN 0), (0, .ix g10 o11 l.length c .i64 (i : Int) 2 hA12)] 4 16 18 [(19, .pointer (some ⟨g10, o11 + (i : Int).toNat * 2, none⟩))] fun a h16 => ?_
  obtain rfl : cs13 = [.string (at_ itI l (i : Int)).1, .int .i64 (at_ itI l (i : Int)).2] := hok14
  refine V.run h16 [(0, .l ⟨g10, o11 + (i : Int).toNat * 2, none⟩ (.string ((at_ itI l (i : Int)).1)) (hE15.at 0 rfl)), (1, .q (.bool true) (V.t_ssame ((at_ itI l (i : Int)).1)))] 7 20 23 [(24, .bool true), (25, .string (bang (at_ itI l (i : Int)).1)), (26, .string ((at_ itI l (i : Int)).1))] fun a h19 => ?_
  obtain ⟨cat17, hcat18⟩ : ∃ z : ByteArray, z = ((at_ itI l (i : Int)).1) ++ (⟨#[33]⟩ : ByteArray) := ⟨_, rfl⟩
  have hszcat17 : cat17.size = ((at_ itI l (i : Int)).1).size + (⟨#[33]⟩ : ByteArray).size := by rw [hcat18, ByteArray.size_append]
  refine V.gon h19 (V.catg hcat18 (h19.e (v := (.string ((at_ itI l (i : Int)).1)))) evc (by omega) ?_)
  refine V.pt h19 fun a h20 => ?_
  refine V.run h20 [(0, .q (.bool true) (t_bang hcat18))] 2 28 28 [(29, .bool true)] fun a h24 => ?_
  refine V.go (V.stn rb 0 (.bool true) [.bool true] h24.e h24.e rfl rfl (by kernel_rfl) hR (by simp) [.bool true] rfl ?_)
  intro w21 hB22 hF23 hsw21
  have hF_25 := hF.trans hF23 (by simp <;> omega)
  have hN_26 := hN.fr1 hF23 (by omega)
  refine V.nt (k6 _ _ ?_)
  refine V.sg fun K30 k31 => ?_
  refine V.run h24 [(0, .b hN_26 0), (0, .i ((i : Int) + 1))] 2 30 30 [(31, .int .i64 ((i : Int) + 1))] fun a h35 => ?_
  refine V.go (V.stn nb 0 (.int .i64 ((i : Int) + 1)) [.int .i64 ((i : Int) + 1)] h35.e h35.e rfl rfl (by kernel_rfl) hN_26 (by simp) [.int .i64 ((i : Int) + 1)] rfl ?_)
  intro w32 hB33 hF34 hsw32
  have hF_36 := hF_25.trans hF34 (by simp <;> omega)
  have hB22_40 := hB22.fr1 hF34 (by omega)
  refine V.nt (k31 _ _ ?_)
  refine V.sr h35 [(0, .b hB22_40 0)] 32 32 [(7, .bool true)] fun a h43 => ?_
  refine V.ret ?_
  refine V.r1 h43 (.bool true) ?_
  exact ⟨rfl, hB22_40, hB33, hF_36⟩
 ·
  have h44 := h7.kf 15 hg8
  refine V.run h44 [] 14 16 28 [(29, .bool false)] fun a h48 => ?_
  refine V.go (V.stn rb 0 (.bool false) [.bool false] h48.e h48.e rfl rfl (by kernel_rfl) hR (by simp) [.bool false] rfl ?_)
  intro w45 hB46 hF47 hsw45
  have hF_49 := hF.trans hF47 (by simp <;> omega)
  have hN_50 := hN.fr1 hF47 (by omega)
  refine V.nt (k6 _ _ ?_)
  refine V.sg fun K53 k54 => ?_
  refine V.run h48 [(0, .b hN_50 0), (0, .i ((i : Int) + 1))] 2 30 30 [(31, .int .i64 ((i : Int) + 1))] fun a h58 => ?_
  refine V.go (V.stn nb 0 (.int .i64 ((i : Int) + 1)) [.int .i64 ((i : Int) + 1)] h58.e h58.e rfl rfl (by kernel_rfl) hN_50 (by simp) [.int .i64 ((i : Int) + 1)] rfl ?_)
  intro w55 hB56 hF57 hsw55
  have hF_59 := hF_49.trans hF57 (by simp <;> omega)
  have hB46_62 := hB46.fr1 hF57 (by omega)
  refine V.nt (k54 _ _ ?_)
  refine V.sr h58 [(0, .b hB46_62 0)] 32 32 [(7, .bool false)] fun a h65 => ?_
  refine V.ret ?_
  refine V.r1 h65 (.bool false) ?_
  exfalso; omega
theorem map_run (w : World) (H : Nat → Prop) (av : List Nat) (u : Nat) (T : Tb Int) (hU : TabX 91 94 93 S.itI w H av u (mapTb T)) (hHb : ∀ k, H k → k < w.heap.size) (b : Nat) (hB : Blk w b [.pointer (some ⟨u, 0, none⟩)] 50) (rb nb wb : Nat) (A : Option Addr) (c : Nat)
    (hR : Blk w rb [.bool true] 4) (hN : Blk w nb [.int .i64 0] 3) (g1 g2 : Nat) (hW : Blk w wb [.slice A T.n c] 42) (hok : T.Ok) (hS : SlR itI (fun k => g1 ≤ k ∧ k < g2) w (.slice A T.n c) (T.a ++ T.b).flatten) (hl : T.n ≤ 1000000) (hks1 : ∀ x ∈ (T.a ++ T.b).flatten, x.1.size ≤ 100)
    (hrg : ¬ (g1 ≤ rb ∧ rb < g2) ∧ ¬ (g1 ≤ nb ∧ nb < g2)) (hne : rb ≠ nb ∧ rb ≠ wb ∧ nb ≠ wb) :
    Calls Try.prog 62 #[.func (.func 35) #[] #[.pointer (some ⟨rb, 0, none⟩), .pointer (some ⟨nb, 0, none⟩), .pointer (some ⟨wb, 0, none⟩)], .pointer (some ⟨b, 0, none⟩)] w (fun e w' => (∃ v, e = .returned v) ∧ Blk w' rb [.bool true] 4 ∧ Blk w' nb [.int .i64 (T.n : Int)] 3 ∧ Fr [rb, nb] w w') := by
  have hr := hR.lt
  have hn := hN.lt
  have hcT := hok.cn
  have hcU := hU.1.cn
  have hfm : ((mapTb T).a ++ (mapTb T).b).flatten = (T.a ++ T.b).flatten.map m1 := by show (T.a.map _ ++ T.b.map _).flatten = _; rw [← List.map_append, flat_map]
  refine (S.all1_any w H av u (mapTb T) hU hHb b hB _ (anyI rb nb w) (fun _ _ _ => False) ?_ ?_ ?_).mono ?_
  · rintro n pre W W' ⟨h1, h2, h3, h4, h5⟩ f
    exact ⟨h1, Nat.le_trans h2 f.size, h3.fr0 f, h4.fr0 f, h5.trans f (by simp)⟩
  · intro W1 f
    exact ⟨f.size, Nat.le_refl _, hR.fr0 f, hN.fr0 f, f.mono (by simp)⟩
  · rintro n pre x W hn1 hnl ⟨h1, h2, h3, h4, h5⟩ ⟨rest, hrest⟩
    have hi : pre.length < T.n := by
      have := congrArg List.length hrest
      rw [hcU] at this
      have hq : (mapTb T).n = T.n := rfl
      simp at this; omega
    have hx : x = m1 (at_ itI (T.a ++ T.b).flatten (pre.length : Int)) := by
      have h6 : ((mapTb T).a ++ (mapTb T).b).flatten[pre.length]? = some x := by rw [← hrest]; simp
      rw [hfm, List.getElem?_map] at h6
      have h8 := at_some itI (xs := (T.a ++ T.b).flatten) (i := (pre.length : Int)) (by omega) (by omega)
      rw [Int.toNat_natCast] at h8
      rw [h8] at h6
      injection h6 with h6
      exact h6.symm
    have hSW : SlR itI (fun k => g1 ≤ k ∧ k < g2) W (.slice A (T.a ++ T.b).flatten.length c) (T.a ++ T.b).flatten := by
      rw [hcT]
      exact hS.fr h5 (by
        intro k hk hz
        simp only [List.mem_cons, List.not_mem_nil, or_false] at hk
        rcases hk with rfl | rfl
        · exact hrg.1 hz
        · exact hrg.2 hz)
    have hWW : Blk W wb [.slice A (T.a ++ T.b).flatten.length c] 42 := by
      rw [hcT]
      exact hW.fr h5 (by simp [hne.2.1.symm, hne.2.2.symm])
    have hk9 := hks1 _ (List.mem_of_getElem? (at_some itI (xs := (T.a ++ T.b).flatten) (i := (pre.length : Int)) (by omega) (by omega)))
    have hcall := map1_any W rb nb wb g1 g2 A c pre.length (T.a ++ T.b).flatten h3 h4 hWW hSW (by omega) (by omega) hrg.1 hrg.2 hne.1 hne.2.1 hne.2.2 hk9
    subst hx
    refine .inr ⟨35, _, rfl, Go.Proofs.enters_of Try.func35 (by kernel_rfl) rfl, hcall.mono ?_⟩
    rintro e W' ⟨he, q1, q2, q3⟩
    refine .inl ⟨he, ⟨h1, Nat.le_trans h2 q3.size, q1, by simpa using q2, h5.trans q3 (by simp)⟩, q3.size, fun k hk hK => q3.block k hk ?_⟩
    intro hm
    simp only [List.mem_cons, List.not_mem_nil, or_false] at hm
    rcases hm with rfl | rfl <;> omega
  · rintro e w' ⟨he, ⟨n, hn, h1, h2, h3, h4, h5⟩ | ⟨_, _, _, _, h⟩⟩
    · rw [hcU] at h4
      exact ⟨he, h3, h4, h5⟩
    · exact h.elim
theorem tableMaps_any (w : World) (seed : Nat) (hsd : seed < 18446744073709551616) (A0 : Option Addr) (c0 : Nat) (l : List OpD) (hS : SlR opR (fun k => k < w.heap.size) w (.slice A0 l.length c0) l) (A2 : Option Addr) (c2 : Nat) (l2 : List OpD) (hS2 : SlR opR (fun k => k < w.heap.size) w (.slice A2 l2.length c2) l2) : Calls Try.prog 8 #[.int .u64 (seed : Int), .slice A0 l.length c0, .slice A2 l2.length c2] w (fun e w' => e = .returned (.bool true) ∧ Fr [] w w') := by
 have hF := Fr.refl [] w
 refine V.en 134 Try.func8 fun a h1 => ?_
 refine V.sr h1 [] 6 6 [] fun a h4 => ?_
 refine V.sg fun K5 k6 => ?_
 refine V.run h4 [] 1 1 0 [(20, .int .u64 (seed : Int))] fun a h7 => ?_
 refine V.cl h7 (Go.Proofs.enters_of Try.func14 (by kernel_rfl) rfl) (new_any w [] (by simp) seed hsd) ?_
 rintro _ w12 ⟨t8, rfl, hT9, hF10⟩
 refine ⟨_, rfl, fun a h13 => ?_⟩
 have hsw12 := hF10.size
 have hF_14 := hF.new hF10
 have hS_15 := hS.fr0 hF10
 have hS2_16 := hS2.fr0 hF10
 have hD11 := D1.new (Z := fun k => w.heap.size ≤ k) hT9 (fun k hk => by omega)
 refine V.run h13 [] 1 1 0 [(22, .int .u64 (seed : Int))] fun a h17 => ?_
 refine V.cl h17 (Go.Proofs.enters_of Try.func15 (by kernel_rfl) rfl) (rnew_any w12 ([]) (by simp) seed hsd) ?_
 rintro _ w22 ⟨r18, rfl, hU19, hF20⟩
 refine ⟨_, rfl, fun a h23 => ?_⟩
 have hsw22 := hF20.size
 have hF_24 := hF_14.new hF20
 have hS_25 := hS_15.fr0 hF20
 have hS2_26 := hS2_16.fr0 hF20
 have hD11_27 := hD11.fr0 hF20
 have hD21 := hD11_27.two hF20 hU19 hD11 (fun k hk => by first | exact hk | omega)
 refine V.re h23 [] 1 0 [(7, .pointer (some ⟨t8, 0, none⟩)), (8, .pointer (some ⟨r18, 0, none⟩))] fun a h28 => k6 _ _ ?_
 refine V.seq fun K29 k30 => ?_
 refine V.sr h28 [] 24 24 [(25, .bool false)] fun a h33 => ?_
 refine V.cf h33 ?_
 refine V.skip ?_
 refine V.then_n (k30 _ _ ?_)
 refine V.seq fun K34 k35 => ?_
 refine V.sr h33 [] 1 0 [(9, .int .i64 0)] fun a h38 => ?_
 refine V.block ?_
 refine V.loop2 (fun (i : Nat) (T : Tb Int) a_ w_ => En 134 [] a_ [(0, .int .u64 (seed : Int)), (1, .slice A0 l.length c0), (2, .slice A2 l2.length c2), (7, .pointer (some ⟨t8, 0, none⟩)), (8, .pointer (some ⟨r18, 0, none⟩)), (9, .int .i64 (i : Int))] ∧ D2 (fun k => w.heap.size ≤ k) w_ ([]) t8 T r18 T ∧ Fr [] w w_ ∧ SlR opR (fun k => k < w.heap.size) w_ (.slice A0 l.length c0) l ∧ SlR opR (fun k => k < w.heap.size) w_ (.slice A2 l2.length c2) l2 ∧ (i ≤ l.length ∧ i ≤ 200) ∧ (Gd T i) ∧ (KT T)) (fun (i : Nat) (T : Tb Int) => l.length - i) 0 (newT seed) ?_ ?_
 ·
  refine ⟨(h38.eq 9 (v := (.int .i64 0)) (u := (.int .i64 (0 : Int))) (V.int_eq (by omega))).only _, hD21, hF_24, hS_25, hS2_26, (by omega), (Gd.new hsd), (KT.new _)⟩
 ·
  rintro i T a39 w40 ⟨h41, hD_42, hF_43, hS_44, hS2_45, hi, hgT, hkq⟩
  have hfs46 := hF_43.size
  have hlen0 := hS.len_le
  refine V.seq fun K47 k48 => ?_
  refine V.sg fun K49 k50 => ?_
  refine V.run h41 [] 5 26 29 [(30, .bool (decide ((i : Int) < ((l.length : Nat) : Int))))] fun a h51 => ?_
  by_cases hg52 : (i : Int) < ((l.length : Nat) : Int)
  ·
   have h53 := h51.kt 30 hg52
   refine V.re h53 [] 31 32 [(33, .bool (decide ((i : Int) < 200)))] fun a h54 => k50 _ _ ?_
   refine V.cp h54 ((i : Int) < 200) (fun ht55 => ?_) (fun ht55 => ?_)
   ·
    refine V.skip ?_
    refine V.then_n (k48 _ _ ?_)
    refine V.seq fun K56 k57 => ?_
    refine V.block ?_
    obtain ⟨g58, o59, hA60, hA60l, hA60z⟩ := hS_44.addr (by omega)
    obtain ⟨cs61, hok62, hE63⟩ := hS_44.els hA60 (i : Int) (by omega) (by omega)
    refine V.rg ?_
    refine V.run h54 [(4, .ix g58 o59 l.length c0 .i64 (i : Int) 4 hA60)] 5 38 39 [(36, .pointer (some ⟨t8, 0, none⟩)), (37, .pointer (some ⟨r18, 0, none⟩)), (40, .pointer (some ⟨g58, o59 + (i : Int).toNat * 4, none⟩))] fun a h65 => ?_
    obtain ⟨rfl, hoo64⟩ := hok62
    refine V.run h65 [(0, .ls ⟨g58, o59 + (i : Int).toNat * 4, none⟩ [.int .i64 ((at_ opR l (i : Int)).kind), .string ((at_ opR l (i : Int)).key), .int .i64 ((at_ opR l (i : Int)).v), .int .u64 ((at_ opR l (i : Int)).draw : Int)] (hE63.cells 0 _ rfl))] 1 1 0 [(41, .agg #[.int .i64 ((at_ opR l (i : Int)).kind), .string ((at_ opR l (i : Int)).key), .int .i64 ((at_ opR l (i : Int)).v), .int .u64 ((at_ opR l (i : Int)).draw : Int)])] fun a h66 => ?_
    refine V.cl h66 (Go.Proofs.enters_of Try.func16 (by kernel_rfl) rfl) (act_same w40 (fun k => w.heap.size ≤ k) ([]) t8 r18 T i (at_ opR l (i : Int)) hD_42 hgT (by omega) hoo64 (fun k hk => by omega)) ?_
    rintro _ w69 ⟨rfl, hD67, hfp68⟩
    refine ⟨_, rfl, fun a h70 => ?_⟩
    have hsw69 := hfp68.size
    have hF_71 := hF_43.trP hfp68 (fun k hk => .inr hk.1)
    have hS_72 := hS_44.frP hfp68 (fun k hz hp => by first | (have h1 := hp.1; (try dsimp only at hz h1); omega) | (have h1 := hC9 k hp; (try dsimp only at hz); omega))
    have hS2_73 := hS2_45.frP hfp68 (fun k hz hp => by first | (have h1 := hp.1; (try dsimp only at hz h1); omega) | (have h1 := hC9 k hp; (try dsimp only at hz); omega))
    refine V.nil ?_
    refine V.blk_n ?_
    refine V.then_n (k57 _ _ ?_)
    refine V.rr h70 [(1, .i ((i : Int) + 1))] 34 35 [(9, .int .i64 ((i : Int) + 1))] fun a h74 => ?_
    refine V.then_n ?_
    refine ⟨i + 1, actT T (at_ opR l (i : Int)), by omega, ?_⟩
    refine ⟨(h74.eq 9 (v := (.int .i64 ((i : Int) + 1))) (u := (.int .i64 ((i + 1) : Int))) (V.int_eq (by omega))).only _, hD67, hF_71, hS_72, hS2_73, (by omega), (hgT.act (by omega) _), (hkq.act _)⟩
   ·
    refine V.exit (V.then_e (V.then_e (V.blk_hit ?_)))
    refine V.then_n (k35 _ _ ?_)
    refine V.sg fun K75 k76 => ?_
    refine V.go (V.mk [] trivial (by kernel_rfl) [.int .i64 0] 3 (fun b => .pointer (some ⟨b, 0, none⟩)) (by kernel_rfl) ?_)
    intro w78 b77 heb77 hB79 hF80 hsb77
    have hD_81 := hD_42.alloc hF80 heb77 (by omega)
    have hF_82 := hF_43.new hF80
    have hS_83 := hS_44.fr0 hF80
    have hS2_84 := hS2_45.fr0 hF80
    refine V.pt h54 fun a h85 => ?_
    refine V.go (V.stn b77 0 (.int .i64 0) [.int .i64 0] h85.e evc rfl rfl (by kernel_rfl) hB79 (by simp) [.int .i64 0] rfl ?_)
    intro w86 hB87 hF88 hsw86
    have hD_89 := hD_81.fr hF88 (by intro k hk; simp only [List.mem_singleton] at hk; subst hk; first | exact .inl (by first | simp | (rw [hav]; simp)) | exact .inr (fun hq => by (try dsimp only at hq); omega))
    have hF_90 := hF_82.own hF88 (by simp <;> omega)
    have hS_91 := hS_83.fr hF88 (by simp <;> omega)
    have hS2_92 := hS2_84.fr hF88 (by simp <;> omega)
    refine V.nt (k76 _ _ ?_)
    refine V.seq fun K93 k94 => ?_
    have hC9 : ∀ k, k = b77 → w.heap.size ≤ k := fun k hk => by omega
    refine V.rg ?_
    refine V.run h85 [] 2 1 0 [(43, .pointer (some ⟨t8, 0, none⟩)), (44, .func (.func 33) #[] #[.pointer (some ⟨b77, 0, none⟩)])] fun a h95 => ?_
    have hks1 : ∀ x ∈ (T.a ++ T.b).flatten, x.1.size ≤ 100 := hkq.mem
    refine V.cl h95 (Go.Proofs.enters_of Try.func32 (by kernel_rfl) rfl) (map_D2 w86 b77 hD_89 hB87 (by omega) hks1) ?_
    rintro _ w100 ⟨u96, rfl, hD97, hC98, hF99⟩
    refine ⟨_, rfl, fun a h101 => ?_⟩
    have hsw100 := hF99.size
    have hF_102 := hF_90.trP hF99 (fun k hk => .inr (hC9 k hk))
    have hS_103 := hS_91.frP hF99 (fun k hz hp => by first | (have h1 := hp.1; (try dsimp only at hz h1); omega) | (have h1 := hC9 k hp; (try dsimp only at hz); omega))
    have hS2_104 := hS2_92.frP hF99 (fun k hz hp => by first | (have h1 := hp.1; (try dsimp only at hz h1); omega) | (have h1 := hC9 k hp; (try dsimp only at hz); omega))
    have hF9 := hF99
    have hltu9 := hC98.lt
    refine V.re h101 [] 1 0 [(11, .pointer (some ⟨u96, 0, none⟩))] fun a h105 => k94 _ _ ?_
    refine V.seq fun K106 k107 => ?_
    refine V.seq fun K108 k109 => ?_
    obtain ⟨A111, B112, C113, D114, E115, hBU110⟩ := hD97.blkR
    have hltu := hBU110.lt
    refine V.pl [([0],some (1,[])),([2,3,4,5,6,7,8,9,10,11,13,14,15,16],some (12,[16])),([17,18],none)] fun w116 hF117 hsw116 => ?_
    have hF_118 := hF_102.new hF117
    have hS_119 := hS_103.fr0 hF117
    have hS2_120 := hS2_104.fr0 hF117
    have hD97_121 := hD97.fr0 hF117
    have hC98_122 := hC98.fr0 hF117
    have hBU110_123 := hBU110.fr0 hF117
    refine V.pe h105 [] 1 0 [(46, .pointer (some ⟨u96, 0, none⟩))] fun a h124 => ?_
    refine V.run h124 [] 1 1 0 [(47, .bool false)] fun a h125 => ?_
    refine V.eh trivial ?_
    refine V.pe h125 [(1, .b hC98_122 0), (3, .b hBU110_123 4), (0, .q (.bool false) (V.t_nsame (T.n : Int))), (6, .b hBU110_123 4)] 48 60 [(56, .bool false), (57, .pointer (some ⟨u96, 0, none⟩)), (61, .pointer (some ⟨r18, 4, none⟩)), (62, .int .i64 (T.n : Int))] fun a h126 => ?_
    refine V.clg h126 (Go.Proofs.enters_of Try.func34 (by kernel_rfl) rfl) (hD97_121.rdU (fun Hq hq hqb => S.len_any w116 Hq (b77 :: []) u96 (mapTb T) hq)) ?_
    rintro _ w128 ⟨rfl, hF127⟩
    refine ⟨_, rfl, fun a h129 => ?_⟩
    have hsw128 := hF127.size
    have hF_130 := hF_118.new hF127
    have hS_131 := hS_119.fr0 hF127
    have hS2_132 := hS2_120.fr0 hF127
    have hD97_133 := hD97_121.fr0 hF127
    have hBU110_135 := hBU110_123.fr0 hF127
    refine V.eh (fun _ => held_blk (n := 1) (hx := (h126.e (v := (.pointer (some ⟨r18, 4, none⟩))))) hBU110_123 hBU110_135 (by kernel_rfl) rfl (by simp only [List.length]; omega)) ?_
    refine V.pz h129 [(0, .q (.bool false) (V.t_nsame (T.n : Int)))] 63 63 [(64, .bool false)] fun a h136 => k109 _ _ ?_
    refine V.cf h136 ?_
    refine V.skip ?_
    refine V.then_n (k107 _ _ ?_)
    refine V.seq fun K137 k138 => ?_
    refine V.seq fun K139 k140 => ?_
    have hok9 := hgT.ok
    have hnn9 := hgT.nn
    refine V.rr h136 [] 1 0 [(12, .int .i64 0)] fun a h141 => ?_
    refine V.then_n (k140 _ _ ?_)
    refine V.block ?_
    refine V.loop2 (fun (j : Nat) (S2 : Tb Int) a_ w_ => En 134 [] a_ [(0, .int .u64 (seed : Int)), (2, .slice A2 l2.length c2), (7, .pointer (some ⟨t8, 0, none⟩)), (8, .pointer (some ⟨r18, 0, none⟩)), (11, .pointer (some ⟨u96, 0, none⟩)), (12, .int .i64 (j : Int))] ∧ F3 w w_ (b77 :: []) t8 S2 r18 T u96 (mapTb T) ∧ Fr [] w w_ ∧ SlR opR (fun k => k < w.heap.size) w_ (.slice A0 l.length c0) l ∧ SlR opR (fun k => k < w.heap.size) w_ (.slice A2 l2.length c2) l2 ∧ (j ≤ l2.length ∧ j ≤ 50) ∧ (Gd S2 (i + j))) (fun (j : Nat) (S2 : Tb Int) => l2.length - j) 0 T ?_ ?_
    ·
     refine ⟨(h141.eq 12 (v := (.int .i64 0)) (u := (.int .i64 (0 : Int))) (V.int_eq (by omega))).only _, hD97_133, hF_130, hS_131, hS2_132, (by omega), hgT⟩
    ·
     rintro j S2 a142 w143 ⟨h144, hD_145, hF_146, hS_147, hS2_148, hj, hgS⟩
     have hfs149 := hF_146.size
     have hlen1 := hS2.len_le
     refine V.seq fun K150 k151 => ?_
     refine V.sg fun K152 k153 => ?_
     refine V.run h144 [] 5 65 68 [(69, .bool (decide ((j : Int) < ((l2.length : Nat) : Int))))] fun a h154 => ?_
     by_cases hg155 : (j : Int) < ((l2.length : Nat) : Int)
     ·
      have h156 := h154.kt 69 hg155
      refine V.re h156 [] 70 71 [(72, .bool (decide ((j : Int) < 50)))] fun a h157 => k153 _ _ ?_
      refine V.cp h157 ((j : Int) < 50) (fun ht158 => ?_) (fun ht158 => ?_)
      ·
       refine V.skip ?_
       refine V.then_n (k151 _ _ ?_)
       refine V.seq fun K159 k160 => ?_
       refine V.block ?_
       refine V.pl [([0,1,3,4,5,6],some (2,[6])),([],some (7,[])),([],none)] fun w161 hF162 hsw161 => ?_
       have hD_163 := hD_145.fr0 hF162
       have hF_164 := hF_146.new hF162
       have hS_165 := hS_147.fr0 hF162
       have hS2_166 := hS2_148.fr0 hF162
       obtain ⟨g167, o168, hA169, hA169l, hA169z⟩ := hS2_166.addr (by omega)
       obtain ⟨cs170, hok171, hE172⟩ := hS2_166.els hA169 (j : Int) (by omega) (by omega)
       refine V.pe0 ?_
       refine V.run h157 [(4, .ix g167 o168 l2.length c2 .i64 (j : Int) 4 hA169)] 5 78 79 [(75, .pointer (some ⟨t8, 0, none⟩)), (76, .int .u64 (seed : Int)), (80, .pointer (some ⟨g167, o168 + (j : Int).toNat * 4, none⟩))] fun a h174 => ?_
       obtain ⟨rfl, hoo173⟩ := hok171
       refine V.se h174 [(0, .ls ⟨g167, o168 + (j : Int).toNat * 4, none⟩ [.int .i64 ((at_ opR l2 (j : Int)).kind), .string ((at_ opR l2 (j : Int)).key), .int .i64 ((at_ opR l2 (j : Int)).v), .int .u64 ((at_ opR l2 (j : Int)).draw : Int)] (hE172.cells 0 _ rfl))] 1 0 [(81, .agg #[.int .i64 ((at_ opR l2 (j : Int)).kind), .string ((at_ opR l2 (j : Int)).key), .int .i64 ((at_ opR l2 (j : Int)).v), .int .u64 ((at_ opR l2 (j : Int)).draw : Int)])] fun a h175 => ?_
       refine V.cl h175 (Go.Proofs.enters_of Try.func15 (by kernel_rfl) rfl) (rnew_any w161 (b77 :: []) (hD_163.avh) seed hsd) ?_
       rintro _ w180 ⟨r176, rfl, hU177, hF178⟩
       refine ⟨_, rfl, fun a h181 => ?_⟩
       have hsw180 := hF178.size
       have hF_183 := hF_164.new hF178
       have hS_184 := hS_165.fr0 hF178
       have hS2_185 := hS2_166.fr0 hF178
       have hE172_186 := hE172.fr0 hF178
       have hD179 := hD_163.two hF178 hU177 (by omega)
       refine V.eh (fun _ => held_els (m := 4) (f := 0) (hx := (h175.e (v := (.pointer (some ⟨g167, o168 + (j : Int).toNat * 4, none⟩))))) hE172 hE172_186 (by kernel_rfl) (by simp only [List.length]; omega)) ?_
       refine V.pe h181 [] 1 0 [] fun a h187 => ?_
       refine V.cl h187 (Go.Proofs.enters_of Try.func16 (by kernel_rfl) rfl) (hD179.act (i + j) (at_ opR l2 (j : Int)) hgS (Gd.new hsd) (by omega) hoo173 (by omega)) ?_
       rintro _ w191 ⟨⟨bb190, rfl⟩, hD188, hfp189⟩
       refine ⟨_, rfl, fun a h192 => ?_⟩
       have hsw191 := hfp189.size
       have hF_193 := hF_183.trP hfp189 (fun k hk => .inr hk.1)
       have hS_194 := hS_184.frP hfp189 (fun k hz hp => by first | (have h1 := hp.1; (try dsimp only at hz h1); omega) | (have h1 := hC9 k hp; (try dsimp only at hz); omega))
       have hS2_195 := hS2_185.frP hfp189 (fun k hz hp => by first | (have h1 := hp.1; (try dsimp only at hz h1); omega) | (have h1 := hC9 k hp; (try dsimp only at hz); omega))
       refine V.eh trivial ?_
       refine V.pz h192 [] 1 0 [] fun a h196 => ?_
       refine V.blk_n ?_
       refine V.then_n (k160 _ _ ?_)
       refine V.rr h196 [(1, .i ((j : Int) + 1))] 73 74 [(12, .int .i64 ((j : Int) + 1))] fun a h197 => ?_
       refine V.then_n ?_
       refine ⟨j + 1, actT S2 (at_ opR l2 (j : Int)), by omega, ?_⟩
       refine ⟨(h197.eq 12 (v := (.int .i64 ((j : Int) + 1))) (u := (.int .i64 ((j + 1) : Int))) (V.int_eq (by omega))).only _, hD188, hF_193, hS_194, hS2_195, (by omega), (hgS.act (by omega) _)⟩
      ·
       refine V.exit (V.then_e (V.then_e (V.blk_hit ?_)))
       refine V.then_n (k138 _ _ ?_)
       refine V.sg fun K198 k199 => ?_
       refine V.run h157 [] 1 1 0 [(83, .pointer (some ⟨r18, 0, none⟩))] fun a h200 => ?_
       refine V.cl h200 (Go.Proofs.enters_of Try.func21 (by kernel_rfl) rfl) (hD_145.rdR (fun Hq hq hqb => rall_any w143 Hq (b77 :: []) r18 T hq hqb)) ?_
       rintro _ w206 ⟨A202, c203, rfl, hO204, hF201⟩
       refine ⟨_, rfl, fun a h207 => ?_⟩
       have hsw206 := hF201.size
       have hD_208 := hD_145.fr0 hF201
       have hF_209 := hF_146.new hF201
       obtain ⟨nW, hnW⟩ : ∃ n, n = w206.heap.size := ⟨_, rfl⟩
       have hS205 := hO204.read (Z' := fun k => w143.heap.size ≤ k ∧ k < nW) (fun _ _ h => h.elim) (fun b hb hl => ⟨hb, by omega⟩)
       refine V.go (V.mk [] trivial (by kernel_rfl) [.slice none 0 0] 42 (fun b => .pointer (some ⟨b, 0, none⟩)) (by kernel_rfl) ?_)
       intro w213 b212 heb212 hB214 hF215 hsb212
       have hD_216 := hD_208.alloc hF215 heb212 (by omega)
       have hF_217 := hF_209.new hF215
       have hS205_220 := hS205.fr0 hF215
       refine V.pt h207 fun a h221 => ?_
       refine V.go (V.stn b212 0 (.slice A202 T.n c203) [.slice A202 T.n c203] h221.e h221.e rfl rfl (by kernel_rfl) hB214 (by simp) [.slice A202 T.n c203] rfl ?_)
       intro w222 hB223 hF224 hsw222
       have hD_225 := hD_216.fr hF224 (by intro k hk; simp only [List.mem_singleton] at hk; subst hk; first | exact .inl (by first | simp | (rw [hav]; simp)) | exact .inr (fun hq => by (try dsimp only at hq); omega))
       have hF_226 := hF_217.own hF224 (by simp <;> omega)
       have hS205_229 := hS205_220.fr hF224 (by simp <;> omega)
       refine V.nt (k199 _ _ ?_)
       refine V.sg fun K230 k231 => ?_
       refine V.go (V.mk [] trivial (by kernel_rfl) [.int .i64 0] 3 (fun b => .pointer (some ⟨b, 0, none⟩)) (by kernel_rfl) ?_)
       intro w233 b232 heb232 hB234 hF235 hsb232
       have hD_236 := hD_225.alloc hF235 heb232 (by omega)
       have hF_237 := hF_226.new hF235
       have hS205_240 := hS205_229.fr0 hF235
       have hB223_241 := hB223.fr0 hF235
       refine V.pt h221 fun a h242 => ?_
       refine V.go (V.mk [] trivial (by kernel_rfl) [.bool false] 4 (fun b => .pointer (some ⟨b, 0, none⟩)) (by kernel_rfl) ?_)
       intro w244 b243 heb243 hB245 hF246 hsb243
       have hD_247 := hD_236.alloc hF246 heb243 (by omega)
       have hF_248 := hF_237.new hF246
       have hS205_251 := hS205_240.fr0 hF246
       have hB223_252 := hB223_241.fr0 hF246
       have hB234_253 := hB234.fr0 hF246
       refine V.pt h242 fun a h254 => ?_
       refine V.go (V.stn b232 0 (.int .i64 0) [.int .i64 0] h254.e evc rfl rfl (by kernel_rfl) hB234_253 (by simp) [.int .i64 0] rfl ?_)
       intro w255 hB256 hF257 hsw255
       have hD_258 := hD_247.fr hF257 (by intro k hk; simp only [List.mem_singleton] at hk; subst hk; first | exact .inl (by first | simp | (rw [hav]; simp)) | exact .inr (fun hq => by (try dsimp only at hq); omega))
       have hF_259 := hF_248.own hF257 (by simp <;> omega)
       have hS205_262 := hS205_251.fr hF257 (by simp <;> omega)
       have hB223_263 := hB223_252.fr1 hF257 (by omega)
       have hB245_264 := hB245.fr1 hF257 (by omega)
       refine V.go (V.stn b243 0 (.bool true) [.bool true] h254.e evc rfl rfl (by kernel_rfl) hB245_264 (by simp) [.bool true] rfl ?_)
       intro w265 hB266 hF267 hsw265
       have hD_268 := hD_258.fr hF267 (by intro k hk; simp only [List.mem_singleton] at hk; subst hk; first | exact .inl (by first | simp | (rw [hav]; simp)) | exact .inr (fun hq => by (try dsimp only at hq); omega))
       have hF_269 := hF_259.own hF267 (by simp <;> omega)
       have hS205_272 := hS205_262.fr hF267 (by simp <;> omega)
       have hB223_273 := hB223_263.fr1 hF267 (by omega)
       have hB256_274 := hB256.fr1 hF267 (by omega)
       refine V.nt (k231 _ _ ?_)
       refine V.sg fun K275 k276 => ?_
       refine V.run h254 [] 1 1 0 [(85, .pointer (some ⟨u96, 0, none⟩))] fun a h277 => ?_
       refine V.cl h277 (Go.Proofs.enters_of Try.func29 (by kernel_rfl) rfl) (S.all_any w265 (some ⟨u96, 0, none⟩)) ?_
       rintro _ w281 ⟨b280, rfl, hB279, hleb280, hF278⟩
       refine ⟨_, rfl, fun a h282 => ?_⟩
       have hsw281 := hF278.size
       have hD_283 := hD_268.fr0 hF278
       have hF_284 := hF_269.new hF278
       have hS205_287 := hS205_272.fr0 hF278
       have hB223_288 := hB223_273.fr0 hF278
       have hB256_289 := hB256_274.fr0 hF278
       have hB266_290 := hB266.fr0 hF278
       have hlthB279 := hB279.lt
       refine V.re h282 [] 1 0 [(16, .func (.func 62) #[] #[.pointer (some ⟨b280, 0, none⟩)])] fun a h291 => k276 _ _ ?_
       refine V.seq fun K292 k293 => ?_
       refine V.sr h291 [] 87 87 [(88, .bool false)] fun a h296 => ?_
       refine V.cf h296 ?_
       refine V.skip ?_
       refine V.then_n (k293 _ _ ?_)
       refine V.sg fun K297 k298 => ?_
       refine V.run h296 [] 2 1 0 [(89, .func (.func 62) #[] #[.pointer (some ⟨b280, 0, none⟩)]), (90, .func (.func 35) #[] #[.pointer (some ⟨b243, 0, none⟩), .pointer (some ⟨b232, 0, none⟩), .pointer (some ⟨b212, 0, none⟩)])] fun a h299 => ?_
       have hlt304 := hB266_290.lt
       have hlt305 := hB256_289.lt
       have hlt306 := hB223_288.lt
       refine V.cl h299 (Go.Proofs.enters_of Try.func62 (by kernel_rfl) rfl) (hD_283.rdU (fun Hq hq hqb => map_run w281 Hq (b243 :: b232 :: b212 :: b77 :: []) u96 T hq hqb b280 hB279 b243 b232 b212 A202 c203 hB266_290 hB256_289 w143.heap.size nW hB223_288 hgT.ok hS205_287 (by have := hgT.nn; omega) hks1 (by omega) (by omega))) ?_
       rintro _ w307 ⟨⟨v303, rfl⟩, hB300, hB301, hF302⟩
       refine ⟨_, rfl, fun a h308 => ?_⟩
       have hsw307 := hF302.size
       have hD_309 := hD_283.fr hF302 (by intro k hk; simp only [List.mem_cons, List.not_mem_nil, or_false] at hk; rcases hk with hk | hk <;> subst hk <;> first | exact .inl (by first | simp | (rw [hav]; simp)) | exact .inr (fun hq => by (try dsimp only at hq); omega))
       have hF_310 := hF_284.own hF302 (by simp <;> omega)
       have hB223_314 := hB223_288.fr hF302 (by simp <;> omega)
       refine V.nt (k298 _ _ ?_)
       refine V.sg fun K316 k317 => ?_
       refine V.run h308 [] 1 1 0 [(93, .pointer (some ⟨u96, 0, none⟩))] fun a h318 => ?_
       refine V.cl (av := #[.pointer (some ⟨u96, 0, none⟩)]) h318 (Go.Proofs.enters_of Try.func31 (by kernel_rfl) rfl) (by (have h := hD_309.rdU (fun Hq hq hqb => S.sizes_any w307 Hq (b243 :: b232 :: b212 :: b77 :: []) u96 (mapTb T) hq); rw [show (mapTb T).a.length = T.a.length from List.length_map .., show (mapTb T).b.length = T.b.length from List.length_map ..] at h; exact h)) ?_
       rintro _ w320 ⟨rfl, hF319⟩
       refine ⟨_, rfl, fun a h321 => ?_⟩
       have hsw320 := hF319.size
       have hD_322 := hD_309.fr0 hF319
       have hF_323 := hF_310.new hF319
       have hB223_327 := hB223_314.fr0 hF319
       have hB300_329 := hB300.fr0 hF319
       have hB301_330 := hB301.fr0 hF319
       refine V.re h321 [] 92 97 [(17, .int .i64 ((T.a.length : Nat) : Int)), (18, .int .i64 ((T.b.length : Nat) : Int)), (19, .int .i64 ((T.moved : Nat) : Int))] fun a h331 => k317 _ _ ?_
       refine V.seq fun K332 k333 => ?_
       obtain ⟨A335, B336, C337, D338, E339, hBU334⟩ := hD_322.blkR
       have hltu := hBU334.lt
       refine V.rg ?_
       refine V.run h331 [(0, .b hB300_329 0), (1, .b hB301_330 0), (0, .b hB223_327 0), (1, .q (.bool true) (V.t_same ((T.n : Nat) : Int))), (6, .b hBU334 1), (1, .q (.bool true) (V.t_same ((T.a.length : Nat) : Int))), (6, .b hBU334 2), (1, .q (.bool true) (V.t_same ((T.b.length : Nat) : Int))), (6, .b hBU334 3), (0, .q (.bool true) (V.t_same ((T.moved : Nat) : Int)))] 34 98 130 [(131, .bool true)] fun a h340 => ?_
       refine V.clg h340 (Go.Proofs.enters_of Try.func13 (by kernel_rfl) rfl) (alive_any w320) ?_
       rintro _ w342 ⟨rfl, hF341⟩
       refine ⟨_, rfl, fun a h343 => ?_⟩
       have hsw342 := hF341.size
       have hF_345 := hF_323.new hF341
       refine V.re h343 [] 133 133 [(6, .bool true)] fun a h354 => k333 _ _ ?_
       have h355 := h354.only [(6, .bool true)]
       refine V.ret ?_
       refine V.r1 h355 (.bool true) ?_
       exact ⟨rfl, hF_345⟩
     ·
      have h356 := h154.kf 69 hg155
      refine V.re h356 [] 70 71 [(72, .bool false)] fun a h357 => k153 _ _ ?_
      refine V.cf h357 ?_
      refine V.exit (V.then_e (V.then_e (V.blk_hit ?_)))
      refine V.then_n (k138 _ _ ?_)
      refine V.sg fun K358 k359 => ?_
      refine V.run h357 [] 1 1 0 [(83, .pointer (some ⟨r18, 0, none⟩))] fun a h360 => ?_
      refine V.cl h360 (Go.Proofs.enters_of Try.func21 (by kernel_rfl) rfl) (hD_145.rdR (fun Hq hq hqb => rall_any w143 Hq (b77 :: []) r18 T hq hqb)) ?_
      rintro _ w366 ⟨A362, c363, rfl, hO364, hF361⟩
      refine ⟨_, rfl, fun a h367 => ?_⟩
      have hsw366 := hF361.size
      have hD_368 := hD_145.fr0 hF361
      have hF_369 := hF_146.new hF361
      obtain ⟨nW, hnW⟩ : ∃ n, n = w366.heap.size := ⟨_, rfl⟩
      have hS365 := hO364.read (Z' := fun k => w143.heap.size ≤ k ∧ k < nW) (fun _ _ h => h.elim) (fun b hb hl => ⟨hb, by omega⟩)
      refine V.go (V.mk [] trivial (by kernel_rfl) [.slice none 0 0] 42 (fun b => .pointer (some ⟨b, 0, none⟩)) (by kernel_rfl) ?_)
      intro w373 b372 heb372 hB374 hF375 hsb372
      have hD_376 := hD_368.alloc hF375 heb372 (by omega)
      have hF_377 := hF_369.new hF375
      have hS365_380 := hS365.fr0 hF375
      refine V.pt h367 fun a h381 => ?_
      refine V.go (V.stn b372 0 (.slice A362 T.n c363) [.slice A362 T.n c363] h381.e h381.e rfl rfl (by kernel_rfl) hB374 (by simp) [.slice A362 T.n c363] rfl ?_)
      intro w382 hB383 hF384 hsw382
      have hD_385 := hD_376.fr hF384 (by intro k hk; simp only [List.mem_singleton] at hk; subst hk; first | exact .inl (by first | simp | (rw [hav]; simp)) | exact .inr (fun hq => by (try dsimp only at hq); omega))
      have hF_386 := hF_377.own hF384 (by simp <;> omega)
      have hS365_389 := hS365_380.fr hF384 (by simp <;> omega)
      refine V.nt (k359 _ _ ?_)
      refine V.sg fun K390 k391 => ?_
      refine V.go (V.mk [] trivial (by kernel_rfl) [.int .i64 0] 3 (fun b => .pointer (some ⟨b, 0, none⟩)) (by kernel_rfl) ?_)
      intro w393 b392 heb392 hB394 hF395 hsb392
      have hD_396 := hD_385.alloc hF395 heb392 (by omega)
      have hF_397 := hF_386.new hF395
      have hS365_400 := hS365_389.fr0 hF395
      have hB383_401 := hB383.fr0 hF395
      refine V.pt h381 fun a h402 => ?_
      refine V.go (V.mk [] trivial (by kernel_rfl) [.bool false] 4 (fun b => .pointer (some ⟨b, 0, none⟩)) (by kernel_rfl) ?_)
      intro w404 b403 heb403 hB405 hF406 hsb403
      have hD_407 := hD_396.alloc hF406 heb403 (by omega)
      have hF_408 := hF_397.new hF406
      have hS365_411 := hS365_400.fr0 hF406
      have hB383_412 := hB383_401.fr0 hF406
      have hB394_413 := hB394.fr0 hF406
      refine V.pt h402 fun a h414 => ?_
      refine V.go (V.stn b392 0 (.int .i64 0) [.int .i64 0] h414.e evc rfl rfl (by kernel_rfl) hB394_413 (by simp) [.int .i64 0] rfl ?_)
      intro w415 hB416 hF417 hsw415
      have hD_418 := hD_407.fr hF417 (by intro k hk; simp only [List.mem_singleton] at hk; subst hk; first | exact .inl (by first | simp | (rw [hav]; simp)) | exact .inr (fun hq => by (try dsimp only at hq); omega))
      have hF_419 := hF_408.own hF417 (by simp <;> omega)
      have hS365_422 := hS365_411.fr hF417 (by simp <;> omega)
      have hB383_423 := hB383_412.fr1 hF417 (by omega)
      have hB405_424 := hB405.fr1 hF417 (by omega)
      refine V.go (V.stn b403 0 (.bool true) [.bool true] h414.e evc rfl rfl (by kernel_rfl) hB405_424 (by simp) [.bool true] rfl ?_)
      intro w425 hB426 hF427 hsw425
      have hD_428 := hD_418.fr hF427 (by intro k hk; simp only [List.mem_singleton] at hk; subst hk; first | exact .inl (by first | simp | (rw [hav]; simp)) | exact .inr (fun hq => by (try dsimp only at hq); omega))
      have hF_429 := hF_419.own hF427 (by simp <;> omega)
      have hS365_432 := hS365_422.fr hF427 (by simp <;> omega)
      have hB383_433 := hB383_423.fr1 hF427 (by omega)
      have hB416_434 := hB416.fr1 hF427 (by omega)
      refine V.nt (k391 _ _ ?_)
      refine V.sg fun K435 k436 => ?_
      refine V.run h414 [] 1 1 0 [(85, .pointer (some ⟨u96, 0, none⟩))] fun a h437 => ?_
      refine V.cl h437 (Go.Proofs.enters_of Try.func29 (by kernel_rfl) rfl) (S.all_any w425 (some ⟨u96, 0, none⟩)) ?_
      rintro _ w441 ⟨b440, rfl, hB439, hleb440, hF438⟩
      refine ⟨_, rfl, fun a h442 => ?_⟩
      have hsw441 := hF438.size
      have hD_443 := hD_428.fr0 hF438
      have hF_444 := hF_429.new hF438
      have hS365_447 := hS365_432.fr0 hF438
      have hB383_448 := hB383_433.fr0 hF438
      have hB416_449 := hB416_434.fr0 hF438
      have hB426_450 := hB426.fr0 hF438
      have hlthB439 := hB439.lt
      refine V.re h442 [] 1 0 [(16, .func (.func 62) #[] #[.pointer (some ⟨b440, 0, none⟩)])] fun a h451 => k436 _ _ ?_
      refine V.seq fun K452 k453 => ?_
      refine V.sr h451 [] 87 87 [(88, .bool false)] fun a h456 => ?_
      refine V.cf h456 ?_
      refine V.skip ?_
      refine V.then_n (k453 _ _ ?_)
      refine V.sg fun K457 k458 => ?_
      refine V.run h456 [] 2 1 0 [(89, .func (.func 62) #[] #[.pointer (some ⟨b440, 0, none⟩)]), (90, .func (.func 35) #[] #[.pointer (some ⟨b403, 0, none⟩), .pointer (some ⟨b392, 0, none⟩), .pointer (some ⟨b372, 0, none⟩)])] fun a h459 => ?_
      have hlt464 := hB426_450.lt
      have hlt465 := hB416_449.lt
      have hlt466 := hB383_448.lt
      refine V.cl h459 (Go.Proofs.enters_of Try.func62 (by kernel_rfl) rfl) (hD_443.rdU (fun Hq hq hqb => map_run w441 Hq (b403 :: b392 :: b372 :: b77 :: []) u96 T hq hqb b440 hB439 b403 b392 b372 A362 c363 hB426_450 hB416_449 w143.heap.size nW hB383_448 hgT.ok hS365_447 (by have := hgT.nn; omega) hks1 (by omega) (by omega))) ?_
      rintro _ w467 ⟨⟨v463, rfl⟩, hB460, hB461, hF462⟩
      refine ⟨_, rfl, fun a h468 => ?_⟩
      have hsw467 := hF462.size
      have hD_469 := hD_443.fr hF462 (by intro k hk; simp only [List.mem_cons, List.not_mem_nil, or_false] at hk; rcases hk with hk | hk <;> subst hk <;> first | exact .inl (by first | simp | (rw [hav]; simp)) | exact .inr (fun hq => by (try dsimp only at hq); omega))
      have hF_470 := hF_444.own hF462 (by simp <;> omega)
      have hB383_474 := hB383_448.fr hF462 (by simp <;> omega)
      refine V.nt (k458 _ _ ?_)
      refine V.sg fun K476 k477 => ?_
      refine V.run h468 [] 1 1 0 [(93, .pointer (some ⟨u96, 0, none⟩))] fun a h478 => ?_
      refine V.cl (av := #[.pointer (some ⟨u96, 0, none⟩)]) h478 (Go.Proofs.enters_of Try.func31 (by kernel_rfl) rfl) (by (have h := hD_469.rdU (fun Hq hq hqb => S.sizes_any w467 Hq (b403 :: b392 :: b372 :: b77 :: []) u96 (mapTb T) hq); rw [show (mapTb T).a.length = T.a.length from List.length_map .., show (mapTb T).b.length = T.b.length from List.length_map ..] at h; exact h)) ?_
      rintro _ w480 ⟨rfl, hF479⟩
      refine ⟨_, rfl, fun a h481 => ?_⟩
      have hsw480 := hF479.size
      have hD_482 := hD_469.fr0 hF479
      have hF_483 := hF_470.new hF479
      have hB383_487 := hB383_474.fr0 hF479
      have hB460_489 := hB460.fr0 hF479
      have hB461_490 := hB461.fr0 hF479
      refine V.re h481 [] 92 97 [(17, .int .i64 ((T.a.length : Nat) : Int)), (18, .int .i64 ((T.b.length : Nat) : Int)), (19, .int .i64 ((T.moved : Nat) : Int))] fun a h491 => k477 _ _ ?_
      refine V.seq fun K492 k493 => ?_
      obtain ⟨A495, B496, C497, D498, E499, hBU494⟩ := hD_482.blkR
      have hltu := hBU494.lt
      refine V.rg ?_
      refine V.run h491 [(0, .b hB460_489 0), (1, .b hB461_490 0), (0, .b hB383_487 0), (1, .q (.bool true) (V.t_same ((T.n : Nat) : Int))), (6, .b hBU494 1), (1, .q (.bool true) (V.t_same ((T.a.length : Nat) : Int))), (6, .b hBU494 2), (1, .q (.bool true) (V.t_same ((T.b.length : Nat) : Int))), (6, .b hBU494 3), (0, .q (.bool true) (V.t_same ((T.moved : Nat) : Int)))] 34 98 130 [(131, .bool true)] fun a h500 => ?_
      refine V.clg h500 (Go.Proofs.enters_of Try.func13 (by kernel_rfl) rfl) (alive_any w480) ?_
      rintro _ w502 ⟨rfl, hF501⟩
      refine ⟨_, rfl, fun a h503 => ?_⟩
      have hsw502 := hF501.size
      have hF_505 := hF_483.new hF501
      refine V.re h503 [] 133 133 [(6, .bool true)] fun a h514 => k493 _ _ ?_
      have h515 := h514.only [(6, .bool true)]
      refine V.ret ?_
      refine V.r1 h515 (.bool true) ?_
      exact ⟨rfl, hF_505⟩
  ·
   have h516 := h51.kf 30 hg52
   refine V.re h516 [] 31 32 [(33, .bool false)] fun a h517 => k50 _ _ ?_
   refine V.cf h517 ?_
   refine V.exit (V.then_e (V.then_e (V.blk_hit ?_)))
   refine V.then_n (k35 _ _ ?_)
   refine V.sg fun K518 k519 => ?_
   refine V.go (V.mk [] trivial (by kernel_rfl) [.int .i64 0] 3 (fun b => .pointer (some ⟨b, 0, none⟩)) (by kernel_rfl) ?_)
   intro w521 b520 heb520 hB522 hF523 hsb520
   have hD_524 := hD_42.alloc hF523 heb520 (by omega)
   have hF_525 := hF_43.new hF523
   have hS_526 := hS_44.fr0 hF523
   have hS2_527 := hS2_45.fr0 hF523
   refine V.pt h517 fun a h528 => ?_
   refine V.go (V.stn b520 0 (.int .i64 0) [.int .i64 0] h528.e evc rfl rfl (by kernel_rfl) hB522 (by simp) [.int .i64 0] rfl ?_)
   intro w529 hB530 hF531 hsw529
   have hD_532 := hD_524.fr hF531 (by intro k hk; simp only [List.mem_singleton] at hk; subst hk; first | exact .inl (by first | simp | (rw [hav]; simp)) | exact .inr (fun hq => by (try dsimp only at hq); omega))
   have hF_533 := hF_525.own hF531 (by simp <;> omega)
   have hS_534 := hS_526.fr hF531 (by simp <;> omega)
   have hS2_535 := hS2_527.fr hF531 (by simp <;> omega)
   refine V.nt (k519 _ _ ?_)
   refine V.seq fun K536 k537 => ?_
   have hC9 : ∀ k, k = b520 → w.heap.size ≤ k := fun k hk => by omega
   refine V.rg ?_
   refine V.run h528 [] 2 1 0 [(43, .pointer (some ⟨t8, 0, none⟩)), (44, .func (.func 33) #[] #[.pointer (some ⟨b520, 0, none⟩)])] fun a h538 => ?_
   have hks1 : ∀ x ∈ (T.a ++ T.b).flatten, x.1.size ≤ 100 := hkq.mem
   refine V.cl h538 (Go.Proofs.enters_of Try.func32 (by kernel_rfl) rfl) (map_D2 w529 b520 hD_532 hB530 (by omega) hks1) ?_
   rintro _ w543 ⟨u539, rfl, hD540, hC541, hF542⟩
   refine ⟨_, rfl, fun a h544 => ?_⟩
   have hsw543 := hF542.size
   have hF_545 := hF_533.trP hF542 (fun k hk => .inr (hC9 k hk))
   have hS_546 := hS_534.frP hF542 (fun k hz hp => by first | (have h1 := hp.1; (try dsimp only at hz h1); omega) | (have h1 := hC9 k hp; (try dsimp only at hz); omega))
   have hS2_547 := hS2_535.frP hF542 (fun k hz hp => by first | (have h1 := hp.1; (try dsimp only at hz h1); omega) | (have h1 := hC9 k hp; (try dsimp only at hz); omega))
   have hF9 := hF542
   have hltu9 := hC541.lt
   refine V.re h544 [] 1 0 [(11, .pointer (some ⟨u539, 0, none⟩))] fun a h548 => k537 _ _ ?_
   refine V.seq fun K549 k550 => ?_
   refine V.seq fun K551 k552 => ?_
   obtain ⟨A554, B555, C556, D557, E558, hBU553⟩ := hD540.blkR
   have hltu := hBU553.lt
   refine V.pl [([0],some (1,[])),([2,3,4,5,6,7,8,9,10,11,13,14,15,16],some (12,[16])),([17,18],none)] fun w559 hF560 hsw559 => ?_
   have hF_561 := hF_545.new hF560
   have hS_562 := hS_546.fr0 hF560
   have hS2_563 := hS2_547.fr0 hF560
   have hD540_564 := hD540.fr0 hF560
   have hC541_565 := hC541.fr0 hF560
   have hBU553_566 := hBU553.fr0 hF560
   refine V.pe h548 [] 1 0 [(46, .pointer (some ⟨u539, 0, none⟩))] fun a h567 => ?_
   refine V.run h567 [] 1 1 0 [(47, .bool false)] fun a h568 => ?_
   refine V.eh trivial ?_
   refine V.pe h568 [(1, .b hC541_565 0), (3, .b hBU553_566 4), (0, .q (.bool false) (V.t_nsame (T.n : Int))), (6, .b hBU553_566 4)] 48 60 [(56, .bool false), (57, .pointer (some ⟨u539, 0, none⟩)), (61, .pointer (some ⟨r18, 4, none⟩)), (62, .int .i64 (T.n : Int))] fun a h569 => ?_
   refine V.clg h569 (Go.Proofs.enters_of Try.func34 (by kernel_rfl) rfl) (hD540_564.rdU (fun Hq hq hqb => S.len_any w559 Hq (b520 :: []) u539 (mapTb T) hq)) ?_
   rintro _ w571 ⟨rfl, hF570⟩
   refine ⟨_, rfl, fun a h572 => ?_⟩
   have hsw571 := hF570.size
   have hF_573 := hF_561.new hF570
   have hS_574 := hS_562.fr0 hF570
   have hS2_575 := hS2_563.fr0 hF570
   have hD540_576 := hD540_564.fr0 hF570
   have hBU553_578 := hBU553_566.fr0 hF570
   refine V.eh (fun _ => held_blk (n := 1) (hx := (h569.e (v := (.pointer (some ⟨r18, 4, none⟩))))) hBU553_566 hBU553_578 (by kernel_rfl) rfl (by simp only [List.length]; omega)) ?_
   refine V.pz h572 [(0, .q (.bool false) (V.t_nsame (T.n : Int)))] 63 63 [(64, .bool false)] fun a h579 => k552 _ _ ?_
   refine V.cf h579 ?_
   refine V.skip ?_
   refine V.then_n (k550 _ _ ?_)
   refine V.seq fun K580 k581 => ?_
   refine V.seq fun K582 k583 => ?_
   have hok9 := hgT.ok
   have hnn9 := hgT.nn
   refine V.rr h579 [] 1 0 [(12, .int .i64 0)] fun a h584 => ?_
   refine V.then_n (k583 _ _ ?_)
   refine V.block ?_
   refine V.loop2 (fun (j : Nat) (S2 : Tb Int) a_ w_ => En 134 [] a_ [(0, .int .u64 (seed : Int)), (2, .slice A2 l2.length c2), (7, .pointer (some ⟨t8, 0, none⟩)), (8, .pointer (some ⟨r18, 0, none⟩)), (11, .pointer (some ⟨u539, 0, none⟩)), (12, .int .i64 (j : Int))] ∧ F3 w w_ (b520 :: []) t8 S2 r18 T u539 (mapTb T) ∧ Fr [] w w_ ∧ SlR opR (fun k => k < w.heap.size) w_ (.slice A0 l.length c0) l ∧ SlR opR (fun k => k < w.heap.size) w_ (.slice A2 l2.length c2) l2 ∧ (j ≤ l2.length ∧ j ≤ 50) ∧ (Gd S2 (i + j))) (fun (j : Nat) (S2 : Tb Int) => l2.length - j) 0 T ?_ ?_
   ·
    refine ⟨(h584.eq 12 (v := (.int .i64 0)) (u := (.int .i64 (0 : Int))) (V.int_eq (by omega))).only _, hD540_576, hF_573, hS_574, hS2_575, (by omega), hgT⟩
   ·
    rintro j S2 a585 w586 ⟨h587, hD_588, hF_589, hS_590, hS2_591, hj, hgS⟩
    have hfs592 := hF_589.size
    have hlen1 := hS2.len_le
    refine V.seq fun K593 k594 => ?_
    refine V.sg fun K595 k596 => ?_
    refine V.run h587 [] 5 65 68 [(69, .bool (decide ((j : Int) < ((l2.length : Nat) : Int))))] fun a h597 => ?_
    by_cases hg598 : (j : Int) < ((l2.length : Nat) : Int)
    ·
     have h599 := h597.kt 69 hg598
     refine V.re h599 [] 70 71 [(72, .bool (decide ((j : Int) < 50)))] fun a h600 => k596 _ _ ?_
     refine V.cp h600 ((j : Int) < 50) (fun ht601 => ?_) (fun ht601 => ?_)
     ·
      refine V.skip ?_
      refine V.then_n (k594 _ _ ?_)
      refine V.seq fun K602 k603 => ?_
      refine V.block ?_
      refine V.pl [([0,1,3,4,5,6],some (2,[6])),([],some (7,[])),([],none)] fun w604 hF605 hsw604 => ?_
      have hD_606 := hD_588.fr0 hF605
      have hF_607 := hF_589.new hF605
      have hS_608 := hS_590.fr0 hF605
      have hS2_609 := hS2_591.fr0 hF605
      obtain ⟨g610, o611, hA612, hA612l, hA612z⟩ := hS2_609.addr (by omega)
      obtain ⟨cs613, hok614, hE615⟩ := hS2_609.els hA612 (j : Int) (by omega) (by omega)
      refine V.pe0 ?_
      refine V.run h600 [(4, .ix g610 o611 l2.length c2 .i64 (j : Int) 4 hA612)] 5 78 79 [(75, .pointer (some ⟨t8, 0, none⟩)), (76, .int .u64 (seed : Int)), (80, .pointer (some ⟨g610, o611 + (j : Int).toNat * 4, none⟩))] fun a h617 => ?_
      obtain ⟨rfl, hoo616⟩ := hok614
      refine V.se h617 [(0, .ls ⟨g610, o611 + (j : Int).toNat * 4, none⟩ [.int .i64 ((at_ opR l2 (j : Int)).kind), .string ((at_ opR l2 (j : Int)).key), .int .i64 ((at_ opR l2 (j : Int)).v), .int .u64 ((at_ opR l2 (j : Int)).draw : Int)] (hE615.cells 0 _ rfl))] 1 0 [(81, .agg #[.int .i64 ((at_ opR l2 (j : Int)).kind), .string ((at_ opR l2 (j : Int)).key), .int .i64 ((at_ opR l2 (j : Int)).v), .int .u64 ((at_ opR l2 (j : Int)).draw : Int)])] fun a h618 => ?_
      refine V.cl h618 (Go.Proofs.enters_of Try.func15 (by kernel_rfl) rfl) (rnew_any w604 (b520 :: []) (hD_606.avh) seed hsd) ?_
      rintro _ w623 ⟨r619, rfl, hU620, hF621⟩
      refine ⟨_, rfl, fun a h624 => ?_⟩
      have hsw623 := hF621.size
      have hF_626 := hF_607.new hF621
      have hS_627 := hS_608.fr0 hF621
      have hS2_628 := hS2_609.fr0 hF621
      have hE615_629 := hE615.fr0 hF621
      have hD622 := hD_606.two hF621 hU620 (by omega)
      refine V.eh (fun _ => held_els (m := 4) (f := 0) (hx := (h618.e (v := (.pointer (some ⟨g610, o611 + (j : Int).toNat * 4, none⟩))))) hE615 hE615_629 (by kernel_rfl) (by simp only [List.length]; omega)) ?_
      refine V.pe h624 [] 1 0 [] fun a h630 => ?_
      refine V.cl h630 (Go.Proofs.enters_of Try.func16 (by kernel_rfl) rfl) (hD622.act (i + j) (at_ opR l2 (j : Int)) hgS (Gd.new hsd) (by omega) hoo616 (by omega)) ?_
      rintro _ w634 ⟨⟨bb633, rfl⟩, hD631, hfp632⟩
      refine ⟨_, rfl, fun a h635 => ?_⟩
      have hsw634 := hfp632.size
      have hF_636 := hF_626.trP hfp632 (fun k hk => .inr hk.1)
      have hS_637 := hS_627.frP hfp632 (fun k hz hp => by first | (have h1 := hp.1; (try dsimp only at hz h1); omega) | (have h1 := hC9 k hp; (try dsimp only at hz); omega))
      have hS2_638 := hS2_628.frP hfp632 (fun k hz hp => by first | (have h1 := hp.1; (try dsimp only at hz h1); omega) | (have h1 := hC9 k hp; (try dsimp only at hz); omega))
      refine V.eh trivial ?_
      refine V.pz h635 [] 1 0 [] fun a h639 => ?_
      refine V.blk_n ?_
      refine V.then_n (k603 _ _ ?_)
      refine V.rr h639 [(1, .i ((j : Int) + 1))] 73 74 [(12, .int .i64 ((j : Int) + 1))] fun a h640 => ?_
      refine V.then_n ?_
      refine ⟨j + 1, actT S2 (at_ opR l2 (j : Int)), by omega, ?_⟩
      refine ⟨(h640.eq 12 (v := (.int .i64 ((j : Int) + 1))) (u := (.int .i64 ((j + 1) : Int))) (V.int_eq (by omega))).only _, hD631, hF_636, hS_637, hS2_638, (by omega), (hgS.act (by omega) _)⟩
     ·
      refine V.exit (V.then_e (V.then_e (V.blk_hit ?_)))
      refine V.then_n (k581 _ _ ?_)
      refine V.sg fun K641 k642 => ?_
      refine V.run h600 [] 1 1 0 [(83, .pointer (some ⟨r18, 0, none⟩))] fun a h643 => ?_
      refine V.cl h643 (Go.Proofs.enters_of Try.func21 (by kernel_rfl) rfl) (hD_588.rdR (fun Hq hq hqb => rall_any w586 Hq (b520 :: []) r18 T hq hqb)) ?_
      rintro _ w649 ⟨A645, c646, rfl, hO647, hF644⟩
      refine ⟨_, rfl, fun a h650 => ?_⟩
      have hsw649 := hF644.size
      have hD_651 := hD_588.fr0 hF644
      have hF_652 := hF_589.new hF644
      obtain ⟨nW, hnW⟩ : ∃ n, n = w649.heap.size := ⟨_, rfl⟩
      have hS648 := hO647.read (Z' := fun k => w586.heap.size ≤ k ∧ k < nW) (fun _ _ h => h.elim) (fun b hb hl => ⟨hb, by omega⟩)
      refine V.go (V.mk [] trivial (by kernel_rfl) [.slice none 0 0] 42 (fun b => .pointer (some ⟨b, 0, none⟩)) (by kernel_rfl) ?_)
      intro w656 b655 heb655 hB657 hF658 hsb655
      have hD_659 := hD_651.alloc hF658 heb655 (by omega)
      have hF_660 := hF_652.new hF658
      have hS648_663 := hS648.fr0 hF658
      refine V.pt h650 fun a h664 => ?_
      refine V.go (V.stn b655 0 (.slice A645 T.n c646) [.slice A645 T.n c646] h664.e h664.e rfl rfl (by kernel_rfl) hB657 (by simp) [.slice A645 T.n c646] rfl ?_)
      intro w665 hB666 hF667 hsw665
      have hD_668 := hD_659.fr hF667 (by intro k hk; simp only [List.mem_singleton] at hk; subst hk; first | exact .inl (by first | simp | (rw [hav]; simp)) | exact .inr (fun hq => by (try dsimp only at hq); omega))
      have hF_669 := hF_660.own hF667 (by simp <;> omega)
      have hS648_672 := hS648_663.fr hF667 (by simp <;> omega)
      refine V.nt (k642 _ _ ?_)
      refine V.sg fun K673 k674 => ?_
      refine V.go (V.mk [] trivial (by kernel_rfl) [.int .i64 0] 3 (fun b => .pointer (some ⟨b, 0, none⟩)) (by kernel_rfl) ?_)
      intro w676 b675 heb675 hB677 hF678 hsb675
      have hD_679 := hD_668.alloc hF678 heb675 (by omega)
      have hF_680 := hF_669.new hF678
      have hS648_683 := hS648_672.fr0 hF678
      have hB666_684 := hB666.fr0 hF678
      refine V.pt h664 fun a h685 => ?_
      refine V.go (V.mk [] trivial (by kernel_rfl) [.bool false] 4 (fun b => .pointer (some ⟨b, 0, none⟩)) (by kernel_rfl) ?_)
      intro w687 b686 heb686 hB688 hF689 hsb686
      have hD_690 := hD_679.alloc hF689 heb686 (by omega)
      have hF_691 := hF_680.new hF689
      have hS648_694 := hS648_683.fr0 hF689
      have hB666_695 := hB666_684.fr0 hF689
      have hB677_696 := hB677.fr0 hF689
      refine V.pt h685 fun a h697 => ?_
      refine V.go (V.stn b675 0 (.int .i64 0) [.int .i64 0] h697.e evc rfl rfl (by kernel_rfl) hB677_696 (by simp) [.int .i64 0] rfl ?_)
      intro w698 hB699 hF700 hsw698
      have hD_701 := hD_690.fr hF700 (by intro k hk; simp only [List.mem_singleton] at hk; subst hk; first | exact .inl (by first | simp | (rw [hav]; simp)) | exact .inr (fun hq => by (try dsimp only at hq); omega))
      have hF_702 := hF_691.own hF700 (by simp <;> omega)
      have hS648_705 := hS648_694.fr hF700 (by simp <;> omega)
      have hB666_706 := hB666_695.fr1 hF700 (by omega)
      have hB688_707 := hB688.fr1 hF700 (by omega)
      refine V.go (V.stn b686 0 (.bool true) [.bool true] h697.e evc rfl rfl (by kernel_rfl) hB688_707 (by simp) [.bool true] rfl ?_)
      intro w708 hB709 hF710 hsw708
      have hD_711 := hD_701.fr hF710 (by intro k hk; simp only [List.mem_singleton] at hk; subst hk; first | exact .inl (by first | simp | (rw [hav]; simp)) | exact .inr (fun hq => by (try dsimp only at hq); omega))
      have hF_712 := hF_702.own hF710 (by simp <;> omega)
      have hS648_715 := hS648_705.fr hF710 (by simp <;> omega)
      have hB666_716 := hB666_706.fr1 hF710 (by omega)
      have hB699_717 := hB699.fr1 hF710 (by omega)
      refine V.nt (k674 _ _ ?_)
      refine V.sg fun K718 k719 => ?_
      refine V.run h697 [] 1 1 0 [(85, .pointer (some ⟨u539, 0, none⟩))] fun a h720 => ?_
      refine V.cl h720 (Go.Proofs.enters_of Try.func29 (by kernel_rfl) rfl) (S.all_any w708 (some ⟨u539, 0, none⟩)) ?_
      rintro _ w724 ⟨b723, rfl, hB722, hleb723, hF721⟩
      refine ⟨_, rfl, fun a h725 => ?_⟩
      have hsw724 := hF721.size
      have hD_726 := hD_711.fr0 hF721
      have hF_727 := hF_712.new hF721
      have hS648_730 := hS648_715.fr0 hF721
      have hB666_731 := hB666_716.fr0 hF721
      have hB699_732 := hB699_717.fr0 hF721
      have hB709_733 := hB709.fr0 hF721
      have hlthB722 := hB722.lt
      refine V.re h725 [] 1 0 [(16, .func (.func 62) #[] #[.pointer (some ⟨b723, 0, none⟩)])] fun a h734 => k719 _ _ ?_
      refine V.seq fun K735 k736 => ?_
      refine V.sr h734 [] 87 87 [(88, .bool false)] fun a h739 => ?_
      refine V.cf h739 ?_
      refine V.skip ?_
      refine V.then_n (k736 _ _ ?_)
      refine V.sg fun K740 k741 => ?_
      refine V.run h739 [] 2 1 0 [(89, .func (.func 62) #[] #[.pointer (some ⟨b723, 0, none⟩)]), (90, .func (.func 35) #[] #[.pointer (some ⟨b686, 0, none⟩), .pointer (some ⟨b675, 0, none⟩), .pointer (some ⟨b655, 0, none⟩)])] fun a h742 => ?_
      have hlt747 := hB709_733.lt
      have hlt748 := hB699_732.lt
      have hlt749 := hB666_731.lt
      refine V.cl h742 (Go.Proofs.enters_of Try.func62 (by kernel_rfl) rfl) (hD_726.rdU (fun Hq hq hqb => map_run w724 Hq (b686 :: b675 :: b655 :: b520 :: []) u539 T hq hqb b723 hB722 b686 b675 b655 A645 c646 hB709_733 hB699_732 w586.heap.size nW hB666_731 hgT.ok hS648_730 (by have := hgT.nn; omega) hks1 (by omega) (by omega))) ?_
      rintro _ w750 ⟨⟨v746, rfl⟩, hB743, hB744, hF745⟩
      refine ⟨_, rfl, fun a h751 => ?_⟩
      have hsw750 := hF745.size
      have hD_752 := hD_726.fr hF745 (by intro k hk; simp only [List.mem_cons, List.not_mem_nil, or_false] at hk; rcases hk with hk | hk <;> subst hk <;> first | exact .inl (by first | simp | (rw [hav]; simp)) | exact .inr (fun hq => by (try dsimp only at hq); omega))
      have hF_753 := hF_727.own hF745 (by simp <;> omega)
      have hB666_757 := hB666_731.fr hF745 (by simp <;> omega)
      refine V.nt (k741 _ _ ?_)
      refine V.sg fun K759 k760 => ?_
      refine V.run h751 [] 1 1 0 [(93, .pointer (some ⟨u539, 0, none⟩))] fun a h761 => ?_
      refine V.cl (av := #[.pointer (some ⟨u539, 0, none⟩)]) h761 (Go.Proofs.enters_of Try.func31 (by kernel_rfl) rfl) (by (have h := hD_752.rdU (fun Hq hq hqb => S.sizes_any w750 Hq (b686 :: b675 :: b655 :: b520 :: []) u539 (mapTb T) hq); rw [show (mapTb T).a.length = T.a.length from List.length_map .., show (mapTb T).b.length = T.b.length from List.length_map ..] at h; exact h)) ?_
      rintro _ w763 ⟨rfl, hF762⟩
      refine ⟨_, rfl, fun a h764 => ?_⟩
      have hsw763 := hF762.size
      have hD_765 := hD_752.fr0 hF762
      have hF_766 := hF_753.new hF762
      have hB666_770 := hB666_757.fr0 hF762
      have hB743_772 := hB743.fr0 hF762
      have hB744_773 := hB744.fr0 hF762
      refine V.re h764 [] 92 97 [(17, .int .i64 ((T.a.length : Nat) : Int)), (18, .int .i64 ((T.b.length : Nat) : Int)), (19, .int .i64 ((T.moved : Nat) : Int))] fun a h774 => k760 _ _ ?_
      refine V.seq fun K775 k776 => ?_
      obtain ⟨A778, B779, C780, D781, E782, hBU777⟩ := hD_765.blkR
      have hltu := hBU777.lt
      refine V.rg ?_
      refine V.run h774 [(0, .b hB743_772 0), (1, .b hB744_773 0), (0, .b hB666_770 0), (1, .q (.bool true) (V.t_same ((T.n : Nat) : Int))), (6, .b hBU777 1), (1, .q (.bool true) (V.t_same ((T.a.length : Nat) : Int))), (6, .b hBU777 2), (1, .q (.bool true) (V.t_same ((T.b.length : Nat) : Int))), (6, .b hBU777 3), (0, .q (.bool true) (V.t_same ((T.moved : Nat) : Int)))] 34 98 130 [(131, .bool true)] fun a h783 => ?_
      refine V.clg h783 (Go.Proofs.enters_of Try.func13 (by kernel_rfl) rfl) (alive_any w763) ?_
      rintro _ w785 ⟨rfl, hF784⟩
      refine ⟨_, rfl, fun a h786 => ?_⟩
      have hsw785 := hF784.size
      have hF_788 := hF_766.new hF784
      refine V.re h786 [] 133 133 [(6, .bool true)] fun a h797 => k776 _ _ ?_
      have h798 := h797.only [(6, .bool true)]
      refine V.ret ?_
      refine V.r1 h798 (.bool true) ?_
      exact ⟨rfl, hF_788⟩
    ·
     have h799 := h597.kf 69 hg598
     refine V.re h799 [] 70 71 [(72, .bool false)] fun a h800 => k596 _ _ ?_
     refine V.cf h800 ?_
     refine V.exit (V.then_e (V.then_e (V.blk_hit ?_)))
     refine V.then_n (k581 _ _ ?_)
     refine V.sg fun K801 k802 => ?_
     refine V.run h800 [] 1 1 0 [(83, .pointer (some ⟨r18, 0, none⟩))] fun a h803 => ?_
     refine V.cl h803 (Go.Proofs.enters_of Try.func21 (by kernel_rfl) rfl) (hD_588.rdR (fun Hq hq hqb => rall_any w586 Hq (b520 :: []) r18 T hq hqb)) ?_
     rintro _ w809 ⟨A805, c806, rfl, hO807, hF804⟩
     refine ⟨_, rfl, fun a h810 => ?_⟩
     have hsw809 := hF804.size
     have hD_811 := hD_588.fr0 hF804
     have hF_812 := hF_589.new hF804
     obtain ⟨nW, hnW⟩ : ∃ n, n = w809.heap.size := ⟨_, rfl⟩
     have hS808 := hO807.read (Z' := fun k => w586.heap.size ≤ k ∧ k < nW) (fun _ _ h => h.elim) (fun b hb hl => ⟨hb, by omega⟩)
     refine V.go (V.mk [] trivial (by kernel_rfl) [.slice none 0 0] 42 (fun b => .pointer (some ⟨b, 0, none⟩)) (by kernel_rfl) ?_)
     intro w816 b815 heb815 hB817 hF818 hsb815
     have hD_819 := hD_811.alloc hF818 heb815 (by omega)
     have hF_820 := hF_812.new hF818
     have hS808_823 := hS808.fr0 hF818
     refine V.pt h810 fun a h824 => ?_
     refine V.go (V.stn b815 0 (.slice A805 T.n c806) [.slice A805 T.n c806] h824.e h824.e rfl rfl (by kernel_rfl) hB817 (by simp) [.slice A805 T.n c806] rfl ?_)
     intro w825 hB826 hF827 hsw825
     have hD_828 := hD_819.fr hF827 (by intro k hk; simp only [List.mem_singleton] at hk; subst hk; first | exact .inl (by first | simp | (rw [hav]; simp)) | exact .inr (fun hq => by (try dsimp only at hq); omega))
     have hF_829 := hF_820.own hF827 (by simp <;> omega)
     have hS808_832 := hS808_823.fr hF827 (by simp <;> omega)
     refine V.nt (k802 _ _ ?_)
     refine V.sg fun K833 k834 => ?_
     refine V.go (V.mk [] trivial (by kernel_rfl) [.int .i64 0] 3 (fun b => .pointer (some ⟨b, 0, none⟩)) (by kernel_rfl) ?_)
     intro w836 b835 heb835 hB837 hF838 hsb835
     have hD_839 := hD_828.alloc hF838 heb835 (by omega)
     have hF_840 := hF_829.new hF838
     have hS808_843 := hS808_832.fr0 hF838
     have hB826_844 := hB826.fr0 hF838
     refine V.pt h824 fun a h845 => ?_
     refine V.go (V.mk [] trivial (by kernel_rfl) [.bool false] 4 (fun b => .pointer (some ⟨b, 0, none⟩)) (by kernel_rfl) ?_)
     intro w847 b846 heb846 hB848 hF849 hsb846
     have hD_850 := hD_839.alloc hF849 heb846 (by omega)
     have hF_851 := hF_840.new hF849
     have hS808_854 := hS808_843.fr0 hF849
     have hB826_855 := hB826_844.fr0 hF849
     have hB837_856 := hB837.fr0 hF849
     refine V.pt h845 fun a h857 => ?_
     refine V.go (V.stn b835 0 (.int .i64 0) [.int .i64 0] h857.e evc rfl rfl (by kernel_rfl) hB837_856 (by simp) [.int .i64 0] rfl ?_)
     intro w858 hB859 hF860 hsw858
     have hD_861 := hD_850.fr hF860 (by intro k hk; simp only [List.mem_singleton] at hk; subst hk; first | exact .inl (by first | simp | (rw [hav]; simp)) | exact .inr (fun hq => by (try dsimp only at hq); omega))
     have hF_862 := hF_851.own hF860 (by simp <;> omega)
     have hS808_865 := hS808_854.fr hF860 (by simp <;> omega)
     have hB826_866 := hB826_855.fr1 hF860 (by omega)
     have hB848_867 := hB848.fr1 hF860 (by omega)
     refine V.go (V.stn b846 0 (.bool true) [.bool true] h857.e evc rfl rfl (by kernel_rfl) hB848_867 (by simp) [.bool true] rfl ?_)
     intro w868 hB869 hF870 hsw868
     have hD_871 := hD_861.fr hF870 (by intro k hk; simp only [List.mem_singleton] at hk; subst hk; first | exact .inl (by first | simp | (rw [hav]; simp)) | exact .inr (fun hq => by (try dsimp only at hq); omega))
     have hF_872 := hF_862.own hF870 (by simp <;> omega)
     have hS808_875 := hS808_865.fr hF870 (by simp <;> omega)
     have hB826_876 := hB826_866.fr1 hF870 (by omega)
     have hB859_877 := hB859.fr1 hF870 (by omega)
     refine V.nt (k834 _ _ ?_)
     refine V.sg fun K878 k879 => ?_
     refine V.run h857 [] 1 1 0 [(85, .pointer (some ⟨u539, 0, none⟩))] fun a h880 => ?_
     refine V.cl h880 (Go.Proofs.enters_of Try.func29 (by kernel_rfl) rfl) (S.all_any w868 (some ⟨u539, 0, none⟩)) ?_
     rintro _ w884 ⟨b883, rfl, hB882, hleb883, hF881⟩
     refine ⟨_, rfl, fun a h885 => ?_⟩
     have hsw884 := hF881.size
     have hD_886 := hD_871.fr0 hF881
     have hF_887 := hF_872.new hF881
     have hS808_890 := hS808_875.fr0 hF881
     have hB826_891 := hB826_876.fr0 hF881
     have hB859_892 := hB859_877.fr0 hF881
     have hB869_893 := hB869.fr0 hF881
     have hlthB882 := hB882.lt
     refine V.re h885 [] 1 0 [(16, .func (.func 62) #[] #[.pointer (some ⟨b883, 0, none⟩)])] fun a h894 => k879 _ _ ?_
     refine V.seq fun K895 k896 => ?_
     refine V.sr h894 [] 87 87 [(88, .bool false)] fun a h899 => ?_
     refine V.cf h899 ?_
     refine V.skip ?_
     refine V.then_n (k896 _ _ ?_)
     refine V.sg fun K900 k901 => ?_
     refine V.run h899 [] 2 1 0 [(89, .func (.func 62) #[] #[.pointer (some ⟨b883, 0, none⟩)]), (90, .func (.func 35) #[] #[.pointer (some ⟨b846, 0, none⟩), .pointer (some ⟨b835, 0, none⟩), .pointer (some ⟨b815, 0, none⟩)])] fun a h902 => ?_
     have hlt907 := hB869_893.lt
     have hlt908 := hB859_892.lt
     have hlt909 := hB826_891.lt
     refine V.cl h902 (Go.Proofs.enters_of Try.func62 (by kernel_rfl) rfl) (hD_886.rdU (fun Hq hq hqb => map_run w884 Hq (b846 :: b835 :: b815 :: b520 :: []) u539 T hq hqb b883 hB882 b846 b835 b815 A805 c806 hB869_893 hB859_892 w586.heap.size nW hB826_891 hgT.ok hS808_890 (by have := hgT.nn; omega) hks1 (by omega) (by omega))) ?_
     rintro _ w910 ⟨⟨v906, rfl⟩, hB903, hB904, hF905⟩
     refine ⟨_, rfl, fun a h911 => ?_⟩
     have hsw910 := hF905.size
     have hD_912 := hD_886.fr hF905 (by intro k hk; simp only [List.mem_cons, List.not_mem_nil, or_false] at hk; rcases hk with hk | hk <;> subst hk <;> first | exact .inl (by first | simp | (rw [hav]; simp)) | exact .inr (fun hq => by (try dsimp only at hq); omega))
     have hF_913 := hF_887.own hF905 (by simp <;> omega)
     have hB826_917 := hB826_891.fr hF905 (by simp <;> omega)
     refine V.nt (k901 _ _ ?_)
     refine V.sg fun K919 k920 => ?_
     refine V.run h911 [] 1 1 0 [(93, .pointer (some ⟨u539, 0, none⟩))] fun a h921 => ?_
     refine V.cl (av := #[.pointer (some ⟨u539, 0, none⟩)]) h921 (Go.Proofs.enters_of Try.func31 (by kernel_rfl) rfl) (by (have h := hD_912.rdU (fun Hq hq hqb => S.sizes_any w910 Hq (b846 :: b835 :: b815 :: b520 :: []) u539 (mapTb T) hq); rw [show (mapTb T).a.length = T.a.length from List.length_map .., show (mapTb T).b.length = T.b.length from List.length_map ..] at h; exact h)) ?_
     rintro _ w923 ⟨rfl, hF922⟩
     refine ⟨_, rfl, fun a h924 => ?_⟩
     have hsw923 := hF922.size
     have hD_925 := hD_912.fr0 hF922
     have hF_926 := hF_913.new hF922
     have hB826_930 := hB826_917.fr0 hF922
     have hB903_932 := hB903.fr0 hF922
     have hB904_933 := hB904.fr0 hF922
     refine V.re h924 [] 92 97 [(17, .int .i64 ((T.a.length : Nat) : Int)), (18, .int .i64 ((T.b.length : Nat) : Int)), (19, .int .i64 ((T.moved : Nat) : Int))] fun a h934 => k920 _ _ ?_
     refine V.seq fun K935 k936 => ?_
     obtain ⟨A938, B939, C940, D941, E942, hBU937⟩ := hD_925.blkR
     have hltu := hBU937.lt
     refine V.rg ?_
     refine V.run h934 [(0, .b hB903_932 0), (1, .b hB904_933 0), (0, .b hB826_930 0), (1, .q (.bool true) (V.t_same ((T.n : Nat) : Int))), (6, .b hBU937 1), (1, .q (.bool true) (V.t_same ((T.a.length : Nat) : Int))), (6, .b hBU937 2), (1, .q (.bool true) (V.t_same ((T.b.length : Nat) : Int))), (6, .b hBU937 3), (0, .q (.bool true) (V.t_same ((T.moved : Nat) : Int)))] 34 98 130 [(131, .bool true)] fun a h943 => ?_
     refine V.clg h943 (Go.Proofs.enters_of Try.func13 (by kernel_rfl) rfl) (alive_any w923) ?_
     rintro _ w945 ⟨rfl, hF944⟩
     refine ⟨_, rfl, fun a h946 => ?_⟩
     have hsw945 := hF944.size
     have hF_948 := hF_926.new hF944
     refine V.re h946 [] 133 133 [(6, .bool true)] fun a h957 => k936 _ _ ?_
     have h958 := h957.only [(6, .bool true)]
     refine V.ret ?_
     refine V.r1 h958 (.bool true) ?_
     exact ⟨rfl, hF_948⟩
end Go.Proofs.Ytalhmegjomfbaaa
end
