/- Joined texts: Ll, Kj, Itr, Kk, Mk0, Ki, Kl, Km, Kn, Kg, Kh, Ko, Kp, Kq, Kr. -/
import Derived.Test.YtdebkbfnngkdlaaGreatDoorProg
import Derived.Lib.OthersKept
import Derived.WideLaws
import Derived.Lib.ParseIntBTie
import Derived.Lib.AtoiErrMem
import Derived.Lib.SplitLaws
import Derived.Test.YtdebkbfnngkdlaaGreatDoorIa4
section
namespace Go.Proofs.YtdebkbfnngkdlaaGreatDoor
open Go.V Go.Base
open Go.RowKit (Below)
attribute [local irreducible] Act.put Act.eval
set_option linter.unusedVariables false
set_option linter.unusedSimpArgs false
set_option maxHeartbeats 4000000
set_option maxRecDepth 20000
/-! ### DeleteFunc, Live -/
def deadP (now till : Int) : Prop := ¬ till = -1 ∧ till ≤ now
instance (now till : Int) : Decidable (deadP now till) := inferInstanceAs (Decidable (_ ∧ _))
def gV (now : Int) (l : List EnD) (i : Nat) : Prop := ¬ deadP now (at_ enR l (i : Int)).till
def ixR (now : Int) (l : List EnD) (r : Int) : Prop := (r = -1 ∧ AllG (gV now l) l.length) ∨ ∃ i : Nat, r = i ∧ i < l.length ∧ AllG (gV now l) i ∧ ¬ gV now l i
theorem lvP_iff {now : Int} {x : EnD} : lvP now x = true ↔ ¬ deadP now x.till := by
  unfold lvP deadP
  rw [decide_eq_true_eq]
  omega
def lvQ (now : Int) (p : EnQ) : Bool := lvP now p.2
section
variable {l : List EnD} {qs ps : List EnQ} {now : Int} {i j : Nat} {p : EnQ}
theorem all_lv (h : AllG (gV now (datE qs)) i) (hi : i ≤ qs.length) : (qs.take i).filter (lvQ now) = qs.take i := by
  rw [List.filter_eq_self]
  intro p hp
  obtain ⟨k, hk, rfl⟩ := List.mem_iff_getElem.1 hp
  have hk' := hk
  rw [List.length_take] at hk'
  rw [List.getElem_take]
  have := h k (by omega)
  unfold gV at this
  rw [at_dat (by omega), at_el prE (show k < qs.length by omega)] at this
  exact lvP_iff.2 this
theorem lvq_next (h : j < qs.length) : (qs.take (j + 1)).filter (lvQ now) = (qs.take j).filter (lvQ now) ++ (if lvQ now (at_ prE qs (j : Int)) then [at_ prE qs (j : Int)] else []) := by
  rw [List.take_succ_eq_append_getElem h, List.filter_append, at_el prE h]
  congr 1
  rw [List.filter_cons, List.filter_nil]
theorem lvq_yes (h : j < qs.length) (hq : ¬ deadP now (at_ prE qs (j : Int)).2.till) : (qs.take (j + 1)).filter (lvQ now) = (qs.take j).filter (lvQ now) ++ [at_ prE qs (j : Int)] := by
  rw [lvq_next h, if_pos (show lvQ now (at_ prE qs (j : Int)) = true from lvP_iff.2 hq)]
theorem lvq_no (h : j < qs.length) (hq : deadP now (at_ prE qs (j : Int)).2.till) : (qs.take (j + 1)).filter (lvQ now) = (qs.take j).filter (lvQ now) := by
  have : ¬ lvQ now (at_ prE qs (j : Int)) = true := fun q => lvP_iff.1 q hq
  rw [lvq_next h, if_neg this, List.append_nil]
theorem at_same (h : qs.drop j = ps.drop j) (hj : j < qs.length) (hl : qs.length = ps.length) : at_ prE qs (j : Int) = at_ prE ps (j : Int) := by
  rw [at_el prE hj, at_el prE (show j < ps.length by omega)]
  have e : (qs.drop j)[0]? = (ps.drop j)[0]? := by rw [h]
  rw [List.getElem?_drop, List.getElem?_drop, Nat.add_zero, List.getElem?_eq_getElem hj, List.getElem?_eq_getElem (by omega)] at e
  exact Option.some.inj e
theorem drop_next (h : qs.drop j = ps.drop j) : qs.drop (j + 1) = ps.drop (j + 1) := by rw [← List.drop_drop, h, List.drop_drop]
theorem drop_set2 (h : qs.drop j = ps.drop j) (hij : i ≤ j) : (qs.set i p).drop (j + 1) = ps.drop (j + 1) := by
  rw [List.drop_set_of_lt (by omega)]; exact drop_next h
theorem dat_lv : datE (qs.filter (lvQ now)) = (datE qs).filter (lvP now) := by
  unfold datE
  rw [List.filter_map]; rfl
end
theorem live1_any (w : World) (key : ByteArray) (k : Int) (s : ByteArray) (Al : Option Addr) (cl : Nat) (l : List ByteArray) (hSl : SlR Rp.str (fun k => k < w.heap.size) w (.slice Al l.length cl) l) (Az : Option Addr) (cz : Nat) (z : List (ByteArray × Int)) (hSz : SlR scR (fun k => k < w.heap.size) w (.slice Az z.length cz) z) (Ah : Option Addr) (ch : Nat) (h : List (ByteArray × ByteArray)) (hSh : SlR fdR (fun k => k < w.heap.size) w (.slice Ah h.length ch) h) (at' : Int) (b : Nat) (now : Int) (hB : Blk w b [.int .i64 now] 3) : Calls Tryz.prog 71 #[.agg #[.string key, .int .i64 k, .string s, .slice Al l.length cl, .slice Az z.length cz, .slice Ah h.length ch, .int .i64 at'], .pointer (some ⟨b, 0, none⟩)] w (fun e w' => e = .returned (.bool (decide (deadP now at'))) ∧ Fr [] w w') := by
 have hF := Fr.refl [] w
 have hlt0 := hB.lt
 refine V.en 13 Tryz.func71 fun a h1 => ?_
 refine V.sg fun K2 k3 => ?_
 refine V.go (V.mk [(0, .agg #[.string key, .int .i64 k, .string s, .slice Al l.length cl, .slice Az z.length cz, .slice Ah h.length ch, .int .i64 at'])] ⟨h1.e, trivial⟩ (by kernel_rfl) [.string key, .int .i64 k, .string s, .slice Al l.length cl, .slice Az z.length cz, .slice Ah h.length ch, .int .i64 at'] 55 (fun b => .pointer (some ⟨b, 0, none⟩)) (by kernel_rfl) ?_)
 intro w5 b4 heb4 hB6 hF7 hsb4
 have hF_8 := hF.new hF7
 have hB_12 := hB.fr0 hF7
 refine V.pt h1 fun a h13 => ?_
 refine V.re h13 [] 3 3 [] fun a h14 => k3 _ _ ?_
 refine V.sg fun K15 k16 => ?_
 refine V.run h14 [(1, .b hB6 6), (0, .ne at' (-1))] 4 4 6 [(7, .bool (decide (¬ at' = (-1))))] fun a h17 => ?_
 by_cases hg18 : ¬ at' = (-1)
 ·
  have h19 := h17.kt 7 hg18
  refine V.re h19 [(1, .b hB6 6), (0, .b hB_12 0)] 8 12 [(3, .bool (decide (at' ≤ now)))] fun a h20 => k16 _ _ ?_
  refine V.ret ?_
  refine V.r1 h20 (.bool (decide (at' ≤ now))) ?_
  exact ⟨congrArg (fun b => Ending.returned (Value.bool b)) (decide_eq_decide.2 (by unfold deadP; omega)), hF_8⟩
 ·
  have h21 := h17.kf 7 hg18
  refine V.re h21 [] 8 12 [(3, .bool false)] fun a h22 => k16 _ _ ?_
  refine V.ret ?_
  refine V.r1 h22 (.bool false) ?_
  exact ⟨congrArg (fun b => Ending.returned (Value.bool b)) (decide_eq_false (fun q => by unfold deadP at q; omega)).symm, hF_8⟩
theorem ixl_any (w : World) (Al : Option Addr) (cl : Nat) (l : List EnD) (hSl : SlR enR (fun k => k < w.heap.size) w (.slice Al l.length cl) l) (b : Nat) (now : Int) (hB : Blk w b [.int .i64 now] 3) : Calls Tryz.prog 109 #[.slice Al l.length cl, .func (.func 71) #[] #[.pointer (some ⟨b, 0, none⟩)]] w (fun e w' => ∃ r, e = .returned (.int .i64 r) ∧ Fr [] w w' ∧ ixR now l r) := by
 have hF := Fr.refl [] w
 have hlen0 := hSl.len_le
 have hlt0 := hB.lt
 refine V.en 19 Tryz.func109 fun a h1 => ?_
 refine V.sr h1 [] 4 4 [] fun a h4 => ?_
 refine V.seq fun K5 k6 => ?_
 refine V.sr h4 [] 6 6 [(7, .int .i64 ((l.length : Nat) : Int)), (8, .int .i64 0)] fun a h9 => ?_
 refine V.block ?_
 refine V.loop1 (fun (i : Nat) a_ w_ => En 19 [] a_ [(0, .slice Al l.length cl), (1, .func (.func 71) #[] #[.pointer (some ⟨b, 0, none⟩)]), (7, .int .i64 ((l.length : Nat) : Int)), (8, .int .i64 (i : Int))] ∧ Fr [] w w_ ∧ SlR enR (fun k => k < w.heap.size) w_ (.slice Al l.length cl) l ∧ Blk w_ b [.int .i64 now] 3 ∧ (i ≤ l.length) ∧ (AllG (gV now l) i)) (fun (i : Nat) => l.length - i) 0 ?_ ?_
 ·
  refine ⟨(h9.eq 8 (v := (.int .i64 0)) (u := (.int .i64 (0 : Int))) (V.int_eq (by omega))).only _, hF, hSl, hB, (by omega), (AllG.zero _)⟩
 ·
  rintro i a10 w11 ⟨h12, hF_13, hSl_14, hB_15, hi, hG⟩
  have hfs16 := hF_13.size
  have hlt17 := hB_15.lt
  refine V.sr h12 [] 1 0 [(9, .bool (decide ((i : Int) < ((l.length : Nat) : Int))))] fun a h20 => ?_
  refine V.seq fun K21 k22 => ?_
  refine V.cp h20 ((i : Int) < ((l.length : Nat) : Int)) (fun ht23 => ?_) (fun ht23 => ?_)
  ·
   refine V.skip ?_
   refine V.then_n (k22 _ _ ?_)
   refine V.seq fun K24 k25 => ?_
   refine V.block ?_
   refine V.sr h20 [] 10 10 [(5, .int .i64 (i : Int))] fun a h28 => ?_
   obtain ⟨g31, o32, hA33, hA33l, hA33z⟩ := hSl_14.addr (by omega)
   obtain ⟨cs34, hok35, hE36⟩ := hSl_14.els hA33 (i : Int) (by omega) (by omega)
   obtain ⟨Al37, cl38, Az39, cz40, Ah41, ch42, rfl, hS43, hS44, hS45⟩ := en_open hok35
   refine V.sg fun K29 k30 => ?_
   refine V.run h28 [(3, .ix g31 o32 l.length cl .i64 (i : Int) 7 hA33), (0, .ls ⟨g31, o32 + (i : Int).toNat * 7, none⟩ [.string ((at_ enR l (i : Int)).key), .int .i64 ((at_ enR l (i : Int)).k), .string ((at_ enR l (i : Int)).s), .slice Al37 ((at_ enR l (i : Int)).l.length) cl38, .slice Az39 ((at_ enR l (i : Int)).z.length) cz40, .slice Ah41 ((at_ enR l (i : Int)).h.length) ch42, .int .i64 ((at_ enR l (i : Int)).till)] (hE36.cells 0 _ rfl))] 5 12 14 [(11, .func (.func 71) #[] #[.pointer (some ⟨b, 0, none⟩)]), (15, .agg #[.string ((at_ enR l (i : Int)).key), .int .i64 ((at_ enR l (i : Int)).k), .string ((at_ enR l (i : Int)).s), .slice Al37 ((at_ enR l (i : Int)).l.length) cl38, .slice Az39 ((at_ enR l (i : Int)).z.length) cz40, .slice Ah41 ((at_ enR l (i : Int)).h.length) ch42, .int .i64 ((at_ enR l (i : Int)).till)])] fun a h46 => ?_
   refine V.cl h46 (Go.Proofs.enters_of Tryz.func71 (by kernel_rfl) rfl) (live1_any w11 ((at_ enR l (i : Int)).key) ((at_ enR l (i : Int)).k) ((at_ enR l (i : Int)).s) Al37 cl38 ((at_ enR l (i : Int)).l) hS43.old Az39 cz40 ((at_ enR l (i : Int)).z) hS44.old Ah41 ch42 ((at_ enR l (i : Int)).h) hS45.old ((at_ enR l (i : Int)).till) b now hB_15) ?_
   rintro _ w48 ⟨rfl, hF47⟩
   refine ⟨_, rfl, fun a h49 => ?_⟩
   have hsw48 := hF47.size
   have hF_50 := hF_13.new hF47
   have hSl_51 := hSl_14.fr0 hF47
   have hB_52 := hB_15.fr0 hF47
   refine V.nt (k30 _ _ ?_)
   refine V.cp h49 (deadP now ((at_ enR l (i : Int)).till)) (fun ht57 => ?_) (fun ht57 => ?_)
   ·
    refine V.sr h49 [] 17 17 [(4, .int .i64 (i : Int))] fun a h60 => ?_
    refine V.ret (V.blk_r (V.then_r (V.then_r (V.blk_r (V.then_r ?_)))))
    refine V.r1 h60 (.int .i64 (i : Int)) ?_
    exact ⟨_, rfl, hF_50, .inr ⟨i, rfl, by omega, hG, fun q => q ht57⟩⟩
   ·
    refine V.skip (V.blk_n ?_)
    refine V.then_n (k25 _ _ ?_)
    refine V.rr h49 [(0, .i ((i : Int) + 1))] 18 18 [(8, .int .i64 ((i : Int) + 1))] fun a h61 => ?_
    refine V.then_n ?_
    refine ⟨i + 1, by omega, ?_⟩
    refine ⟨(h61.eq 8 (v := (.int .i64 ((i : Int) + 1))) (u := (.int .i64 ((i + 1) : Int))) (V.int_eq (by omega))).only _, hF_50, hSl_51, hB_52, (by omega), (hG.step ht57)⟩
  ·
   refine V.exit (V.then_e (V.then_e (V.blk_hit ?_)))
   refine V.then_n (k6 _ _ ?_)
   refine V.sr h20 [] 1 0 [(4, .int .i64 (-1))] fun a h64 => ?_
   refine V.ret ?_
   refine V.r1 h64 (.int .i64 (-1)) ?_
   exact ⟨_, rfl, hF_13, .inl ⟨rfl, hG.le (by omega)⟩⟩
theorem ixQ_any (w : World) (base c : Nat) (A : Option Addr) (Z : Nat → Prop) (qs : List EnQ) (hO : OwR prE NoZ w base 55 (.slice A qs.length c) qs) (hP : PsOk Z w qs) (b : Nat) (now : Int) (hB : Blk w b [.int .i64 now] 3) :
    Calls Tryz.prog 109 #[.slice A qs.length c, .func (.func 71) #[] #[.pointer (some ⟨b, 0, none⟩)]] w fun e w' => ∃ r, e = .returned (.int .i64 r) ∧ Fr [] w w' ∧ ixR now (datE qs) r := by
  have h := ixl_any w A c (datE qs) (by rw [datE_len]; exact OwR.dat hO hP) b now hB
  rw [datE_len] at h
  exact h
theorem ix_none {now : Int} {l : List EnD} {r : Int} (h : ixR now l r) (hr : r = -1) : AllG (gV now l) l.length := by
  rcases h with ⟨_, h⟩ | ⟨i, h, _⟩
  · exact h
  · omega
theorem ix_some {now : Int} {qs : List EnQ} {r : Int} (h : ixR now (datE qs) r) (hr : ¬ r = -1) : ∃ i : Nat, r = i ∧ i < qs.length ∧ AllG (gV now (datE qs)) i ∧ deadP now (at_ prE qs (i : Int)).2.till := by
  rcases h with ⟨h, _⟩ | ⟨i, h1, h2, h3, h4⟩
  · exact absurd h hr
  · rw [datE_len] at h2
    refine ⟨i, h1, h2, h3, ?_⟩
    unfold gV at h4
    rw [at_dat h2] at h4
    exact Decidable.of_not_not h4
theorem delf_any (w : World) (base N c : Nat) (A : Option Addr) (qs : List EnQ) (b : Nat) (now : Int) (hO : OwR prE NoZ w base 55 (.slice A qs.length c) qs) (hP : PsOk (Zi base N (.slice A qs.length c)) w qs) (hB : Blk w b [.int .i64 now] 3) (hbb : b < base) (hN : N ≤ w.heap.size) (hl : qs.length ≤ 1073741824) : Calls Tryz.prog 70 #[.slice A qs.length c, .func (.func 71) #[] #[.pointer (some ⟨b, 0, none⟩)]] w (fun e w' => ∃ A' c', e = .returned (.slice A' ((datE qs).filter (lvP now)).length c') ∧ SlR enR (fun k => k < w'.heap.size) w' (.slice A' ((datE qs).filter (lvP now)).length c') ((datE qs).filter (lvP now)) ∧ Fr ((Value.slice A qs.length c).ownBlock.toList) w w') := by
 have hF := Fr.refl ((Value.slice A qs.length c).ownBlock.toList) w
 have hcn := hO.cap
 have hlt0 := hB.lt
 refine V.en 42 Tryz.func70 fun a h1 => ?_
 refine V.sr h1 [] 4 4 [] fun a h4 => ?_
 refine V.sg fun K5 k6 => ?_
 refine V.run h4 [] 2 1 0 [(8, .slice A qs.length c), (9, .func (.func 71) #[] #[.pointer (some ⟨b, 0, none⟩)])] fun a h7 => ?_
 refine V.cl h7 (Go.Proofs.enters_of Tryz.func109 (by kernel_rfl) rfl) (ixQ_any w base c A _ qs hO hP b now hB) ?_
 rintro _ w11 ⟨r8, rfl, hF9, hr10⟩
 refine ⟨_, rfl, fun a h12 => ?_⟩
 have hsw11 := hF9.size
 have hF_13 := hF.trans hF9 (fun i hi => by cases hi)
 have hO_14 := hO.fr0 hF9
 have hP_15 := hP.fr0 hF9
 have hB_16 := hB.fr0 hF9
 refine V.re h12 [] 1 0 [(5, .int .i64 r8)] fun a h17 => k6 _ _ ?_
 refine V.seq fun K18 k19 => ?_
 refine V.sr h17 [(1, .eq r8 (-1))] 11 11 [(12, .bool (decide (r8 = (-1))))] fun a h22 => ?_
 refine V.cp h22 (r8 = (-1)) (fun ht23 => ?_) (fun ht23 => ?_)
 ·
  refine V.sr h22 [] 13 13 [(4, .slice A qs.length c)] fun a h26 => ?_
  refine V.ret (V.then_r ?_)
  refine V.r1 h26 (.slice A qs.length c) ?_
  have hal : qs.filter (lvQ now) = qs := by have h9 := all_lv (ix_none hr10 (by assumption)) (Nat.le_of_eq (datE_len qs)); rw [datE_len, List.take_length] at h9; exact h9
  have hSq := OwR.dat hO_14 hP_15
  have hdq : datE qs = (datE qs).filter (lvP now) := by rw [← dat_lv, hal]
  rw [hdq] at hSq
  have hn9 : qs.length = ((datE qs).filter (lvP now)).length := by rw [← hdq, datE_len]
  rw [hn9] at hSq
  exact ⟨_, _, by rw [← hn9], hSq, hF_13⟩
 ·
  refine V.skip ?_
  refine V.then_n (k19 _ _ ?_)
  refine V.seq fun K27 k28 => ?_
  refine V.seq fun K29 k30 => ?_
  obtain ⟨i0, hri, hi0, hG0, hd0⟩ := ix_some hr10 (by assumption)
  have h31 := h22.eq 5 (v := (.int .i64 r8)) (u := (.int .i64 (i0 : Int))) (V.int_eq (by omega))
  refine V.rr h31 [(1, .i ((i0 : Int) + 1))] 14 15 [(6, .int .i64 ((i0 : Int) + 1))] fun a h32 => ?_
  refine V.then_n (k30 _ _ ?_)
  refine V.block ?_
  refine V.loop3 (fun (i : Nat) (j : Nat) (ys : List EnQ) a_ w_ => En 42 [] a_ [(0, .slice A qs.length c), (1, .func (.func 71) #[] #[.pointer (some ⟨b, 0, none⟩)]), (5, .int .i64 (i : Int)), (6, .int .i64 (j : Int))] ∧ OwR prE NoZ w_ base 55 (.slice A qs.length c) ys ∧ Fr ((Value.slice A qs.length c).ownBlock.toList) w w_ ∧ PsOk (Zi base N (.slice A qs.length c)) w_ qs ∧ Blk w_ b [.int .i64 now] 3 ∧ (i < j ∧ j ≤ qs.length) ∧ (ys.length = qs.length) ∧ (ys.take i = (qs.take j).filter (lvQ now)) ∧ (ys.drop j = qs.drop j) ∧ (∀ p ∈ ys, p ∈ qs)) (fun (i : Nat) (j : Nat) (ys : List EnQ) => qs.length - j) i0 (i0 + 1) qs ?_ ?_
  ·
   refine ⟨((h32.eq 5 (v := (.int .i64 (i0 : Int))) (u := (.int .i64 (i0 : Int))) (rfl)).eq 6 (v := (.int .i64 ((i0 : Int) + 1))) (u := (.int .i64 ((i0 + 1) : Int))) (V.int_eq (by omega))).only _, hO_14, hF_13, hP_15, hB_16, (by omega), rfl, (by rw [lvq_no hi0 hd0, all_lv hG0 (by omega)]), rfl, (fun p hp => hp)⟩
  ·
   rintro i j ys a33 w34 ⟨h35, hO_36, hF_37, hP_38, hB_39, hij, hyl, hyt, hyd, hym⟩
   have hlt40 := hB_39.lt
   have hfsL := hF_37.size
   refine V.seq fun K41 k42 => ?_
   refine V.sr h35 [] 16 18 [(19, .bool (decide ((j : Int) < ((qs.length : Nat) : Int))))] fun a h45 => ?_
   refine V.cp h45 ((j : Int) < ((qs.length : Nat) : Int)) (fun ht46 => ?_) (fun ht46 => ?_)
   ·
    refine V.skip ?_
    refine V.then_n (k42 _ _ ?_)
    refine V.seq fun K47 k48 => ?_
    refine V.block ?_
    refine V.seq fun K49 k50 => ?_
    have hQ51 : PsOk (Zi base N (.slice A qs.length c)) w34 ys := hP_38.sub hym
    have hlO53 := hO_36.lt
    have hS52 := hO_36.read (Z' := fun k => base ≤ k ∧ k < w34.heap.size) (fun _ _ h => h.elim) (fun _ h h2 => ⟨h, h2⟩)
    have hat := at_same hyd (show j < ys.length by omega) hyl
    obtain ⟨g54, o55, hA56, hA56l, hA56z⟩ := hS52.addr (by omega)
    obtain ⟨cs57, hok58, hE59⟩ := hS52.els hA56 (j : Int) (by omega) (by omega)
    obtain rfl : cs57 = entC (at_ prE ys (j : Int)).1 := hok58
    obtain ⟨Al60, cl61, Az62, cz63, Ah64, ch65, hq66, hS67, hS68, hS69⟩ := en_open (hQ51 (at_ prE ys (j : Int)) (at_in prE (by omega)))
    rw [hq66] at hE59
    replace hS67 := hS67.zone (Z' := fun k => base ≤ k ∧ k < N) (fun k _ hz => ⟨hz.1, hz.2.1⟩)
    replace hS68 := hS68.zone (Z' := fun k => base ≤ k ∧ k < N) (fun k _ hz => ⟨hz.1, hz.2.1⟩)
    replace hS69 := hS69.zone (Z' := fun k => base ≤ k ∧ k < N) (fun k _ hz => ⟨hz.1, hz.2.1⟩)
    refine V.rg ?_
    refine V.run h45 [(2, .ix g54 o55 qs.length c .i64 (j : Int) 7 hA56), (0, .ls ⟨g54, o55 + (j : Int).toNat * 7, none⟩ [.string ((at_ prE ys (j : Int)).2.key), .int .i64 ((at_ prE ys (j : Int)).2.k), .string ((at_ prE ys (j : Int)).2.s), .slice Al60 ((at_ prE ys (j : Int)).2.l.length) cl61, .slice Az62 ((at_ prE ys (j : Int)).2.z.length) cz63, .slice Ah64 ((at_ prE ys (j : Int)).2.h.length) ch65, .int .i64 ((at_ prE ys (j : Int)).2.till)] (hE59.cells 0 _ rfl))] 4 22 24 [(25, .agg #[.string ((at_ prE ys (j : Int)).2.key), .int .i64 ((at_ prE ys (j : Int)).2.k), .string ((at_ prE ys (j : Int)).2.s), .slice Al60 ((at_ prE ys (j : Int)).2.l.length) cl61, .slice Az62 ((at_ prE ys (j : Int)).2.z.length) cz63, .slice Ah64 ((at_ prE ys (j : Int)).2.h.length) ch65, .int .i64 ((at_ prE ys (j : Int)).2.till)])] fun a h74 => ?_
    refine V.go (V.mk [] trivial (by kernel_rfl) [.string ⟨#[]⟩, .int .i64 0, .string ⟨#[]⟩, .slice none 0 0, .slice none 0 0, .slice none 0 0, .int .i64 0] 55 (fun b => .pointer (some ⟨b, 0, none⟩)) (by kernel_rfl) ?_)
    intro w71 b70 heb70 hB72 hF73 hsb70
    have hO_75 := hO_36.fr0 hF73
    have hF_76 := hF_37.trans hF73 (fun i hi => by cases hi)
    have hP_77 := hP_38.fr0 hF73
    have hB_78 := hB_39.fr0 hF73
    have hS67_81 := hS67.fr0 hF73
    have hS68_82 := hS68.fr0 hF73
    have hS69_83 := hS69.fr0 hF73
    refine V.pt h74 fun a h85 => ?_
    refine V.go (V.stn b70 0 (.agg #[.string ((at_ prE ys (j : Int)).2.key), .int .i64 ((at_ prE ys (j : Int)).2.k), .string ((at_ prE ys (j : Int)).2.s), .slice Al60 ((at_ prE ys (j : Int)).2.l.length) cl61, .slice Az62 ((at_ prE ys (j : Int)).2.z.length) cz63, .slice Ah64 ((at_ prE ys (j : Int)).2.h.length) ch65, .int .i64 ((at_ prE ys (j : Int)).2.till)]) [.string ((at_ prE ys (j : Int)).2.key), .int .i64 ((at_ prE ys (j : Int)).2.k), .string ((at_ prE ys (j : Int)).2.s), .slice Al60 ((at_ prE ys (j : Int)).2.l.length) cl61, .slice Az62 ((at_ prE ys (j : Int)).2.z.length) cz63, .slice Ah64 ((at_ prE ys (j : Int)).2.h.length) ch65, .int .i64 ((at_ prE ys (j : Int)).2.till)] h85.e h85.e rfl rfl (by kernel_rfl) hB72 (by simp) [.string ((at_ prE ys (j : Int)).2.key), .int .i64 ((at_ prE ys (j : Int)).2.k), .string ((at_ prE ys (j : Int)).2.s), .slice Al60 ((at_ prE ys (j : Int)).2.l.length) cl61, .slice Az62 ((at_ prE ys (j : Int)).2.z.length) cz63, .slice Ah64 ((at_ prE ys (j : Int)).2.h.length) ch65, .int .i64 ((at_ prE ys (j : Int)).2.till)] rfl ?_)
    intro w86 hB87 hF88 hsw86
    have hO_89 := hO_75.frn hF88 (fun h => h) (by first | exact own_ne hO_75 (by omega) | exact own_ne2 hO_36 (by omega))
    have hF_90 := hF_76.trans hF88 (by simp <;> omega)
    have hP_91 := hP_77.fr hF88 (by intro k hk hz; simp only [List.mem_singleton] at hk; subst hk; have := hz.1; have := hz.2.1; first | omega | exact hz.2.2 rfl)
    have hB_92 := hB_78.fr1 hF88 (by omega)
    have hS67_95 := hS67_81.fr hF88 (by simp <;> omega)
    have hS68_96 := hS68_82.fr hF88 (by simp <;> omega)
    have hS69_97 := hS69_83.fr hF88 (by simp <;> omega)
    refine V.nt (k50 _ _ ?_)
    refine V.sg fun K99 k100 => ?_
    refine V.run h85 [(1, .bs hB87 0 [.string ((at_ prE ys (j : Int)).2.key), .int .i64 ((at_ prE ys (j : Int)).2.k), .string ((at_ prE ys (j : Int)).2.s), .slice Al60 ((at_ prE ys (j : Int)).2.l.length) cl61, .slice Az62 ((at_ prE ys (j : Int)).2.z.length) cz63, .slice Ah64 ((at_ prE ys (j : Int)).2.h.length) ch65, .int .i64 ((at_ prE ys (j : Int)).2.till)])] 2 1 0 [(26, .func (.func 71) #[] #[.pointer (some ⟨b, 0, none⟩)]), (27, .agg #[.string ((at_ prE ys (j : Int)).2.key), .int .i64 ((at_ prE ys (j : Int)).2.k), .string ((at_ prE ys (j : Int)).2.s), .slice Al60 ((at_ prE ys (j : Int)).2.l.length) cl61, .slice Az62 ((at_ prE ys (j : Int)).2.z.length) cz63, .slice Ah64 ((at_ prE ys (j : Int)).2.h.length) ch65, .int .i64 ((at_ prE ys (j : Int)).2.till)])] fun a h101 => ?_
    refine V.cl h101 (Go.Proofs.enters_of Tryz.func71 (by kernel_rfl) rfl) (live1_any w86 ((at_ prE ys (j : Int)).2.key) ((at_ prE ys (j : Int)).2.k) ((at_ prE ys (j : Int)).2.s) Al60 cl61 ((at_ prE ys (j : Int)).2.l) hS67_95.old Az62 cz63 ((at_ prE ys (j : Int)).2.z) hS68_96.old Ah64 ch65 ((at_ prE ys (j : Int)).2.h) hS69_97.old ((at_ prE ys (j : Int)).2.till) b now hB_92) ?_
    rintro _ w103 ⟨rfl, hF102⟩
    refine ⟨_, rfl, fun a h104 => ?_⟩
    have hsw103 := hF102.size
    have hO_105 := hO_89.fr0 hF102
    have hF_106 := hF_90.trans hF102 (fun i hi => by cases hi)
    have hP_107 := hP_91.fr0 hF102
    have hB_108 := hB_92.fr0 hF102
    have hB87_115 := hB87.fr0 hF102
    refine V.re h104 [(0, .q (.bool (decide (¬ (deadP now ((at_ prE ys (j : Int)).2.till))))) V.t_not)] 1 0 [(29, .bool (decide (¬ (deadP now ((at_ prE ys (j : Int)).2.till)))))] fun a h116 => k100 _ _ ?_
    refine V.cp h116 (¬ (deadP now ((at_ prE ys (j : Int)).2.till))) (fun ht117 => ?_) (fun ht117 => ?_)
    ·
     refine V.sg fun K118 k119 => ?_
     refine V.run h116 [(2, .bs hB87_115 0 [.string ((at_ prE ys (j : Int)).2.key), .int .i64 ((at_ prE ys (j : Int)).2.k), .string ((at_ prE ys (j : Int)).2.s), .slice Al60 ((at_ prE ys (j : Int)).2.l.length) cl61, .slice Az62 ((at_ prE ys (j : Int)).2.z.length) cz63, .slice Ah64 ((at_ prE ys (j : Int)).2.h.length) ch65, .int .i64 ((at_ prE ys (j : Int)).2.till)]), (0, .ix g54 o55 qs.length c .i64 (i : Int) 7 hA56)] 4 30 31 [(32, .agg #[.string ((at_ prE ys (j : Int)).2.key), .int .i64 ((at_ prE ys (j : Int)).2.k), .string ((at_ prE ys (j : Int)).2.s), .slice Al60 ((at_ prE ys (j : Int)).2.l.length) cl61, .slice Az62 ((at_ prE ys (j : Int)).2.z.length) cz63, .slice Ah64 ((at_ prE ys (j : Int)).2.h.length) ch65, .int .i64 ((at_ prE ys (j : Int)).2.till)]), (33, .pointer (some ⟨g54, o55 + (i : Int).toNat * 7, none⟩))] fun a h123 => ?_
     refine V.go (V.stoWa (dβ := enR.dflt) i (at_ prE ys (j : Int)) hO_105 (by omega) hA56 (h123.e (v := (.pointer (some ⟨g54, o55 + (i : Int).toNat * 7, none⟩)))) (h123.e (v := (.agg #[.string ((at_ prE ys (j : Int)).2.key), .int .i64 ((at_ prE ys (j : Int)).2.k), .string ((at_ prE ys (j : Int)).2.s), .slice Al60 ((at_ prE ys (j : Int)).2.l.length) cl61, .slice Az62 ((at_ prE ys (j : Int)).2.z.length) cz63, .slice Ah64 ((at_ prE ys (j : Int)).2.h.length) ch65, .int .i64 ((at_ prE ys (j : Int)).2.till)]))) (by rw [hq66]; rfl) (by kernel_rfl) ?_)
     intro w120 hO121 hF122 hsw120
     have hF_124 := hF_106.trans hF122 (fun i hi _ => hi)
     have hP_125 := hP_107.own hF122 (by intro k hk; simpa using hk)
     have hB126 := hB_108.fr hF122 (by have q9 := own_ge hO_105 (Nat.le_refl _) b; intro q; have := q9 q; omega)
     refine V.nt (k119 _ _ ?_)
     refine V.rr h123 [(1, .i ((i : Int) + 1))] 34 35 [(5, .int .i64 ((i : Int) + 1))] fun a h127 => ?_
     refine V.blk_n ?_
     refine V.then_n (k48 _ _ ?_)
     refine V.rr h127 [(1, .i ((j : Int) + 1))] 20 21 [(6, .int .i64 ((j : Int) + 1))] fun a h128 => ?_
     refine V.then_n ?_
     refine ⟨i + 1, j + 1, ys.set i (at_ prE ys (j : Int)), by omega, ?_⟩
     refine ⟨((h128.eq 5 (v := (.int .i64 ((i : Int) + 1))) (u := (.int .i64 ((i + 1) : Int))) (V.int_eq (by omega))).eq 6 (v := (.int .i64 ((j : Int) + 1))) (u := (.int .i64 ((j + 1) : Int))) (V.int_eq (by omega))).only _, hO121, hF_124, hP_125, hB126, (by omega), (by rw [List.length_set]; omega), (by rw [take_set (by omega), lvq_yes (by omega) (by rw [← hat]; exact ht117), hyt, hat]), (drop_set2 hyd (by omega)), (fun p hp => (List.mem_or_eq_of_mem_set hp).elim (hym p) (fun e => hym p (e ▸ at_in prE (by omega))))⟩
    ·
     refine V.skip (V.blk_n ?_)
     refine V.then_n (k48 _ _ ?_)
     refine V.rr h116 [(1, .i ((j : Int) + 1))] 20 21 [(6, .int .i64 ((j : Int) + 1))] fun a h129 => ?_
     refine V.then_n ?_
     refine ⟨i, j + 1, ys, by omega, ?_⟩
     refine ⟨(h129.eq 6 (v := (.int .i64 ((j : Int) + 1))) (u := (.int .i64 ((j + 1) : Int))) (V.int_eq (by omega))).only _, hO_105, hF_106, hP_107, hB_108, (by omega), (by omega), (by rw [lvq_no (by omega) (by rw [← hat]; exact (Decidable.of_not_not ht117))]; exact hyt), (drop_next hyd), hym⟩
   ·
    refine V.exit (V.then_e (V.then_e (V.blk_hit ?_)))
    refine V.then_n (k28 _ _ ?_)
    refine V.sg fun K130 k131 => ?_
    refine V.run h45 [(2, .cutE A qs.length c (i : Int) i 7)] 3 36 37 [(38, .slice (cutA A i c 7) (qs.length - i) (c - i))] fun a h135 => ?_
    refine V.go (V.clrO (dβ := enR.dflt) (i := i) hO_36 (by omega) (h135.e (v := (.slice (cutA A i c 7) (qs.length - i) (c - i)))) rfl Tryz.underlying22 info55c rfl (by decide) ?_)
    intro w132 hO133 hF134 hsw132
    have hF_136 := hF_37.trans hF134 (fun i hi _ => hi)
    have hP_137 := hP_38.own hF134 (by intro k hk; simpa using hk)
    refine V.nt (k131 _ _ ?_)
    refine V.sr h135 [(2, .cut0 A qs.length c (i : Int) i 7)] 39 41 [(4, .slice A i c)] fun a h140 => ?_
    refine V.ret ?_
    refine V.r1 h140 (.slice A i c) ?_
    obtain rfl : j = qs.length := by omega
    rw [List.take_length] at hyt
    have hSq := OwR.dat hO133 (hP_137.sub fun p hp => hym p (List.mem_of_mem_take hp))
    rw [hyt, dat_lv] at hSq
    have hn9 : i = ((datE qs).filter (lvP now)).length := by rw [← dat_lv, datE_len, ← hyt, List.length_take]; omega
    rw [hn9] at hSq
    exact ⟨_, _, by rw [← hn9], hSq, hF_136⟩
theorem live_any (w : World) (Al : Option Addr) (cl : Nat) (l : List EnD) (hSl : SlR enR (fun k => k < w.heap.size) w (.slice Al l.length cl) l) (now : Int) (hsm : ∀ x ∈ l, smE x) (hl : l.length ≤ 1073741824) : Calls Tryz.prog 31 #[.slice Al l.length cl, .int .i64 now] w (fun e w' => ∃ A' c', e = .returned (.slice A' (l.filter (lvP now)).length c') ∧ SlR enR (fun k => k < w'.heap.size) w' (.slice A' (l.filter (lvP now)).length c') (l.filter (lvP now)) ∧ Fr [] w w') := by
 have hF := Fr.refl [] w
 have hlen0 := hSl.len_le
 refine V.en 9 Tryz.func31 fun a h1 => ?_
 refine V.sg fun K2 k3 => ?_
 refine V.go (V.mk [(1, .int .i64 now)] ⟨h1.e, trivial⟩ (by kernel_rfl) [.int .i64 now] 3 (fun b => .pointer (some ⟨b, 0, none⟩)) (by kernel_rfl) ?_)
 intro w5 b4 heb4 hB6 hF7 hsb4
 have hF_8 := hF.new hF7
 have hSl_9 := hSl.fr0 hF7
 refine V.pt h1 fun a h10 => ?_
 refine V.re h10 [] 4 4 [] fun a h11 => k3 _ _ ?_
 refine V.sg fun K12 k13 => ?_
 refine V.run h11 [] 1 1 0 [(5, .slice Al l.length cl)] fun a h14 => ?_
 refine V.cl h14 (Go.Proofs.enters_of Tryz.func62 (by kernel_rfl) rfl) (owned_any w5 Al cl l.length l (by first | rfl | (simp only [List.length_take, List.length_drop]; omega)) hSl_9.old (by omega) hsm) ?_
 rintro _ w24 ⟨A15, c16, qs17, rfl, hd18, hO19, hP20, hF21⟩
 refine ⟨_, rfl, fun a h25 => ?_⟩
 have hsw24 := hF21.size
 have hF_26 := hF_8.new hF21
 have hB6_28 := hB6.fr0 hF21
 have hql23 : qs17.length = l.length := by rw [← datE_len, hd18]
 have hS22 := hO19.read (Z' := fun k => w5.heap.size ≤ k) (fun _ _ h => h.elim) (fun _ h _ => h)
 refine V.run h25 [] 1 1 0 [(7, .func (.func 71) #[] #[.pointer (some ⟨b4, 0, none⟩)])] fun a h29 => ?_
 refine V.cl (av := #[.slice A15 qs17.length c16, .func (.func 71) #[] #[.pointer (some ⟨b4, 0, none⟩)]]) h29 (Go.Proofs.enters_of Tryz.func70 (by kernel_rfl) rfl) (by have h := delf_any w24 w5.heap.size w24.heap.size c16 A15 qs17 b4 now hO19 hP20 hB6_28 (by omega) (by omega) (by omega); rw [hd18] at h; exact h) ?_
 rintro _ w34 ⟨A30, c31, rfl, hS32, hF33⟩
 refine ⟨_, rfl, fun a h35 => ?_⟩
 have hsw34 := hF33.size
 have hF_36 := hF_26.own hF33 (own_ge hO19 (by omega))
 refine V.re h35 [] 1 0 [(4, .slice A30 ((l.filter (lvP now)).length) c31)] fun a h39 => k13 _ _ ?_
 refine V.ret ?_
 refine V.r1 h39 (.slice A30 ((l.filter (lvP now)).length) c31) ?_
 exact ⟨_, _, rfl, hS32, hF_36⟩
/-! ### Numbers, back -/
theorem dd_ok : ∀ u : Nat, Lib.decDigits u ≠ [] ∧ ∀ c ∈ Lib.decDigits u, 48 ≤ c.toNat ∧ c.toNat ≤ 57 := by
  intro u
  induction u using Nat.strongRecOn with
  | _ u ih =>
    have hd : ∀ v : Nat, v < 10 → 48 ≤ (UInt8.ofNat (48 + v)).toNat ∧ (UInt8.ofNat (48 + v)).toNat ≤ 57 := fun v hv => by rw [UInt8.toNat_ofNat']; omega
    by_cases h : u < 10
    · rw [Lib.decDigits, dif_pos h]
      exact ⟨by simp, fun c hc => by rw [List.mem_singleton.1 hc]; exact hd u h⟩
    · obtain ⟨h1, h2⟩ := ih (u / 10) (by omega)
      rw [Lib.decDigits, dif_neg h]
      refine ⟨by simp, fun c hc => ?_⟩
      rcases List.mem_append.1 hc with hc | hc
      · exact h2 c hc
      · rw [List.mem_singleton.1 hc]; exact hd _ (by omega)
theorem pum_dd {M : Nat} (hM : M ≤ 18446744073709551615) : ∀ (u : Nat), u ≤ M → ∀ r : List UInt8, Lib.parseUintM M 0 (Lib.decDigits u ++ r) = Lib.parseUintM M u r := by
  intro u
  induction u using Nat.strongRecOn with
  | _ u ih =>
    intro hu r
    have hd : ∀ v : Nat, v < 10 → (UInt8.ofNat (48 + v)).toNat = 48 + v := fun v hv => by rw [UInt8.toNat_ofNat']; omega
    by_cases h : u < 10
    · rw [Lib.decDigits, dif_pos h, List.singleton_append, Lib.parseUintM, hd u h, if_pos (by omega), if_neg (by omega), if_neg (by omega)]
      congr 1; omega
    · rw [Lib.decDigits, dif_neg h, List.append_assoc, ih (u / 10) (by omega) (by omega), List.singleton_append, Lib.parseUintM, hd (u % 10) (by omega), if_pos (by omega), if_neg (by omega), if_neg (by omega)]
      congr 1; omega
theorem pub_dd {u : Nat} (hu : u ≤ 18446744073709551615) : Lib.parseUintB 64 (Lib.decDigits u) = .ok u := by
  unfold Lib.parseUintB
  rw [if_neg (dd_ok u).1]
  have := pum_dd (M := 18446744073709551615) (Nat.le_refl _) u hu []
  rw [List.append_nil] at this
  exact this
theorem pib_itoa {n : Int} (h : i64 n) : Lib.parseIntB 64 (Lib.itoa n) = .ok n := by
  unfold i64 at h
  unfold Lib.itoa
  by_cases hn : n < 0
  · rw [if_pos hn]
    have h1 := pub_dd (u := n.natAbs) (by omega)
    show (match Lib.parseUintB 64 (if (45 : UInt8).toNat = 43 ∨ (45 : UInt8).toNat = 45 then Lib.decDigits n.natAbs else _) with | .syntax => _ | .range => _ | .ok u => _) = _
    rw [if_pos (.inr rfl), h1]
    show (if ¬ (45 : UInt8).toNat = 45 ∧ 2 ^ 63 ≤ n.natAbs then _ else if (45 : UInt8).toNat = 45 ∧ 2 ^ 63 < n.natAbs then _ else Lib.NumEnd.ok (if (45 : UInt8).toNat = 45 then -((n.natAbs : Nat) : Int) else ((n.natAbs : Nat) : Int))) = _
    rw [if_neg (fun q => q.1 rfl), if_neg (fun q => by have := q.2; omega), if_pos (show (45 : UInt8).toNat = 45 from rfl)]
    congr 1; omega
  · rw [if_neg hn]
    have h1 := pub_dd (u := n.toNat) (by omega)
    obtain ⟨h2, h3⟩ := dd_ok n.toNat
    cases hc : Lib.decDigits n.toNat with
    | nil => exact absurd hc h2
    | cons c r =>
      have h4 := h3 c (by rw [hc]; exact List.mem_cons_self ..)
      rw [hc] at h1
      unfold Lib.parseIntB
      simp only
      rw [if_neg (by omega), h1]
      simp only
      rw [if_neg (fun q => by have := q.2; omega), if_neg (fun q => by have := q.1; omega), if_neg (by omega)]
      congr 1; omega
theorem itoaS_data (n : Int) : (itoaS n).data.toList = Lib.itoa n := by simp [itoaS]
theorem itoaS_inj {n m : Int} (hn : i64 n) (hm : i64 m) (h : itoaS n = itoaS m) : n = m := by
  have h1 := pib_itoa hn
  have h2 := pib_itoa hm
  rw [← itoaS_data, h, itoaS_data, h2] at h1
  injection h1 with h1
  exact h1.symm
/-- A byte that a number may have. -/
def okc (s : ByteArray) (j : Nat) : Prop := (48 ≤ bi s (j : Int) ∧ bi s (j : Int) ≤ 57) ∨ (bi s (j : Int) = 45 ∧ j = 0)
theorem okc_itoa {n : Int} {s : ByteArray} (hs : itoaS n = s) {j : Nat} (hj : j < s.size) : okc s j := by
  have h1 := byt_el hj
  have h2 : s.data.toList = Lib.itoa n := by rw [← hs]; exact itoaS_data n
  rw [h2] at h1
  unfold Lib.itoa at h1
  have hb : bi s (j : Int) = ((byt s (j : Int)).toNat : Int) := rfl
  unfold okc
  split at h1
  · cases j with
    | zero => simp only [List.getElem?_cons_zero, Option.some.injEq] at h1; right; rw [hb, ← h1]; exact ⟨rfl, rfl⟩
    | succ j => rw [List.getElem?_cons_succ] at h1; have := (dd_ok _).2 _ (List.mem_of_getElem? h1); omega
  · have := (dd_ok _).2 _ (List.mem_of_getElem? h1); omega
def prOk (s : ByteArray) : Prop := ∃ n, i64 n ∧ itoaS n = s
noncomputable def prN (s : ByteArray) : Int := @dite Int (prOk s) (Classical.propDecidable _) (fun h => h.choose) fun _ => 0
noncomputable def prC (s : ByteArray) : Int := @ite Int (prOk s) (Classical.propDecidable _) 0 10
theorem pr_yes {s : ByteArray} {n : Int} (hn : i64 n) (h : itoaS n = s) : n = prN s ∧ 0 = prC s := by
  have hp : prOk s := ⟨n, hn, h⟩
  refine ⟨?_, (@if_pos _ (Classical.propDecidable _) hp _ _ _).symm⟩
  unfold prN
  rw [dif_pos hp]
  exact itoaS_inj hn hp.choose_spec.1 (h.trans hp.choose_spec.2.symm)
theorem pr_no {s : ByteArray} (h : ¬ prOk s) : 0 = prN s ∧ 10 = prC s := ⟨by unfold prN; rw [dif_neg h], (@if_neg _ (Classical.propDecidable _) h _ _ _).symm⟩
end Go.Proofs.YtdebkbfnngkdlaaGreatDoor
end
section
namespace Go.V
open Go.Base Go.RowKit
set_option linter.unusedVariables false
/-- The iterator. -/
def Itr (w : World) (b : Nat) (s : ByteArray) (p : Nat) : Prop := w.heap[b]? = some (.stringIter s p)
theorem Itr.lt {w : World} {b : Nat} {s : ByteArray} {p : Nat} (h : Itr w b s p) : b < w.heap.size := Nat.lt_of_not_le fun hle => by unfold Itr at h; rw [Array.getElem?_eq_none hle] at h; cases h
theorem Itr.fr {w w1 : World} {b : Nat} {s : ByteArray} {p : Nat} {l : List Nat} (h : Itr w b s p) (f : Fr l w w1) (hb : b ∉ l) : Itr w1 b s p := (f.block b h.lt hb).trans h
theorem Itr.fr0 {w w1 : World} {b : Nat} {s : ByteArray} {p : Nat} (h : Itr w b s p) (f : Fr [] w w1) : Itr w1 b s p := h.fr f (by simp)
/-- The rune at a place: r, of n bytes. -/
def RuneAt (s : ByteArray) (p : Nat) (r : Int) (n : Nat) : Prop := (bi s (p : Int) < 128 → r = bi s (p : Int) ∧ n = 1) ∧ (128 ≤ bi s (p : Int) → 128 ≤ r) ∧ 1 ≤ n ∧ 0 ≤ r ∧ r ≤ 2147483647
theorem get_bi {s : ByteArray} {p : Nat} (h : p < s.size) : ((s.get! (p + 0)).toNat : Int) = bi s (p : Int) := by
  have h' : p < s.data.size := h
  unfold bi byt
  rw [Int.toNat_natCast, Nat.add_zero, Array.getD_eq_getD_getElem?]
  show ((s.data[p]!).toNat : Int) = _
  rw [getElem!_def]
  cases hq : s.data[p]? with
  | some v => rfl
  | none => rfl
theorem dec_ok {s : ByteArray} {p : Nat} (h : p < s.size) : RuneAt s p ((Utf8.decode s p).1 : Int) (Utf8.decode s p).2 := by
  have hg := get_bi h
  have h3 : ∀ k : Nat, (s.get! (p + k)).toNat < 256 := fun k => UInt8.toNat_lt _
  have h0 := h3 0; have h1 := h3 1; have h2 := h3 2; have h4 := h3 3
  unfold RuneAt Utf8.decode Utf8.runeError
  dsimp only
  split
  · refine ⟨fun _ => ⟨by omega, rfl⟩, fun _ => by dsimp only; omega, Nat.le_refl _, by dsimp only; omega, by dsimp only; omega⟩
  split
  · split
    · refine ⟨fun _ => by omega, fun _ => by dsimp only; omega, by dsimp only; omega, by dsimp only; omega, by dsimp only; omega⟩
    · refine ⟨fun _ => by omega, fun _ => by dsimp only; omega, by dsimp only; omega, by dsimp only; omega, by dsimp only; omega⟩
  split
  · split
    · rename_i q; have q' := q; simp only [ge_iff_le, Bool.and_eq_true, decide_eq_true_eq] at q'
      refine ⟨fun _ => by omega, fun _ => by dsimp only; omega, by dsimp only; omega, by dsimp only; omega, by dsimp only; omega⟩
    · refine ⟨fun _ => by omega, fun _ => by dsimp only; omega, by dsimp only; omega, by dsimp only; omega, by dsimp only; omega⟩
  split
  · split
    · rename_i q; have q' := q; simp only [ge_iff_le, Bool.and_eq_true, decide_eq_true_eq] at q'
      refine ⟨fun _ => by omega, fun _ => by dsimp only; omega, by dsimp only; omega, by dsimp only; omega, by dsimp only; omega⟩
    · refine ⟨fun _ => by omega, fun _ => by dsimp only; omega, by dsimp only; omega, by dsimp only; omega, by dsimp only; omega⟩
  · refine ⟨fun _ => by omega, fun _ => by dsimp only; omega, by dsimp only; omega, by dsimp only; omega, by dsimp only; omega⟩
section
variable {ro : Option Nat} {P : Program} {Q : Exit → Act → World → Prop} {a : Act} {w : World} {ops : Array Oper} {rest : List Oper} {d : Option Tmp} {ty : TypeId} {pos : String} {aft : Array Edge} {g : Option (Nat × Bool)}
theorem rgs {t : TypeId} {x : Operand} {s : ByteArray} (hx : a.eval x = .string s) (ht : P.underlying t = some .string)
    (k : ∀ w1 b, b = w.heap.size → Itr w1 b s 0 → Fr [] w w1 → L ro P ops Q rest (a.put d (.pointer (some ⟨b, 0, none⟩))) w1) : St ro P ops Q rest ⟨d, .range t x, ty, pos, aft, g⟩ a w := by
  refine St.val (v := .pointer (some ⟨w.heap.size, 0, none⟩)) (w' := w.iter s 0) (by simp only [execOp, hx, run_range_string w t s ht, Sem.run_bind, Sem.run_pure, Result.andThen_ok]) (k _ _ rfl (heap_alloc_new w _) (Fr.alloc [] w _))
theorem nxs {x : Operand} {s : ByteArray} {b p : Nat} (hI : Itr w b s p) (hx : a.eval x = .pointer (some ⟨b, 0, none⟩))
    (k1 : p < s.size → ∀ w1 (r : Int) n, RuneAt s p r n → Itr w1 b s (p + n) → Fr [b] w w1 → L ro P ops Q rest (a.put d (.tuple #[.bool true, .int .i64 (p : Int), .int .i32 r])) w1)
    (k2 : ¬ p < s.size → L ro P ops Q rest (a.put d (.tuple #[.bool false])) w) : St ro P ops Q rest ⟨d, .next x true, ty, pos, aft, g⟩ a w := by
  by_cases h : p < s.size
  · refine St.val (v := .tuple #[.bool true, .int .i64 (p : Int), .int .i32 ((Utf8.decode s p).1 : Int)]) (w' := w.iterAt b s (p + (Utf8.decode s p).2)) (by simp only [execOp, hx, Lib.run_next_any_at w b s p ty hI h, Sem.run_bind, Sem.run_pure, Result.andThen_ok]) (k1 h _ _ _ (dec_ok h) (Lib.iterAt_heap w b s p _ hI) ⟨rfl, rfl, rfl, by simp [World.iterAt], fun i hi hn => Lib.iterAt_other w b i s _ (by simpa using hn)⟩)
  · exact St.val (v := .tuple #[.bool false]) (w' := w) (by simp only [execOp, hx, Lib.run_next_end_at w b s p ty hI h, Sem.run_bind, Sem.run_pure, Result.andThen_ok]) (k2 h)
/-- An error held against nil. -/
theorem neqI0 {t t' : TypeId} {x : Operand} (hx : a.eval x = .nilIface) (ht : P.underlying t = some (.interface (P.methodsAt t))) (k : L ro P ops Q rest (a.put d (.bool false)) w) : St ro P ops Q rest ⟨d, .binOp .neq t x (.const .nilIface) t', ty, pos, aft, g⟩ a w := by
  have h1 : (binOp .neq t .nilIface .nilIface).run P w = .ok (.bool false) w := by
    show (do pure (Value.bool (!(← Op.equal t .nilIface .nilIface))) : Sem Value).run P w = _
    rw [Sem.run_bind, run_equal_nil_nil w t ht]; rfl
  have hc : a.eval (.const .nilIface) = .nilIface := rfl
  exact St.val (v := .bool false) (w' := w) (by simp only [execOp, hx, hc, eqGuard_nil_constR, Sem.run_bind, Sem.run_pure, Result.andThen_ok, h1]) k
theorem neqI1 {t t' u : TypeId} {v : Value} {x : Operand} (hx : a.eval x = .iface u v) (ht : P.underlying t = some (.interface (P.methodsAt t))) (k : L ro P ops Q rest (a.put d (.bool true)) w) : St ro P ops Q rest ⟨d, .binOp .neq t x (.const .nilIface) t', ty, pos, aft, g⟩ a w := by
  have h1 : (binOp .neq t (.iface u v) .nilIface).run P w = .ok (.bool true) w := by
    show (do pure (Value.bool (!(← Op.equal t (.iface u v) .nilIface))) : Sem Value).run P w = _
    rw [Sem.run_bind, run_equal_held_nil w t u v ht]; rfl
  have hc : a.eval (.const .nilIface) = .nilIface := rfl
  have hg : eqGuard .neq t x (.const .nilIface) (.iface u v) .nilIface = pure () := rfl
  exact St.val (v := .bool true) (w' := w) (by simp only [execOp, hx, hc, hg, Sem.run_bind, Sem.run_pure, Result.andThen_ok, h1]) k
end
end Go.V
end
section
namespace Go.Proofs.YtdebkbfnngkdlaaGreatDoor
open Go.V Go.Base
open Go.RowKit (Below)
attribute [local irreducible] Act.put Act.eval
set_option linter.unusedVariables false
set_option linter.unusedSimpArgs false
set_option maxHeartbeats 4000000
set_option maxRecDepth 20000
/-! ### ParseInt, by the shelf -/
theorem pi_any (w : World) (s : ByteArray) (hs : s.size ≤ 1099511627776) (hV : Vs w) : Calls Tryz.prog 131 #[.string s, .int .i64 10, .int .i64 64] w fun e w' => ∃ n v, e = .returned (.tuple #[.int .i64 n, v]) ∧ Fr [] w w' ∧ ((v = .nilIface ∧ i64 n ∧ Lib.parseIntB 64 s.data.toList = .ok n) ∨ (∃ u q, v = .iface u q ∧ ∀ m, Lib.parseIntB 64 s.data.toList ≠ .ok m)) := by
  cases h : Lib.parseIntB 64 s.data.toList with
  | ok n =>
    have hb := Lib.parseIntB_bounds h
    refine (Tryz.strconv_ParseInt_10_at64_ok s (by omega) n h w).mono fun e w' ⟨h1, h2⟩ => ⟨n, _, h1, ?_, .inl ⟨rfl, ⟨hb.1, by have h3 : n < 9223372036854775808 := hb.2; omega⟩, rfl⟩⟩
    rcases h2 with rfl | ⟨t, rfl⟩
    · exact Fr.refl _ _
    · exact Fr.of_below (Lib.bytesWorld_below _ _ _) _
  | «syntax» =>
    obtain ⟨tp, p, hv⟩ := hV.syn
    exact (Tryz.strconv_ParseInt_10_at64_syntax_var s (by omega) h tp p w hv).mono fun e w' ⟨N, h1, _, _, h2⟩ => ⟨_, _, h1, Fr.of_below h2 _, .inr ⟨_, _, rfl, fun m hm => by cases hm⟩⟩
  | range =>
    obtain ⟨tp, p, hv⟩ := hV.ran
    exact (Tryz.strconv_ParseInt_10_at64_range_var s (by omega) h tp p w hv).mono fun e w' ⟨N, h1, _, _, h2⟩ => ⟨_, _, h1, Fr.of_below h2 _, .inr ⟨_, _, rfl, fun m hm => by cases hm⟩⟩
theorem pr_bad {s : ByteArray} {p : Nat} (hp : p < s.size) (h : ¬ okc s p) : ¬ prOk s := fun ⟨_, _, hs⟩ => h (okc_itoa hs hp)
theorem pr_err {s : ByteArray} (h : ∀ m, Lib.parseIntB 64 s.data.toList ≠ .ok m) : ¬ prOk s := fun ⟨m, hm, hs⟩ => h m (by rw [← hs, itoaS_data]; exact pib_itoa hm)
theorem pr_other {s : ByteArray} {n : Int} (h : Lib.parseIntB 64 s.data.toList = .ok n) (hne : ¬ itoaS n = s) : ¬ prOk s := fun ⟨m, hm, hs⟩ => hne (by
  have h1 := pib_itoa hm
  rw [← itoaS_data, hs, h] at h1
  injection h1 with h1
  rw [h1]; exact hs)
theorem ok_next {s : ByteArray} {p : Nat} (h : ∀ j, j < p → okc s j) (h1 : okc s p) : ∀ j, j < p + 1 → okc s j := fun j hj => by
  rcases Nat.lt_or_ge j p with h2 | h2
  · exact h j h2
  · obtain rfl : j = p := by omega
    exact h1
theorem parse_any (w : World) (s : ByteArray) (hs : s.size ≤ 1099511627776) (hV : Vs w) : Calls Tryz.prog 90 #[.string s] w (fun e w' => e = .returned (.tuple #[.int .i64 (prN s), .int .i64 (prC s)]) ∧ Fr [] w w') := by
 have hF := Fr.refl [] w
 refine V.en 42 Tryz.func90 fun a h1 => ?_
 refine V.sr h1 [] 2 3 [] fun a h4 => ?_
 refine V.seq fun K5 k6 => ?_
 refine V.sg fun K7 k8 => ?_
 refine V.run h4 [] 1 1 0 [(8, .string s)] fun a h13 => ?_
 refine V.go (V.rgs (h13.e (v := (.string s))) (by kernel_rfl) ?_)
 intro w10 b9 heb9 hI11 hF12
 have hsb9 := hI11.lt
 have hF_14 := hF.new hF12
 refine V.pt h13 fun a h15 => ?_
 refine V.nt (k8 _ _ ?_)
 refine V.block ?_
 refine V.loop1 (fun (p : Nat) a_ w_ => En 42 [] a_ [(0, .string s), (9, .pointer (some ⟨b9, 0, none⟩))] ∧ Itr w_ b9 s p ∧ Fr [] w w_ ∧ (p ≤ s.size) ∧ (∀ j, j < p → okc s j)) (fun (p : Nat) => s.size - p) 0 ?_ ?_
 ·
  refine ⟨h15.only _, hI11, hF_14, (by omega), (fun j hj => by omega)⟩
 ·
  rintro p a16 w17 ⟨h18, hI_19, hF_20, hp, hk⟩
  have hfs21 := hF_20.size
  refine V.sg fun K22 k23 => ?_
  refine V.go (V.nxs hI_19 h18.e ?_ ?_)
  ·
   intro hp24 w25 r26 n27 hr28 hI29 hF30
   have hsw25 := hF30.size
   have hF_31 := hF_20.own hF30 (by simp <;> omega)
   obtain ⟨hr1, hr2, hr3, hr4, hr5⟩ := hr28
   refine V.pt h18 fun a h32 => ?_
   refine V.re h32 [] 1 0 [(11, .bool true)] fun a h33 => k23 _ _ ?_
   refine V.seq fun K34 k35 => ?_
   refine V.ct h33 ?_
   refine V.skip ?_
   refine V.then_n (k35 _ _ ?_)
   refine V.block ?_
   refine V.sr h33 [] 12 13 [(4, .int .i64 (p : Int)), (5, .int .i32 r26)] fun a h38 => ?_
   refine V.seq fun K39 k40 => ?_
   refine V.sg fun K41 k42 => ?_
   refine V.run h38 [] 3 14 15 [(16, .bool (decide (r26 ≥ 48)))] fun a h43 => ?_
   by_cases hg44 : r26 ≥ 48
   ·
    have h45 := h43.kt 16 hg44
    refine V.run h45 [] 4 17 19 [(20, .bool (decide (r26 ≤ 57)))] fun a h46 => ?_
    by_cases hg47 : r26 ≤ 57
    ·
     have h48 := h46.kt 20 hg47
     refine V.re h48 [] 21 26 [(27, .bool true)] fun a h49 => k42 _ _ ?_
     refine V.ct h49 ?_
     refine V.exit (V.then_e (V.blk_hit (V.then_n ?_)))
     have hlt8 : bi s (p : Int) < 128 := by omega
     obtain ⟨hrb, hn1⟩ := hr1 hlt8
     subst hn1
     refine ⟨p + 1, by omega, ?_⟩
     refine ⟨h49.only _, hI29, hF_31, (by omega), (ok_next hk (by unfold okc; omega))⟩
    ·
     have h50 := h46.kf 20 hg47
     refine V.run h50 [(1, .eq r26 45)] 3 21 22 [(23, .bool (decide (r26 = 45)))] fun a h51 => ?_
     by_cases hg52 : r26 = 45
     ·
      have h53 := h51.kt 23 hg52
      refine V.re h53 [(1, .eq (p : Int) 0)] 24 26 [(27, .bool (decide ((p : Int) = 0)))] fun a h54 => k42 _ _ ?_
      refine V.cp h54 ((p : Int) = 0) (fun ht55 => ?_) (fun ht55 => ?_)
      ·
       refine V.exit (V.then_e (V.blk_hit (V.then_n ?_)))
       have hlt8 : bi s (p : Int) < 128 := by omega
       obtain ⟨hrb, hn1⟩ := hr1 hlt8
       subst hn1
       refine ⟨p + 1, by omega, ?_⟩
       refine ⟨h54.only _, hI29, hF_31, (by omega), (ok_next hk (by unfold okc; omega))⟩
      ·
       refine V.skip ?_
       refine V.then_n (k40 _ _ ?_)
       refine V.sr h54 [] 1 0 [(2, .int .i64 0), (3, .int .i64 10)] fun a h58 => ?_
       refine V.ret (V.blk_r (V.then_r (V.blk_r (V.then_r ?_))))
       refine V.r2 h58 (.int .i64 0) (.int .i64 10) ?_
       obtain ⟨hq1, hq2⟩ := pr_no (pr_bad (s := s) (p := p) (by assumption) (fun hq => by unfold okc at hq; omega))
       exact ⟨by rw [← hq1, ← hq2], hF_31⟩
     ·
      have h59 := h51.kf 23 hg52
      refine V.re h59 [] 24 26 [(27, .bool false)] fun a h60 => k42 _ _ ?_
      refine V.cf h60 ?_
      refine V.skip ?_
      refine V.then_n (k40 _ _ ?_)
      refine V.sr h60 [] 1 0 [(2, .int .i64 0), (3, .int .i64 10)] fun a h63 => ?_
      refine V.ret (V.blk_r (V.then_r (V.blk_r (V.then_r ?_))))
      refine V.r2 h63 (.int .i64 0) (.int .i64 10) ?_
      obtain ⟨hq1, hq2⟩ := pr_no (pr_bad (s := s) (p := p) (by assumption) (fun hq => by unfold okc at hq; omega))
      exact ⟨by rw [← hq1, ← hq2], hF_31⟩
   ·
    have h64 := h43.kf 16 hg44
    refine V.run h64 [(3, .eq r26 45)] 7 17 22 [(20, .bool false), (23, .bool (decide (r26 = 45)))] fun a h65 => ?_
    by_cases hg66 : r26 = 45
    ·
     have h67 := h65.kt 23 hg66
     refine V.re h67 [(1, .eq (p : Int) 0)] 24 26 [(27, .bool (decide ((p : Int) = 0)))] fun a h68 => k42 _ _ ?_
     refine V.cp h68 ((p : Int) = 0) (fun ht69 => ?_) (fun ht69 => ?_)
     ·
      refine V.exit (V.then_e (V.blk_hit (V.then_n ?_)))
      have hlt8 : bi s (p : Int) < 128 := by omega
      obtain ⟨hrb, hn1⟩ := hr1 hlt8
      subst hn1
      refine ⟨p + 1, by omega, ?_⟩
      refine ⟨h68.only _, hI29, hF_31, (by omega), (ok_next hk (by unfold okc; omega))⟩
     ·
      refine V.skip ?_
      refine V.then_n (k40 _ _ ?_)
      refine V.sr h68 [] 1 0 [(2, .int .i64 0), (3, .int .i64 10)] fun a h72 => ?_
      refine V.ret (V.blk_r (V.then_r (V.blk_r (V.then_r ?_))))
      refine V.r2 h72 (.int .i64 0) (.int .i64 10) ?_
      obtain ⟨hq1, hq2⟩ := pr_no (pr_bad (s := s) (p := p) (by assumption) (fun hq => by unfold okc at hq; omega))
      exact ⟨by rw [← hq1, ← hq2], hF_31⟩
    ·
     have h73 := h65.kf 23 hg66
     refine V.re h73 [] 24 26 [(27, .bool false)] fun a h74 => k42 _ _ ?_
     refine V.cf h74 ?_
     refine V.skip ?_
     refine V.then_n (k40 _ _ ?_)
     refine V.sr h74 [] 1 0 [(2, .int .i64 0), (3, .int .i64 10)] fun a h77 => ?_
     refine V.ret (V.blk_r (V.then_r (V.blk_r (V.then_r ?_))))
     refine V.r2 h77 (.int .i64 0) (.int .i64 10) ?_
     obtain ⟨hq1, hq2⟩ := pr_no (pr_bad (s := s) (p := p) (by assumption) (fun hq => by unfold okc at hq; omega))
     exact ⟨by rw [← hq1, ← hq2], hF_31⟩
  ·
   intro hp78
   refine V.pt h18 fun a h79 => ?_
   refine V.re h79 [] 1 0 [(11, .bool false)] fun a h80 => k23 _ _ ?_
   refine V.seq fun K81 k82 => ?_
   refine V.cf h80 ?_
   refine V.exit (V.then_e (V.then_e (V.blk_hit ?_)))
   refine V.then_n (k6 _ _ ?_)
   refine V.sg fun K83 k84 => ?_
   refine V.run h80 [] 1 1 0 [(29, .string s)] fun a h85 => ?_
   refine V.cl h85 (Go.Proofs.enters_of Tryz.func131 (by kernel_rfl) rfl) (pi_any w17 s hs (hV.fr hF_20)) ?_
   rintro _ w86 ⟨n87, v88, rfl, hF89, hc90⟩
   refine ⟨_, rfl, fun a h91 => ?_⟩
   have hsw86 := hF89.size
   have hF_93 := hF_20.new hF89
   rcases hc90 with ⟨rfl, hn64, hpi⟩ | ⟨u, q, rfl, hpi⟩
   ·
    refine V.re h91 [] 28 32 [(6, .int .i64 n87), (7, .nilIface)] fun a h94 => k84 _ _ ?_
    refine V.seq fun K95 k96 => ?_
    refine V.sg fun K97 k98 => ?_
    refine V.run h94 [] 1 1 0 [(33, .nilIface)] fun a h99 => ?_
    refine V.go (V.neqI0 (h99.e (v := (.nilIface))) (by kernel_rfl) ?_)
    refine V.pt h99 fun a h100 => ?_
    refine V.run h100 [] 2 1 0 [(35, .bool false), (36, .int .i64 n87)] fun a h101 => ?_
    refine V.clg h101 (Go.Proofs.enters_of Tryz.func126 (by kernel_rfl) rfl) (fmt_any w86 n87 hn64 (hV.fr hF_93)) ?_
    rintro _ w103 ⟨rfl, hF102⟩
    refine ⟨_, rfl, fun a h104 => ?_⟩
    have hsw103 := hF102.size
    have hF_106 := hF_93.new hF102
    refine V.re h104 [(1, .sne (itoaS n87) s)] 38 39 [(40, .bool (decide (¬ (itoaS n87) = s)))] fun a h107 => k98 _ _ ?_
    refine V.cp h107 (¬ (itoaS n87) = s) (fun ht108 => ?_) (fun ht108 => ?_)
    ·
     refine V.sr h107 [] 1 0 [(2, .int .i64 0), (3, .int .i64 10)] fun a h111 => ?_
     refine V.ret (V.then_r ?_)
     refine V.r2 h111 (.int .i64 0) (.int .i64 10) ?_
     obtain ⟨hq1, hq2⟩ := pr_no (pr_other hpi (by assumption))
     exact ⟨by rw [← hq1, ← hq2], hF_106⟩
    ·
     refine V.skip ?_
     refine V.then_n (k96 _ _ ?_)
     refine V.sr h107 [] 41 41 [(2, .int .i64 n87), (3, .int .i64 0)] fun a h114 => ?_
     refine V.ret ?_
     refine V.r2 h114 (.int .i64 n87) (.int .i64 0) ?_
     obtain ⟨hq1, hq2⟩ := pr_yes hn64 (by first | assumption | exact Decidable.of_not_not (by assumption))
     exact ⟨by rw [← hq1, ← hq2], hF_106⟩
   ·
    refine V.re h91 [] 28 32 [(6, .int .i64 n87), (7, (.iface u q))] fun a h115 => k84 _ _ ?_
    refine V.seq fun K116 k117 => ?_
    refine V.sg fun K118 k119 => ?_
    refine V.run h115 [] 1 1 0 [(33, (.iface u q))] fun a h120 => ?_
    refine V.go (V.neqI1 (h120.e (v := ((.iface u q)))) (by kernel_rfl) ?_)
    refine V.pt h120 fun a h121 => ?_
    refine V.re h121 [] 35 39 [(40, .bool true)] fun a h122 => k119 _ _ ?_
    refine V.ct h122 ?_
    refine V.sr h122 [] 1 0 [(2, .int .i64 0), (3, .int .i64 10)] fun a h125 => ?_
    refine V.ret (V.then_r ?_)
    refine V.r2 h125 (.int .i64 0) (.int .i64 10) ?_
    obtain ⟨hq1, hq2⟩ := pr_no (pr_err hpi)
    exact ⟨by rw [← hq1, ← hq2], hF_93⟩
end Go.Proofs.YtdebkbfnngkdlaaGreatDoor
end
section
namespace Go.V
open Go.Base Go.RowKit
set_option linter.unusedVariables false
set_option linter.unusedSimpArgs false
theorem b_or_i64 (x m : Nat) (hx : x < 9223372036854775808) (hm : m < 9223372036854775808) : Value.int .i64 (IntKind.i64.wrap ((BitVec.ofInt 64 (x : Int) ||| BitVec.ofInt 64 (m : Int)).toNat : Int)) = .int .i64 ((x ||| m : Nat) : Int) := by
  have hb : (BitVec.ofInt 64 (x : Int) ||| BitVec.ofInt 64 (m : Int)).toNat = x ||| m := by rw [BitVec.toNat_or, ofInt_nat 64 x (by omega), ofInt_nat 64 m (by omega)]
  have hlt : x ||| m < 2 ^ 63 := Nat.or_lt_two_pow (by omega) (by omega)
  rw [hb]
  exact w_i64 (by omega) (by omega)
section
variable {ro : Option Nat} {P : Program} {Q : Exit → Act → World → Prop} {a : Act} {w : World} {ops : Array Oper} {rest : List Oper} {d : Option Tmp} {ty : TypeId} {pos : String} {aft : Array Edge} {g : Option (Nat × Bool)}
theorem mk0 {α : Type} (R : Rp α) {t e : TypeId} {l c : Operand} {kl kc : IntKind} (m : Nat) (z : Value) (bytes : Nat) (hl : a.eval l = .int kl 0) (hc : a.eval c = .int kc (m : Int)) (ht : P.underlying t = some (.slice e))
    (hinfo : (P.info? e).map (fun i => (i.zero, i.size, i.bytes)) = some (some z, 1, bytes)) (hz : z.cells = #[z]) (hR : R.sz = 1) (hb : bytes * m ≤ 281474976710656) (hn : m ≤ maxLen)
    (k : ∀ w1 b, b = w.heap.size → OwR R NoZ w1 b e (.slice (some ⟨b, 0, none⟩) 0 m) [] → Fr [] w w1 → L ro P ops Q rest (a.put d (.slice (some ⟨b, 0, none⟩) 0 m)) w1) : St ro P ops Q rest ⟨d, .makeSlice t l c, ty, pos, aft, g⟩ a w := by
  obtain ⟨i, hi, hzz⟩ := Option.map_eq_some_iff.1 hinfo
  simp only [Prod.mk.injEq] at hzz
  obtain ⟨hz0, hz1, hz2⟩ := hzz
  subst hz2
  have hb' : (i.bytes : Int) * (m : Int) ≤ 281474976710656 := by
    have h : ((i.bytes * m : Nat) : Int) ≤ 281474976710656 := by omega
    rwa [Int.natCast_mul] at h
  have hr := run_make (P := P) (w := w) t e i z ht hi hz0 kl kc 0 (m : Int) (Int.le_refl _) (by omega) hb' (by unfold maxLen at hn; omega)
  simp only [Int.toNat_natCast, hz1, Nat.mul_one, hz, Int.toNat_zero] at hr
  refine St.val (v := .slice (some ⟨w.heap.size, 0, none⟩) 0 m) (w' := w.alloc (.cells (madeCells #[z] m) e)) (by simp only [execOp, hl, hc, hr, Sem.run_bind, Sem.run_pure, Result.andThen_ok]) (k _ _ rfl ⟨[], ⟨by simp, .inr ⟨w.heap.size, m, madeCells #[z] m, rfl, Nat.le_refl _, heap_alloc_new w _, Nat.zero_le _, hn, ?_, by simp⟩⟩, rfl, fun b _ hz => hz⟩ (Fr.alloc [] w _))
  rw [hR, Nat.mul_one]
  have := congrArg List.length (toList_madeCells_one z m)
  simpa using this
theorem shl (v n : Nat) {t t' : TypeId} {x y : Operand} {k' : IntKind} (hx : a.eval x = .int .i64 (v : Int)) (hy : a.eval y = .int k' (n : Int)) (hn : n ≤ 64) (hv : v * 2 ^ n ≤ 9223372036854775807) (kk : L ro P ops Q rest (a.put d (.int .i64 ((v * 2 ^ n : Nat) : Int))) w) : St ro P ops Q rest ⟨d, .binOp .shl t x y t', ty, pos, aft, g⟩ a w := by
  refine St.val (v := .int .i64 ((v * 2 ^ n : Nat) : Int)) (w' := w) ?_ kk
  have h64 : n ≤ IntKind.i64.bits := hn
  have hc : ((v : Int) * 2 ^ n) = ((v * 2 ^ n : Nat) : Int) := by simp
  simp only [execOp, hx, hy, eqGuard, binOp, Op.shift, nonneg_if, Int.toNat_natCast, Nat.min_eq_left h64, hc]
  rw [← w_i64 (x := ((v * 2 ^ n : Nat) : Int)) (by omega) (by omega)]
  rfl
theorem ori (v m : Nat) {t t' : TypeId} {x y : Operand} (hx : a.eval x = .int .i64 (v : Int)) (hy : a.eval y = .int .i64 (m : Int)) (hv : v < 9223372036854775808) (hm : m < 9223372036854775808) (kk : L ro P ops Q rest (a.put d (.int .i64 ((v ||| m : Nat) : Int))) w) : St ro P ops Q rest ⟨d, .binOp .or t x y t', ty, pos, aft, g⟩ a w := by
  refine St.val (v := .int .i64 ((v ||| m : Nat) : Int)) (w' := w) ?_ kk
  rw [← b_or_i64 v m hv hm]
  simp only [execOp, hx, hy, eqGuard, binOp, Op.intBits]
  rfl
end
end Go.V
end
section
namespace Go.Proofs.YtdebkbfnngkdlaaGreatDoor
open Go.V Go.Base
open Go.RowKit (Below)
attribute [local irreducible] Act.put Act.eval
set_option linter.unusedVariables false
set_option linter.unusedSimpArgs false
set_option maxHeartbeats 4000000
set_option maxRecDepth 20000
/-! ### Hex, back -/
theorem info5 : (Tryz.prog.info? 5).map (fun i => (i.zero, i.size, i.bytes)) = some (some (.int .u8 0), 1, 1) := by kernel_rfl
def dv (c : UInt8) : Int := Lib.indexByte [48, 49, 50, 51, 52, 53, 54, 55, 56, 57, 97, 98, 99, 100, 101, 102] c
theorem ix_range (c : UInt8) : ∀ l : List UInt8, -1 ≤ Lib.indexByte l c ∧ Lib.indexByte l c < (l.length : Int)
  | [] => by unfold Lib.indexByte; simp
  | b :: l => by
    have := ix_range c l
    unfold Lib.indexByte
    rw [List.length_cons]
    split
    · omega
    · split
      · omega
      · omega
theorem dv_range (c : UInt8) : -1 ≤ dv c ∧ dv c ≤ 15 := by
  have := ix_range c [48, 49, 50, 51, 52, 53, 54, 55, 56, 57, 97, 98, 99, 100, 101, 102]
  unfold dv; simp only [List.length_cons, List.length_nil] at this; omega
theorem ib_any (w : World) (s : ByteArray) (i : Int) : Calls Tryz.prog 130 #[.string ⟨#[48, 49, 50, 51, 52, 53, 54, 55, 56, 57, 97, 98, 99, 100, 101, 102]⟩, .int .u8 (bi s i)] w fun e w' => e = .returned (.int .i64 (dv (byt s i))) ∧ w = w' :=
  (Tryz.strings_IndexByte _ (bi s i) w).mono fun e w' ⟨h1, h2⟩ => ⟨by
    have hb : (bi s i).toNat.toUInt8 = byt s i := by show UInt8.ofNat ((byt s i).toNat : Int).toNat = _; rw [Int.toNat_natCast]; exact UInt8.ofNat_toNat
    rw [h1, hb]; rfl, h2.symm⟩
def uhG (s : ByteArray) (i : Nat) : Prop := 0 ≤ dv (byt s (i : Int))
def nibI (s : ByteArray) (k : Nat) : Int := dv (byt s ((2 * k : Nat) : Int)) * 16 + dv (byt s (((2 * k : Nat) : Int) + 1))
def uhS (s : ByteArray) : ByteArray := strI ((List.range (s.size / 2)).map (nibI s))
def uhOk (s : ByteArray) : Prop := s = ⟨#[46]⟩ ∨ (¬ s = ⟨#[]⟩ ∧ s.size % 2 = 0 ∧ AllG (uhG s) s.size)
noncomputable def unhexS (s : ByteArray) : ByteArray := @ite _ (s = ⟨#[46]⟩ ∨ ¬ uhOk s) (Classical.propDecidable _) ⟨#[]⟩ (uhS s)
theorem uh_dot {s : ByteArray} (h : s = ⟨#[46]⟩) : (⟨#[]⟩ : ByteArray) = unhexS s ∧ true = bP (uhOk s) := ⟨(@if_pos _ (Classical.propDecidable _) (Or.inl h) _ _ _).symm, bP_yes (.inl h)⟩
theorem uh_no {s : ByteArray} (h : ¬ uhOk s) : (⟨#[]⟩ : ByteArray) = unhexS s ∧ false = bP (uhOk s) := ⟨(@if_pos _ (Classical.propDecidable _) (Or.inr h) _ _ _).symm, bP_no h⟩
theorem uh_yes {s : ByteArray} (h0 : ¬ s = ⟨#[46]⟩) (h : uhOk s) : uhS s = unhexS s ∧ true = bP (uhOk s) := ⟨(@if_neg _ (Classical.propDecidable _) (fun q => q.elim h0 (fun q => q h)) _ _ _).symm, bP_yes h⟩
theorem or16 (x y : Nat) (hy : y < 16) : x * 2 ^ 4 ||| y = x * 16 + y := by
  have := Nat.shiftLeft_add_eq_or_of_lt (i := 4) (b := y) hy x
  rw [Nat.shiftLeft_eq] at this
  omega
theorem nib_next (s : ByteArray) (k : Nat) : (List.range (k + 1)).map (nibI s) = (List.range k).map (nibI s) ++ [nibI s k] := by rw [List.range_succ, List.map_append]; rfl
theorem uhG_two {s : ByteArray} {k : Nat} (h : AllG (uhG s) (2 * k)) (h1 : 0 ≤ dv (byt s ((2 * k : Nat) : Int))) (h2 : 0 ≤ dv (byt s (((2 * k : Nat) : Int) + 1))) : AllG (uhG s) (2 * (k + 1)) := by
  rw [show 2 * (k + 1) = 2 * k + 1 + 1 by omega]
  exact (h.step h1).step (by unfold uhG; rw [show ((2 * k + 1 : Nat) : Int) = ((2 * k : Nat) : Int) + 1 by omega]; exact h2)
theorem uh_bad {s : ByteArray} {k : Nat} (h0 : ¬ s = ⟨#[46]⟩) (hk : 2 * k + 1 < s.size) (h : dv (byt s ((2 * k : Nat) : Int)) < 0 ∨ dv (byt s (((2 * k : Nat) : Int) + 1)) < 0) : ¬ uhOk s := by
  rintro (q | ⟨_, _, q⟩)
  · exact h0 q
  · have h1 := q (2 * k) (by omega)
    have h2 := q (2 * k + 1) hk
    unfold uhG at h1 h2
    rw [show ((2 * k + 1 : Nat) : Int) = ((2 * k : Nat) : Int) + 1 by omega] at h2
    omega
theorem unhex_any (w : World) (s : ByteArray) (hs : s.size ≤ 1099511627776) : Calls Tryz.prog 89 #[.string s] w (fun e w' => e = .returned (.tuple #[.string (unhexS s), .bool (bP (uhOk s))]) ∧ Fr [] w w') := by
 have hF := Fr.refl [] w
 refine V.en 53 Tryz.func89 fun a h1 => ?_
 refine V.sr h1 [] 2 3 [] fun a h4 => ?_
 refine V.seq fun K5 k6 => ?_
 refine V.sr h4 [(1, .seq s ⟨#[46]⟩)] 8 8 [(9, .bool (decide (s = ⟨#[46]⟩)))] fun a h9 => ?_
 refine V.cp h9 (s = ⟨#[46]⟩) (fun ht10 => ?_) (fun ht10 => ?_)
 ·
  refine V.sr h9 [] 1 0 [(2, .string ⟨#[]⟩), (3, .bool true)] fun a h13 => ?_
  refine V.ret (V.then_r ?_)
  refine V.r2 h13 (.string ⟨#[]⟩) (.bool true) ?_
  obtain ⟨hq1, hq2⟩ := uh_dot (by assumption : s = ⟨#[46]⟩)
  exact ⟨by rw [← hq1, ← hq2]; try rfl, hF⟩
 ·
  refine V.skip ?_
  refine V.then_n (k6 _ _ ?_)
  refine V.seq fun K14 k15 => ?_
  refine V.sg fun K16 k17 => ?_
  refine V.run h9 [(1, .seq s ⟨#[]⟩)] 3 10 11 [(12, .bool (decide (s = ⟨#[]⟩)))] fun a h18 => ?_
  by_cases hg19 : s = ⟨#[]⟩
  ·
   have h20 := h18.kt 12 hg19
   refine V.re h20 [] 13 16 [(17, .bool true)] fun a h21 => k17 _ _ ?_
   refine V.ct h21 ?_
   refine V.sr h21 [] 1 0 [(2, .string ⟨#[]⟩), (3, .bool false)] fun a h24 => ?_
   refine V.ret (V.then_r ?_)
   refine V.r2 h24 (.string ⟨#[]⟩) (.bool false) ?_
   obtain ⟨hq1, hq2⟩ := uh_no (s := s) (fun q => by rcases q with q | ⟨q1, q2, q3⟩ <;> first | (exact absurd q (by assumption)) | (exact absurd (by assumption) q1) | omega)
   exact ⟨by rw [← hq1, ← hq2]; try rfl, hF⟩
  ·
   have h25 := h18.kf 12 hg19
   refine V.re h25 [(2, .q (.int .i64 ((s.size : Int) % 2)) (V.rem_in (by omega))), (0, .ne ((s.size : Int) % 2) 0)] 13 16 [(17, .bool (decide (¬ ((s.size : Int) % 2) = 0)))] fun a h26 => k17 _ _ ?_
   refine V.cp h26 (¬ ((s.size : Int) % 2) = 0) (fun ht27 => ?_) (fun ht27 => ?_)
   ·
    refine V.sr h26 [] 1 0 [(2, .string ⟨#[]⟩), (3, .bool false)] fun a h30 => ?_
    refine V.ret (V.then_r ?_)
    refine V.r2 h30 (.string ⟨#[]⟩) (.bool false) ?_
    obtain ⟨hq1, hq2⟩ := uh_no (s := s) (fun q => by rcases q with q | ⟨q1, q2, q3⟩ <;> first | (exact absurd q (by assumption)) | (exact absurd (by assumption) q1) | omega)
    exact ⟨by rw [← hq1, ← hq2]; try rfl, hF⟩
   ·
    refine V.skip ?_
    refine V.then_n (k15 _ _ ?_)
    refine V.sg fun K31 k32 => ?_
    refine V.run h26 [(2, .q (.int .i64 ((s.size : Int) / 2)) (V.quo_i64 (by omega) (by omega) (by omega)))] 3 18 19 [(20, .int .i64 ((s.size : Int) / 2))] fun a h37 => ?_
    refine V.go (V.mk0 (Rp.int .u8) (s.size / 2) (.int .u8 0) 1 evc ((h37.e (v := (.int .i64 ((s.size : Int) / 2)))).trans (V.int_eq (by omega))) (by kernel_rfl) info5 rfl rfl (by omega) (by unfold maxLen; omega) ?_)
    intro w34 b33 heb33 hO35 hF36
    have hsb33 : b33 < w34.heap.size := (hO35.lt b33 rfl).2
    have hF_38 := hF.new hF36
    refine V.pt h37 fun a h39 => ?_
    refine V.re h39 [] 1 0 [(4, .slice (some ⟨b33, 0, none⟩) 0 (s.size / 2))] fun a h40 => k32 _ _ ?_
    refine V.seq fun K41 k42 => ?_
    refine V.sr h40 [] 1 0 [(5, .int .i64 0)] fun a h45 => ?_
    refine V.block ?_
    refine V.loop3 (fun (k : Nat) (A2 : Option Addr) (c2 : Nat) a_ w_ => En 53 [] a_ [(0, .string s), (4, .slice A2 (((List.range k).map (nibI s)).length) c2), (5, .int .i64 ((2 * k : Nat) : Int))] ∧ OwR (Rp.int .u8) NoZ w_ w.heap.size 5 (.slice A2 (((List.range k).map (nibI s)).length) c2) ((List.range k).map (nibI s)) ∧ Fr [] w w_ ∧ (2 * k ≤ s.size) ∧ (AllG (uhG s) (2 * k))) (fun (k : Nat) (A2 : Option Addr) (c2 : Nat) => s.size - 2 * k) 0 (some ⟨b33, 0, none⟩) (s.size / 2) ?_ ?_
    ·
     refine ⟨((h45.eq 4 (v := (.slice (some ⟨b33, 0, none⟩) 0 (s.size / 2))) (u := (.slice (some ⟨b33, 0, none⟩) (((List.range 0).map (nibI s)).length) (s.size / 2))) (rfl)).eq 5 (v := (.int .i64 0)) (u := (.int .i64 ((2 * 0 : Nat) : Int))) (V.int_eq (by omega))).only _, (hO35.rebase (by omega)), hF_38, (by omega), (AllG.zero _)⟩
    ·
     rintro k A2 c2 a46 w47 ⟨h48, hO_49, hF_50, hk, hG⟩
     have hfs51 := hF_50.size
     have hfl : ((List.range k).map (nibI s)).length = k := by rw [List.length_map, List.length_range]
     have hd1 := dv_range (byt s ((2 * k : Nat) : Int))
     have hd2 := dv_range (byt s (((2 * k : Nat) : Int) + 1))
     refine V.seq fun K52 k53 => ?_
     refine V.sr h48 [] 22 24 [(25, .bool (decide (((2 * k : Nat) : Int) < (s.size : Int))))] fun a h56 => ?_
     refine V.cp h56 (((2 * k : Nat) : Int) < (s.size : Int)) (fun ht57 => ?_) (fun ht57 => ?_)
     ·
      refine V.skip ?_
      refine V.then_n (k53 _ _ ?_)
      refine V.seq fun K58 k59 => ?_
      refine V.block ?_
      refine V.seq fun K60 k61 => ?_
      refine V.pl [([0,1,2,4,5,6,7],some (3,[])),([],some (8,[])),([9,10],none)] fun w62 hF63 hsw62 => ?_
      have hO_64 := hO_49.fr0 hF63
      have hF_65 := hF_50.new hF63
      have hb66 := byt_lt s ((2 * k : Nat) : Int)
      have hb67 := byt_lt s (((2 * k : Nat) : Int) + 1)
      refine V.pe h56 [(2, .ixs s .i64 ((2 * k : Nat) : Int)), (2, .i (((2 * k : Nat) : Int) + 1)), (0, .ixs s .i64 (((2 * k : Nat) : Int) + 1))] 28 34 [(30, .int .u8 (bi s ((2 * k : Nat) : Int))), (35, .int .u8 (bi s (((2 * k : Nat) : Int) + 1)))] fun a h68 => ?_
      refine V.cl h68 (Go.Proofs.enters_of Tryz.func130 (by kernel_rfl) rfl) (ib_any w62 s ((2 * k : Nat) : Int)) ?_
      rintro _ _ ⟨rfl, rfl⟩
      refine ⟨_, rfl, fun a h69 => ?_⟩
      refine V.eh trivial ?_
      refine V.pe h69 [] 1 0 [] fun a h70 => ?_
      refine V.cl h70 (Go.Proofs.enters_of Tryz.func130 (by kernel_rfl) rfl) (ib_any w62 s (((2 * k : Nat) : Int) + 1)) ?_
      rintro _ _ ⟨rfl, rfl⟩
      refine ⟨_, rfl, fun a h71 => ?_⟩
      refine V.eh trivial ?_
      refine V.pz h71 [] 1 0 [(6, .int .i64 (dv (byt s ((2 * k : Nat) : Int)))), (7, .int .i64 (dv (byt s (((2 * k : Nat) : Int) + 1))))] fun a h72 => k61 _ _ ?_
      refine V.seq fun K73 k74 => ?_
      refine V.sg fun K75 k76 => ?_
      refine V.run h72 [] 3 37 38 [(39, .bool (decide ((dv (byt s ((2 * k : Nat) : Int))) < 0)))] fun a h77 => ?_
      by_cases hg78 : (dv (byt s ((2 * k : Nat) : Int))) < 0
      ·
       have h79 := h77.kt 39 hg78
       refine V.re h79 [] 40 41 [(42, .bool true)] fun a h80 => k76 _ _ ?_
       refine V.ct h80 ?_
       refine V.sr h80 [] 1 0 [(2, .string ⟨#[]⟩), (3, .bool false)] fun a h83 => ?_
       refine V.ret (V.then_r (V.blk_r (V.then_r (V.then_r (V.blk_r (V.then_r ?_))))))
       refine V.r2 h83 (.string ⟨#[]⟩) (.bool false) ?_
       obtain ⟨hq1, hq2⟩ := uh_no (uh_bad (k := k) (by assumption) (by omega) (by omega))
       exact ⟨by rw [← hq1, ← hq2]; try rfl, hF_65⟩
      ·
       have h84 := h77.kf 39 hg78
       refine V.re h84 [] 40 41 [(42, .bool (decide ((dv (byt s (((2 * k : Nat) : Int) + 1))) < 0)))] fun a h85 => k76 _ _ ?_
       refine V.cp h85 ((dv (byt s (((2 * k : Nat) : Int) + 1))) < 0) (fun ht86 => ?_) (fun ht86 => ?_)
       ·
        refine V.sr h85 [] 1 0 [(2, .string ⟨#[]⟩), (3, .bool false)] fun a h89 => ?_
        refine V.ret (V.then_r (V.blk_r (V.then_r (V.then_r (V.blk_r (V.then_r ?_))))))
        refine V.r2 h89 (.string ⟨#[]⟩) (.bool false) ?_
        obtain ⟨hq1, hq2⟩ := uh_no (uh_bad (k := k) (by assumption) (by omega) (by omega))
        exact ⟨by rw [← hq1, ← hq2]; try rfl, hF_65⟩
       ·
        refine V.skip ?_
        refine V.then_n (k74 _ _ ?_)
        have hor := or16 (dv (byt s ((2 * k : Nat) : Int))).toNat (dv (byt s (((2 * k : Nat) : Int) + 1))).toNat (by omega)
        refine V.rg ?_
        refine V.run h85 [] 2 1 0 [(43, .slice A2 (((List.range k).map (nibI s)).length) c2), (44, .int .i64 (dv (byt s ((2 * k : Nat) : Int))))] fun a h90 => ?_
        refine V.go (V.shl (dv (byt s ((2 * k : Nat) : Int))).toNat 4 ((h90.e (v := (.int .i64 (dv (byt s ((2 * k : Nat) : Int)))))).trans (V.int_eq (by omega))) evc (by decide) (by omega) ?_)
        refine V.pt h90 fun a h91 => ?_
        refine V.run h91 [] 1 1 0 [(46, .int .i64 (dv (byt s (((2 * k : Nat) : Int) + 1))))] fun a h92 => ?_
        refine V.go (V.ori ((dv (byt s ((2 * k : Nat) : Int))).toNat * 2 ^ 4) (dv (byt s (((2 * k : Nat) : Int) + 1))).toNat h92.e ((h92.e (v := (.int .i64 (dv (byt s (((2 * k : Nat) : Int) + 1)))))).trans (V.int_eq (by omega))) (by omega) (by omega) ?_)
        refine V.pt h92 fun a h93 => ?_
        refine V.run h93 [(0, .q (.int .u8 (((dv (byt s ((2 * k : Nat) : Int))).toNat * 2 ^ 4 ||| (dv (byt s (((2 * k : Nat) : Int) + 1))).toNat : Nat) : Int)) (V.w_u8 (by omega) (by omega)))] 1 1 0 [(48, .int .u8 (((dv (byt s ((2 * k : Nat) : Int))).toNat * 2 ^ 4 ||| (dv (byt s (((2 * k : Nat) : Int) + 1))).toNat : Nat) : Int))] fun a h94 => ?_
        refine V.go (V.mk [(48, .int .u8 (((dv (byt s ((2 * k : Nat) : Int))).toNat * 2 ^ 4 ||| (dv (byt s (((2 * k : Nat) : Int) + 1))).toNat : Nat) : Int))] ⟨h94.e, trivial⟩ (by kernel_rfl) [.int .u8 (((dv (byt s ((2 * k : Nat) : Int))).toNat * 2 ^ 4 ||| (dv (byt s (((2 * k : Nat) : Int) + 1))).toNat : Nat) : Int)] 5 (fun b => .slice (some ⟨b, 0, none⟩) 1 1) (by kernel_rfl) ?_)
        intro w96 b95 heb95 hB97 hF98 hsb95
        have hO_99 := hO_64.fr0 hF98
        have hF_100 := hF_65.new hF98
        refine V.pt h94 fun a h101 => ?_
        refine V.go (V.app (R := (Rp.int .u8)) (ys := ([(((dv (byt s ((2 * k : Nat) : Int))).toNat * 2 ^ 4 ||| (dv (byt s (((2 * k : Nat) : Int) + 1))).toNat : Nat) : Int)])) (news := [.int .u8 (((dv (byt s ((2 * k : Nat) : Int))).toNat * 2 ^ 4 ||| (dv (byt s (((2 * k : Nat) : Int) + 1))).toNat : Nat) : Int)]) (h101.e (v := (.slice A2 (((List.range k).map (nibI s)).length) c2))) ⟨b95, 0, none⟩ 1 1 (h101.e (v := (.slice (some ⟨b95, 0, none⟩) 1 1))) (by kernel_rfl) (info5) (by kernel_rfl) (by decide) hO_99 rfl ⟨[.int .u8 (((dv (byt s ((2 * k : Nat) : Int))).toNat * 2 ^ 4 ||| (dv (byt s (((2 * k : Nat) : Int) + 1))).toNat : Nat) : Int)], [], rfl, rfl, rfl⟩ (blk_cells hB97 0 _ rfl) (by first | omega | (simp; omega)) (by decide) (by omega) ?_)
        intro A102 c103 w104 hO105z hF106 hatw104
        have hsw104 := hF106.size
        have hF_107 := hF_100.own hF106 (own_ge hO_99 (by omega))
        have hO105 := hO105z.zone (Z' := NoZ) (fun _ _ q => q.1) (fun _ _ q => q)
        refine V.pt h101 fun a h108 => ?_
        refine V.re h108 [] 1 0 [(4, .slice A102 ((((List.range k).map (nibI s)).length) + 1) c103)] fun a h109 => ?_
        refine V.blk_n ?_
        refine V.then_n (k59 _ _ ?_)
        refine V.rr h109 [(1, .i (((2 * k : Nat) : Int) + 2))] 26 27 [(5, .int .i64 (((2 * k : Nat) : Int) + 2))] fun a h110 => ?_
        refine V.then_n ?_
        have hqs := nib_next s k
        rw [show nibI s k = (((dv (byt s ((2 * k : Nat) : Int))).toNat * 2 ^ 4 ||| (dv (byt s (((2 * k : Nat) : Int) + 1))).toNat : Nat) : Int) from (by unfold nibI; omega)] at hqs
        refine ⟨k + 1, A102, c103, by omega, ?_⟩
        refine ⟨((h110.eq 4 (v := (.slice A102 ((((List.range k).map (nibI s)).length) + 1) c103)) (u := (.slice A102 (((List.range (k + 1)).map (nibI s)).length) c103)) (V.sl_eq (by rw [hqs]; simp))).eq 5 (v := (.int .i64 (((2 * k : Nat) : Int) + 2))) (u := (.int .i64 ((2 * (k + 1) : Nat) : Int))) (V.int_eq (by omega))).only _, (by rw [hqs, List.length_append]; exact hO105), hF_107, (by omega), (uhG_two hG (by omega) (by omega))⟩
     ·
      refine V.exit (V.then_e (V.then_e (V.blk_hit ?_)))
      refine V.then_n (k42 _ _ ?_)
      refine V.sg fun K111 k112 => ?_
      refine V.run h56 [] 1 1 0 [(51, .slice A2 (((List.range k).map (nibI s)).length) c2)] fun a h113 => ?_
      refine V.go (V.b2s (e := 5) (xs := ((List.range k).map (nibI s))) (hO_49.read (Z' := fun _ => True) (fun _ _ _ => trivial) (fun _ _ _ => trivial)) (by kernel_rfl) (by kernel_rfl) (by kernel_rfl) (h113.e (v := (.slice A2 (((List.range k).map (nibI s)).length) c2))) ?_)
      refine V.pt h113 fun a h114 => ?_
      refine V.re h114 [] 1 0 [(2, .string (strI ((List.range k).map (nibI s)))), (3, .bool true)] fun a h115 => k112 _ _ ?_
      refine V.ret ?_
      refine V.r2 h115 (.string (strI ((List.range k).map (nibI s)))) (.bool true) ?_
      have hke : k = s.size / 2 := by omega
      subst hke
      obtain ⟨hq1, hq2⟩ := uh_yes (s := s) (by assumption) (.inr ⟨by assumption, by omega, hG.le (by omega)⟩)
      exact ⟨by rw [← hq1, ← hq2]; try rfl, hF_50⟩
/-! ### A text cut in two -/
def cuA (s : ByteArray) (c : UInt8) : ByteArray := ⟨(Lib.cut s.data.toList [c]).1.toArray⟩
def cuB (s : ByteArray) (c : UInt8) : ByteArray := ⟨(Lib.cut s.data.toList [c]).2.1.toArray⟩
def cuF (s : ByteArray) (c : UInt8) : Bool := (Lib.cut s.data.toList [c]).2.2
theorem cu_len (s : ByteArray) (c : UInt8) : (cuA s c).size ≤ s.size ∧ (cuB s c).size ≤ s.size := by
  have h0 : s.data.toList.length = s.size := Array.length_toList
  have h1 : (cuA s c).size = (Lib.cut s.data.toList [c]).1.length := List.size_toArray
  have h2 : (cuB s c).size = (Lib.cut s.data.toList [c]).2.1.length := List.size_toArray
  rw [h1, h2]
  unfold Lib.cut
  split
  · exact ⟨by rw [List.length_take]; omega, by rw [List.length_drop]; omega⟩
  · exact ⟨Nat.le_of_eq h0, Nat.zero_le _⟩
theorem fr_drewN (w : World) : ∀ n, Fr [] w (w.drewN n) := fun n => ⟨rfl, rfl, rfl, Nat.le_refl _, fun _ _ _ => rfl⟩
theorem cu_any (w : World) (s : ByteArray) (c : UInt8) (hs : s.size < 4294967281) (hV : Vs w) : Calls Tryz.prog 43 #[.string s, .string ⟨#[c]⟩] w fun e w' => e = .returned (.tuple #[.string (cuA s c), .string (cuB s c), .bool (cuF s c)]) ∧ Fr [] w w' := by
  obtain ⟨m, hm⟩ := hV.mx
  exact (Tryz.strings_Cut s ⟨#[c]⟩ m w hs hm).mono fun e w' ⟨h1, n, h2⟩ => ⟨h1, h2 ▸ fr_drewN w n⟩
theorem prC_0 {s : ByteArray} : prC s = 0 ↔ prOk s := by
  unfold prC
  constructor
  · intro h; split at h
    · assumption
    · cases h
  · intro h; rw [if_pos h]
theorem nb_no {p : Prop} (h : (!(bP p)) = true) : ¬ p := fun hp => by rw [← bP_yes hp] at h; cases h
theorem nb_yes {p : Prop} (h : ¬ (!(bP p)) = true) : p := bP_of (by simpa using h)
theorem nf_no {b : Bool} (h : (!b) = true) : ¬ b = true := fun hb => by rw [hb] at h; cases h
theorem nf_yes {b : Bool} (h : ¬ (!b) = true) : b = true := by simpa using h
theorem part_s (w : World) (b : Nat) (key s : ByteArray) (till : Int) (x : ByteArray) (hB : Blk w b [.string key, .int .i64 1, .string s, .slice none 0 0, .slice none 0 0, .slice none 0 0, .int .i64 till] 55) (hx : x.size ≤ 67108864) (hb8 : 8 ≤ b) (hV : Vs w) : Calls Tryz.prog 91 #[.pointer (some ⟨b, 1, none⟩), .string x] w (fun e w' => e = .returned (.bool (bP (uhOk x))) ∧ (uhOk x → Blk w' b [.string key, .int .i64 1, .string (unhexS x), .slice none 0 0, .slice none 0 0, .slice none 0 0, .int .i64 till] 55) ∧ Below b w w') := by
 have hL := Below.refl b w
 have hltb := hB.lt
 refine V.en 107 Tryz.func91 fun a h1 => ?_
 refine V.sr h1 [] 4 4 [] fun a h4 => ?_
 refine V.sr h4 [] 14 14 [(5, .string x), (6, .string ⟨#[]⟩), (7, .bool false)] fun a h7 => ?_
 refine V.seq fun K8 k9 => ?_
 refine V.sr h7 [(3, .b hB 1)] 15 17 [(18, .int .i64 1)] fun a h12 => ?_
 refine V.block ?_
 refine V.sr h12 [] 20 20 [(19, .bool false)] fun a h15 => ?_
 refine V.cf h15 ?_
 refine V.sr h15 [] 28 28 [(27, .bool false)] fun a h18 => ?_
 refine V.cf h18 ?_
 refine V.rr h18 [] 1 0 [(7, .bool true)] fun a h19 => ?_
 refine V.blk_n ?_
 refine V.then_n (k9 _ _ ?_)
 refine V.sg fun K20 k21 => ?_
 refine V.run h19 [] 1 1 0 [(36, .string x)] fun a h22 => ?_
 refine V.cl h22 (Go.Proofs.enters_of Tryz.func89 (by kernel_rfl) rfl) (unhex_any w x (by omega)) ?_
 rintro _ w24 ⟨rfl, hF23⟩
 refine ⟨_, rfl, fun a h25 => ?_⟩
 have hsw24 := hF23.size
 have hL_26 := bel_fr hL hF23 (by omega) (by simp <;> omega)
 have hB_27 := hB.fr0 hF23
 refine V.re h25 [] 35 39 [(8, .string (unhexS x)), (9, .bool (bP (uhOk x)))] fun a h28 => k21 _ _ ?_
 refine V.seq fun K29 k30 => ?_
 refine V.sg fun K31 k32 => ?_
 refine V.run h28 [] 3 40 41 [(42, .bool (!(bP (uhOk x))))] fun a h33 => ?_
 by_cases hg34 : (!(bP (uhOk x))) = true
 ·
  have h35 := h33.kbt 42 hg34
  refine V.re h35 [] 43 44 [(45, .bool true)] fun a h36 => k32 _ _ ?_
  refine V.ct h36 ?_
  refine V.sr h36 [] 1 0 [(4, .bool false)] fun a h39 => ?_
  refine V.ret (V.then_r ?_)
  refine V.r1 h39 (.bool false) ?_
  exact ⟨congrArg (fun b => Ending.returned (Value.bool b)) (bP_no (nb_no (by assumption))), fun hq => absurd hq (nb_no (by assumption)), hL_26⟩
 ·
  have h40 := h33.kbf 42 hg34
  refine V.re h40 [] 43 44 [(45, .bool false)] fun a h41 => k32 _ _ ?_
  refine V.cf h41 ?_
  refine V.skip ?_
  refine V.then_n (k30 _ _ ?_)
  refine V.seq fun K42 k43 => ?_
  refine V.sr h41 [(3, .b hB_27 1)] 46 48 [(49, .int .i64 1)] fun a h46 => ?_
  refine V.block ?_
  refine V.sr h46 [] 61 61 [(60, .bool true)] fun a h49 => ?_
  refine V.ct h49 ?_
  refine V.rg ?_
  refine V.run h49 [] 4 62 64 [(63, .string (unhexS x)), (65, .pointer (some ⟨b, 2, none⟩))] fun a h53 => ?_
  refine V.go (V.stn b 2 (.string (unhexS x)) [.string (unhexS x)] h53.e h53.e rfl rfl (by kernel_rfl) hB_27 (by simp) [.string key, .int .i64 1, .string (unhexS x), .slice none 0 0, .slice none 0 0, .slice none 0 0, .int .i64 till] rfl ?_)
  intro w50 hB51 hF52 hsw50
  have hL_54 := bel_fr hL_26 hF52 (by omega) (by simp <;> omega)
  refine V.nil ?_
  refine V.blk_n ?_
  refine V.then_n (k43 _ _ ?_)
  refine V.sr h53 [] 1 0 [(4, .bool true)] fun a h57 => ?_
  refine V.ret ?_
  refine V.r1 h57 (.bool true) ?_
  exact ⟨congrArg (fun b => Ending.returned (Value.bool b)) (bP_yes (nb_yes (by assumption))), fun _ => hB51, hL_54⟩
theorem part_l (w : World) (b : Nat) (key s : ByteArray) (till : Int) (x : ByteArray) (A : Option Addr) (c : Nat) (l : List ByteArray) (k : Int) (hB : Blk w b [.string key, .int .i64 k, .string s, .slice A l.length c, .slice none 0 0, .slice none 0 0, .int .i64 till] 55) (hO : OwR Rp.str NoZ w (b + 1) 9 (.slice A l.length c) l) (hl : l.length ≤ 1099511627776) (hk1 : ¬ k = 1) (hk4 : ¬ k = 4) (hk5 : ¬ k = 5) (hx : x.size ≤ 67108864) (hb8 : 8 ≤ b) (hV : Vs w) : Calls Tryz.prog 91 #[.pointer (some ⟨b, 1, none⟩), .string x] w (fun e w' => ∃ A' c', e = .returned (.bool (bP (uhOk x))) ∧ (uhOk x → Blk w' b [.string key, .int .i64 k, .string s, .slice A' (l.length + 1) c', .slice none 0 0, .slice none 0 0, .int .i64 till] 55 ∧ OwR Rp.str NoZ w' (b + 1) 9 (.slice A' (l.length + 1) c') (l ++ [unhexS x])) ∧ Below b w w') := by
 have hL := Below.refl b w
 have hltb := hB.lt
 refine V.en 107 Tryz.func91 fun a h1 => ?_
 refine V.sr h1 [] 4 4 [] fun a h4 => ?_
 refine V.sr h4 [] 14 14 [(5, .string x), (6, .string ⟨#[]⟩), (7, .bool false)] fun a h7 => ?_
 refine V.seq fun K8 k9 => ?_
 refine V.sr h7 [(3, .b hB 1)] 15 17 [(18, .int .i64 k)] fun a h12 => ?_
 refine V.block ?_
 refine V.sr h12 [(0, .eq k 4)] 20 20 [(19, .bool (decide (k = 4)))] fun a h15 => ?_
 refine V.cp h15 (k = 4) (fun ht16 => ?_) (fun ht16 => ?_)
 · exact absurd ht16 (by omega)
 ·
  refine V.sr h15 [(0, .eq k 5)] 28 28 [(27, .bool (decide (k = 5)))] fun a h19 => ?_
  refine V.cp h19 (k = 5) (fun ht20 => ?_) (fun ht20 => ?_)
  · exact absurd ht20 (by omega)
  ·
   refine V.rr h19 [] 1 0 [(7, .bool true)] fun a h21 => ?_
   refine V.blk_n ?_
   refine V.then_n (k9 _ _ ?_)
   refine V.sg fun K22 k23 => ?_
   refine V.run h21 [] 1 1 0 [(36, .string x)] fun a h24 => ?_
   refine V.cl h24 (Go.Proofs.enters_of Tryz.func89 (by kernel_rfl) rfl) (unhex_any w x (by omega)) ?_
   rintro _ w26 ⟨rfl, hF25⟩
   refine ⟨_, rfl, fun a h27 => ?_⟩
   have hsw26 := hF25.size
   have hL_28 := bel_fr hL hF25 (by omega) (by simp <;> omega)
   have hB_29 := hB.fr0 hF25
   have hO_30 := hO.fr0 hF25
   refine V.re h27 [] 35 39 [(8, .string (unhexS x)), (9, .bool (bP (uhOk x)))] fun a h31 => k23 _ _ ?_
   refine V.seq fun K32 k33 => ?_
   refine V.sg fun K34 k35 => ?_
   refine V.run h31 [] 3 40 41 [(42, .bool (!(bP (uhOk x))))] fun a h36 => ?_
   by_cases hg37 : (!(bP (uhOk x))) = true
   ·
    have h38 := h36.kbt 42 hg37
    refine V.re h38 [] 43 44 [(45, .bool true)] fun a h39 => k35 _ _ ?_
    refine V.ct h39 ?_
    refine V.sr h39 [] 1 0 [(4, .bool false)] fun a h42 => ?_
    refine V.ret (V.then_r ?_)
    refine V.r1 h42 (.bool false) ?_
    exact ⟨none, 0, congrArg (fun b => Ending.returned (Value.bool b)) (bP_no (nb_no (by assumption))), fun hq => absurd hq (nb_no (by assumption)), hL_28⟩
   ·
    have h43 := h36.kbf 42 hg37
    refine V.re h43 [] 43 44 [(45, .bool false)] fun a h44 => k35 _ _ ?_
    refine V.cf h44 ?_
    refine V.skip ?_
    refine V.then_n (k33 _ _ ?_)
    refine V.seq fun K45 k46 => ?_
    refine V.sr h44 [(3, .b hB_29 1)] 46 48 [(49, .int .i64 k)] fun a h49 => ?_
    refine V.block ?_
    refine V.sr h49 [(0, .eq k 1)] 61 61 [(60, .bool (decide (k = 1)))] fun a h52 => ?_
    refine V.cp h52 (k = 1) (fun ht53 => ?_) (fun ht53 => ?_)
    · exact absurd ht53 (by omega)
    ·
     refine V.sg fun K54 k55 => ?_
     refine V.run h52 [(0, .eq k 4)] 1 1 0 [(67, .bool (decide (k = 4)))] fun a h56 => ?_
     have h57 := h56.kf 67 ht16
     refine V.re h57 [] 1 0 [(66, .bool false)] fun a h58 => k55 _ _ ?_
     refine V.cf h58 ?_
     refine V.sg fun K59 k60 => ?_
     refine V.run h58 [(0, .eq k 5)] 1 1 0 [(88, .bool (decide (k = 5)))] fun a h61 => ?_
     have h62 := h61.kf 88 ht20
     refine V.re h62 [] 1 0 [(87, .bool false)] fun a h63 => k60 _ _ ?_
     refine V.cf h63 ?_
     refine V.rg ?_
     refine V.run h63 [(4, .b hB_29 3)] 6 51 53 [(50, .pointer (some ⟨b, 1, none⟩)), (54, .slice A l.length c), (55, .string (unhexS x))] fun a h64 => ?_
     refine V.go (V.mk [(55, .string (unhexS x))] ⟨h64.e, trivial⟩ (by kernel_rfl) [.string (unhexS x)] 9 (fun b => .slice (some ⟨b, 0, none⟩) 1 1) (by kernel_rfl) ?_)
     intro w66 b65 heb65 hB67 hF68 hsb65
     have hL_69 := bel_fr hL_28 hF68 (by omega) (by simp <;> omega)
     have hB_70 := hB_29.fr0 hF68
     have hO_71 := hO_30.fr0 hF68
     refine V.pt h64 fun a h72 => ?_
     refine V.go (V.app (R := Rp.str) (ys := ([unhexS x])) (news := [.string (unhexS x)]) (h72.e (v := (.slice A l.length c))) ⟨b65, 0, none⟩ 1 1 (h72.e (v := (.slice (some ⟨b65, 0, none⟩) 1 1))) (by kernel_rfl) (info9) (by kernel_rfl) (by decide) hO_71 rfl ⟨_, [], rfl, rfl, rfl⟩ (blk_cells hB67 0 _ rfl) (by first | omega | (simp; omega)) (by decide) (by omega) ?_)
     intro A73 c74 w75 hO76z hF77 hatw75
     have hsw75 := hF77.size
     have hL_78 := bel_fr hL_69 hF77 (by omega) (own_ge hO_71 (by omega))
     have hB_79 := hB_70.fr hF77 (by first | exact own_notin hO_71 (by omega))
     have hO76 := hO76z.zone (Z' := NoZ) (fun _ _ q => q.1) (fun _ _ q => q)
     refine V.pt h72 fun a h80 => ?_
     refine V.run h80 [] 2 58 58 [(59, .pointer (some ⟨b, 3, none⟩))] fun a h84 => ?_
     refine V.go (V.stn b 3 (.slice A73 ((l.length) + 1) c74) [.slice A73 ((l.length) + 1) c74] h84.e h84.e rfl rfl (by kernel_rfl) hB_79 (by simp) [.string key, .int .i64 k, .string s, .slice A73 ((l.length) + 1) c74, .slice none 0 0, .slice none 0 0, .int .i64 till] rfl ?_)
     intro w81 hB82 hF83 hsw81
     have hL_85 := bel_fr hL_78 hF83 (by omega) (by simp <;> omega)
     have hO76_86 := hO76.frn hF83 (fun h => h) (by first | exact own_ne hO76 (by omega) | exact own_ne2 hO76 (by omega))
     refine V.nil ?_
     refine V.blk_n ?_
     refine V.then_n (k46 _ _ ?_)
     have h87 := h84.only []
     refine V.sr h87 [] 1 0 [(4, .bool true)] fun a h90 => ?_
     refine V.ret ?_
     refine V.r1 h90 (.bool true) ?_
     exact ⟨_, _, congrArg (fun b => Ending.returned (Value.bool b)) (bP_yes (nb_yes (by assumption))), fun _ => ⟨hB82, hO76_86⟩, hL_85⟩
theorem part_z (w : World) (b : Nat) (key s : ByteArray) (till : Int) (x : ByteArray) (A : Option Addr) (c : Nat) (l : List (ByteArray × Int)) (hB : Blk w b [.string key, .int .i64 4, .string s, .slice none 0 0, .slice A l.length c, .slice none 0 0, .int .i64 till] 55) (hO : OwR scR NoZ w (b + 1) 98 (.slice A l.length c) l) (hl : l.length ≤ 1099511627776) (hx : x.size ≤ 67108864) (hb8 : 8 ≤ b) (hV : Vs w) : Calls Tryz.prog 91 #[.pointer (some ⟨b, 1, none⟩), .string x] w (fun e w' => ∃ A' c', e = .returned (.bool (bP (cuF x 58 = true ∧ uhOk (cuA x 58) ∧ prOk (cuB x 58)))) ∧ ((cuF x 58 = true ∧ uhOk (cuA x 58) ∧ prOk (cuB x 58)) → Blk w' b [.string key, .int .i64 4, .string s, .slice none 0 0, .slice A' (l.length + 1) c', .slice none 0 0, .int .i64 till] 55 ∧ OwR scR NoZ w' (b + 1) 98 (.slice A' (l.length + 1) c') (l ++ [(unhexS (cuA x 58), prN (cuB x 58))])) ∧ Below b w w') := by
 have hL := Below.refl b w
 have hltb := hB.lt
 refine V.en 107 Tryz.func91 fun a h1 => ?_
 refine V.sr h1 [] 4 4 [] fun a h4 => ?_
 refine V.sr h4 [] 14 14 [(5, .string x), (6, .string ⟨#[]⟩), (7, .bool false)] fun a h7 => ?_
 refine V.seq fun K8 k9 => ?_
 refine V.sr h7 [(3, .b hB 1)] 15 17 [(18, .int .i64 4)] fun a h12 => ?_
 refine V.block ?_
 refine V.sr h12 [] 20 20 [(19, .bool true)] fun a h15 => ?_
 refine V.ct h15 ?_
 refine V.rg ?_
 refine V.run h15 [] 1 1 0 [(22, .string x)] fun a h16 => ?_
 have hcl18 := cu_len x 58
 refine V.cl h16 (Go.Proofs.enters_of Tryz.func43 (by kernel_rfl) rfl) (cu_any w x 58 (by omega) (hV.bel hL hb8)) ?_
 rintro _ w19 ⟨rfl, hF17⟩
 refine ⟨_, rfl, fun a h20 => ?_⟩
 have hsw19 := hF17.size
 have hL_21 := bel_fr hL hF17 (by omega) (by simp <;> omega)
 have hB_22 := hB.fr0 hF17
 have hO_23 := hO.fr0 hF17
 refine V.re h20 [] 21 26 [(5, .string (cuA x 58)), (6, .string (cuB x 58)), (7, .bool (cuF x 58))] fun a h24 => ?_
 refine V.blk_n ?_
 refine V.then_n (k9 _ _ ?_)
 refine V.sg fun K25 k26 => ?_
 refine V.run h24 [] 1 1 0 [(36, .string (cuA x 58))] fun a h27 => ?_
 refine V.cl h27 (Go.Proofs.enters_of Tryz.func89 (by kernel_rfl) rfl) (unhex_any w19 (cuA x 58) (by omega)) ?_
 rintro _ w29 ⟨rfl, hF28⟩
 refine ⟨_, rfl, fun a h30 => ?_⟩
 have hsw29 := hF28.size
 have hL_31 := bel_fr hL_21 hF28 (by omega) (by simp <;> omega)
 have hB_32 := hB_22.fr0 hF28
 have hO_33 := hO_23.fr0 hF28
 refine V.re h30 [] 35 39 [(8, .string (unhexS (cuA x 58))), (9, .bool (bP (uhOk (cuA x 58))))] fun a h34 => k26 _ _ ?_
 refine V.seq fun K35 k36 => ?_
 refine V.sg fun K37 k38 => ?_
 refine V.run h34 [] 3 40 41 [(42, .bool (!(bP (uhOk (cuA x 58)))))] fun a h39 => ?_
 by_cases hg40 : (!(bP (uhOk (cuA x 58)))) = true
 ·
  have h41 := h39.kbt 42 hg40
  refine V.re h41 [] 43 44 [(45, .bool true)] fun a h42 => k38 _ _ ?_
  refine V.ct h42 ?_
  refine V.sr h42 [] 1 0 [(4, .bool false)] fun a h45 => ?_
  refine V.ret (V.then_r ?_)
  refine V.r1 h45 (.bool false) ?_
  exact ⟨none, 0, congrArg (fun b => Ending.returned (Value.bool b)) (bP_no (fun ⟨q1, q2, q3⟩ => by first | exact nb_no (by assumption) q2 | exact nf_no (by assumption) q1)), fun hq => absurd hq (fun ⟨q1, q2, q3⟩ => by first | exact nb_no (by assumption) q2 | exact nf_no (by assumption) q1), hL_31⟩
 ·
  have h46 := h39.kbf 42 hg40
  refine V.re h46 [] 43 44 [(45, .bool (!(cuF x 58)))] fun a h47 => k38 _ _ ?_
  refine V.cb h47 (!(cuF x 58)) (fun ht48 => ?_) (fun ht48 => ?_)
  ·
   refine V.sr h47 [] 1 0 [(4, .bool false)] fun a h51 => ?_
   refine V.ret (V.then_r ?_)
   refine V.r1 h51 (.bool false) ?_
   exact ⟨none, 0, congrArg (fun b => Ending.returned (Value.bool b)) (bP_no (fun ⟨q1, q2, q3⟩ => by first | exact nb_no (by assumption) q2 | exact nf_no (by assumption) q1)), fun hq => absurd hq (fun ⟨q1, q2, q3⟩ => by first | exact nb_no (by assumption) q2 | exact nf_no (by assumption) q1), hL_31⟩
  ·
   refine V.skip ?_
   refine V.then_n (k36 _ _ ?_)
   refine V.seq fun K52 k53 => ?_
   refine V.sr h47 [(3, .b hB_32 1)] 46 48 [(49, .int .i64 4)] fun a h56 => ?_
   refine V.block ?_
   refine V.sr h56 [] 61 61 [(60, .bool false)] fun a h59 => ?_
   refine V.cf h59 ?_
   refine V.sr h59 [] 67 67 [(66, .bool true)] fun a h62 => ?_
   refine V.ct h62 ?_
   refine V.sg fun K63 k64 => ?_
   refine V.run h62 [] 1 1 0 [(69, .string (cuB x 58))] fun a h65 => ?_
   refine V.cl h65 (Go.Proofs.enters_of Tryz.func90 (by kernel_rfl) rfl) (parse_any w29 (cuB x 58) (by omega) (hV.bel hL_31 hb8)) ?_
   rintro _ w67 ⟨rfl, hF66⟩
   refine ⟨_, rfl, fun a h68 => ?_⟩
   have hsw67 := hF66.size
   have hL_69 := bel_fr hL_31 hF66 (by omega) (by simp <;> omega)
   have hB_70 := hB_32.fr0 hF66
   have hO_71 := hO_33.fr0 hF66
   refine V.re h68 [] 68 72 [(10, .int .i64 (prN (cuB x 58))), (11, .int .i64 (prC (cuB x 58)))] fun a h72 => k64 _ _ ?_
   have h73 := h72.only [(0, .pointer (some ⟨b, 1, none⟩)), (8, .string (unhexS (cuA x 58))), (10, .int .i64 (prN (cuB x 58))), (11, .int .i64 (prC (cuB x 58)))]
   refine V.sg fun K74 k75 => ?_
   refine V.run h73 [(4, .b hB_70 4)] 8 74 79 [(73, .pointer (some ⟨b, 1, none⟩)), (77, .slice A l.length c), (80, .agg #[.string (unhexS (cuA x 58)), .int .i64 (prN (cuB x 58))])] fun a h76 => ?_
   refine V.go (V.mk [(80, .agg #[.string (unhexS (cuA x 58)), .int .i64 (prN (cuB x 58))])] ⟨h76.e, trivial⟩ (by kernel_rfl) [.string (unhexS (cuA x 58)), .int .i64 (prN (cuB x 58))] 98 (fun b => .slice (some ⟨b, 0, none⟩) 1 1) (by kernel_rfl) ?_)
   intro w78 b77 heb77 hB79 hF80 hsb77
   have hL_81 := bel_fr hL_69 hF80 (by omega) (by simp <;> omega)
   have hB_82 := hB_70.fr0 hF80
   have hO_83 := hO_71.fr0 hF80
   refine V.pt h76 fun a h84 => ?_
   refine V.go (V.app (R := scR) (ys := ([(unhexS (cuA x 58), prN (cuB x 58))])) (news := [.string (unhexS (cuA x 58)), .int .i64 (prN (cuB x 58))]) (h84.e (v := (.slice A l.length c))) ⟨b77, 0, none⟩ 1 1 (h84.e (v := (.slice (some ⟨b77, 0, none⟩) 1 1))) (by kernel_rfl) (info98) (by kernel_rfl) (by decide) hO_83 rfl ⟨[.string (unhexS (cuA x 58)), .int .i64 (prN (cuB x 58))], [], rfl, rfl, rfl⟩ (blk_cells hB79 0 _ rfl) (by first | omega | (simp; omega)) (by decide) (by omega) ?_)
   intro A85 c86 w87 hO88z hF89 hatw87
   have hsw87 := hF89.size
   have hL_90 := bel_fr hL_81 hF89 (by omega) (own_ge hO_83 (by omega))
   have hB_91 := hB_82.fr hF89 (by first | exact own_notin hO_83 (by omega))
   have hO88 := hO88z.zone (Z' := NoZ) (fun _ _ q => q.1) (fun _ _ q => q)
   refine V.pt h84 fun a h92 => ?_
   refine V.run h92 [] 2 83 83 [(84, .pointer (some ⟨b, 4, none⟩))] fun a h96 => ?_
   refine V.go (V.stn b 4 (.slice A85 ((l.length) + 1) c86) [.slice A85 ((l.length) + 1) c86] h96.e h96.e rfl rfl (by kernel_rfl) hB_91 (by simp) [.string key, .int .i64 4, .string s, .slice none 0 0, .slice A85 ((l.length) + 1) c86, .slice none 0 0, .int .i64 till] rfl ?_)
   intro w93 hB94 hF95 hsw93
   have hL_97 := bel_fr hL_90 hF95 (by omega) (by simp <;> omega)
   have hO88_98 := hO88.frn hF95 (fun h => h) (by first | exact own_ne hO88 (by omega) | exact own_ne2 hO88 (by omega))
   refine V.nt (k75 _ _ ?_)
   refine V.sr h96 [(1, .eq (prC (cuB x 58)) 0)] 85 86 [(4, .bool (decide ((prC (cuB x 58)) = 0)))] fun a h101 => ?_
   refine V.ret (V.blk_r (V.then_r ?_))
   refine V.r1 h101 (.bool (decide ((prC (cuB x 58)) = 0))) ?_
   exact ⟨_, _, congrArg (fun b => Ending.returned (Value.bool b)) ((bP_dec (p := prC (cuB x 58) = 0)).trans (congrArg bP (propext ⟨fun q => ⟨nf_yes (by assumption), nb_yes (by assumption), prC_0.1 q⟩, fun q => prC_0.2 q.2.2⟩))), fun _ => ⟨hB94, hO88_98⟩, hL_97⟩
theorem part_h (w : World) (b : Nat) (key s : ByteArray) (till : Int) (x : ByteArray) (A : Option Addr) (c : Nat) (l : List (ByteArray × ByteArray)) (hB : Blk w b [.string key, .int .i64 5, .string s, .slice none 0 0, .slice none 0 0, .slice A l.length c, .int .i64 till] 55) (hO : OwR fdR NoZ w (b + 1) 101 (.slice A l.length c) l) (hl : l.length ≤ 1099511627776) (hx : x.size ≤ 67108864) (hb8 : 8 ≤ b) (hV : Vs w) : Calls Tryz.prog 91 #[.pointer (some ⟨b, 1, none⟩), .string x] w (fun e w' => ∃ A' c', e = .returned (.bool (bP (cuF x 61 = true ∧ uhOk (cuA x 61) ∧ uhOk (cuB x 61)))) ∧ ((cuF x 61 = true ∧ uhOk (cuA x 61) ∧ uhOk (cuB x 61)) → Blk w' b [.string key, .int .i64 5, .string s, .slice none 0 0, .slice none 0 0, .slice A' (l.length + 1) c', .int .i64 till] 55 ∧ OwR fdR NoZ w' (b + 1) 101 (.slice A' (l.length + 1) c') (l ++ [(unhexS (cuA x 61), unhexS (cuB x 61))])) ∧ Below b w w') := by
 have hL := Below.refl b w
 have hltb := hB.lt
 refine V.en 107 Tryz.func91 fun a h1 => ?_
 refine V.sr h1 [] 4 4 [] fun a h4 => ?_
 refine V.sr h4 [] 14 14 [(5, .string x), (6, .string ⟨#[]⟩), (7, .bool false)] fun a h7 => ?_
 refine V.seq fun K8 k9 => ?_
 refine V.sr h7 [(3, .b hB 1)] 15 17 [(18, .int .i64 5)] fun a h12 => ?_
 refine V.block ?_
 refine V.sr h12 [] 20 20 [(19, .bool false)] fun a h15 => ?_
 refine V.cf h15 ?_
 refine V.sr h15 [] 28 28 [(27, .bool true)] fun a h18 => ?_
 refine V.ct h18 ?_
 refine V.rg ?_
 refine V.run h18 [] 1 1 0 [(30, .string x)] fun a h19 => ?_
 have hcl21 := cu_len x 61
 refine V.cl h19 (Go.Proofs.enters_of Tryz.func43 (by kernel_rfl) rfl) (cu_any w x 61 (by omega) (hV.bel hL hb8)) ?_
 rintro _ w22 ⟨rfl, hF20⟩
 refine ⟨_, rfl, fun a h23 => ?_⟩
 have hsw22 := hF20.size
 have hL_24 := bel_fr hL hF20 (by omega) (by simp <;> omega)
 have hB_25 := hB.fr0 hF20
 have hO_26 := hO.fr0 hF20
 refine V.re h23 [] 29 34 [(5, .string (cuA x 61)), (6, .string (cuB x 61)), (7, .bool (cuF x 61))] fun a h27 => ?_
 refine V.blk_n ?_
 refine V.then_n (k9 _ _ ?_)
 refine V.sg fun K28 k29 => ?_
 refine V.run h27 [] 1 1 0 [(36, .string (cuA x 61))] fun a h30 => ?_
 refine V.cl h30 (Go.Proofs.enters_of Tryz.func89 (by kernel_rfl) rfl) (unhex_any w22 (cuA x 61) (by omega)) ?_
 rintro _ w32 ⟨rfl, hF31⟩
 refine ⟨_, rfl, fun a h33 => ?_⟩
 have hsw32 := hF31.size
 have hL_34 := bel_fr hL_24 hF31 (by omega) (by simp <;> omega)
 have hB_35 := hB_25.fr0 hF31
 have hO_36 := hO_26.fr0 hF31
 refine V.re h33 [] 35 39 [(8, .string (unhexS (cuA x 61))), (9, .bool (bP (uhOk (cuA x 61))))] fun a h37 => k29 _ _ ?_
 refine V.seq fun K38 k39 => ?_
 refine V.sg fun K40 k41 => ?_
 refine V.run h37 [] 3 40 41 [(42, .bool (!(bP (uhOk (cuA x 61)))))] fun a h42 => ?_
 by_cases hg43 : (!(bP (uhOk (cuA x 61)))) = true
 ·
  have h44 := h42.kbt 42 hg43
  refine V.re h44 [] 43 44 [(45, .bool true)] fun a h45 => k41 _ _ ?_
  refine V.ct h45 ?_
  refine V.sr h45 [] 1 0 [(4, .bool false)] fun a h48 => ?_
  refine V.ret (V.then_r ?_)
  refine V.r1 h48 (.bool false) ?_
  exact ⟨none, 0, congrArg (fun b => Ending.returned (Value.bool b)) (bP_no (fun ⟨q1, q2, q3⟩ => by first | exact nb_no (by assumption) q2 | exact nf_no (by assumption) q1)), fun hq => absurd hq (fun ⟨q1, q2, q3⟩ => by first | exact nb_no (by assumption) q2 | exact nf_no (by assumption) q1), hL_34⟩
 ·
  have h49 := h42.kbf 42 hg43
  refine V.re h49 [] 43 44 [(45, .bool (!(cuF x 61)))] fun a h50 => k41 _ _ ?_
  refine V.cb h50 (!(cuF x 61)) (fun ht51 => ?_) (fun ht51 => ?_)
  ·
   refine V.sr h50 [] 1 0 [(4, .bool false)] fun a h54 => ?_
   refine V.ret (V.then_r ?_)
   refine V.r1 h54 (.bool false) ?_
   exact ⟨none, 0, congrArg (fun b => Ending.returned (Value.bool b)) (bP_no (fun ⟨q1, q2, q3⟩ => by first | exact nb_no (by assumption) q2 | exact nf_no (by assumption) q1)), fun hq => absurd hq (fun ⟨q1, q2, q3⟩ => by first | exact nb_no (by assumption) q2 | exact nf_no (by assumption) q1), hL_34⟩
  ·
   refine V.skip ?_
   refine V.then_n (k39 _ _ ?_)
   refine V.seq fun K55 k56 => ?_
   refine V.sr h50 [(3, .b hB_35 1)] 46 48 [(49, .int .i64 5)] fun a h59 => ?_
   refine V.block ?_
   refine V.sr h59 [] 61 61 [(60, .bool false)] fun a h62 => ?_
   refine V.cf h62 ?_
   refine V.sr h62 [] 67 67 [(66, .bool false)] fun a h65 => ?_
   refine V.cf h65 ?_
   refine V.sr h65 [] 88 88 [(87, .bool true)] fun a h68 => ?_
   refine V.ct h68 ?_
   refine V.sg fun K69 k70 => ?_
   refine V.run h68 [] 1 1 0 [(90, .string (cuB x 61))] fun a h71 => ?_
   refine V.cl h71 (Go.Proofs.enters_of Tryz.func89 (by kernel_rfl) rfl) (unhex_any w32 (cuB x 61) (by omega)) ?_
   rintro _ w73 ⟨rfl, hF72⟩
   refine ⟨_, rfl, fun a h74 => ?_⟩
   have hsw73 := hF72.size
   have hL_75 := bel_fr hL_34 hF72 (by omega) (by simp <;> omega)
   have hB_76 := hB_35.fr0 hF72
   have hO_77 := hO_36.fr0 hF72
   refine V.re h74 [] 89 93 [(12, .string (unhexS (cuB x 61))), (13, .bool (bP (uhOk (cuB x 61))))] fun a h78 => k70 _ _ ?_
   have h79 := h78.only [(0, .pointer (some ⟨b, 1, none⟩)), (8, .string (unhexS (cuA x 61))), (12, .string (unhexS (cuB x 61))), (13, .bool (bP (uhOk (cuB x 61))))]
   refine V.sg fun K80 k81 => ?_
   refine V.run h79 [(4, .b hB_76 5)] 8 95 100 [(94, .pointer (some ⟨b, 1, none⟩)), (98, .slice A l.length c), (101, .agg #[.string (unhexS (cuA x 61)), .string (unhexS (cuB x 61))])] fun a h82 => ?_
   refine V.go (V.mk [(101, .agg #[.string (unhexS (cuA x 61)), .string (unhexS (cuB x 61))])] ⟨h82.e, trivial⟩ (by kernel_rfl) [.string (unhexS (cuA x 61)), .string (unhexS (cuB x 61))] 101 (fun b => .slice (some ⟨b, 0, none⟩) 1 1) (by kernel_rfl) ?_)
   intro w84 b83 heb83 hB85 hF86 hsb83
   have hL_87 := bel_fr hL_75 hF86 (by omega) (by simp <;> omega)
   have hB_88 := hB_76.fr0 hF86
   have hO_89 := hO_77.fr0 hF86
   refine V.pt h82 fun a h90 => ?_
   refine V.go (V.app (R := fdR) (ys := ([(unhexS (cuA x 61), unhexS (cuB x 61))])) (news := [.string (unhexS (cuA x 61)), .string (unhexS (cuB x 61))]) (h90.e (v := (.slice A l.length c))) ⟨b83, 0, none⟩ 1 1 (h90.e (v := (.slice (some ⟨b83, 0, none⟩) 1 1))) (by kernel_rfl) (info101) (by kernel_rfl) (by decide) hO_89 rfl ⟨[.string (unhexS (cuA x 61)), .string (unhexS (cuB x 61))], [], rfl, rfl, rfl⟩ (blk_cells hB85 0 _ rfl) (by first | omega | (simp; omega)) (by decide) (by omega) ?_)
   intro A91 c92 w93 hO94z hF95 hatw93
   have hsw93 := hF95.size
   have hL_96 := bel_fr hL_87 hF95 (by omega) (own_ge hO_89 (by omega))
   have hB_97 := hB_88.fr hF95 (by first | exact own_notin hO_89 (by omega))
   have hO94 := hO94z.zone (Z' := NoZ) (fun _ _ q => q.1) (fun _ _ q => q)
   refine V.pt h90 fun a h98 => ?_
   refine V.run h98 [] 2 104 104 [(105, .pointer (some ⟨b, 5, none⟩))] fun a h102 => ?_
   refine V.go (V.stn b 5 (.slice A91 ((l.length) + 1) c92) [.slice A91 ((l.length) + 1) c92] h102.e h102.e rfl rfl (by kernel_rfl) hB_97 (by simp) [.string key, .int .i64 5, .string s, .slice none 0 0, .slice none 0 0, .slice A91 ((l.length) + 1) c92, .int .i64 till] rfl ?_)
   intro w99 hB100 hF101 hsw99
   have hL_103 := bel_fr hL_96 hF101 (by omega) (by simp <;> omega)
   have hO94_104 := hO94.frn hF101 (fun h => h) (by first | exact own_ne hO94 (by omega) | exact own_ne2 hO94 (by omega))
   refine V.nt (k81 _ _ ?_)
   refine V.sr h102 [] 106 106 [(4, .bool (bP (uhOk (cuB x 61))))] fun a h107 => ?_
   refine V.ret (V.blk_r (V.then_r ?_))
   refine V.r1 h107 (.bool (bP (uhOk (cuB x 61)))) ?_
   exact ⟨_, _, congrArg (fun b => Ending.returned (Value.bool b)) (congrArg bP (propext ⟨fun q => ⟨nf_yes (by assumption), nb_yes (by assumption), q⟩, fun q => q.2.2⟩)), fun _ => ⟨hB100, hO94_104⟩, hL_103⟩
/-! ### An entry that is being built -/
def EnB (w : World) (b : Nat) (e : EnD) : Prop :=
  ∃ Al cl Az cz Ah ch, Blk w b [.string e.key, .int .i64 e.k, .string e.s, .slice Al e.l.length cl, .slice Az e.z.length cz, .slice Ah e.h.length ch, .int .i64 e.till] 55 ∧
    OwR Rp.str NoZ w (b + 1) 9 (.slice Al e.l.length cl) e.l ∧ OwR scR NoZ w (b + 1) 98 (.slice Az e.z.length cz) e.z ∧ OwR fdR NoZ w (b + 1) 101 (.slice Ah e.h.length ch) e.h ∧
    (e.k = 1 ∨ e.k = 4 ∨ e.k = 5 → Al = none ∧ cl = 0 ∧ e.l = []) ∧ (¬ e.k = 4 → Az = none ∧ cz = 0 ∧ e.z = []) ∧ (¬ e.k = 5 → Ah = none ∧ ch = 0 ∧ e.h = [])
def ptOk (k : Int) (x : ByteArray) : Prop := if k = 4 then (cuF x 58 = true ∧ uhOk (cuA x 58) ∧ prOk (cuB x 58)) else if k = 5 then (cuF x 61 = true ∧ uhOk (cuA x 61) ∧ uhOk (cuB x 61)) else uhOk x
noncomputable def ptE (e : EnD) (x : ByteArray) : EnD :=
  if e.k = 1 then ⟨e.key, e.k, unhexS x, e.l, e.z, e.h, e.till⟩ else if e.k = 4 then ⟨e.key, e.k, e.s, e.l, e.z ++ [(unhexS (cuA x 58), prN (cuB x 58))], e.h, e.till⟩
  else if e.k = 5 then ⟨e.key, e.k, e.s, e.l, e.z, e.h ++ [(unhexS (cuA x 61), unhexS (cuB x 61))], e.till⟩ else ⟨e.key, e.k, e.s, e.l ++ [unhexS x], e.z, e.h, e.till⟩
theorem len1 {α : Type} (l : List α) (x : α) : (l ++ [x]).length = l.length + 1 := by simp
theorem part_any (w : World) (b : Nat) (e : EnD) (x : ByteArray) (hE : EnB w b e) (hll : e.l.length ≤ 1099511627776) (hzl : e.z.length ≤ 1099511627776) (hhl : e.h.length ≤ 1099511627776) (hx : x.size ≤ 67108864) (hb8 : 8 ≤ b) (hV : Vs w) :
    Calls Tryz.prog 91 #[.pointer (some ⟨b, 1, none⟩), .string x] w fun o w' => o = .returned (.bool (bP (ptOk e.k x))) ∧ (ptOk e.k x → EnB w' b (ptE e x)) ∧ Below b w w' := by
  obtain ⟨key, k, s, l, z, h, till⟩ := e
  obtain ⟨Al, cl, Az, cz, Ah, ch, hB, hO1, hO2, hO3, h1, h2, h3⟩ := hE
  simp only at hB hO1 hO2 hO3 h1 h2 h3 hll hzl hhl
  by_cases k1 : k = 1
  · subst k1
    obtain ⟨rfl, rfl, rfl⟩ := h1 (.inl rfl)
    obtain ⟨rfl, rfl, rfl⟩ := h2 (by decide)
    obtain ⟨rfl, rfl, rfl⟩ := h3 (by decide)
    exact (part_s w b key s till x hB hx hb8 hV).mono fun o w' ⟨q1, q2, q3⟩ => ⟨q1, fun q => ⟨none, 0, none, 0, none, 0, q2 q, OwR.nil .., OwR.nil .., OwR.nil .., fun _ => ⟨rfl, rfl, rfl⟩, fun _ => ⟨rfl, rfl, rfl⟩, fun _ => ⟨rfl, rfl, rfl⟩⟩, q3⟩
  by_cases k4 : k = 4
  · subst k4
    obtain ⟨rfl, rfl, rfl⟩ := h1 (.inr (.inl rfl))
    obtain ⟨rfl, rfl, rfl⟩ := h3 (by decide)
    have e2 : ptE ⟨key, 4, s, [], z, [], till⟩ x = ⟨key, 4, s, [], z ++ [(unhexS (cuA x 58), prN (cuB x 58))], [], till⟩ := by unfold ptE; simp only; rw [if_neg (by decide), if_pos trivial]
    rw [e2]
    refine (part_z w b key s till x Az cz z hB hO2 hzl hx hb8 hV).mono fun o w' ⟨A', c', q1, q2, q3⟩ => ⟨q1, fun q => ?_, q3⟩
    obtain ⟨q4, q5⟩ := q2 q
    exact ⟨none, 0, A', c', none, 0, by rw [show (⟨key, 4, s, [], z ++ [(unhexS (cuA x 58), prN (cuB x 58))], [], till⟩ : EnD).z.length = z.length + 1 from len1 ..]; exact q4, OwR.nil .., by rw [show (⟨key, 4, s, [], z ++ [(unhexS (cuA x 58), prN (cuB x 58))], [], till⟩ : EnD).z.length = z.length + 1 from len1 ..]; exact q5, OwR.nil .., fun _ => ⟨rfl, rfl, rfl⟩, fun q => absurd rfl q, fun _ => ⟨rfl, rfl, rfl⟩⟩
  by_cases k5 : k = 5
  · subst k5
    obtain ⟨rfl, rfl, rfl⟩ := h1 (.inr (.inr rfl))
    obtain ⟨rfl, rfl, rfl⟩ := h2 (by decide)
    have e2 : ptE ⟨key, 5, s, [], [], h, till⟩ x = ⟨key, 5, s, [], [], h ++ [(unhexS (cuA x 61), unhexS (cuB x 61))], till⟩ := by unfold ptE; simp only; rw [if_neg (by decide), if_neg (by decide), if_pos trivial]
    rw [e2]
    refine (part_h w b key s till x Ah ch h hB hO3 hhl hx hb8 hV).mono fun o w' ⟨A', c', q1, q2, q3⟩ => ⟨q1, fun q => ?_, q3⟩
    obtain ⟨q4, q5⟩ := q2 q
    exact ⟨none, 0, none, 0, A', c', by rw [show (⟨key, 5, s, [], [], h ++ [(unhexS (cuA x 61), unhexS (cuB x 61))], till⟩ : EnD).h.length = h.length + 1 from len1 ..]; exact q4, OwR.nil .., OwR.nil .., by rw [show (⟨key, 5, s, [], [], h ++ [(unhexS (cuA x 61), unhexS (cuB x 61))], till⟩ : EnD).h.length = h.length + 1 from len1 ..]; exact q5, fun _ => ⟨rfl, rfl, rfl⟩, fun _ => ⟨rfl, rfl, rfl⟩, fun q => absurd rfl q⟩
  · obtain ⟨rfl, rfl, rfl⟩ := h2 k4
    obtain ⟨rfl, rfl, rfl⟩ := h3 k5
    have e1 : ptOk k x = uhOk x := by unfold ptOk; rw [if_neg k4, if_neg k5]
    have e2 : ptE ⟨key, k, s, l, [], [], till⟩ x = ⟨key, k, s, l ++ [unhexS x], [], [], till⟩ := by unfold ptE; simp only; rw [if_neg k1, if_neg k4, if_neg k5]
    rw [show (⟨key, k, s, l, [], [], till⟩ : EnD).k = k from rfl, e1, e2]
    refine (part_l w b key s till x Al cl l k hB hO1 hll k1 k4 k5 hx hb8 hV).mono fun o w' ⟨A', c', q1, q2, q3⟩ => ⟨q1, fun q => ?_, q3⟩
    obtain ⟨q4, q5⟩ := q2 q
    exact ⟨A', c', none, 0, none, 0, by rw [show (⟨key, k, s, l ++ [unhexS x], [], [], till⟩ : EnD).l.length = l.length + 1 from len1 ..]; exact q4, by rw [show (⟨key, k, s, l ++ [unhexS x], [], [], till⟩ : EnD).l.length = l.length + 1 from len1 ..]; exact q5, OwR.nil .., OwR.nil .., fun q => by rcases q with q | q | q <;> contradiction, fun _ => ⟨rfl, rfl, rfl⟩, fun _ => ⟨rfl, rfl, rfl⟩⟩
theorem EnB.fr {w w1 : World} {b : Nat} {e : EnD} {ls : List Nat} (h : EnB w b e) (f : Fr ls w w1) (hl : ∀ i ∈ ls, i < b) : EnB w1 b e := by
  obtain ⟨Al, cl, Az, cz, Ah, ch, hB, hO1, hO2, hO3, h1, h2, h3⟩ := h
  have hn : ∀ {v : Value} {α : Type} {R : Rp α} {t : TypeId} {xs : List α}, OwR R NoZ w (b + 1) t v xs → ∀ i, v.ownBlock = some i → i ∉ ls := fun hO i hi hm => by have := (hO.lt i hi).1; have := hl i hm; omega
  exact ⟨Al, cl, Az, cz, Ah, ch, hB.fr f (fun hm => by have := hl b hm; omega), hO1.fr f (fun _ _ q => q) (hn hO1), hO2.fr f (fun _ _ q => q) (hn hO2), hO3.fr f (fun _ _ q => q) (hn hO3), h1, h2, h3⟩
theorem EnB.lt {w : World} {b : Nat} {e : EnD} (h : EnB w b e) : b < w.heap.size := by obtain ⟨_, _, _, _, _, _, hB, _⟩ := h; exact hB.lt
/-! ### A line's words; the entry that they make -/
def spl (s : ByteArray) : List ByteArray := Lib.splitB ⟨#[32]⟩ 0 (Lib.countB s ⟨#[32]⟩) s
theorem spl_len (s : ByteArray) : (spl s).length = Lib.countB s ⟨#[32]⟩ + 1 := Lib.splitB_all ⟨#[32]⟩ (by decide) 0 _ s rfl
theorem spl_le (s : ByteArray) : (spl s).length ≤ s.size + 1 := by rw [spl_len]; have := Lib.countB_le ⟨#[32]⟩ (by decide) s.size s (Nat.le_refl _); omega
theorem splitB_size (sep : ByteArray) : ∀ (k : Nat) (s : ByteArray), ∀ x ∈ Lib.splitB sep 0 k s, x.size ≤ s.size
  | 0, s, x, hx => by rw [List.mem_singleton.1 hx]; exact Nat.le_refl _
  | k + 1, s, x, hx => by
    unfold Lib.splitB at hx
    split at hx
    · rw [List.mem_singleton.1 hx]; exact Nat.le_refl _
    · rcases List.mem_cons.1 hx with rfl | hx
      · rw [ByteArray.size_extract]; omega
      · have := splitB_size sep k _ x hx
        rw [ByteArray.size_extract] at this; omega
theorem spl_size {s x : ByteArray} (h : x ∈ spl s) : x.size ≤ s.size := splitB_size _ _ _ x h
theorem sp_any (w : World) (s : ByteArray) (hs : s.size < 4294967281) (hV : Vs w) : Calls Tryz.prog 87 #[.string s, .string ⟨#[32]⟩] w fun e w' => ∃ b, e = .returned (.slice (some ⟨b, 0, none⟩) (spl s).length (spl s).length) ∧ SlR Rp.str (fun k => w.heap.size ≤ k ∧ k < w'.heap.size) w' (.slice (some ⟨b, 0, none⟩) (spl s).length (spl s).length) (spl s) ∧ Fr [] w w' := by
  obtain ⟨m, hm⟩ := hV.mx
  refine (Tryz.strings_Split s ⟨#[32]⟩ m w hs hm (by decide)).mono fun e w' ⟨h1, h2⟩ => ⟨w.heap.size, by rw [h1, spl_len], ?_, h2 ▸ Fr.alloc [] w _⟩
  subst h2
  have hB : Blk (w.alloc (.cells ((spl s).map Value.string).toArray 9)) w.heap.size ((spl s).map Value.string) 9 := heap_alloc_new w _
  have hO := OwR.mkS (base := w.heap.size) (l := spl s) hB (by rw [List.length_map]) (Nat.le_refl _) (by have := spl_le s; unfold maxLen; omega) (Nat.le_refl _) (by rw [List.take_of_length_le (by rw [List.length_map]; exact Nat.le_refl _)])
  exact hO.read (fun _ _ q => q.elim) fun b q h => ⟨q, h⟩
def kinds6 : List ByteArray := [⟨#[]⟩, ⟨#[115, 116, 114, 105, 110, 103]⟩, ⟨#[108, 105, 115, 116]⟩, ⟨#[115, 101, 116]⟩, ⟨#[122, 115, 101, 116]⟩, ⟨#[104, 97, 115, 104]⟩]
def kindI (x : ByteArray) : Int := Lib.idxOfS kinds6 x
theorem ki_any (w : World) (b : Nat) (x : ByteArray) (hB : Blk w b (kinds6.map Value.string) 9) : Calls Tryz.prog 88 #[.slice (some ⟨b, 0, none⟩) 6 6, .string x] w fun e w' => e = .returned (.int .i64 (kindI x)) ∧ w = w' :=
  (Tryz.slices_Index_string b 0 6 6 kinds6 x w (Nat.le_refl _) (by decide) (fun j hj => by
    rw [hB.cell, Nat.zero_add, List.getElem?_map, List.getElem?_eq_getElem hj, List.getD_eq_getElem?_getD, List.getElem?_eq_getElem hj]; rfl)).mono fun e w' ⟨h1, h2⟩ => ⟨h1, h2.symm⟩
theorem unhexS_len (x : ByteArray) : (unhexS x).size ≤ x.size := by
  unfold unhexS
  split
  · exact Nat.zero_le _
  · unfold uhS; rw [strI_size, List.length_map, List.length_range]; omega
theorem prN_i64 (x : ByteArray) : i64 (prN x) := by
  unfold prN
  split
  · rename_i h; exact h.choose_spec.1
  · unfold i64; omega
/-- What may be of an entry of n parts. -/
structure BdE (e : EnD) (n : Nat) : Prop where
  l : e.l.length ≤ n
  z : e.z.length ≤ n
  h : e.h.length ≤ n
  x : ∀ x ∈ e.z, x.1.size ≤ 67108864 ∧ i64 x.2
theorem BdE.step {e : EnD} {n : Nat} {x : ByteArray} (h : BdE e n) (hx : x.size ≤ 67108864) : BdE (ptE e x) (n + 1) := by
  obtain ⟨h1, h2, h3, h4⟩ := h
  unfold ptE
  split
  · exact ⟨by show e.l.length ≤ _; omega, by show e.z.length ≤ _; omega, by show e.h.length ≤ _; omega, h4⟩
  split
  · refine ⟨by show e.l.length ≤ _; omega, by show (e.z ++ [_]).length ≤ _; rw [len1]; omega, by show e.h.length ≤ _; omega, fun y hy => ?_⟩
    rcases List.mem_append.1 (show y ∈ e.z ++ [_] from hy) with hy | hy
    · exact h4 y hy
    · rw [List.mem_singleton.1 hy]; exact ⟨Nat.le_trans (unhexS_len _) (Nat.le_trans (cu_len x 58).1 hx), prN_i64 _⟩
  split
  · exact ⟨by show e.l.length ≤ _; omega, by show e.z.length ≤ _; omega, by show (e.h ++ [_]).length ≤ _; rw [len1]; omega, h4⟩
  · exact ⟨by show (e.l ++ [_]).length ≤ _; rw [len1]; omega, by show e.z.length ≤ _; omega, by show e.h.length ≤ _; omega, h4⟩
theorem ptE_k (e : EnD) (x : ByteArray) : (ptE e x).k = e.k ∧ (ptE e x).key = e.key ∧ (ptE e x).till = e.till := by
  unfold ptE
  split
  · exact ⟨rfl, rfl, rfl⟩
  split
  · exact ⟨rfl, rfl, rfl⟩
  split <;> exact ⟨rfl, rfl, rfl⟩
theorem fold_k : ∀ (xs : List ByteArray) (e : EnD), (xs.foldl ptE e).k = e.k ∧ (xs.foldl ptE e).key = e.key ∧ (xs.foldl ptE e).till = e.till
  | [], e => ⟨rfl, rfl, rfl⟩
  | x :: xs, e => by
    have h1 := fold_k xs (ptE e x)
    have h2 := ptE_k e x
    rw [List.foldl_cons]
    exact ⟨h1.1.trans h2.1, h1.2.1.trans h2.2.1, h1.2.2.trans h2.2.2⟩
theorem fold_bd : ∀ (xs : List ByteArray) (e : EnD) (n : Nat), BdE e n → (∀ x ∈ xs, x.size ≤ 67108864) → BdE (xs.foldl ptE e) (n + xs.length)
  | [], e, n, h, _ => h
  | x :: xs, e, n, h, hx => by
    have := fold_bd xs (ptE e x) (n + 1) (h.step (hx x (List.mem_cons_self ..))) fun y hy => hx y (List.mem_cons_of_mem _ hy)
    rw [List.foldl_cons, List.length_cons]
    rw [show n + (xs.length + 1) = n + 1 + xs.length by omega]; exact this
theorem fold_next {xs : List ByteArray} {i : Nat} (e : EnD) (h : i < xs.length) : (xs.take (i + 1)).foldl ptE e = ptE ((xs.take i).foldl ptE e) (at_ Rp.str xs (i : Int)) := by
  rw [List.take_succ_eq_append_getElem h, List.foldl_append, at_el Rp.str h]; rfl
/-! ### Lines -/
theorem tail_le {c : UInt8} {B : Nat} : ∀ {xs : List (List UInt8)}, (∀ x ∈ xs, x.length ≤ B) → (Lib.joinTail [c] xs).length ≤ xs.length * (B + 1)
  | [], _ => Nat.zero_le _
  | x :: xs, h => by
    have h1 := tail_le (c := c) (xs := xs) fun y hy => h y (List.mem_cons_of_mem _ hy)
    have h2 := h x (List.mem_cons_self ..)
    unfold Lib.joinTail at h1 ⊢
    rw [List.map_cons, List.flatten_cons, List.length_append, List.length_append, List.length_singleton, List.length_cons, Nat.add_mul]
    omega
theorem join_le {c : UInt8} {B : Nat} {xs : List (List UInt8)} (h : ∀ x ∈ xs, x.length ≤ B) : (Lib.join xs [c]).length ≤ xs.length * (B + 1) := by
  cases xs with
  | nil => exact Nat.zero_le _
  | cons x xs =>
    have h1 := tail_le (c := c) (xs := xs) fun y hy => h y (List.mem_cons_of_mem _ hy)
    have h2 := h x (List.mem_cons_self ..)
    rw [Lib.join_cons, List.length_append, List.length_cons, Nat.add_mul]; omega
def joinS (xs : List ByteArray) (c : UInt8) : ByteArray := ⟨(Lib.join (xs.map (·.data.toList)) [c]).toArray⟩
theorem join_le2 {c : UInt8} {B : Nat} {xs : List ByteArray} (h : ∀ x ∈ xs, x.size ≤ B) : (Lib.join (xs.map (·.data.toList)) [c]).length ≤ xs.length * (B + 1) := by
  have h1 := join_le (c := c) (B := B) (xs := xs.map (·.data.toList)) fun y hy => by
    obtain ⟨x, hx, rfl⟩ := List.mem_map.1 hy
    exact Nat.le_trans (Nat.le_of_eq Array.length_toList) (h x hx)
  rwa [List.length_map] at h1
theorem jn_any (w : World) (base c : Nat) (A : Option Addr) (xs : List ByteArray) (hO : OwR Rp.str NoZ w base 9 (.slice A xs.length c) xs) (hN : xs.length ≤ 65540) (hB : ∀ x ∈ xs, x.size ≤ 262200) :
    Calls Tryz.prog 82 #[.slice A xs.length c, .string ⟨#[32]⟩] w fun e w' => e = .returned (.string (joinS xs 32)) ∧ Fr [] w w' := by
  have hl := join_le2 (c := 32) hB
  have hm : xs.length * (262200 + 1) ≤ 65540 * (262200 + 1) := Nat.mul_le_mul_right _ hN
  have hS := hO.is
  rcases Nat.eq_zero_or_pos xs.length with h0 | h0
  · obtain rfl : xs = [] := List.eq_nil_of_length_eq_zero h0
    exact (Tryz.strings_Join_none A c _ w).mono fun e w' ⟨h1, h2⟩ => ⟨h1, h2 ▸ Fr.refl _ _⟩
  · obtain ⟨g, o, rfl, hg, -⟩ := hS.addr h0
    refine (Tryz.strings_Join g o c xs ⟨#[32]⟩ w (fun j x hj => ?_) hg (by omega) hO.cap (by show (Lib.join _ [32]).length ≤ _; omega)).mono fun e w' ⟨h1, h2⟩ => ⟨h1, Fr.of_below h2 _⟩
    obtain ⟨A', c', e, _, _, h3⟩ := hS
    obtain ⟨g', o', cs, hA, _, _, hok, hc⟩ := h3 j x hj
    injection e with e1 _ _
    rw [← e1] at hA
    injection hA with hA
    obtain ⟨rfl, rfl⟩ : g = g' ∧ o = o' := by injection hA with q1 q2 _; exact ⟨q1, q2⟩
    have hcs : cs = [.string x] := hok
    subst hcs
    have := hc 0 _ rfl
    rwa [show Rp.str.sz = 1 from rfl, Nat.mul_one, Nat.add_zero] at this
def atS (t : Int) : ByteArray := if t = -1 then ⟨#[45]⟩ else itoaS t
def lnD (key : ByteArray) (k : Int) (s : ByteArray) (l : List ByteArray) (z : List (ByteArray × Int)) (h : List (ByteArray × ByteArray)) (t : Int) : ByteArray := joinS ([nmD k, hexS key, atS t] ++ ptD k s l z h) 32
theorem nmD_len (k : Int) : (nmD k).size ≤ 6 := by unfold nmD; split <;> (try split) <;> (try split) <;> (try split) <;> decide
theorem pz_len {x : ByteArray × Int} (h : x.1.size ≤ 65536 ∧ i64 x.2) : (pzS x).size ≤ 262200 := by
  have h1 := hexS_len x.1
  have h2 := itoaS_len h.2
  have h3 : (⟨#[58]⟩ : ByteArray).size = 1 := rfl
  unfold pzS; rw [ByteArray.size_append, ByteArray.size_append]; omega
theorem ph_len {x : ByteArray × ByteArray} (h : x.1.size ≤ 65536 ∧ x.2.size ≤ 65536) : (phS x).size ≤ 262200 := by
  have h1 := hexS_len x.1
  have h2 := hexS_len x.2
  have h3 : (⟨#[61]⟩ : ByteArray).size = 1 := rfl
  unfold phS; rw [ByteArray.size_append, ByteArray.size_append]; omega
theorem pt_len {k : Int} {s : ByteArray} {l : List ByteArray} {z : List (ByteArray × Int)} {h : List (ByteArray × ByteArray)} (hs : ShV s l z h) : (ptD k s l z h).length ≤ 65536 ∧ ∀ x ∈ ptD k s l z h, x.size ≤ 262200 := by
  have hx : ∀ y : ByteArray, y.size ≤ 65536 → (hexS y).size ≤ 262200 := fun y hy => by have := hexS_len y; omega
  unfold ptD
  split
  · exact ⟨by simp, fun x hm => by rw [List.mem_singleton.1 hm]; exact hx _ hs.s⟩
  split
  · exact ⟨by rw [List.length_map]; exact hs.zl, fun x hm => by obtain ⟨y, hy, rfl⟩ := List.mem_map.1 hm; exact pz_len (hs.z y hy)⟩
  split
  · exact ⟨by rw [List.length_map]; exact hs.hl, fun x hm => by obtain ⟨y, hy, rfl⟩ := List.mem_map.1 hm; exact ph_len (hs.h y hy)⟩
  · exact ⟨by rw [List.length_map]; exact hs.ll, fun x hm => by obtain ⟨y, hy, rfl⟩ := List.mem_map.1 hm; exact hx _ (hs.l y hy)⟩
theorem ln_parts {key : ByteArray} {k : Int} {s : ByteArray} {l : List ByteArray} {z : List (ByteArray × Int)} {h : List (ByteArray × ByteArray)} {a : ByteArray} (hk : key.size ≤ 65536) (ha : a.size ≤ 21) (hs : ShV s l z h) :
    ([nmD k, hexS key, a] ++ ptD k s l z h).length ≤ 65540 ∧ ∀ x ∈ [nmD k, hexS key, a] ++ ptD k s l z h, x.size ≤ 262200 := by
  obtain ⟨h1, h2⟩ := pt_len (k := k) hs
  have h3 := nmD_len k
  have h4 := hexS_len key
  refine ⟨by rw [List.length_append]; simp only [List.length_cons, List.length_nil]; omega, fun x hm => ?_⟩
  rcases List.mem_append.1 hm with hm | hm
  · simp only [List.mem_cons, List.not_mem_nil, or_false] at hm
    rcases hm with rfl | rfl | rfl <;> omega
  · exact h2 x hm
theorem lnD_len {key : ByteArray} {k : Int} {s : ByteArray} {l : List ByteArray} {z : List (ByteArray × Int)} {h : List (ByteArray × ByteArray)} {t : Int} (hk : key.size ≤ 65536) (ht : i64 t) (hs : ShV s l z h) : (lnD key k s l z h t).size ≤ 17184718080 := by
  have ha : (atS t).size ≤ 21 := by unfold atS; split; exact Nat.le_add_left ..; exact itoaS_len ht
  obtain ⟨h1, h2⟩ := ln_parts (k := k) (a := atS t) hk ha hs
  have h3 := join_le2 (c := 32) h2
  have hm : ([nmD k, hexS key, atS t] ++ ptD k s l z h).length * (262200 + 1) ≤ 65540 * (262200 + 1) := Nat.mul_le_mul_right _ h1
  have h4 : (lnD key k s l z h t).size = (Lib.join (([nmD k, hexS key, atS t] ++ ptD k s l z h).map (·.data.toList)) [32]).length := by unfold lnD joinS; exact List.size_toArray
  omega
theorem line_any (w : World) (key : ByteArray) (k : Int) (s : ByteArray) (Al : Option Addr) (cl : Nat) (l : List ByteArray) (hSl : SlR Rp.str (fun k => k < w.heap.size) w (.slice Al l.length cl) l) (Az : Option Addr) (cz : Nat) (z : List (ByteArray × Int)) (hSz : SlR scR (fun k => k < w.heap.size) w (.slice Az z.length cz) z) (Ah : Option Addr) (ch : Nat) (h : List (ByteArray × ByteArray)) (hSh : SlR fdR (fun k => k < w.heap.size) w (.slice Ah h.length ch) h) (at' : Int) (hk : key.size ≤ 65536) (ht : i64 at') (hsh : ShV s l z h) (hV : Vs w) : Calls Tryz.prog 36 #[.agg #[.string key, .int .i64 k, .string s, .slice Al l.length cl, .slice Az z.length cz, .slice Ah h.length ch, .int .i64 at']] w (fun e w' => e = .returned (.string (lnD key k s l z h at')) ∧ Fr [] w w') := by
 have hF := Fr.refl [] w
 have hlit1 : (⟨#[45]⟩ : ByteArray).size = 1 := rfl
 have hptl := (pt_len (k := k) hsh).1
 refine V.en 27 Tryz.func36 fun a h1 => ?_
 refine V.sg fun K2 k3 => ?_
 refine V.go (V.mk [(0, .agg #[.string key, .int .i64 k, .string s, .slice Al l.length cl, .slice Az z.length cz, .slice Ah h.length ch, .int .i64 at'])] ⟨h1.e, trivial⟩ (by kernel_rfl) [.string key, .int .i64 k, .string s, .slice Al l.length cl, .slice Az z.length cz, .slice Ah h.length ch, .int .i64 at'] 55 (fun b => .pointer (some ⟨b, 0, none⟩)) (by kernel_rfl) ?_)
 intro w5 b4 heb4 hB6 hF7 hsb4
 have hF_8 := hF.new hF7
 have hSl_9 := hSl.fr0 hF7
 have hSz_10 := hSz.fr0 hF7
 have hSh_11 := hSh.fr0 hF7
 refine V.pt h1 fun a h12 => ?_
 refine V.re h12 [] 2 2 [] fun a h13 => k3 _ _ ?_
 refine V.sr h13 [] 1 0 [(3, .string ⟨#[45]⟩)] fun a h16 => ?_
 refine V.seq fun K17 k18 => ?_
 refine V.sr h16 [(1, .b hB6 6), (0, .ne at' (-1))] 6 7 [(8, .bool (decide (¬ at' = (-1))))] fun a h21 => ?_
 refine V.cp h21 (¬ at' = (-1)) (fun ht22 => ?_) (fun ht22 => ?_)
 ·
  refine V.rg ?_
  refine V.run h21 [(1, .b hB6 6)] 2 9 9 [(10, .int .i64 at')] fun a h23 => ?_
  have hil25 := itoaS_len (n := at') ht
  refine V.cl h23 (Go.Proofs.enters_of Tryz.func80 (by kernel_rfl) rfl) (ntext_any w5 at' ht (hV.fr hF_8)) ?_
  rintro _ w26 ⟨rfl, hF24⟩
  refine ⟨_, rfl, fun a h27 => ?_⟩
  have hsw26 := hF24.size
  have hF_28 := hF_8.new hF24
  have hSl_29 := hSl_9.fr0 hF24
  have hSz_30 := hSz_10.fr0 hF24
  have hSh_31 := hSh_11.fr0 hF24
  have hB6_32 := hB6.fr0 hF24
  refine V.re h27 [] 1 0 [(3, .string (itoaS at'))] fun a h33 => k18 _ _ ?_
  refine V.sg fun K34 k35 => ?_
  refine V.run h33 [(1, .bs hB6_32 1 [.int .i64 k, .string s, .slice Al l.length cl, .slice Az z.length cz, .slice Ah h.length ch])] 2 13 13 [(14, .agg #[.int .i64 k, .string s, .slice Al l.length cl, .slice Az z.length cz, .slice Ah h.length ch])] fun a h36 => ?_
  refine V.cl h36 (Go.Proofs.enters_of Tryz.func81 (by kernel_rfl) rfl) (words_any w26 k s Al cl l hSl_29.old Az cz z hSz_30.old Ah ch h hSh_31.old hsh (hV.fr hF_28)) ?_
  rintro _ w42 ⟨A37, c38, rfl, hO39, hF40⟩
  refine ⟨_, rfl, fun a h43 => ?_⟩
  have hsw42 := hF40.size
  have hF_44 := hF_28.new hF40
  have hB6_48 := hB6_32.fr0 hF40
  have hS41 := hO39.read (Z' := fun k => k < w42.heap.size) (fun _ _ h => h.elim) (fun _ _ h => h)
  refine V.re h43 [] 12 17 [(4, .string (nmD k)), (5, .slice A37 ((ptD k s l z h).length) c38)] fun a h49 => k35 _ _ ?_
  refine V.sg fun K50 k51 => ?_
  refine V.run h49 [(2, .b hB6_48 0)] 3 19 19 [(18, .string (nmD k)), (20, .string key)] fun a h52 => ?_
  have hxl54 := hexS_len key
  refine V.cl h52 (Go.Proofs.enters_of Tryz.func83 (by kernel_rfl) rfl) (hex_any w42 key (by omega)) ?_
  rintro _ w55 ⟨rfl, hF53⟩
  refine ⟨_, rfl, fun a h56 => ?_⟩
  have hsw55 := hF53.size
  have hF_57 := hF_44.new hF53
  have hS41_62 := hS41.fr0 hF53
  refine V.run h56 [] 1 1 0 [(22, .string (itoaS at'))] fun a h63 => ?_
  refine V.go (V.mk [(18, .string (nmD k)), (21, .string (hexS key)), (22, .string (itoaS at'))] ⟨h63.e, h63.e, h63.e, trivial⟩ (by kernel_rfl) [.string (nmD k), .string (hexS key), .string (itoaS at')] 9 (fun b => .slice (some ⟨b, 0, none⟩) 3 3) (by kernel_rfl) ?_)
  intro w65 b64 heb64 hB66 hF67 hsb64
  have hF_68 := hF_57.new hF67
  have hS41_73 := hS41_62.fr0 hF67
  refine V.pt h63 fun a h74 => ?_
  refine V.run h74 [] 1 1 0 [(24, .slice A37 ((ptD k s l z h).length) c38)] fun a h76 => ?_
  have hO75 := OwR.mkS (base := b64) (l := [nmD k, hexS key, itoaS at']) hB66 rfl (Nat.le_refl _) (show 3 ≤ maxLen from by decide) (Nat.le_refl _) rfl
  refine V.go (V.appS (R := Rp.str) (h76.e (v := (.slice (some ⟨b64, 0, none⟩) 3 3))) (h76.e (v := (.slice A37 ((ptD k s l z h).length) c38))) (by kernel_rfl) info9 (by kernel_rfl) (by decide) hO75 hS41_73 (fun _ _ h => h) (by (try simp only [List.length_cons, List.length_nil]); omega) (by decide) (by omega) ?_)
  intro A77 c78 w79 hO80 hF81
  have hsw79 := hF81.size
  have hF_82 := hF_68.own hF81 (own_ge hO75 (by omega))
  refine V.pt h76 fun a h88 => ?_
  have hjl : (([nmD k, hexS key, itoaS at']) ++ (ptD k s l z h)).length = ([nmD k, hexS key, itoaS at']).length + ((ptD k s l z h)).length := List.length_append
  rw [← hjl] at hO80
  refine V.cl (av := #[.slice A77 (([nmD k, hexS key, itoaS at']).length + ((ptD k s l z h)).length) c78, .string ⟨#[32]⟩]) h88 (Go.Proofs.enters_of Tryz.func82 (by kernel_rfl) rfl) (by rw [← hjl]; exact jn_any w79 _ c78 A77 (([nmD k, hexS key, itoaS at']) ++ (ptD k s l z h)) hO80 (ln_parts hk (by first | omega | exact itoaS_len ht) hsh).1 (ln_parts hk (by first | omega | exact itoaS_len ht) hsh).2) ?_
  rintro _ w90 ⟨rfl, hF89⟩
  refine ⟨_, rfl, fun a h91 => ?_⟩
  have hsw90 := hF89.size
  have hF_92 := hF_82.new hF89
  refine V.re h91 [] 1 0 [(2, .string (joinS (([nmD k, hexS key, itoaS at']) ++ (ptD k s l z h)) 32))] fun a h98 => k51 _ _ ?_
  refine V.ret ?_
  refine V.r1 h98 (.string (joinS (([nmD k, hexS key, itoaS at']) ++ (ptD k s l z h)) 32)) ?_
  exact ⟨by unfold lnD atS; rw [if_neg (by assumption)]; try rfl, hF_92⟩
 ·
  refine V.skip ?_
  refine V.then_n (k18 _ _ ?_)
  refine V.sg fun K99 k100 => ?_
  refine V.run h21 [(1, .bs hB6 1 [.int .i64 k, .string s, .slice Al l.length cl, .slice Az z.length cz, .slice Ah h.length ch])] 2 13 13 [(14, .agg #[.int .i64 k, .string s, .slice Al l.length cl, .slice Az z.length cz, .slice Ah h.length ch])] fun a h101 => ?_
  refine V.cl h101 (Go.Proofs.enters_of Tryz.func81 (by kernel_rfl) rfl) (words_any w5 k s Al cl l hSl_9.old Az cz z hSz_10.old Ah ch h hSh_11.old hsh (hV.fr hF_8)) ?_
  rintro _ w107 ⟨A102, c103, rfl, hO104, hF105⟩
  refine ⟨_, rfl, fun a h108 => ?_⟩
  have hsw107 := hF105.size
  have hF_109 := hF_8.new hF105
  have hB6_113 := hB6.fr0 hF105
  have hS106 := hO104.read (Z' := fun k => k < w107.heap.size) (fun _ _ h => h.elim) (fun _ _ h => h)
  refine V.re h108 [] 12 17 [(4, .string (nmD k)), (5, .slice A102 ((ptD k s l z h).length) c103)] fun a h114 => k100 _ _ ?_
  refine V.sg fun K115 k116 => ?_
  refine V.run h114 [(2, .b hB6_113 0)] 3 19 19 [(18, .string (nmD k)), (20, .string key)] fun a h117 => ?_
  have hxl119 := hexS_len key
  refine V.cl h117 (Go.Proofs.enters_of Tryz.func83 (by kernel_rfl) rfl) (hex_any w107 key (by omega)) ?_
  rintro _ w120 ⟨rfl, hF118⟩
  refine ⟨_, rfl, fun a h121 => ?_⟩
  have hsw120 := hF118.size
  have hF_122 := hF_109.new hF118
  have hS106_127 := hS106.fr0 hF118
  refine V.run h121 [] 1 1 0 [(22, .string ⟨#[45]⟩)] fun a h128 => ?_
  refine V.go (V.mk [(18, .string (nmD k)), (21, .string (hexS key)), (22, .string ⟨#[45]⟩)] ⟨h128.e, h128.e, h128.e, trivial⟩ (by kernel_rfl) [.string (nmD k), .string (hexS key), .string ⟨#[45]⟩] 9 (fun b => .slice (some ⟨b, 0, none⟩) 3 3) (by kernel_rfl) ?_)
  intro w130 b129 heb129 hB131 hF132 hsb129
  have hF_133 := hF_122.new hF132
  have hS106_138 := hS106_127.fr0 hF132
  refine V.pt h128 fun a h139 => ?_
  refine V.run h139 [] 1 1 0 [(24, .slice A102 ((ptD k s l z h).length) c103)] fun a h141 => ?_
  have hO140 := OwR.mkS (base := b129) (l := [nmD k, hexS key, ⟨#[45]⟩]) hB131 rfl (Nat.le_refl _) (show 3 ≤ maxLen from by decide) (Nat.le_refl _) rfl
  refine V.go (V.appS (R := Rp.str) (h141.e (v := (.slice (some ⟨b129, 0, none⟩) 3 3))) (h141.e (v := (.slice A102 ((ptD k s l z h).length) c103))) (by kernel_rfl) info9 (by kernel_rfl) (by decide) hO140 hS106_138 (fun _ _ h => h) (by (try simp only [List.length_cons, List.length_nil]); omega) (by decide) (by omega) ?_)
  intro A142 c143 w144 hO145 hF146
  have hsw144 := hF146.size
  have hF_147 := hF_133.own hF146 (own_ge hO140 (by omega))
  refine V.pt h141 fun a h153 => ?_
  have hjl : (([nmD k, hexS key, ⟨#[45]⟩]) ++ (ptD k s l z h)).length = ([nmD k, hexS key, ⟨#[45]⟩]).length + ((ptD k s l z h)).length := List.length_append
  rw [← hjl] at hO145
  refine V.cl (av := #[.slice A142 (([nmD k, hexS key, ⟨#[45]⟩]).length + ((ptD k s l z h)).length) c143, .string ⟨#[32]⟩]) h153 (Go.Proofs.enters_of Tryz.func82 (by kernel_rfl) rfl) (by rw [← hjl]; exact jn_any w144 _ c143 A142 (([nmD k, hexS key, ⟨#[45]⟩]) ++ (ptD k s l z h)) hO145 (ln_parts hk (by first | omega | exact itoaS_len ht) hsh).1 (ln_parts hk (by first | omega | exact itoaS_len ht) hsh).2) ?_
  rintro _ w155 ⟨rfl, hF154⟩
  refine ⟨_, rfl, fun a h156 => ?_⟩
  have hsw155 := hF154.size
  have hF_157 := hF_147.new hF154
  refine V.re h156 [] 1 0 [(2, .string (joinS (([nmD k, hexS key, ⟨#[45]⟩]) ++ (ptD k s l z h)) 32))] fun a h163 => k116 _ _ ?_
  refine V.ret ?_
  refine V.r1 h163 (.string (joinS (([nmD k, hexS key, ⟨#[45]⟩]) ++ (ptD k s l z h)) 32)) ?_
  exact ⟨by unfold lnD atS; rw [if_pos (by omega)]; try rfl, hF_157⟩
/-! ### The text of a row -/
theorem bl_any (w : World) (b n : Nat) (l : List UInt8) (h : BldI w b n l) : Calls Tryz.prog 38 #[.pointer (some ⟨b, 0, none⟩)] w fun e w' => e = .returned (.int .i64 ((l.length : Nat) : Int)) ∧ w = w' :=
  (Tryz.Builder_Len b b _ w h.is).mono fun e w' ⟨h1, h2⟩ => ⟨by rw [h1, Lib.byteCells_length], h2.symm⟩
theorem btl_len (s : ByteArray) : s.data.toList.length = s.size := Array.length_toList
def lnE (e : EnD) : List UInt8 := (lnD e.key e.k e.s e.l e.z e.h e.till).data.toList ++ [10]
def txB (l : List EnD) : List UInt8 := (l.map lnE).flatten
theorem txB_next {l : List EnD} {i : Nat} (h : i < l.length) : txB (l.take (i + 1)) = txB (l.take i) ++ (lnD (at_ enR l (i : Int)).key (at_ enR l (i : Int)).k (at_ enR l (i : Int)).s (at_ enR l (i : Int)).l (at_ enR l (i : Int)).z (at_ enR l (i : Int)).h (at_ enR l (i : Int)).till).data.toList ++ [10] := by
  unfold txB; rw [map_next lnE enR h, List.flatten_append, List.flatten_singleton, List.append_assoc]; rfl
theorem txB_le (l : List EnD) (i : Nat) : (txB (l.take i)).length ≤ (txB l).length := by
  have h : txB l = txB (l.take i) ++ txB (l.drop i) := by unfold txB; rw [← List.flatten_append, ← List.map_append, List.take_append_drop]
  rw [h, List.length_append]; omega
noncomputable def txN (l : List EnD) : Int := if imgN l = 0 then (if (txB l).length > 67108864 then 2 else 0) else imgN l
noncomputable def txS (l : List EnD) : ByteArray := if txN l = 0 then ⟨(txB l).toArray⟩ else ⟨#[]⟩
theorem tx_no {l : List EnD} (h : ¬ imgN l = 0) : txN l = imgN l ∧ txS l = ⟨#[]⟩ := by
  have h1 : txN l = imgN l := if_neg h
  exact ⟨h1, by unfold txS; rw [h1, if_neg h]⟩
theorem tx_long {l : List EnD} (h : imgN l = 0) (i : Nat) (hl : (txB (l.take i)).length > 67108864) : txN l = 2 ∧ txS l = ⟨#[]⟩ := by
  have h0 := txB_le l i
  have h1 : txN l = 2 := by unfold txN; rw [if_pos h, if_pos (by omega)]
  exact ⟨h1, by unfold txS; rw [h1]; rfl⟩
theorem tx_yes {l : List EnD} (h : imgN l = 0) (hl : ¬ (txB l).length > 67108864) : txN l = 0 ∧ txS l = ⟨(txB l).toArray⟩ := by
  have h1 : txN l = 0 := by unfold txN; rw [if_pos h, if_neg hl]
  exact ⟨h1, by unfold txS; rw [h1]; rfl⟩
theorem mem_at {α : Type} (R : Rp α) {l : List α} {x : α} (h : x ∈ l) : ∃ i, i < l.length ∧ at_ R l ((i : Nat) : Int) = x := by
  obtain ⟨i, hi, e⟩ := List.mem_iff_getElem.1 h
  exact ⟨i, hi, by rw [at_el R hi]; exact e⟩
theorem shV_of {k : Int} {s : ByteArray} {l : List ByteArray} {z : List (ByteArray × Int)} {h : List (ByteArray × ByteArray)} (hv : okV k s l z h) (hi : ∀ x ∈ z, i64 x.2) : ShV s l z h := by
  have e0 : (⟨#[]⟩ : ByteArray).size ≤ 65536 := Nat.zero_le _
  have nl : ∀ {α : Type} {x : α} {q : List α} {p : Prop}, q.length = 0 → x ∈ q → p := fun h0 hx => by rw [List.eq_nil_of_length_eq_zero h0] at hx; cases hx
  have gl : ∀ {r : Bool}, AllG (gT l r) l.length → ∀ x ∈ l, x.size ≤ 65536 := fun hg x hx => by obtain ⟨i, hi, rfl⟩ := mem_at Rp.str hx; exact (hg i hi).1
  unfold okV at hv
  split at hv
  · obtain ⟨h1, h2, h3, h4⟩ := hv
    exact ⟨h1, by omega, by omega, by omega, fun x hx => nl h2 hx, fun x hx => nl h3 hx, fun x hx => nl h4 hx⟩
  split at hv
  · obtain ⟨rfl, h2, h3, h4, h5⟩ := hv
    exact ⟨e0, by omega, by omega, by omega, gl h5, fun x hx => nl h2 hx, fun x hx => nl h3 hx⟩
  split at hv
  · obtain ⟨rfl, h2, h3, h4, h5⟩ := hv
    exact ⟨e0, by omega, by omega, by omega, gl h5, fun x hx => nl h2 hx, fun x hx => nl h3 hx⟩
  split at hv
  · obtain ⟨rfl, h2, h3, h4, h5, _⟩ := hv
    exact ⟨e0, by omega, by omega, by omega, fun x hx => nl h2 hx, fun x hx => ⟨by obtain ⟨i, hi, rfl⟩ := mem_at scR hx; exact (h5 i hi).1, hi x hx⟩, fun x hx => nl h3 hx⟩
  split at hv
  · obtain ⟨rfl, h2, h3, h4, h5⟩ := hv
    exact ⟨e0, by omega, by omega, by omega, fun x hx => nl h2 hx, fun x hx => nl h3 hx, fun x hx => by obtain ⟨i, hi, rfl⟩ := mem_at fdR hx; exact ⟨(h5 i hi).1, (h5 i hi).2.1⟩⟩
  · exact hv.elim
/-- What an image's entries are good for. -/
theorem img_at {l : List EnD} (h : imgN l = 0) (hz : ∀ e ∈ l, ∀ x ∈ e.z, i64 x.2) {i : Nat} (hi : i < l.length) :
    (at_ enR l (i : Int)).key.size ≤ 65536 ∧ i64 (at_ enR l (i : Int)).till ∧ ShV (at_ enR l (i : Int)).s (at_ enR l (i : Int)).l (at_ enR l (i : Int)).z (at_ enR l (i : Int)).h := by
  unfold imgN at h
  split at h
  · cases h
  split at h
  · rename_i h2
    obtain ⟨h3, h4, h5⟩ := (h2 i hi).1
    exact ⟨h3, by unfold i64; omega, shV_of h5 (hz _ (at_in enR hi))⟩
  · cases h
theorem text_any (w : World) (Al : Option Addr) (cl : Nat) (l : List EnD) (hSl : SlR enR (fun k => k < w.heap.size) w (.slice Al l.length cl) l) (hbn : ∀ x ∈ l, bndE x) (hzi : ∀ e ∈ l, ∀ x ∈ e.z, i64 x.2) (hV : Vs w) : Calls Tryz.prog 9 #[.slice Al l.length cl] w (fun e w' => e = .returned (.tuple #[.string (txS l), .int .i64 (txN l)]) ∧ Fr [] w w') := by
 have hF := Fr.refl [] w
 have hlen0 := hSl.len_le
 refine V.en 27 Tryz.func9 fun a h1 => ?_
 refine V.sr h1 [] 2 3 [] fun a h4 => ?_
 refine V.seq fun K5 k6 => ?_
 refine V.sg fun K7 k8 => ?_
 refine V.run h4 [] 1 1 0 [(8, .slice Al l.length cl)] fun a h9 => ?_
 refine V.cl h9 (Go.Proofs.enters_of Tryz.func20 (by kernel_rfl) rfl) (check_any w Al cl l hSl.old hbn) ?_
 rintro _ w11 ⟨rfl, hF10⟩
 refine ⟨_, rfl, fun a h12 => ?_⟩
 have hsw11 := hF10.size
 have hF_13 := hF.new hF10
 have hSl_14 := hSl.fr0 hF10
 refine V.re h12 [] 1 0 [(4, .int .i64 (imgN l))] fun a h15 => k8 _ _ ?_
 refine V.sr h15 [(1, .ne (imgN l) 0)] 10 10 [(11, .bool (decide (¬ (imgN l) = 0)))] fun a h18 => ?_
 refine V.cp h18 (¬ (imgN l) = 0) (fun ht19 => ?_) (fun ht19 => ?_)
 ·
  refine V.sr h18 [] 12 12 [(2, .string ⟨#[]⟩), (3, .int .i64 (imgN l))] fun a h22 => ?_
  refine V.ret (V.then_r ?_)
  refine V.r2 h22 (.string ⟨#[]⟩) (.int .i64 (imgN l)) ?_
  obtain ⟨hq1, hq2⟩ := tx_no (by assumption)
  exact ⟨by rw [hq1, hq2], hF_13⟩
 ·
  refine V.skip ?_
  refine V.then_n (k6 _ _ ?_)
  refine V.seq fun K23 k24 => ?_
  have h0 : imgN l = 0 := Decidable.of_not_not (by assumption)
  refine V.rg ?_
  refine V.go (V.mk [] trivial (by kernel_rfl) [.pointer none, .slice none 0 0] 73 (fun b => .pointer (some ⟨b, 0, none⟩)) (by kernel_rfl) ?_)
  intro w26 b25 heb25 hB27 hF28 hsb25
  have hF_29 := hF_13.new hF28
  have hSl_30 := hSl_14.fr0 hF28
  refine V.pt h18 fun a h31 => ?_
  refine V.nt (k24 _ _ ?_)
  refine V.seq fun K32 k33 => ?_
  refine V.seq fun K34 k35 => ?_
  have hB36 := bld_new hB27 (hB27).lt
  refine V.rr h31 [] 1 0 [(13, .slice Al l.length cl), (14, .int .i64 ((l.length : Nat) : Int)), (15, .int .i64 0)] fun a h37 => ?_
  refine V.then_n (k35 _ _ ?_)
  refine V.block ?_
  refine V.loop1 (fun (i : Nat) a_ w_ => En 27 [] a_ [(5, .pointer (some ⟨b25, 0, none⟩)), (13, .slice Al l.length cl), (14, .int .i64 ((l.length : Nat) : Int)), (15, .int .i64 (i : Int))] ∧ BldI w_ b25 w_.heap.size (txB (l.take i)) ∧ Fr [] w w_ ∧ SlR enR (fun k => k < w.heap.size) w_ (.slice Al l.length cl) l ∧ (i ≤ l.length) ∧ ((txB (l.take i)).length ≤ 67108864)) (fun (i : Nat) => l.length - i) 0 ?_ ?_
  ·
   refine ⟨(h37.eq 15 (v := (.int .i64 0)) (u := (.int .i64 (0 : Int))) (V.int_eq (by omega))).only _, (hB36.up (by omega) (by omega)), hF_29, hSl_30, (by omega), (by simp [txB])⟩
  ·
   rintro i a38 w39 ⟨h40, hB_41, hF_42, hSl_43, hi, hm⟩
   have hfs44 := hF_42.size
   refine V.sr h40 [] 1 0 [(16, .bool (decide ((i : Int) < ((l.length : Nat) : Int))))] fun a h47 => ?_
   refine V.seq fun K48 k49 => ?_
   refine V.cp h47 ((i : Int) < ((l.length : Nat) : Int)) (fun ht50 => ?_) (fun ht50 => ?_)
   ·
    refine V.skip ?_
    refine V.then_n (k49 _ _ ?_)
    refine V.seq fun K51 k52 => ?_
    refine V.block ?_
    obtain ⟨g55, o56, hA57, hA57l, hA57z⟩ := hSl_43.addr (by omega)
    obtain ⟨cs58, hok59, hE60⟩ := hSl_43.els hA57 (i : Int) (by omega) (by omega)
    obtain ⟨Al61, cl62, Az63, cz64, Ah65, ch66, rfl, hS67, hS68, hS69⟩ := en_open hok59
    refine V.sg fun K53 k54 => ?_
    refine V.run h47 [(0, .ix g55 o56 l.length cl .i64 (i : Int) 7 hA57), (0, .ls ⟨g55, o56 + (i : Int).toNat * 7, none⟩ [.string ((at_ enR l (i : Int)).key), .int .i64 ((at_ enR l (i : Int)).k), .string ((at_ enR l (i : Int)).s), .slice Al61 ((at_ enR l (i : Int)).l.length) cl62, .slice Az63 ((at_ enR l (i : Int)).z.length) cz64, .slice Ah65 ((at_ enR l (i : Int)).h.length) ch66, .int .i64 ((at_ enR l (i : Int)).till)] (hE60.cells 0 _ rfl))] 2 17 17 [(18, .agg #[.string ((at_ enR l (i : Int)).key), .int .i64 ((at_ enR l (i : Int)).k), .string ((at_ enR l (i : Int)).s), .slice Al61 ((at_ enR l (i : Int)).l.length) cl62, .slice Az63 ((at_ enR l (i : Int)).z.length) cz64, .slice Ah65 ((at_ enR l (i : Int)).h.length) ch66, .int .i64 ((at_ enR l (i : Int)).till)])] fun a h74 => ?_
    refine V.go (V.mk [] trivial (by kernel_rfl) [.string ⟨#[]⟩, .int .i64 0, .string ⟨#[]⟩, .slice none 0 0, .slice none 0 0, .slice none 0 0, .int .i64 0] 55 (fun b => .pointer (some ⟨b, 0, none⟩)) (by kernel_rfl) ?_)
    intro w71 b70 heb70 hB72 hF73 hsb70
    have hB_75 := hB_41.fr hF73 (by simp <;> omega)
    have hF_76 := hF_42.new hF73
    have hSl_77 := hSl_43.fr0 hF73
    have hS67_78 := hS67.fr0 hF73
    have hS68_79 := hS68.fr0 hF73
    have hS69_80 := hS69.fr0 hF73
    refine V.pt h74 fun a h82 => ?_
    refine V.go (V.stn b70 0 (.agg #[.string ((at_ enR l (i : Int)).key), .int .i64 ((at_ enR l (i : Int)).k), .string ((at_ enR l (i : Int)).s), .slice Al61 ((at_ enR l (i : Int)).l.length) cl62, .slice Az63 ((at_ enR l (i : Int)).z.length) cz64, .slice Ah65 ((at_ enR l (i : Int)).h.length) ch66, .int .i64 ((at_ enR l (i : Int)).till)]) [.string ((at_ enR l (i : Int)).key), .int .i64 ((at_ enR l (i : Int)).k), .string ((at_ enR l (i : Int)).s), .slice Al61 ((at_ enR l (i : Int)).l.length) cl62, .slice Az63 ((at_ enR l (i : Int)).z.length) cz64, .slice Ah65 ((at_ enR l (i : Int)).h.length) ch66, .int .i64 ((at_ enR l (i : Int)).till)] h82.e h82.e rfl rfl (by kernel_rfl) hB72 (by simp) [.string ((at_ enR l (i : Int)).key), .int .i64 ((at_ enR l (i : Int)).k), .string ((at_ enR l (i : Int)).s), .slice Al61 ((at_ enR l (i : Int)).l.length) cl62, .slice Az63 ((at_ enR l (i : Int)).z.length) cz64, .slice Ah65 ((at_ enR l (i : Int)).h.length) ch66, .int .i64 ((at_ enR l (i : Int)).till)] rfl ?_)
    intro w83 hB84 hF85 hsw83
    have hB_86 := hB_75.fr hF85 (by simp <;> omega)
    have hF_87 := hF_76.own hF85 (by simp <;> omega)
    have hSl_88 := hSl_77.fr hF85 (by simp <;> omega)
    have hS67_89 := hS67_78.fr hF85 (by simp <;> omega)
    have hS68_90 := hS68_79.fr hF85 (by simp <;> omega)
    have hS69_91 := hS69_80.fr hF85 (by simp <;> omega)
    refine V.nt (k54 _ _ ?_)
    refine V.seq fun K93 k94 => ?_
    obtain ⟨hek, het, heh⟩ := img_at h0 hzi (i := i) (by omega)
    refine V.rg ?_
    refine V.run h82 [(0, .bs hB84 0 [.string ((at_ enR l (i : Int)).key), .int .i64 ((at_ enR l (i : Int)).k), .string ((at_ enR l (i : Int)).s), .slice Al61 ((at_ enR l (i : Int)).l.length) cl62, .slice Az63 ((at_ enR l (i : Int)).z.length) cz64, .slice Ah65 ((at_ enR l (i : Int)).h.length) ch66, .int .i64 ((at_ enR l (i : Int)).till)])] 1 1 0 [(19, .agg #[.string ((at_ enR l (i : Int)).key), .int .i64 ((at_ enR l (i : Int)).k), .string ((at_ enR l (i : Int)).s), .slice Al61 ((at_ enR l (i : Int)).l.length) cl62, .slice Az63 ((at_ enR l (i : Int)).z.length) cz64, .slice Ah65 ((at_ enR l (i : Int)).h.length) ch66, .int .i64 ((at_ enR l (i : Int)).till)])] fun a h95 => ?_
    have hll97 := lnD_len (k := ((at_ enR l (i : Int)).k)) hek het heh
    refine V.cl h95 (Go.Proofs.enters_of Tryz.func36 (by kernel_rfl) rfl) (line_any w83 ((at_ enR l (i : Int)).key) ((at_ enR l (i : Int)).k) ((at_ enR l (i : Int)).s) Al61 cl62 ((at_ enR l (i : Int)).l) hS67_89.old Az63 cz64 ((at_ enR l (i : Int)).z) hS68_90.old Ah65 ch66 ((at_ enR l (i : Int)).h) hS69_91.old ((at_ enR l (i : Int)).till) hek het heh (hV.fr hF_87)) ?_
    rintro _ w98 ⟨rfl, hF96⟩
    refine ⟨_, rfl, fun a h99 => ?_⟩
    have hsw98 := hF96.size
    have hB_100 := hB_86.fr hF96 (by simp <;> omega)
    have hF_101 := hF_87.new hF96
    have hSl_102 := hSl_88.fr0 hF96
    have hS67_103 := hS67_89.fr0 hF96
    have hS68_104 := hS68_90.fr0 hF96
    have hS69_105 := hS69_91.fr0 hF96
    refine V.cl h99 (Go.Proofs.enters_of Tryz.func35 (by kernel_rfl) rfl) (ws_any w98 b25 _ (txB (l.take i)) (lnD ((at_ enR l (i : Int)).key) ((at_ enR l (i : Int)).k) ((at_ enR l (i : Int)).s) ((at_ enR l (i : Int)).l) ((at_ enR l (i : Int)).z) ((at_ enR l (i : Int)).h) ((at_ enR l (i : Int)).till)) hB_100 (by (try simp only [List.length_append, List.length_cons, List.length_nil, btl_len] at *); omega)) ?_
    rintro _ w110 ⟨rfl, hB108, hL109⟩
    refine ⟨_, rfl, fun a h111 => ?_⟩
    have hsw110 := hL109.size
    have hF_112 := V.Fr.bel hF_101 hL109 (by omega)
    have hSl_113 := hSl_102.mono (fun k hk hz => ⟨hz, hL109.block k (by (try dsimp only at hz); omega)⟩) hL109.size
    have hS67_114 := hS67_103.mono (fun k hk hz => ⟨hz, hL109.block k (by (try dsimp only at hz); omega)⟩) hL109.size
    have hS68_115 := hS68_104.mono (fun k hk hz => ⟨hz, hL109.block k (by (try dsimp only at hz); omega)⟩) hL109.size
    have hS69_116 := hS69_105.mono (fun k hk hz => ⟨hz, hL109.block k (by (try dsimp only at hz); omega)⟩) hL109.size
    refine V.nt (k94 _ _ ?_)
    refine V.sg fun K117 k118 => ?_
    refine V.cl h111 (Go.Proofs.enters_of Tryz.func37 (by kernel_rfl) rfl) (wb_any w110 b25 _ ((txB (l.take i)) ++ (lnD ((at_ enR l (i : Int)).key) ((at_ enR l (i : Int)).k) ((at_ enR l (i : Int)).s) ((at_ enR l (i : Int)).l) ((at_ enR l (i : Int)).z) ((at_ enR l (i : Int)).h) ((at_ enR l (i : Int)).till)).data.toList) (10 : UInt8) hB108 (by (try simp only [List.length_append, List.length_cons, List.length_nil, btl_len] at *); omega)) ?_
    rintro _ w121 ⟨rfl, hB119, hL120⟩
    refine ⟨_, rfl, fun a h122 => ?_⟩
    have hsw121 := hL120.size
    have hF_123 := V.Fr.bel hF_112 hL120 (by omega)
    have hSl_124 := hSl_113.mono (fun k hk hz => ⟨hz, hL120.block k (by (try dsimp only at hz); omega)⟩) hL120.size
    have hS67_125 := hS67_114.mono (fun k hk hz => ⟨hz, hL120.block k (by (try dsimp only at hz); omega)⟩) hL120.size
    have hS68_126 := hS68_115.mono (fun k hk hz => ⟨hz, hL120.block k (by (try dsimp only at hz); omega)⟩) hL120.size
    have hS69_127 := hS69_116.mono (fun k hk hz => ⟨hz, hL120.block k (by (try dsimp only at hz); omega)⟩) hL120.size
    refine V.nt (k118 _ _ ?_)
    refine V.sg fun K128 k129 => ?_
    refine V.cl h122 (Go.Proofs.enters_of Tryz.func38 (by kernel_rfl) rfl) (bl_any w121 b25 _ (((txB (l.take i)) ++ (lnD ((at_ enR l (i : Int)).key) ((at_ enR l (i : Int)).k) ((at_ enR l (i : Int)).s) ((at_ enR l (i : Int)).l) ((at_ enR l (i : Int)).z) ((at_ enR l (i : Int)).h) ((at_ enR l (i : Int)).till)).data.toList) ++ [(10 : UInt8)]) hB119) ?_
    rintro _ _ ⟨rfl, rfl⟩
    refine ⟨_, rfl, fun a h130 => ?_⟩
    refine V.re h130 [] 1 0 [(24, .bool (decide ((((((txB (l.take i)) ++ (lnD ((at_ enR l (i : Int)).key) ((at_ enR l (i : Int)).k) ((at_ enR l (i : Int)).s) ((at_ enR l (i : Int)).l) ((at_ enR l (i : Int)).z) ((at_ enR l (i : Int)).h) ((at_ enR l (i : Int)).till)).data.toList) ++ [(10 : UInt8)]).length : Nat) : Int) > 67108864)))] fun a h131 => k129 _ _ ?_
    refine V.cp h131 ((((((txB (l.take i)) ++ (lnD ((at_ enR l (i : Int)).key) ((at_ enR l (i : Int)).k) ((at_ enR l (i : Int)).s) ((at_ enR l (i : Int)).l) ((at_ enR l (i : Int)).z) ((at_ enR l (i : Int)).h) ((at_ enR l (i : Int)).till)).data.toList) ++ [(10 : UInt8)]).length : Nat) : Int) > 67108864) (fun ht132 => ?_) (fun ht132 => ?_)
    ·
     refine V.sr h131 [] 1 0 [(2, .string ⟨#[]⟩), (3, .int .i64 2)] fun a h135 => ?_
     refine V.ret (V.blk_r (V.then_r (V.then_r (V.blk_r (V.then_r ?_)))))
     refine V.r2 h135 (.string ⟨#[]⟩) (.int .i64 2) ?_
     obtain ⟨hq1, hq2⟩ := tx_long h0 (i + 1) (by rw [txB_next (by omega)]; omega)
     exact ⟨by rw [hq1, hq2], hF_123⟩
    ·
     refine V.skip (V.blk_n ?_)
     refine V.then_n (k52 _ _ ?_)
     refine V.rr h131 [(0, .i ((i : Int) + 1))] 25 25 [(15, .int .i64 ((i : Int) + 1))] fun a h136 => ?_
     refine V.then_n ?_
     refine ⟨i + 1, by omega, ?_⟩
     refine ⟨(h136.eq 15 (v := (.int .i64 ((i : Int) + 1))) (u := (.int .i64 ((i + 1) : Int))) (V.int_eq (by omega))).only _, (by rw [txB_next (by omega)]; exact hB119.up (by omega) (by omega)), hF_123, hSl_124, (by omega), (by rw [txB_next (by omega)]; omega)⟩
   ·
    refine V.exit (V.then_e (V.then_e (V.blk_hit ?_)))
    refine V.then_n (k33 _ _ ?_)
    refine V.sg fun K137 k138 => ?_
    refine V.cl h47 (Go.Proofs.enters_of Tryz.func39 (by kernel_rfl) rfl) (bs_any w39 b25 _ (txB (l.take i)) hB_41) ?_
    rintro _ w140 ⟨rfl, hL139⟩
    refine ⟨_, rfl, fun a h141 => ?_⟩
    have hsw140 := hL139.size
    have hF_142 := V.Fr.bel hF_42 hL139 (by omega)
    have hSl_143 := hSl_43.mono (fun k hk hz => ⟨hz, hL139.block k (by (try dsimp only at hz); omega)⟩) hL139.size
    refine V.re h141 [] 1 0 [(2, .string ⟨(txB (l.take i)).toArray⟩), (3, .int .i64 0)] fun a h144 => k138 _ _ ?_
    refine V.ret ?_
    refine V.r2 h144 (.string ⟨(txB (l.take i)).toArray⟩) (.int .i64 0) ?_
    have hql : txB (l.take i) = txB l := by rw [List.take_of_length_le (by omega)]
    rw [hql] at hm ⊢
    obtain ⟨hq1, hq2⟩ := tx_yes h0 (by omega)
    exact ⟨by rw [hq1, hq2], hF_142⟩
/-! ### The entry of a line -/
noncomputable def tillD (x : ByteArray) : Int := if x = ⟨#[45]⟩ then -1 else prN x
def tmOk (x : ByteArray) : Prop := x = ⟨#[45]⟩ ∨ (prOk x ∧ 0 ≤ prN x ∧ prN x ≤ 1099511627776)
noncomputable def rdE0 (s : ByteArray) : EnD := ⟨unhexS (at_ Rp.str (spl s) 1), kindI (at_ Rp.str (spl s) 0), ⟨#[]⟩, [], [], [], tillD (at_ Rp.str (spl s) 2)⟩
noncomputable def rdE (s : ByteArray) : EnD := ((spl s).drop 3).foldl ptE (rdE0 s)
def gP (s : ByteArray) (i : Nat) : Prop := ptOk (kindI (at_ Rp.str (spl s) 0)) (at_ Rp.str ((spl s).drop 3) (i : Int))
def rdPre (s : ByteArray) : Prop := 4 ≤ (spl s).length ∧ 1 ≤ kindI (at_ Rp.str (spl s) 0) ∧ uhOk (at_ Rp.str (spl s) 1) ∧ tmOk (at_ Rp.str (spl s) 2) ∧ AllG (gP s) ((spl s).length - 3)
def lnOf (e : EnD) : ByteArray := lnD e.key e.k e.s e.l e.z e.h e.till
def rdOk (s : ByteArray) : Prop := rdPre s ∧ okD (rdE s) ∧ lnOf (rdE s) = s
theorem bd0 (key s : ByteArray) (k t : Int) : BdE ⟨key, k, s, [], [], [], t⟩ 0 := ⟨Nat.le_refl _, Nat.le_refl _, Nat.le_refl _, fun x hx => by cases hx⟩
theorem enB_new {w : World} {b : Nat} {key s : ByteArray} {k t : Int} (h : Blk w b [.string key, .int .i64 k, .string s, .slice none 0 0, .slice none 0 0, .slice none 0 0, .int .i64 t] 55) : EnB w b ⟨key, k, s, [], [], [], t⟩ :=
  ⟨none, 0, none, 0, none, 0, h, OwR.nil .., OwR.nil .., OwR.nil .., fun _ => ⟨rfl, rfl, rfl⟩, fun _ => ⟨rfl, rfl, rfl⟩, fun _ => ⟨rfl, rfl, rfl⟩⟩
theorem wd_size {s : ByteArray} {i : Nat} (h : i < (spl s).length) : (at_ Rp.str (spl s) (i : Int)).size ≤ s.size := spl_size (at_in Rp.str h)
theorem wd3_size {s : ByteArray} {x : ByteArray} (h : x ∈ (spl s).drop 3) : x.size ≤ s.size := spl_size (List.mem_of_mem_drop h)
theorem ent_good {x : EnD} {n : Nat} (h : okE x.key x.till (okV x.k x.s x.l x.z x.h)) (hb : BdE x n) : x.key.size ≤ 65536 ∧ i64 x.till ∧ ShV x.s x.l x.z x.h :=
  ⟨h.1, by have := h.2.1; unfold i64; omega, shV_of h.2.2 fun y hy => (hb.x y hy).2⟩
theorem read_any (w : World) (s : ByteArray) (hs : s.size ≤ 67108864) (hV : Vs w) : Calls Tryz.prog 44 #[.string s] w (fun e w' => ∃ key k sv Al nl cl Az nz cz Ah nh ch t, e = .returned (.tuple #[.agg #[.string key, .int .i64 k, .string sv, .slice Al nl cl, .slice Az nz cz, .slice Ah nh ch, .int .i64 t], .bool (bP (rdOk s))]) ∧ Fr [] w w' ∧ (rdOk s → enR.ok (fun k => w.heap.size ≤ k) w' (rdE s) [.string key, .int .i64 k, .string sv, .slice Al nl cl, .slice Az nz cz, .slice Ah nh ch, .int .i64 t])) := by
 have hF := Fr.refl [] w
 have hlo := hV.lo
 refine V.en 88 Tryz.func44 fun a h1 => ?_
 refine V.sg fun K2 k3 => ?_
 refine V.go (V.mk [] trivial (by kernel_rfl) [.string ⟨#[]⟩, .int .i64 0, .string ⟨#[]⟩, .slice none 0 0, .slice none 0 0, .slice none 0 0, .int .i64 0] 55 (fun b => .pointer (some ⟨b, 0, none⟩)) (by kernel_rfl) ?_)
 intro w5 b4 heb4 hB6 hF7 hsb4
 have hF_8 := hF.new hF7
 refine V.pt h1 fun a h9 => ?_
 refine V.re h9 [] 3 3 [] fun a h10 => k3 _ _ ?_
 refine V.sg fun K11 k12 => ?_
 refine V.run h10 [] 1 1 0 [(13, .string s)] fun a h13 => ?_
 refine V.cl h13 (Go.Proofs.enters_of Tryz.func87 (by kernel_rfl) rfl) (sp_any w5 s (by omega) (hV.fr hF_8)) ?_
 rintro _ w17 ⟨b14, rfl, hS15, hF16⟩
 refine ⟨_, rfl, fun a h18 => ?_⟩
 have hsw17 := hF16.size
 have hF_19 := hF_8.new hF16
 have hB6_20 := hB6.fr0 hF16
 refine V.re h18 [] 1 0 [(4, .slice (some ⟨b14, 0, none⟩) ((spl s).length) ((spl s).length))] fun a h21 => k12 _ _ ?_
 refine V.seq fun K22 k23 => ?_
 refine V.sr h21 [] 15 16 [(17, .bool (decide ((((spl s).length : Nat) : Int) < 4)))] fun a h26 => ?_
 refine V.cp h26 ((((spl s).length : Nat) : Int) < 4) (fun ht27 => ?_) (fun ht27 => ?_)
 ·
  refine V.sg fun K28 k29 => ?_
  refine V.run h26 [] 1 1 0 [(18, .agg #[.string ⟨#[]⟩, .int .i64 0, .string ⟨#[]⟩, .slice none 0 0, .slice none 0 0, .slice none 0 0, .int .i64 0])] fun a h33 => ?_
  refine V.go (V.stn b4 0 (.agg #[.string ⟨#[]⟩, .int .i64 0, .string ⟨#[]⟩, .slice none 0 0, .slice none 0 0, .slice none 0 0, .int .i64 0]) [.string ⟨#[]⟩, .int .i64 0, .string ⟨#[]⟩, .slice none 0 0, .slice none 0 0, .slice none 0 0, .int .i64 0] h33.e h33.e rfl rfl (by kernel_rfl) hB6_20 (by simp) [.string ⟨#[]⟩, .int .i64 0, .string ⟨#[]⟩, .slice none 0 0, .slice none 0 0, .slice none 0 0, .int .i64 0] rfl ?_)
  intro w30 hB31 hF32 hsw30
  have hF_34 := hF_19.own hF32 (by simp <;> omega)
  refine V.re h33 [] 1 0 [(3, .bool false)] fun a h36 => k29 _ _ ?_
  refine V.ret (V.then_r ?_)
  refine V.retCT h36.sd rfl _ (h36.e (v := (.pointer (some ⟨b4, 0, none⟩)))) (V.run_loadVar_agg (cs := [.string ⟨#[]⟩, .int .i64 0, .string ⟨#[]⟩, .slice none 0 0, .slice none 0 0, .slice none 0 0, .int .i64 0]) (by kernel_rfl) (blk_cells hB31 0 _ rfl)) (h36.e (v := (.bool false))) ?_
  have hno : ¬ rdOk s := fun hq => by
    obtain ⟨⟨q1, q2, q3, q4, q5⟩, q6, q7⟩ := hq
    first | omega | exact nb_no (by assumption) q3 | exact nb_no (by assumption) (q5 i (by omega)) | (rcases q4 with q4 | ⟨q8, q9, q10⟩ <;> first | exact absurd q4 (by assumption) | omega | exact absurd (prC_0.2 q8) (by assumption))
  exact ⟨_, _, _, _, _, _, _, _, _, _, _, _, _, congrArg (fun b => Ending.returned (Value.tuple #[.agg #[.string ⟨#[]⟩, .int .i64 0, .string ⟨#[]⟩, .slice none 0 0, .slice none 0 0, .slice none 0 0, .int .i64 0], Value.bool b])) (bP_no hno), hF_34, fun h => absurd h hno⟩
 ·
  refine V.skip ?_
  refine V.then_n (k23 _ _ ?_)
  refine V.seq fun K37 k38 => ?_
  have hw0 : (at_ Rp.str (spl s) (0 : Int)).size ≤ s.size := wd_size (i := 0) (by omega)
  have hw1 : (at_ Rp.str (spl s) (1 : Int)).size ≤ s.size := wd_size (i := 1) (by omega)
  have hw2 : (at_ Rp.str (spl s) (2 : Int)).size ≤ s.size := wd_size (i := 2) (by omega)
  refine V.rg ?_
  refine V.go (V.mk [] trivial (by kernel_rfl) [.string ⟨#[]⟩, .string ⟨#[115, 116, 114, 105, 110, 103]⟩, .string ⟨#[108, 105, 115, 116]⟩, .string ⟨#[115, 101, 116]⟩, .string ⟨#[122, 115, 101, 116]⟩, .string ⟨#[104, 97, 115, 104]⟩] 9 (fun b => .slice (some ⟨b, 0, none⟩) 6 6) (by kernel_rfl) ?_)
  intro w40 b39 heb39 hB41 hF42 hsb39
  have hF_43 := hF_19.new hF42
  have hB6_44 := hB6_20.fr0 hF42
  have hS15_45 := hS15.fr0 hF42
  refine V.pt h26 fun a h46 => ?_
  obtain ⟨cs47, hok48, hE49⟩ := hS15_45.els rfl (0 : Int) (by omega) (by omega)
  obtain rfl : cs47 = [.string (at_ Rp.str (spl s) (0 : Int))] := hok48
  refine V.run h46 [(1, .ix b14 0 ((spl s).length) ((spl s).length) .i64 0 1 rfl), (0, .l ⟨b14, 0 + (0 : Int).toNat * 1, none⟩ (.string (at_ Rp.str (spl s) (0 : Int))) (hE49.at 0 rfl))] 3 20 21 [(22, .string (at_ Rp.str (spl s) (0 : Int)))] fun a h50 => ?_
  refine V.cl h50 (Go.Proofs.enters_of Tryz.func88 (by kernel_rfl) rfl) (ki_any w40 b39 (at_ Rp.str (spl s) (0 : Int)) hB41) ?_
  rintro _ _ ⟨rfl, rfl⟩
  refine ⟨_, rfl, fun a h51 => ?_⟩
  refine V.re h51 [] 1 0 [(5, .int .i64 (kindI (at_ Rp.str (spl s) (0 : Int))))] fun a h52 => k38 _ _ ?_
  obtain ⟨cs55, hok56, hE57⟩ := hS15_45.els rfl (1 : Int) (by omega) (by omega)
  obtain rfl : cs55 = [.string (at_ Rp.str (spl s) (1 : Int))] := hok56
  refine V.sg fun K53 k54 => ?_
  refine V.run h52 [(1, .ix b14 0 ((spl s).length) ((spl s).length) .i64 1 1 rfl), (0, .l ⟨b14, 0 + (1 : Int).toNat * 1, none⟩ (.string (at_ Rp.str (spl s) (1 : Int))) (hE57.at 0 rfl))] 3 25 26 [(27, .string (at_ Rp.str (spl s) (1 : Int)))] fun a h58 => ?_
  refine V.cl h58 (Go.Proofs.enters_of Tryz.func89 (by kernel_rfl) rfl) (unhex_any w40 (at_ Rp.str (spl s) (1 : Int)) (by omega)) ?_
  rintro _ w60 ⟨rfl, hF59⟩
  refine ⟨_, rfl, fun a h61 => ?_⟩
  have hsw60 := hF59.size
  have hF_62 := hF_43.new hF59
  have hB6_63 := hB6_44.fr0 hF59
  have hS15_64 := hS15_45.fr0 hF59
  refine V.re h61 [] 24 30 [(6, .string (unhexS (at_ Rp.str (spl s) (1 : Int)))), (7, .bool (bP (uhOk (at_ Rp.str (spl s) (1 : Int)))))] fun a h68 => k54 _ _ ?_
  refine V.seq fun K69 k70 => ?_
  refine V.sg fun K71 k72 => ?_
  refine V.run h68 [] 3 31 32 [(33, .bool (decide ((kindI (at_ Rp.str (spl s) (0 : Int))) < 1)))] fun a h73 => ?_
  by_cases hg74 : (kindI (at_ Rp.str (spl s) (0 : Int))) < 1
  ·
   have h75 := h73.kt 33 hg74
   refine V.re h75 [] 34 35 [(36, .bool true)] fun a h76 => k72 _ _ ?_
   refine V.ct h76 ?_
   refine V.sg fun K77 k78 => ?_
   refine V.run h76 [] 1 1 0 [(37, .agg #[.string ⟨#[]⟩, .int .i64 0, .string ⟨#[]⟩, .slice none 0 0, .slice none 0 0, .slice none 0 0, .int .i64 0])] fun a h82 => ?_
   refine V.go (V.stn b4 0 (.agg #[.string ⟨#[]⟩, .int .i64 0, .string ⟨#[]⟩, .slice none 0 0, .slice none 0 0, .slice none 0 0, .int .i64 0]) [.string ⟨#[]⟩, .int .i64 0, .string ⟨#[]⟩, .slice none 0 0, .slice none 0 0, .slice none 0 0, .int .i64 0] h82.e h82.e rfl rfl (by kernel_rfl) hB6_63 (by simp) [.string ⟨#[]⟩, .int .i64 0, .string ⟨#[]⟩, .slice none 0 0, .slice none 0 0, .slice none 0 0, .int .i64 0] rfl ?_)
   intro w79 hB80 hF81 hsw79
   have hF_83 := hF_62.own hF81 (by simp <;> omega)
   refine V.re h82 [] 1 0 [(3, .bool false)] fun a h86 => k78 _ _ ?_
   refine V.ret (V.then_r ?_)
   refine V.retCT h86.sd rfl _ (h86.e (v := (.pointer (some ⟨b4, 0, none⟩)))) (V.run_loadVar_agg (cs := [.string ⟨#[]⟩, .int .i64 0, .string ⟨#[]⟩, .slice none 0 0, .slice none 0 0, .slice none 0 0, .int .i64 0]) (by kernel_rfl) (blk_cells hB80 0 _ rfl)) (h86.e (v := (.bool false))) ?_
   have hno : ¬ rdOk s := fun hq => by
     obtain ⟨⟨q1, q2, q3, q4, q5⟩, q6, q7⟩ := hq
     first | omega | exact nb_no (by assumption) q3 | exact nb_no (by assumption) (q5 i (by omega)) | (rcases q4 with q4 | ⟨q8, q9, q10⟩ <;> first | exact absurd q4 (by assumption) | omega | exact absurd (prC_0.2 q8) (by assumption))
   exact ⟨_, _, _, _, _, _, _, _, _, _, _, _, _, congrArg (fun b => Ending.returned (Value.tuple #[.agg #[.string ⟨#[]⟩, .int .i64 0, .string ⟨#[]⟩, .slice none 0 0, .slice none 0 0, .slice none 0 0, .int .i64 0], Value.bool b])) (bP_no hno), hF_83, fun h => absurd h hno⟩
  ·
   have h87 := h73.kf 33 hg74
   refine V.re h87 [] 34 35 [(36, .bool (!(bP (uhOk (at_ Rp.str (spl s) (1 : Int))))))] fun a h88 => k72 _ _ ?_
   refine V.cb h88 (!(bP (uhOk (at_ Rp.str (spl s) (1 : Int))))) (fun ht89 => ?_) (fun ht89 => ?_)
   ·
    refine V.sg fun K90 k91 => ?_
    refine V.run h88 [] 1 1 0 [(37, .agg #[.string ⟨#[]⟩, .int .i64 0, .string ⟨#[]⟩, .slice none 0 0, .slice none 0 0, .slice none 0 0, .int .i64 0])] fun a h95 => ?_
    refine V.go (V.stn b4 0 (.agg #[.string ⟨#[]⟩, .int .i64 0, .string ⟨#[]⟩, .slice none 0 0, .slice none 0 0, .slice none 0 0, .int .i64 0]) [.string ⟨#[]⟩, .int .i64 0, .string ⟨#[]⟩, .slice none 0 0, .slice none 0 0, .slice none 0 0, .int .i64 0] h95.e h95.e rfl rfl (by kernel_rfl) hB6_63 (by simp) [.string ⟨#[]⟩, .int .i64 0, .string ⟨#[]⟩, .slice none 0 0, .slice none 0 0, .slice none 0 0, .int .i64 0] rfl ?_)
    intro w92 hB93 hF94 hsw92
    have hF_96 := hF_62.own hF94 (by simp <;> omega)
    refine V.re h95 [] 1 0 [(3, .bool false)] fun a h99 => k91 _ _ ?_
    refine V.ret (V.then_r ?_)
    refine V.retCT h99.sd rfl _ (h99.e (v := (.pointer (some ⟨b4, 0, none⟩)))) (V.run_loadVar_agg (cs := [.string ⟨#[]⟩, .int .i64 0, .string ⟨#[]⟩, .slice none 0 0, .slice none 0 0, .slice none 0 0, .int .i64 0]) (by kernel_rfl) (blk_cells hB93 0 _ rfl)) (h99.e (v := (.bool false))) ?_
    have hno : ¬ rdOk s := fun hq => by
      obtain ⟨⟨q1, q2, q3, q4, q5⟩, q6, q7⟩ := hq
      first | omega | exact nb_no (by assumption) q3 | exact nb_no (by assumption) (q5 i (by omega)) | (rcases q4 with q4 | ⟨q8, q9, q10⟩ <;> first | exact absurd q4 (by assumption) | omega | exact absurd (prC_0.2 q8) (by assumption))
    exact ⟨_, _, _, _, _, _, _, _, _, _, _, _, _, congrArg (fun b => Ending.returned (Value.tuple #[.agg #[.string ⟨#[]⟩, .int .i64 0, .string ⟨#[]⟩, .slice none 0 0, .slice none 0 0, .slice none 0 0, .int .i64 0], Value.bool b])) (bP_no hno), hF_96, fun h => absurd h hno⟩
   ·
    refine V.skip ?_
    refine V.then_n (k70 _ _ ?_)
    refine V.sg fun K100 k101 => ?_
    refine V.run h88 [] 4 38 40 [(41, .agg #[.string (unhexS (at_ Rp.str (spl s) (1 : Int))), .int .i64 (kindI (at_ Rp.str (spl s) (0 : Int))), .string ⟨#[]⟩, .slice none 0 0, .slice none 0 0, .slice none 0 0, .int .i64 (-1)])] fun a h106 => ?_
    refine V.go (V.mk [] trivial (by kernel_rfl) [.string ⟨#[]⟩, .int .i64 0, .string ⟨#[]⟩, .slice none 0 0, .slice none 0 0, .slice none 0 0, .int .i64 0] 55 (fun b => .pointer (some ⟨b, 0, none⟩)) (by kernel_rfl) ?_)
    intro w103 b102 heb102 hB104 hF105 hsb102
    have hF_107 := hF_62.new hF105
    have hB6_108 := hB6_63.fr0 hF105
    have hS15_109 := hS15_64.fr0 hF105
    refine V.pt h106 fun a h113 => ?_
    refine V.go (V.stn b102 0 (.agg #[.string (unhexS (at_ Rp.str (spl s) (1 : Int))), .int .i64 (kindI (at_ Rp.str (spl s) (0 : Int))), .string ⟨#[]⟩, .slice none 0 0, .slice none 0 0, .slice none 0 0, .int .i64 (-1)]) [.string (unhexS (at_ Rp.str (spl s) (1 : Int))), .int .i64 (kindI (at_ Rp.str (spl s) (0 : Int))), .string ⟨#[]⟩, .slice none 0 0, .slice none 0 0, .slice none 0 0, .int .i64 (-1)] h113.e h113.e rfl rfl (by kernel_rfl) hB104 (by simp) [.string (unhexS (at_ Rp.str (spl s) (1 : Int))), .int .i64 (kindI (at_ Rp.str (spl s) (0 : Int))), .string ⟨#[]⟩, .slice none 0 0, .slice none 0 0, .slice none 0 0, .int .i64 (-1)] rfl ?_)
    intro w114 hB115 hF116 hsw114
    have hF_117 := hF_107.own hF116 (by simp <;> omega)
    have hB6_118 := hB6_108.fr1 hF116 (by omega)
    have hS15_119 := hS15_109.fr hF116 (by simp <;> omega)
    refine V.nt (k101 _ _ ?_)
    refine V.seq fun K121 k122 => ?_
    obtain ⟨cs125, hok126, hE127⟩ := hS15_119.els rfl (2 : Int) (by omega) (by omega)
    obtain rfl : cs125 = [.string (at_ Rp.str (spl s) (2 : Int))] := hok126
    refine V.sr h113 [(1, .ix b14 0 ((spl s).length) ((spl s).length) .i64 2 1 rfl), (0, .l ⟨b14, 0 + (2 : Int).toNat * 1, none⟩ (.string (at_ Rp.str (spl s) (2 : Int))) (hE127.at 0 rfl)), (0, .sne (at_ Rp.str (spl s) (2 : Int)) ⟨#[45]⟩)] 42 44 [(45, .bool (decide (¬ (at_ Rp.str (spl s) (2 : Int)) = ⟨#[45]⟩)))] fun a h128 => ?_
    refine V.cp h128 (¬ (at_ Rp.str (spl s) (2 : Int)) = ⟨#[45]⟩) (fun ht129 => ?_) (fun ht129 => ?_)
    ·
     refine V.sg fun K130 k131 => ?_
     refine V.run h128 [(1, .ix b14 0 ((spl s).length) ((spl s).length) .i64 2 1 rfl), (0, .l ⟨b14, 0 + (2 : Int).toNat * 1, none⟩ (.string (at_ Rp.str (spl s) (2 : Int))) (hE127.at 0 rfl))] 3 47 48 [(49, .string (at_ Rp.str (spl s) (2 : Int)))] fun a h132 => ?_
     refine V.cl h132 (Go.Proofs.enters_of Tryz.func90 (by kernel_rfl) rfl) (parse_any w114 (at_ Rp.str (spl s) (2 : Int)) (by omega) (hV.fr hF_117)) ?_
     rintro _ w134 ⟨rfl, hF133⟩
     refine ⟨_, rfl, fun a h135 => ?_⟩
     have hsw134 := hF133.size
     have hF_136 := hF_117.new hF133
     have hB6_137 := hB6_118.fr0 hF133
     have hS15_138 := hS15_119.fr0 hF133
     have hB115_140 := hB115.fr0 hF133
     refine V.re h135 [] 46 52 [(9, .int .i64 (prN (at_ Rp.str (spl s) (2 : Int)))), (10, .int .i64 (prC (at_ Rp.str (spl s) (2 : Int))))] fun a h142 => k131 _ _ ?_
     have h143 := h142.only [(0, .string s), (2, .pointer (some ⟨b4, 0, none⟩)), (4, .slice (some ⟨b14, 0, none⟩) ((spl s).length) ((spl s).length)), (8, .pointer (some ⟨b102, 0, none⟩)), (9, .int .i64 (prN (at_ Rp.str (spl s) (2 : Int)))), (10, .int .i64 (prC (at_ Rp.str (spl s) (2 : Int))))]
     refine V.seq fun K144 k145 => ?_
     refine V.sg fun K146 k147 => ?_
     refine V.run h143 [(1, .ne (prC (at_ Rp.str (spl s) (2 : Int))) 0)] 3 53 54 [(55, .bool (decide (¬ (prC (at_ Rp.str (spl s) (2 : Int))) = 0)))] fun a h148 => ?_
     by_cases hg149 : ¬ (prC (at_ Rp.str (spl s) (2 : Int))) = 0
     ·
      have h150 := h148.kt 55 hg149
      refine V.re h150 [] 56 61 [(62, .bool true)] fun a h151 => k147 _ _ ?_
      refine V.ct h151 ?_
      refine V.sg fun K152 k153 => ?_
      refine V.run h151 [] 1 1 0 [(63, .agg #[.string ⟨#[]⟩, .int .i64 0, .string ⟨#[]⟩, .slice none 0 0, .slice none 0 0, .slice none 0 0, .int .i64 0])] fun a h157 => ?_
      refine V.go (V.stn b4 0 (.agg #[.string ⟨#[]⟩, .int .i64 0, .string ⟨#[]⟩, .slice none 0 0, .slice none 0 0, .slice none 0 0, .int .i64 0]) [.string ⟨#[]⟩, .int .i64 0, .string ⟨#[]⟩, .slice none 0 0, .slice none 0 0, .slice none 0 0, .int .i64 0] h157.e h157.e rfl rfl (by kernel_rfl) hB6_137 (by simp) [.string ⟨#[]⟩, .int .i64 0, .string ⟨#[]⟩, .slice none 0 0, .slice none 0 0, .slice none 0 0, .int .i64 0] rfl ?_)
      intro w154 hB155 hF156 hsw154
      have hF_158 := hF_136.own hF156 (by simp <;> omega)
      refine V.re h157 [] 1 0 [(3, .bool false)] fun a h162 => k153 _ _ ?_
      refine V.ret (V.then_r (V.then_r ?_))
      refine V.retCT h162.sd rfl _ (h162.e (v := (.pointer (some ⟨b4, 0, none⟩)))) (V.run_loadVar_agg (cs := [.string ⟨#[]⟩, .int .i64 0, .string ⟨#[]⟩, .slice none 0 0, .slice none 0 0, .slice none 0 0, .int .i64 0]) (by kernel_rfl) (blk_cells hB155 0 _ rfl)) (h162.e (v := (.bool false))) ?_
      have hno : ¬ rdOk s := fun hq => by
        obtain ⟨⟨q1, q2, q3, q4, q5⟩, q6, q7⟩ := hq
        first | omega | exact nb_no (by assumption) q3 | exact nb_no (by assumption) (q5 i (by omega)) | (rcases q4 with q4 | ⟨q8, q9, q10⟩ <;> first | exact absurd q4 (by assumption) | omega | exact absurd (prC_0.2 q8) (by assumption))
      exact ⟨_, _, _, _, _, _, _, _, _, _, _, _, _, congrArg (fun b => Ending.returned (Value.tuple #[.agg #[.string ⟨#[]⟩, .int .i64 0, .string ⟨#[]⟩, .slice none 0 0, .slice none 0 0, .slice none 0 0, .int .i64 0], Value.bool b])) (bP_no hno), hF_158, fun h => absurd h hno⟩
     ·
      have h163 := h148.kf 55 hg149
      refine V.run h163 [] 4 56 58 [(59, .bool (decide ((prN (at_ Rp.str (spl s) (2 : Int))) < 0)))] fun a h164 => ?_
      by_cases hg165 : (prN (at_ Rp.str (spl s) (2 : Int))) < 0
      ·
       have h166 := h164.kt 59 hg165
       refine V.re h166 [] 60 61 [(62, .bool true)] fun a h167 => k147 _ _ ?_
       refine V.ct h167 ?_
       refine V.sg fun K168 k169 => ?_
       refine V.run h167 [] 1 1 0 [(63, .agg #[.string ⟨#[]⟩, .int .i64 0, .string ⟨#[]⟩, .slice none 0 0, .slice none 0 0, .slice none 0 0, .int .i64 0])] fun a h173 => ?_
       refine V.go (V.stn b4 0 (.agg #[.string ⟨#[]⟩, .int .i64 0, .string ⟨#[]⟩, .slice none 0 0, .slice none 0 0, .slice none 0 0, .int .i64 0]) [.string ⟨#[]⟩, .int .i64 0, .string ⟨#[]⟩, .slice none 0 0, .slice none 0 0, .slice none 0 0, .int .i64 0] h173.e h173.e rfl rfl (by kernel_rfl) hB6_137 (by simp) [.string ⟨#[]⟩, .int .i64 0, .string ⟨#[]⟩, .slice none 0 0, .slice none 0 0, .slice none 0 0, .int .i64 0] rfl ?_)
       intro w170 hB171 hF172 hsw170
       have hF_174 := hF_136.own hF172 (by simp <;> omega)
       refine V.re h173 [] 1 0 [(3, .bool false)] fun a h178 => k169 _ _ ?_
       refine V.ret (V.then_r (V.then_r ?_))
       refine V.retCT h178.sd rfl _ (h178.e (v := (.pointer (some ⟨b4, 0, none⟩)))) (V.run_loadVar_agg (cs := [.string ⟨#[]⟩, .int .i64 0, .string ⟨#[]⟩, .slice none 0 0, .slice none 0 0, .slice none 0 0, .int .i64 0]) (by kernel_rfl) (blk_cells hB171 0 _ rfl)) (h178.e (v := (.bool false))) ?_
       have hno : ¬ rdOk s := fun hq => by
         obtain ⟨⟨q1, q2, q3, q4, q5⟩, q6, q7⟩ := hq
         first | omega | exact nb_no (by assumption) q3 | exact nb_no (by assumption) (q5 i (by omega)) | (rcases q4 with q4 | ⟨q8, q9, q10⟩ <;> first | exact absurd q4 (by assumption) | omega | exact absurd (prC_0.2 q8) (by assumption))
       exact ⟨_, _, _, _, _, _, _, _, _, _, _, _, _, congrArg (fun b => Ending.returned (Value.tuple #[.agg #[.string ⟨#[]⟩, .int .i64 0, .string ⟨#[]⟩, .slice none 0 0, .slice none 0 0, .slice none 0 0, .int .i64 0], Value.bool b])) (bP_no hno), hF_174, fun h => absurd h hno⟩
      ·
       have h179 := h164.kf 59 hg165
       refine V.re h179 [] 60 61 [(62, .bool (decide ((prN (at_ Rp.str (spl s) (2 : Int))) > 1099511627776)))] fun a h180 => k147 _ _ ?_
       refine V.cp h180 ((prN (at_ Rp.str (spl s) (2 : Int))) > 1099511627776) (fun ht181 => ?_) (fun ht181 => ?_)
       ·
        refine V.sg fun K182 k183 => ?_
        refine V.run h180 [] 1 1 0 [(63, .agg #[.string ⟨#[]⟩, .int .i64 0, .string ⟨#[]⟩, .slice none 0 0, .slice none 0 0, .slice none 0 0, .int .i64 0])] fun a h187 => ?_
        refine V.go (V.stn b4 0 (.agg #[.string ⟨#[]⟩, .int .i64 0, .string ⟨#[]⟩, .slice none 0 0, .slice none 0 0, .slice none 0 0, .int .i64 0]) [.string ⟨#[]⟩, .int .i64 0, .string ⟨#[]⟩, .slice none 0 0, .slice none 0 0, .slice none 0 0, .int .i64 0] h187.e h187.e rfl rfl (by kernel_rfl) hB6_137 (by simp) [.string ⟨#[]⟩, .int .i64 0, .string ⟨#[]⟩, .slice none 0 0, .slice none 0 0, .slice none 0 0, .int .i64 0] rfl ?_)
        intro w184 hB185 hF186 hsw184
        have hF_188 := hF_136.own hF186 (by simp <;> omega)
        refine V.re h187 [] 1 0 [(3, .bool false)] fun a h192 => k183 _ _ ?_
        refine V.ret (V.then_r (V.then_r ?_))
        refine V.retCT h192.sd rfl _ (h192.e (v := (.pointer (some ⟨b4, 0, none⟩)))) (V.run_loadVar_agg (cs := [.string ⟨#[]⟩, .int .i64 0, .string ⟨#[]⟩, .slice none 0 0, .slice none 0 0, .slice none 0 0, .int .i64 0]) (by kernel_rfl) (blk_cells hB185 0 _ rfl)) (h192.e (v := (.bool false))) ?_
        have hno : ¬ rdOk s := fun hq => by
          obtain ⟨⟨q1, q2, q3, q4, q5⟩, q6, q7⟩ := hq
          first | omega | exact nb_no (by assumption) q3 | exact nb_no (by assumption) (q5 i (by omega)) | (rcases q4 with q4 | ⟨q8, q9, q10⟩ <;> first | exact absurd q4 (by assumption) | omega | exact absurd (prC_0.2 q8) (by assumption))
        exact ⟨_, _, _, _, _, _, _, _, _, _, _, _, _, congrArg (fun b => Ending.returned (Value.tuple #[.agg #[.string ⟨#[]⟩, .int .i64 0, .string ⟨#[]⟩, .slice none 0 0, .slice none 0 0, .slice none 0 0, .int .i64 0], Value.bool b])) (bP_no hno), hF_188, fun h => absurd h hno⟩
       ·
        refine V.skip ?_
        refine V.then_n (k145 _ _ ?_)
        refine V.rg ?_
        refine V.run h180 [] 2 1 0 [(64, .int .i64 (prN (at_ Rp.str (spl s) (2 : Int)))), (65, .pointer (some ⟨b102, 6, none⟩))] fun a h196 => ?_
        refine V.go (V.stn b102 6 (.int .i64 (prN (at_ Rp.str (spl s) (2 : Int)))) [.int .i64 (prN (at_ Rp.str (spl s) (2 : Int)))] h196.e h196.e rfl rfl (by kernel_rfl) hB115_140 (by simp) [.string (unhexS (at_ Rp.str (spl s) (1 : Int))), .int .i64 (kindI (at_ Rp.str (spl s) (0 : Int))), .string ⟨#[]⟩, .slice none 0 0, .slice none 0 0, .slice none 0 0, .int .i64 (prN (at_ Rp.str (spl s) (2 : Int)))] rfl ?_)
        intro w193 hB194 hF195 hsw193
        have hF_197 := hF_136.own hF195 (by simp <;> omega)
        have hB6_198 := hB6_137.fr1 hF195 (by omega)
        have hS15_199 := hS15_138.fr hF195 (by simp <;> omega)
        refine V.nt (k122 _ _ ?_)
        refine V.seq fun K201 k202 => ?_
        have hS205 := hS15_199.dr (i := 3) (by omega)
        refine V.sr h196 [(1, .cutE (some ⟨b14, 0, none⟩) ((spl s).length) ((spl s).length) 3 3 1)] 66 66 [(67, .slice (cutA (some ⟨b14, 0, none⟩) 3 ((spl s).length) 1) (((spl s).length) - 3) (((spl s).length) - 3)), (68, .int .i64 ((((spl s).length) - 3 : Nat) : Int)), (69, .int .i64 0)] fun a h206 => ?_
        refine V.block ?_
        have hE207 : EnB w193 b102 (⟨unhexS (at_ Rp.str (spl s) (1 : Int)), kindI (at_ Rp.str (spl s) (0 : Int)), ⟨#[]⟩, [], [], [], prN (at_ Rp.str (spl s) (2 : Int))⟩ : EnD) := enB_new hB194
        refine V.loop1 (fun (i : Nat) a_ w_ => En 88 [] a_ [(0, .string s), (2, .pointer (some ⟨b4, 0, none⟩)), (8, .pointer (some ⟨b102, 0, none⟩)), (67, .slice (cutA (some ⟨b14, 0, none⟩) 3 ((spl s).length) 1) (((spl s).length) - 3) (((spl s).length) - 3)), (68, .int .i64 ((((spl s).length) - 3 : Nat) : Int)), (69, .int .i64 (i : Int))] ∧ EnB w_ b102 ((((spl s).drop 3).take i).foldl ptE (⟨unhexS (at_ Rp.str (spl s) (1 : Int)), kindI (at_ Rp.str (spl s) (0 : Int)), ⟨#[]⟩, [], [], [], prN (at_ Rp.str (spl s) (2 : Int))⟩ : EnD)) ∧ Fr [] w w_ ∧ Blk w_ b4 [.string ⟨#[]⟩, .int .i64 0, .string ⟨#[]⟩, .slice none 0 0, .slice none 0 0, .slice none 0 0, .int .i64 0] 55 ∧ SlR Rp.str (fun k => w5.heap.size ≤ k ∧ k < w17.heap.size) w_ (.slice (some ⟨b14, 0, none⟩) ((spl s).length) ((spl s).length)) (spl s) ∧ SlR Rp.str (fun k => w5.heap.size ≤ k ∧ k < w17.heap.size) w_ (.slice (cutA (some ⟨b14, 0, none⟩) 3 ((spl s).length) 1) (((spl s).length) - 3) (((spl s).length) - 3)) ((spl s).drop 3) ∧ (i ≤ (spl s).length - 3) ∧ (AllG (gP s) i)) (fun (i : Nat) => (spl s).length - i) 0 ?_ ?_
        ·
         refine ⟨(h206.eq 69 (v := (.int .i64 0)) (u := (.int .i64 (0 : Int))) (V.int_eq (by omega))).only _, hE207, hF_197, hB6_198, hS15_199, hS205, (by omega), (AllG.zero _)⟩
        ·
         rintro i a208 w209 ⟨h210, hE_211, hF_212, hB6_213, hS15_214, hS205_215, hi, hG⟩
         have hfs216 := hF_212.size
         have hlt217 := hB6_213.lt
         have hbd := fold_bd (((spl s).drop 3).take i) (⟨unhexS (at_ Rp.str (spl s) (1 : Int)), kindI (at_ Rp.str (spl s) (0 : Int)), ⟨#[]⟩, [], [], [], prN (at_ Rp.str (spl s) (2 : Int))⟩ : EnD) 0 (bd0 _ _ _ _) (fun x hx => by have := wd3_size (List.mem_of_mem_take hx); omega)
         have htl : (((spl s).drop 3).take i).length ≤ i := List.length_take_le ..
         have hsl := spl_le s
         have hdl : ((spl s).drop 3).length = (spl s).length - 3 := List.length_drop
         obtain ⟨hb1, hb2, hb3, hbx⟩ := hbd
         refine V.sr h210 [] 1 0 [(70, .bool (decide ((i : Int) < ((((spl s).length) - 3 : Nat) : Int))))] fun a h220 => ?_
         refine V.seq fun K221 k222 => ?_
         refine V.cp h220 ((i : Int) < ((((spl s).length) - 3 : Nat) : Int)) (fun ht223 => ?_) (fun ht223 => ?_)
         ·
          refine V.skip ?_
          refine V.then_n (k222 _ _ ?_)
          refine V.seq fun K224 k225 => ?_
          refine V.block ?_
          obtain ⟨g228, o229, hA230, hA230l, hA230z⟩ := hS205_215.addr (by omega)
          try dsimp only at hA230z
          obtain ⟨cs231, hok232, hE233⟩ := hS205_215.els hA230 (i : Int) (by omega) (by omega)
          obtain rfl : cs231 = [.string (at_ Rp.str ((spl s).drop 3) (i : Int))] := hok232
          refine V.sr h220 [(0, .ix g228 o229 (((spl s).length) - 3) (((spl s).length) - 3) .i64 (i : Int) 1 hA230), (0, .l ⟨g228, o229 + (i : Int).toNat * 1, none⟩ (.string (at_ Rp.str ((spl s).drop 3) (i : Int))) (hE233.at 0 rfl))] 71 72 [(12, .string (at_ Rp.str ((spl s).drop 3) (i : Int)))] fun a h234 => ?_
          refine V.seq fun K235 k236 => ?_
          have hxs := wd3_size (at_in Rp.str (l := ((spl s).drop 3)) (i := i) (by rw [List.length_drop]; omega))
          refine V.rg ?_
          refine V.run h234 [] 2 1 0 [(73, .pointer (some ⟨b102, 1, none⟩)), (74, .string (at_ Rp.str ((spl s).drop 3) (i : Int)))] fun a h237 => ?_
          refine V.cl (av := #[.pointer (some ⟨b102, 1, none⟩), .string (at_ Rp.str ((spl s).drop 3) (i : Int))]) h237 (Go.Proofs.enters_of Tryz.func91 (by kernel_rfl) rfl) (by have h := part_any w209 b102 ((((spl s).drop 3).take i).foldl ptE (⟨unhexS (at_ Rp.str (spl s) (1 : Int)), kindI (at_ Rp.str (spl s) (0 : Int)), ⟨#[]⟩, [], [], [], prN (at_ Rp.str (spl s) (2 : Int))⟩ : EnD)) (at_ Rp.str ((spl s).drop 3) (i : Int)) hE_211 (by omega) (by omega) (by omega) (by omega) (by omega) (hV.fr hF_212); rw [(fold_k _ _).1] at h; exact h) ?_
          rintro _ w240 ⟨rfl, hq238, hL239⟩
          refine ⟨_, rfl, fun a h241 => ?_⟩
          have hsw240 := hL239.size
          have hF_242 := V.Fr.bel hF_212 hL239 (by omega)
          have hB6_243 := hB6_213.below hL239 (by omega)
          have hS15_244 := hS15_214.mono (fun k hk hz => ⟨hz, hL239.block k (by (try dsimp only at hz); omega)⟩) hL239.size
          have hS205_245 := hS205_215.mono (fun k hk hz => ⟨hz, hL239.block k (by (try dsimp only at hz); omega)⟩) hL239.size
          refine V.re h241 [] 1 0 [(76, .bool (!(bP (ptOk (kindI (at_ Rp.str (spl s) 0)) (at_ Rp.str ((spl s).drop 3) (i : Int))))))] fun a h246 => k236 _ _ ?_
          refine V.cb h246 (!(bP (ptOk (kindI (at_ Rp.str (spl s) 0)) (at_ Rp.str ((spl s).drop 3) (i : Int))))) (fun ht247 => ?_) (fun ht247 => ?_)
          ·
           refine V.sg fun K248 k249 => ?_
           refine V.run h246 [] 1 1 0 [(77, .agg #[.string ⟨#[]⟩, .int .i64 0, .string ⟨#[]⟩, .slice none 0 0, .slice none 0 0, .slice none 0 0, .int .i64 0])] fun a h253 => ?_
           refine V.go (V.stn b4 0 (.agg #[.string ⟨#[]⟩, .int .i64 0, .string ⟨#[]⟩, .slice none 0 0, .slice none 0 0, .slice none 0 0, .int .i64 0]) [.string ⟨#[]⟩, .int .i64 0, .string ⟨#[]⟩, .slice none 0 0, .slice none 0 0, .slice none 0 0, .int .i64 0] h253.e h253.e rfl rfl (by kernel_rfl) hB6_243 (by simp) [.string ⟨#[]⟩, .int .i64 0, .string ⟨#[]⟩, .slice none 0 0, .slice none 0 0, .slice none 0 0, .int .i64 0] rfl ?_)
           intro w250 hB251 hF252 hsw250
           have hF_254 := hF_242.own hF252 (by simp <;> omega)
           refine V.re h253 [] 1 0 [(3, .bool false)] fun a h257 => k249 _ _ ?_
           refine V.ret (V.blk_r (V.then_r (V.then_r (V.blk_r (V.then_r ?_)))))
           refine V.retCT h257.sd rfl _ (h257.e (v := (.pointer (some ⟨b4, 0, none⟩)))) (V.run_loadVar_agg (cs := [.string ⟨#[]⟩, .int .i64 0, .string ⟨#[]⟩, .slice none 0 0, .slice none 0 0, .slice none 0 0, .int .i64 0]) (by kernel_rfl) (blk_cells hB251 0 _ rfl)) (h257.e (v := (.bool false))) ?_
           have hno : ¬ rdOk s := fun hq => by
             obtain ⟨⟨q1, q2, q3, q4, q5⟩, q6, q7⟩ := hq
             first | omega | exact nb_no (by assumption) q3 | exact nb_no (by assumption) (q5 i (by omega)) | (rcases q4 with q4 | ⟨q8, q9, q10⟩ <;> first | exact absurd q4 (by assumption) | omega | exact absurd (prC_0.2 q8) (by assumption))
           exact ⟨_, _, _, _, _, _, _, _, _, _, _, _, _, congrArg (fun b => Ending.returned (Value.tuple #[.agg #[.string ⟨#[]⟩, .int .i64 0, .string ⟨#[]⟩, .slice none 0 0, .slice none 0 0, .slice none 0 0, .int .i64 0], Value.bool b])) (bP_no hno), hF_254, fun h => absurd h hno⟩
          ·
           refine V.skip (V.blk_n ?_)
           refine V.then_n (k225 _ _ ?_)
           refine V.rr h246 [(0, .i ((i : Int) + 1))] 78 78 [(69, .int .i64 ((i : Int) + 1))] fun a h258 => ?_
           refine V.then_n ?_
           refine ⟨i + 1, by omega, ?_⟩
           refine ⟨(h258.eq 69 (v := (.int .i64 ((i : Int) + 1))) (u := (.int .i64 ((i + 1) : Int))) (V.int_eq (by omega))).only _, (by rw [fold_next _ (by rw [List.length_drop]; omega)]; exact hq238 (nb_yes (by assumption))), hF_242, hB6_243, hS15_244, hS205_245, (by omega), (hG.step (nb_yes (by assumption)))⟩
         ·
          refine V.exit (V.then_e (V.then_e (V.blk_hit ?_)))
          refine V.then_n (k202 _ _ ?_)
          refine V.seq fun K259 k260 => ?_
          obtain ⟨X, hX⟩ : ∃ X, X = ((((spl s).drop 3).take i).foldl ptE (⟨unhexS (at_ Rp.str (spl s) (1 : Int)), kindI (at_ Rp.str (spl s) (0 : Int)), ⟨#[]⟩, [], [], [], prN (at_ Rp.str (spl s) (2 : Int))⟩ : EnD)) := ⟨_, rfl⟩
          have hbX : BdE X (0 + (((spl s).drop 3).take i).length) := hX ▸ ⟨hb1, hb2, hb3, hbx⟩
          obtain ⟨hX1, hX2, hX3, hX4⟩ := hbX
          obtain ⟨Al261, cl262, Az263, cz264, Ah265, ch266, hB267, hO268, hO269, hO270, -⟩ := (show EnB w209 b102 X from hX ▸ hE_211)
          have hS271 := hO268.read (Z' := fun k => b102 + 1 ≤ k) (fun _ _ q => q.elim) (fun _ q _ => q)
          have hS272 := hO269.read (Z' := fun k => b102 + 1 ≤ k) (fun _ _ q => q.elim) (fun _ q _ => q)
          have hS273 := hO270.read (Z' := fun k => b102 + 1 ≤ k) (fun _ _ q => q.elim) (fun _ q _ => q)
          refine V.pl [([0,1],some (2,[0])),([3,4,6],some (5,[0])),([7,8],some (9,[])),([10],none)] fun w274 hF275 hsw274 => ?_
          have hF_276 := hF_212.new hF275
          have hB6_277 := hB6_213.fr0 hF275
          have hB267_280 := hB267.fr0 hF275
          have hS271_281 := hS271.fr0 hF275
          have hS272_282 := hS272.fr0 hF275
          have hS273_283 := hS273.fr0 hF275
          refine V.pe h220 [(0, .bs hB267_280 0 [.string X.key, .int .i64 X.k, .string X.s, .slice Al261 X.l.length cl262, .slice Az263 X.z.length cz264, .slice Ah265 X.h.length ch266, .int .i64 X.till]), (0, .bs hB267_280 0 [.string X.key, .int .i64 X.k, .string X.s, .slice Al261 X.l.length cl262, .slice Az263 X.z.length cz264, .slice Ah265 X.h.length ch266, .int .i64 X.till])] 1 0 [(79, .agg #[.string X.key, .int .i64 X.k, .string X.s, .slice Al261 X.l.length cl262, .slice Az263 X.z.length cz264, .slice Ah265 X.h.length ch266, .int .i64 X.till]), (80, .agg #[.string X.key, .int .i64 X.k, .string X.s, .slice Al261 X.l.length cl262, .slice Az263 X.z.length cz264, .slice Ah265 X.h.length ch266, .int .i64 X.till])] fun a h284 => ?_
          refine V.cl h284 (Go.Proofs.enters_of Tryz.func54 (by kernel_rfl) rfl) (entry_any w274 X.key X.k X.s Al261 cl262 X.l hS271_281.old Az263 cz264 X.z hS272_282.old Ah265 ch266 X.h hS273_283.old X.till (by omega) (by omega) (by omega) (fun y hy => by have := (hX4 y hy).1; unfold maxLen; omega)) ?_
          rintro _ w286 ⟨rfl, hF285⟩
          refine ⟨_, rfl, fun a h287 => ?_⟩
          have hsw286 := hF285.size
          have hF_288 := hF_276.new hF285
          have hB6_289 := hB6_277.fr0 hF285
          have hB267_292 := hB267_280.fr0 hF285
          have hS271_293 := hS271_281.fr0 hF285
          have hS272_294 := hS272_282.fr0 hF285
          have hS273_295 := hS273_283.fr0 hF285
          refine V.eh (fun _ => held_blk (n := 7) (hx := (h284.e (v := (.pointer (some ⟨b102, 0, none⟩))))) hB267_280 hB267_292 (by kernel_rfl) rfl (by simp only [List.length]; omega)) ?_
          refine V.pe0 ?_
          refine V.run h287 [] 1 1 0 [(82, .bool (bP (okE X.key X.till (okV X.k X.s X.l X.z X.h))))] fun a h296 => ?_
          by_cases hg297 : (bP (okE X.key X.till (okV X.k X.s X.l X.z X.h))) = true
          ·
           have h298 := h296.kbt 82 hg297
           refine V.se h298 [(0, .bs hB267_292 0 [.string X.key, .int .i64 X.k, .string X.s, .slice Al261 X.l.length cl262, .slice Az263 X.z.length cz264, .slice Ah265 X.h.length ch266, .int .i64 X.till])] 1 0 [(83, .agg #[.string X.key, .int .i64 X.k, .string X.s, .slice Al261 X.l.length cl262, .slice Az263 X.z.length cz264, .slice Ah265 X.h.length ch266, .int .i64 X.till]), (85, .string s)] fun a h299 => ?_
           obtain ⟨hek, het, heh⟩ := ent_good (x := X) (bP_of (by assumption)) ⟨hX1, hX2, hX3, hX4⟩
           have hll301 := lnD_len (k := X.k) hek het heh
           refine V.clg h299 (Go.Proofs.enters_of Tryz.func36 (by kernel_rfl) rfl) (line_any w286 X.key X.k X.s Al261 cl262 X.l hS271_293.old Az263 cz264 X.z hS272_294.old Ah265 ch266 X.h hS273_295.old X.till hek het heh (hV.fr hF_288)) ?_
           rintro _ w302 ⟨rfl, hF300⟩
           refine ⟨_, rfl, fun a h303 => ?_⟩
           have hsw302 := hF300.size
           have hF_304 := hF_288.new hF300
           have hB6_305 := hB6_289.fr0 hF300
           have hB267_308 := hB267_292.fr0 hF300
           have hS271_309 := hS271_293.fr0 hF300
           have hS272_310 := hS272_294.fr0 hF300
           have hS273_311 := hS273_295.fr0 hF300
           refine V.eh (fun _ => held_blk (n := 7) (hx := (h299.e (v := (.pointer (some ⟨b102, 0, none⟩))))) hB267_292 hB267_308 (by kernel_rfl) rfl (by simp only [List.length]; omega)) ?_
           refine V.pe h303 [(0, .seq (lnD X.key X.k X.s X.l X.z X.h X.till) s)] 86 86 [(87, .bool (decide ((lnD X.key X.k X.s X.l X.z X.h X.till) = s)))] fun a h312 => ?_
           refine V.go (V.stn b4 0 (.agg #[.string X.key, .int .i64 X.k, .string X.s, .slice Al261 X.l.length cl262, .slice Az263 X.z.length cz264, .slice Ah265 X.h.length ch266, .int .i64 X.till]) [.string X.key, .int .i64 X.k, .string X.s, .slice Al261 X.l.length cl262, .slice Az263 X.z.length cz264, .slice Ah265 X.h.length ch266, .int .i64 X.till] h312.e h312.e rfl rfl (by kernel_rfl) hB6_305 (by simp) [.string X.key, .int .i64 X.k, .string X.s, .slice Al261 X.l.length cl262, .slice Az263 X.z.length cz264, .slice Ah265 X.h.length ch266, .int .i64 X.till] rfl ?_)
           intro w313 hB314 hF315 hsw313
           have hF_316 := hF_304.own hF315 (by simp <;> omega)
           have hS271_320 := hS271_309.fr hF315 (by simp <;> omega)
           have hS272_321 := hS272_310.fr hF315 (by simp <;> omega)
           have hS273_322 := hS273_311.fr hF315 (by simp <;> omega)
           refine V.eh trivial ?_
           refine V.pz h312 [] 1 0 [(3, .bool (decide ((lnD X.key X.k X.s X.l X.z X.h X.till) = s)))] fun a h323 => k260 _ _ ?_
           refine V.ret ?_
           refine V.retCT h323.sd rfl _ (h323.e (v := (.pointer (some ⟨b4, 0, none⟩)))) (V.run_loadVar_agg (cs := [.string X.key, .int .i64 X.k, .string X.s, .slice Al261 X.l.length cl262, .slice Az263 X.z.length cz264, .slice Ah265 X.h.length ch266, .int .i64 X.till]) (by kernel_rfl) (blk_cells hB314 0 _ rfl)) (h323.e (v := (.bool (decide ((lnD X.key X.k X.s X.l X.z X.h X.till) = s))))) ?_
           have hXe : X = rdE s := by rw [hX, List.take_of_length_le (by rw [List.length_drop]; omega)]; unfold rdE rdE0 tillD; first | rw [if_pos (by first | assumption | exact Decidable.of_not_not (by assumption))] | rw [if_neg (by assumption)]
           have hpre : rdPre s := ⟨by omega, by omega, nb_yes (by assumption), by first | exact .inl (by assumption) | exact .inl (Decidable.of_not_not (by assumption)) | exact .inr ⟨prC_0.1 (by first | assumption | omega), by omega, by omega⟩, hG.le (by omega)⟩
           have hbb : (decide ((lnD X.key X.k X.s X.l X.z X.h X.till) = s)) = bP (rdOk s) := bP_dec.trans (congrArg bP (propext ⟨fun q => ⟨hpre, hXe ▸ (bP_of (by assumption) : okD X), hXe ▸ q⟩, fun q => hXe.symm ▸ q.2.2⟩))
           exact ⟨_, _, _, _, _, _, _, _, _, _, _, _, _, congrArg (fun b => Ending.returned (Value.tuple #[.agg #[.string X.key, .int .i64 X.k, .string X.s, .slice Al261 X.l.length cl262, .slice Az263 X.z.length cz264, .slice Ah265 X.h.length ch266, .int .i64 X.till], Value.bool b])) hbb, hF_316, fun _ => hXe ▸ (⟨_, _, _, rfl, hS271_320.zone (fun k _ h => by (try dsimp only at h); omega), hS272_321.zone (fun k _ h => by (try dsimp only at h); omega), hS273_322.zone (fun k _ h => by (try dsimp only at h); omega)⟩ : enR.ok _ _ X _)⟩
          ·
           have h324 := h296.kbf 82 hg297
           refine V.se h324 [] 1 0 [(83, undef), (85, undef)] fun a h325 => ?_
           refine V.run h325 [] 1 1 0 [(84, undef)] fun a h326 => ?_
           refine V.eh (fun _ => held_blk (n := 7) (hx := (h325.e (v := (.pointer (some ⟨b102, 0, none⟩))))) hB267_292 hB267_292 (by kernel_rfl) rfl (by simp only [List.length]; omega)) ?_
           refine V.pe h326 [] 86 86 [(87, .bool false)] fun a h327 => ?_
           refine V.go (V.stn b4 0 (.agg #[.string X.key, .int .i64 X.k, .string X.s, .slice Al261 X.l.length cl262, .slice Az263 X.z.length cz264, .slice Ah265 X.h.length ch266, .int .i64 X.till]) [.string X.key, .int .i64 X.k, .string X.s, .slice Al261 X.l.length cl262, .slice Az263 X.z.length cz264, .slice Ah265 X.h.length ch266, .int .i64 X.till] h327.e h327.e rfl rfl (by kernel_rfl) hB6_289 (by simp) [.string X.key, .int .i64 X.k, .string X.s, .slice Al261 X.l.length cl262, .slice Az263 X.z.length cz264, .slice Ah265 X.h.length ch266, .int .i64 X.till] rfl ?_)
           intro w328 hB329 hF330 hsw328
           have hF_331 := hF_288.own hF330 (by simp <;> omega)
           have hS271_335 := hS271_293.fr hF330 (by simp <;> omega)
           have hS272_336 := hS272_294.fr hF330 (by simp <;> omega)
           have hS273_337 := hS273_295.fr hF330 (by simp <;> omega)
           refine V.eh trivial ?_
           refine V.pz h327 [] 1 0 [(3, .bool false)] fun a h338 => k260 _ _ ?_
           refine V.ret ?_
           refine V.retCT h338.sd rfl _ (h338.e (v := (.pointer (some ⟨b4, 0, none⟩)))) (V.run_loadVar_agg (cs := [.string X.key, .int .i64 X.k, .string X.s, .slice Al261 X.l.length cl262, .slice Az263 X.z.length cz264, .slice Ah265 X.h.length ch266, .int .i64 X.till]) (by kernel_rfl) (blk_cells hB329 0 _ rfl)) (h338.e (v := (.bool false))) ?_
           have hXe : X = rdE s := by rw [hX, List.take_of_length_le (by rw [List.length_drop]; omega)]; unfold rdE rdE0 tillD; first | rw [if_pos (by first | assumption | exact Decidable.of_not_not (by assumption))] | rw [if_neg (by assumption)]
           have hpre : rdPre s := ⟨by omega, by omega, nb_yes (by assumption), by first | exact .inl (by assumption) | exact .inl (Decidable.of_not_not (by assumption)) | exact .inr ⟨prC_0.1 (by first | assumption | omega), by omega, by omega⟩, hG.le (by omega)⟩
           have hbb : false = bP (rdOk s) := bP_no (fun hq => absurd (bP_yes (show okE X.key X.till (okV X.k X.s X.l X.z X.h) from hXe ▸ hq.2.1)).symm (by assumption))
           exact ⟨_, _, _, _, _, _, _, _, _, _, _, _, _, congrArg (fun b => Ending.returned (Value.tuple #[.agg #[.string X.key, .int .i64 X.k, .string X.s, .slice Al261 X.l.length cl262, .slice Az263 X.z.length cz264, .slice Ah265 X.h.length ch266, .int .i64 X.till], Value.bool b])) hbb, hF_331, fun _ => hXe ▸ (⟨_, _, _, rfl, hS271_335.zone (fun k _ h => by (try dsimp only at h); omega), hS272_336.zone (fun k _ h => by (try dsimp only at h); omega), hS273_337.zone (fun k _ h => by (try dsimp only at h); omega)⟩ : enR.ok _ _ X _)⟩
    ·
     refine V.skip ?_
     refine V.then_n (k122 _ _ ?_)
     refine V.seq fun K339 k340 => ?_
     have hS343 := hS15_119.dr (i := 3) (by omega)
     refine V.sr h128 [(1, .cutE (some ⟨b14, 0, none⟩) ((spl s).length) ((spl s).length) 3 3 1)] 66 66 [(67, .slice (cutA (some ⟨b14, 0, none⟩) 3 ((spl s).length) 1) (((spl s).length) - 3) (((spl s).length) - 3)), (68, .int .i64 ((((spl s).length) - 3 : Nat) : Int)), (69, .int .i64 0)] fun a h344 => ?_
     refine V.block ?_
     have hE345 : EnB w114 b102 (⟨unhexS (at_ Rp.str (spl s) (1 : Int)), kindI (at_ Rp.str (spl s) (0 : Int)), ⟨#[]⟩, [], [], [], (-1)⟩ : EnD) := enB_new hB115
     refine V.loop1 (fun (i : Nat) a_ w_ => En 88 [] a_ [(0, .string s), (2, .pointer (some ⟨b4, 0, none⟩)), (8, .pointer (some ⟨b102, 0, none⟩)), (67, .slice (cutA (some ⟨b14, 0, none⟩) 3 ((spl s).length) 1) (((spl s).length) - 3) (((spl s).length) - 3)), (68, .int .i64 ((((spl s).length) - 3 : Nat) : Int)), (69, .int .i64 (i : Int))] ∧ EnB w_ b102 ((((spl s).drop 3).take i).foldl ptE (⟨unhexS (at_ Rp.str (spl s) (1 : Int)), kindI (at_ Rp.str (spl s) (0 : Int)), ⟨#[]⟩, [], [], [], (-1)⟩ : EnD)) ∧ Fr [] w w_ ∧ Blk w_ b4 [.string ⟨#[]⟩, .int .i64 0, .string ⟨#[]⟩, .slice none 0 0, .slice none 0 0, .slice none 0 0, .int .i64 0] 55 ∧ SlR Rp.str (fun k => w5.heap.size ≤ k ∧ k < w17.heap.size) w_ (.slice (some ⟨b14, 0, none⟩) ((spl s).length) ((spl s).length)) (spl s) ∧ SlR Rp.str (fun k => w5.heap.size ≤ k ∧ k < w17.heap.size) w_ (.slice (cutA (some ⟨b14, 0, none⟩) 3 ((spl s).length) 1) (((spl s).length) - 3) (((spl s).length) - 3)) ((spl s).drop 3) ∧ (i ≤ (spl s).length - 3) ∧ (AllG (gP s) i)) (fun (i : Nat) => (spl s).length - i) 0 ?_ ?_
     ·
      refine ⟨(h344.eq 69 (v := (.int .i64 0)) (u := (.int .i64 (0 : Int))) (V.int_eq (by omega))).only _, hE345, hF_117, hB6_118, hS15_119, hS343, (by omega), (AllG.zero _)⟩
     ·
      rintro i a346 w347 ⟨h348, hE_349, hF_350, hB6_351, hS15_352, hS343_353, hi, hG⟩
      have hfs354 := hF_350.size
      have hlt355 := hB6_351.lt
      have hbd := fold_bd (((spl s).drop 3).take i) (⟨unhexS (at_ Rp.str (spl s) (1 : Int)), kindI (at_ Rp.str (spl s) (0 : Int)), ⟨#[]⟩, [], [], [], (-1)⟩ : EnD) 0 (bd0 _ _ _ _) (fun x hx => by have := wd3_size (List.mem_of_mem_take hx); omega)
      have htl : (((spl s).drop 3).take i).length ≤ i := List.length_take_le ..
      have hsl := spl_le s
      have hdl : ((spl s).drop 3).length = (spl s).length - 3 := List.length_drop
      obtain ⟨hb1, hb2, hb3, hbx⟩ := hbd
      refine V.sr h348 [] 1 0 [(70, .bool (decide ((i : Int) < ((((spl s).length) - 3 : Nat) : Int))))] fun a h358 => ?_
      refine V.seq fun K359 k360 => ?_
      refine V.cp h358 ((i : Int) < ((((spl s).length) - 3 : Nat) : Int)) (fun ht361 => ?_) (fun ht361 => ?_)
      ·
       refine V.skip ?_
       refine V.then_n (k360 _ _ ?_)
       refine V.seq fun K362 k363 => ?_
       refine V.block ?_
       obtain ⟨g366, o367, hA368, hA368l, hA368z⟩ := hS343_353.addr (by omega)
       try dsimp only at hA368z
       obtain ⟨cs369, hok370, hE371⟩ := hS343_353.els hA368 (i : Int) (by omega) (by omega)
       obtain rfl : cs369 = [.string (at_ Rp.str ((spl s).drop 3) (i : Int))] := hok370
       refine V.sr h358 [(0, .ix g366 o367 (((spl s).length) - 3) (((spl s).length) - 3) .i64 (i : Int) 1 hA368), (0, .l ⟨g366, o367 + (i : Int).toNat * 1, none⟩ (.string (at_ Rp.str ((spl s).drop 3) (i : Int))) (hE371.at 0 rfl))] 71 72 [(12, .string (at_ Rp.str ((spl s).drop 3) (i : Int)))] fun a h372 => ?_
       refine V.seq fun K373 k374 => ?_
       have hxs := wd3_size (at_in Rp.str (l := ((spl s).drop 3)) (i := i) (by rw [List.length_drop]; omega))
       refine V.rg ?_
       refine V.run h372 [] 2 1 0 [(73, .pointer (some ⟨b102, 1, none⟩)), (74, .string (at_ Rp.str ((spl s).drop 3) (i : Int)))] fun a h375 => ?_
       refine V.cl (av := #[.pointer (some ⟨b102, 1, none⟩), .string (at_ Rp.str ((spl s).drop 3) (i : Int))]) h375 (Go.Proofs.enters_of Tryz.func91 (by kernel_rfl) rfl) (by have h := part_any w347 b102 ((((spl s).drop 3).take i).foldl ptE (⟨unhexS (at_ Rp.str (spl s) (1 : Int)), kindI (at_ Rp.str (spl s) (0 : Int)), ⟨#[]⟩, [], [], [], (-1)⟩ : EnD)) (at_ Rp.str ((spl s).drop 3) (i : Int)) hE_349 (by omega) (by omega) (by omega) (by omega) (by omega) (hV.fr hF_350); rw [(fold_k _ _).1] at h; exact h) ?_
       rintro _ w378 ⟨rfl, hq376, hL377⟩
       refine ⟨_, rfl, fun a h379 => ?_⟩
       have hsw378 := hL377.size
       have hF_380 := V.Fr.bel hF_350 hL377 (by omega)
       have hB6_381 := hB6_351.below hL377 (by omega)
       have hS15_382 := hS15_352.mono (fun k hk hz => ⟨hz, hL377.block k (by (try dsimp only at hz); omega)⟩) hL377.size
       have hS343_383 := hS343_353.mono (fun k hk hz => ⟨hz, hL377.block k (by (try dsimp only at hz); omega)⟩) hL377.size
       refine V.re h379 [] 1 0 [(76, .bool (!(bP (ptOk (kindI (at_ Rp.str (spl s) 0)) (at_ Rp.str ((spl s).drop 3) (i : Int))))))] fun a h384 => k374 _ _ ?_
       refine V.cb h384 (!(bP (ptOk (kindI (at_ Rp.str (spl s) 0)) (at_ Rp.str ((spl s).drop 3) (i : Int))))) (fun ht385 => ?_) (fun ht385 => ?_)
       ·
        refine V.sg fun K386 k387 => ?_
        refine V.run h384 [] 1 1 0 [(77, .agg #[.string ⟨#[]⟩, .int .i64 0, .string ⟨#[]⟩, .slice none 0 0, .slice none 0 0, .slice none 0 0, .int .i64 0])] fun a h391 => ?_
        refine V.go (V.stn b4 0 (.agg #[.string ⟨#[]⟩, .int .i64 0, .string ⟨#[]⟩, .slice none 0 0, .slice none 0 0, .slice none 0 0, .int .i64 0]) [.string ⟨#[]⟩, .int .i64 0, .string ⟨#[]⟩, .slice none 0 0, .slice none 0 0, .slice none 0 0, .int .i64 0] h391.e h391.e rfl rfl (by kernel_rfl) hB6_381 (by simp) [.string ⟨#[]⟩, .int .i64 0, .string ⟨#[]⟩, .slice none 0 0, .slice none 0 0, .slice none 0 0, .int .i64 0] rfl ?_)
        intro w388 hB389 hF390 hsw388
        have hF_392 := hF_380.own hF390 (by simp <;> omega)
        refine V.re h391 [] 1 0 [(3, .bool false)] fun a h395 => k387 _ _ ?_
        refine V.ret (V.blk_r (V.then_r (V.then_r (V.blk_r (V.then_r ?_)))))
        refine V.retCT h395.sd rfl _ (h395.e (v := (.pointer (some ⟨b4, 0, none⟩)))) (V.run_loadVar_agg (cs := [.string ⟨#[]⟩, .int .i64 0, .string ⟨#[]⟩, .slice none 0 0, .slice none 0 0, .slice none 0 0, .int .i64 0]) (by kernel_rfl) (blk_cells hB389 0 _ rfl)) (h395.e (v := (.bool false))) ?_
        have hno : ¬ rdOk s := fun hq => by
          obtain ⟨⟨q1, q2, q3, q4, q5⟩, q6, q7⟩ := hq
          first | omega | exact nb_no (by assumption) q3 | exact nb_no (by assumption) (q5 i (by omega)) | (rcases q4 with q4 | ⟨q8, q9, q10⟩ <;> first | exact absurd q4 (by assumption) | omega | exact absurd (prC_0.2 q8) (by assumption))
        exact ⟨_, _, _, _, _, _, _, _, _, _, _, _, _, congrArg (fun b => Ending.returned (Value.tuple #[.agg #[.string ⟨#[]⟩, .int .i64 0, .string ⟨#[]⟩, .slice none 0 0, .slice none 0 0, .slice none 0 0, .int .i64 0], Value.bool b])) (bP_no hno), hF_392, fun h => absurd h hno⟩
       ·
        refine V.skip (V.blk_n ?_)
        refine V.then_n (k363 _ _ ?_)
        refine V.rr h384 [(0, .i ((i : Int) + 1))] 78 78 [(69, .int .i64 ((i : Int) + 1))] fun a h396 => ?_
        refine V.then_n ?_
        refine ⟨i + 1, by omega, ?_⟩
        refine ⟨(h396.eq 69 (v := (.int .i64 ((i : Int) + 1))) (u := (.int .i64 ((i + 1) : Int))) (V.int_eq (by omega))).only _, (by rw [fold_next _ (by rw [List.length_drop]; omega)]; exact hq376 (nb_yes (by assumption))), hF_380, hB6_381, hS15_382, hS343_383, (by omega), (hG.step (nb_yes (by assumption)))⟩
      ·
       refine V.exit (V.then_e (V.then_e (V.blk_hit ?_)))
       refine V.then_n (k340 _ _ ?_)
       refine V.seq fun K397 k398 => ?_
       obtain ⟨X, hX⟩ : ∃ X, X = ((((spl s).drop 3).take i).foldl ptE (⟨unhexS (at_ Rp.str (spl s) (1 : Int)), kindI (at_ Rp.str (spl s) (0 : Int)), ⟨#[]⟩, [], [], [], (-1)⟩ : EnD)) := ⟨_, rfl⟩
       have hbX : BdE X (0 + (((spl s).drop 3).take i).length) := hX ▸ ⟨hb1, hb2, hb3, hbx⟩
       obtain ⟨hX1, hX2, hX3, hX4⟩ := hbX
       obtain ⟨Al399, cl400, Az401, cz402, Ah403, ch404, hB405, hO406, hO407, hO408, -⟩ := (show EnB w347 b102 X from hX ▸ hE_349)
       have hS409 := hO406.read (Z' := fun k => b102 + 1 ≤ k) (fun _ _ q => q.elim) (fun _ q _ => q)
       have hS410 := hO407.read (Z' := fun k => b102 + 1 ≤ k) (fun _ _ q => q.elim) (fun _ q _ => q)
       have hS411 := hO408.read (Z' := fun k => b102 + 1 ≤ k) (fun _ _ q => q.elim) (fun _ q _ => q)
       refine V.pl [([0,1],some (2,[0])),([3,4,6],some (5,[0])),([7,8],some (9,[])),([10],none)] fun w412 hF413 hsw412 => ?_
       have hF_414 := hF_350.new hF413
       have hB6_415 := hB6_351.fr0 hF413
       have hB405_418 := hB405.fr0 hF413
       have hS409_419 := hS409.fr0 hF413
       have hS410_420 := hS410.fr0 hF413
       have hS411_421 := hS411.fr0 hF413
       refine V.pe h358 [(0, .bs hB405_418 0 [.string X.key, .int .i64 X.k, .string X.s, .slice Al399 X.l.length cl400, .slice Az401 X.z.length cz402, .slice Ah403 X.h.length ch404, .int .i64 X.till]), (0, .bs hB405_418 0 [.string X.key, .int .i64 X.k, .string X.s, .slice Al399 X.l.length cl400, .slice Az401 X.z.length cz402, .slice Ah403 X.h.length ch404, .int .i64 X.till])] 1 0 [(79, .agg #[.string X.key, .int .i64 X.k, .string X.s, .slice Al399 X.l.length cl400, .slice Az401 X.z.length cz402, .slice Ah403 X.h.length ch404, .int .i64 X.till]), (80, .agg #[.string X.key, .int .i64 X.k, .string X.s, .slice Al399 X.l.length cl400, .slice Az401 X.z.length cz402, .slice Ah403 X.h.length ch404, .int .i64 X.till])] fun a h422 => ?_
       refine V.cl h422 (Go.Proofs.enters_of Tryz.func54 (by kernel_rfl) rfl) (entry_any w412 X.key X.k X.s Al399 cl400 X.l hS409_419.old Az401 cz402 X.z hS410_420.old Ah403 ch404 X.h hS411_421.old X.till (by omega) (by omega) (by omega) (fun y hy => by have := (hX4 y hy).1; unfold maxLen; omega)) ?_
       rintro _ w424 ⟨rfl, hF423⟩
       refine ⟨_, rfl, fun a h425 => ?_⟩
       have hsw424 := hF423.size
       have hF_426 := hF_414.new hF423
       have hB6_427 := hB6_415.fr0 hF423
       have hB405_430 := hB405_418.fr0 hF423
       have hS409_431 := hS409_419.fr0 hF423
       have hS410_432 := hS410_420.fr0 hF423
       have hS411_433 := hS411_421.fr0 hF423
       refine V.eh (fun _ => held_blk (n := 7) (hx := (h422.e (v := (.pointer (some ⟨b102, 0, none⟩))))) hB405_418 hB405_430 (by kernel_rfl) rfl (by simp only [List.length]; omega)) ?_
       refine V.pe0 ?_
       refine V.run h425 [] 1 1 0 [(82, .bool (bP (okE X.key X.till (okV X.k X.s X.l X.z X.h))))] fun a h434 => ?_
       by_cases hg435 : (bP (okE X.key X.till (okV X.k X.s X.l X.z X.h))) = true
       ·
        have h436 := h434.kbt 82 hg435
        refine V.se h436 [(0, .bs hB405_430 0 [.string X.key, .int .i64 X.k, .string X.s, .slice Al399 X.l.length cl400, .slice Az401 X.z.length cz402, .slice Ah403 X.h.length ch404, .int .i64 X.till])] 1 0 [(83, .agg #[.string X.key, .int .i64 X.k, .string X.s, .slice Al399 X.l.length cl400, .slice Az401 X.z.length cz402, .slice Ah403 X.h.length ch404, .int .i64 X.till]), (85, .string s)] fun a h437 => ?_
        obtain ⟨hek, het, heh⟩ := ent_good (x := X) (bP_of (by assumption)) ⟨hX1, hX2, hX3, hX4⟩
        have hll439 := lnD_len (k := X.k) hek het heh
        refine V.clg h437 (Go.Proofs.enters_of Tryz.func36 (by kernel_rfl) rfl) (line_any w424 X.key X.k X.s Al399 cl400 X.l hS409_431.old Az401 cz402 X.z hS410_432.old Ah403 ch404 X.h hS411_433.old X.till hek het heh (hV.fr hF_426)) ?_
        rintro _ w440 ⟨rfl, hF438⟩
        refine ⟨_, rfl, fun a h441 => ?_⟩
        have hsw440 := hF438.size
        have hF_442 := hF_426.new hF438
        have hB6_443 := hB6_427.fr0 hF438
        have hB405_446 := hB405_430.fr0 hF438
        have hS409_447 := hS409_431.fr0 hF438
        have hS410_448 := hS410_432.fr0 hF438
        have hS411_449 := hS411_433.fr0 hF438
        refine V.eh (fun _ => held_blk (n := 7) (hx := (h437.e (v := (.pointer (some ⟨b102, 0, none⟩))))) hB405_430 hB405_446 (by kernel_rfl) rfl (by simp only [List.length]; omega)) ?_
        refine V.pe h441 [(0, .seq (lnD X.key X.k X.s X.l X.z X.h X.till) s)] 86 86 [(87, .bool (decide ((lnD X.key X.k X.s X.l X.z X.h X.till) = s)))] fun a h450 => ?_
        refine V.go (V.stn b4 0 (.agg #[.string X.key, .int .i64 X.k, .string X.s, .slice Al399 X.l.length cl400, .slice Az401 X.z.length cz402, .slice Ah403 X.h.length ch404, .int .i64 X.till]) [.string X.key, .int .i64 X.k, .string X.s, .slice Al399 X.l.length cl400, .slice Az401 X.z.length cz402, .slice Ah403 X.h.length ch404, .int .i64 X.till] h450.e h450.e rfl rfl (by kernel_rfl) hB6_443 (by simp) [.string X.key, .int .i64 X.k, .string X.s, .slice Al399 X.l.length cl400, .slice Az401 X.z.length cz402, .slice Ah403 X.h.length ch404, .int .i64 X.till] rfl ?_)
        intro w451 hB452 hF453 hsw451
        have hF_454 := hF_442.own hF453 (by simp <;> omega)
        have hS409_458 := hS409_447.fr hF453 (by simp <;> omega)
        have hS410_459 := hS410_448.fr hF453 (by simp <;> omega)
        have hS411_460 := hS411_449.fr hF453 (by simp <;> omega)
        refine V.eh trivial ?_
        refine V.pz h450 [] 1 0 [(3, .bool (decide ((lnD X.key X.k X.s X.l X.z X.h X.till) = s)))] fun a h461 => k398 _ _ ?_
        refine V.ret ?_
        refine V.retCT h461.sd rfl _ (h461.e (v := (.pointer (some ⟨b4, 0, none⟩)))) (V.run_loadVar_agg (cs := [.string X.key, .int .i64 X.k, .string X.s, .slice Al399 X.l.length cl400, .slice Az401 X.z.length cz402, .slice Ah403 X.h.length ch404, .int .i64 X.till]) (by kernel_rfl) (blk_cells hB452 0 _ rfl)) (h461.e (v := (.bool (decide ((lnD X.key X.k X.s X.l X.z X.h X.till) = s))))) ?_
        have hXe : X = rdE s := by rw [hX, List.take_of_length_le (by rw [List.length_drop]; omega)]; unfold rdE rdE0 tillD; first | rw [if_pos (by first | assumption | exact Decidable.of_not_not (by assumption))] | rw [if_neg (by assumption)]
        have hpre : rdPre s := ⟨by omega, by omega, nb_yes (by assumption), by first | exact .inl (by assumption) | exact .inl (Decidable.of_not_not (by assumption)) | exact .inr ⟨prC_0.1 (by first | assumption | omega), by omega, by omega⟩, hG.le (by omega)⟩
        have hbb : (decide ((lnD X.key X.k X.s X.l X.z X.h X.till) = s)) = bP (rdOk s) := bP_dec.trans (congrArg bP (propext ⟨fun q => ⟨hpre, hXe ▸ (bP_of (by assumption) : okD X), hXe ▸ q⟩, fun q => hXe.symm ▸ q.2.2⟩))
        exact ⟨_, _, _, _, _, _, _, _, _, _, _, _, _, congrArg (fun b => Ending.returned (Value.tuple #[.agg #[.string X.key, .int .i64 X.k, .string X.s, .slice Al399 X.l.length cl400, .slice Az401 X.z.length cz402, .slice Ah403 X.h.length ch404, .int .i64 X.till], Value.bool b])) hbb, hF_454, fun _ => hXe ▸ (⟨_, _, _, rfl, hS409_458.zone (fun k _ h => by (try dsimp only at h); omega), hS410_459.zone (fun k _ h => by (try dsimp only at h); omega), hS411_460.zone (fun k _ h => by (try dsimp only at h); omega)⟩ : enR.ok _ _ X _)⟩
       ·
        have h462 := h434.kbf 82 hg435
        refine V.se h462 [] 1 0 [(83, undef), (85, undef)] fun a h463 => ?_
        refine V.run h463 [] 1 1 0 [(84, undef)] fun a h464 => ?_
        refine V.eh (fun _ => held_blk (n := 7) (hx := (h463.e (v := (.pointer (some ⟨b102, 0, none⟩))))) hB405_430 hB405_430 (by kernel_rfl) rfl (by simp only [List.length]; omega)) ?_
        refine V.pe h464 [] 86 86 [(87, .bool false)] fun a h465 => ?_
        refine V.go (V.stn b4 0 (.agg #[.string X.key, .int .i64 X.k, .string X.s, .slice Al399 X.l.length cl400, .slice Az401 X.z.length cz402, .slice Ah403 X.h.length ch404, .int .i64 X.till]) [.string X.key, .int .i64 X.k, .string X.s, .slice Al399 X.l.length cl400, .slice Az401 X.z.length cz402, .slice Ah403 X.h.length ch404, .int .i64 X.till] h465.e h465.e rfl rfl (by kernel_rfl) hB6_427 (by simp) [.string X.key, .int .i64 X.k, .string X.s, .slice Al399 X.l.length cl400, .slice Az401 X.z.length cz402, .slice Ah403 X.h.length ch404, .int .i64 X.till] rfl ?_)
        intro w466 hB467 hF468 hsw466
        have hF_469 := hF_426.own hF468 (by simp <;> omega)
        have hS409_473 := hS409_431.fr hF468 (by simp <;> omega)
        have hS410_474 := hS410_432.fr hF468 (by simp <;> omega)
        have hS411_475 := hS411_433.fr hF468 (by simp <;> omega)
        refine V.eh trivial ?_
        refine V.pz h465 [] 1 0 [(3, .bool false)] fun a h476 => k398 _ _ ?_
        refine V.ret ?_
        refine V.retCT h476.sd rfl _ (h476.e (v := (.pointer (some ⟨b4, 0, none⟩)))) (V.run_loadVar_agg (cs := [.string X.key, .int .i64 X.k, .string X.s, .slice Al399 X.l.length cl400, .slice Az401 X.z.length cz402, .slice Ah403 X.h.length ch404, .int .i64 X.till]) (by kernel_rfl) (blk_cells hB467 0 _ rfl)) (h476.e (v := (.bool false))) ?_
        have hXe : X = rdE s := by rw [hX, List.take_of_length_le (by rw [List.length_drop]; omega)]; unfold rdE rdE0 tillD; first | rw [if_pos (by first | assumption | exact Decidable.of_not_not (by assumption))] | rw [if_neg (by assumption)]
        have hpre : rdPre s := ⟨by omega, by omega, nb_yes (by assumption), by first | exact .inl (by assumption) | exact .inl (Decidable.of_not_not (by assumption)) | exact .inr ⟨prC_0.1 (by first | assumption | omega), by omega, by omega⟩, hG.le (by omega)⟩
        have hbb : false = bP (rdOk s) := bP_no (fun hq => absurd (bP_yes (show okE X.key X.till (okV X.k X.s X.l X.z X.h) from hXe ▸ hq.2.1)).symm (by assumption))
        exact ⟨_, _, _, _, _, _, _, _, _, _, _, _, _, congrArg (fun b => Ending.returned (Value.tuple #[.agg #[.string X.key, .int .i64 X.k, .string X.s, .slice Al399 X.l.length cl400, .slice Az401 X.z.length cz402, .slice Ah403 X.h.length ch404, .int .i64 X.till], Value.bool b])) hbb, hF_469, fun _ => hXe ▸ (⟨_, _, _, rfl, hS409_473.zone (fun k _ h => by (try dsimp only at h); omega), hS410_474.zone (fun k _ h => by (try dsimp only at h); omega), hS411_475.zone (fun k _ h => by (try dsimp only at h); omega)⟩ : enR.ok _ _ X _)⟩
/-! ### The lines of a text -/
def restN (s : ByteArray) : Nat → ByteArray
  | 0 => s
  | n + 1 => cuB (restN s n) 10
def lineN (s : ByteArray) (n : Nat) : ByteArray := cuA (restN s n) 10
noncomputable def outN (s : ByteArray) (n : Nat) : List EnD := (List.range n).map fun j => rdE (lineN s j)
def gdN (s : ByteArray) (j : Nat) : Prop := rdOk (lineN s j) ∧ ¬ j = 65536 ∧ (0 < j → slt (rdE (lineN s (j - 1))).key (rdE (lineN s j)).key) ∧ cuF (restN s j) 10 = true
theorem outN_len (s : ByteArray) (n : Nat) : (outN s n).length = n := by unfold outN; rw [List.length_map, List.length_range]
theorem outN_next (s : ByteArray) (n : Nat) : outN s (n + 1) = outN s n ++ [rdE (lineN s n)] := by unfold outN; rw [List.range_succ, List.map_append]; rfl
theorem outN_at {s : ByteArray} {n : Nat} (h : 0 < n) : at_ enR (outN s n) (((n : Nat) : Int) - 1) = rdE (lineN s (n - 1)) := by
  rw [show ((n : Nat) : Int) - 1 = ((n - 1 : Nat) : Int) by omega, at_el enR (by rw [outN_len]; omega)]
  unfold outN
  rw [List.getElem_map, List.getElem_range]
theorem cu_lt {s : ByteArray} {c : UInt8} (h : cuF s c = true) : (cuB s c).size + 1 ≤ s.size := by
  have h0 : s.data.toList.length = s.size := Array.length_toList
  have h2 : (cuB s c).size = (Lib.cut s.data.toList [c]).2.1.length := List.size_toArray
  have h3 : (cuF s c) = (Lib.cut s.data.toList [c]).2.2 := rfl
  rw [h3] at h
  rw [h2]
  unfold Lib.cut at h ⊢
  split at h
  · rename_i hix
    rw [if_pos hix]
    show (List.drop _ _).length + 1 ≤ _
    rw [List.length_drop]
    have h4 : ¬ s.data.toList = [] := fun hn => by
      rw [hn] at hix; simp [Lib.index, Lib.hasPrefix] at hix
    have h5 : 0 < s.data.toList.length := List.length_pos_iff.2 h4
    simp only [List.length_singleton]; omega
  · cases h
/-- What Read tells of a text. -/
def RdR (s : ByteArray) (l : List EnD) (i c : Int) : Prop :=
  (s.size > 67108864 ∧ l = [] ∧ i = 0 ∧ c = 2) ∨
  (s.size ≤ 67108864 ∧ ∃ n, (∀ j, j < n → ¬ restN s j = ⟨#[]⟩ ∧ gdN s j) ∧ ((restN s n = ⟨#[]⟩ ∧ l = outN s n ∧ i = 0 ∧ c = 0) ∨ (¬ restN s n = ⟨#[]⟩ ∧ ¬ gdN s n ∧ l = [] ∧ i = n ∧ c = 91)))
theorem en_key {Z : Nat → Prop} {w : World} {x : EnD} {key sv : ByteArray} {k t : Int} {vl vz vh : Value} (h : enR.ok Z w x [.string key, .int .i64 k, .string sv, vl, vz, vh, .int .i64 t]) : key = x.key := by
  obtain ⟨a, b, c, he, _⟩ := h
  injection he with h1 _
  injection h1
theorem en_zone {Z Z' : Nat → Prop} {w : World} {x : EnD} {cs : List Value} (h : enR.ok Z w x cs) (hz : ∀ b, b < w.heap.size → Z b → Z' b) : enR.ok Z' w x cs := enR.mono (fun b hb hq => ⟨hz b hb hq, rfl⟩) (Nat.le_refl _) h
theorem outN_at2 {s : ByteArray} {n : Nat} (h : 0 < n) : at_ enR (outN s n) ((((outN s n).length : Nat) : Int) - 1) = rdE (lineN s (n - 1)) := by rw [outN_len]; exact outN_at h
theorem reads_any (w : World) (s : ByteArray) (hs : s.size ≤ 1099511627776) (hV : Vs w) : Calls Tryz.prog 13 #[.string s] w (fun e w' => ∃ l i c A' c', e = .returned (.tuple #[.slice A' l.length c', .int .i64 i, .int .i64 c]) ∧ SlR enR (fun k => w.heap.size ≤ k) w' (.slice A' l.length c') l ∧ RdR s l i c ∧ Fr [] w w') := by
 have hF := Fr.refl [] w
 have hlo := hV.lo
 refine V.en 65 Tryz.func13 fun a h1 => ?_
 refine V.sr h1 [] 2 4 [] fun a h4 => ?_
 refine V.seq fun K5 k6 => ?_
 refine V.sr h4 [] 12 13 [(14, .bool (decide ((s.size : Int) > 67108864)))] fun a h9 => ?_
 refine V.cp h9 ((s.size : Int) > 67108864) (fun ht10 => ?_) (fun ht10 => ?_)
 ·
  refine V.sr h9 [] 1 0 [(2, .slice none 0 0), (3, .int .i64 0), (4, .int .i64 2)] fun a h13 => ?_
  refine V.ret (V.then_r ?_)
  refine V.r3 h13 (.slice none 0 0) (.int .i64 0) (.int .i64 2) ?_
  exact ⟨[], 0, 2, none, 0, rfl, SlR.nil _ _ _, .inl ⟨by omega, rfl, rfl, rfl⟩, hF⟩
 ·
  refine V.skip ?_
  refine V.then_n (k6 _ _ ?_)
  refine V.sr h9 [] 1 0 [(5, .slice none 0 0)] fun a h16 => ?_
  refine V.seq fun K17 k18 => ?_
  refine V.sr h16 [] 1 0 [(6, .int .i64 0)] fun a h21 => ?_
  refine V.block ?_
  have hO0 := OwR.nil enR (Zi w.heap.size w.heap.size (.slice none 0 0)) w w.heap.size 55
  refine V.loop3 (fun (n : Nat) (A2 : Option Addr) (c2 : Nat) a_ w_ => En 65 [] a_ [(0, .string (restN s n)), (5, .slice A2 ((outN s n).length) c2), (6, .int .i64 (n : Int))] ∧ OwR enR (Zi w.heap.size w_.heap.size (.slice A2 (outN s n).length c2)) w_ w.heap.size 55 (.slice A2 ((outN s n).length) c2) (outN s n) ∧ Fr [] w w_ ∧ (n + (restN s n).size ≤ s.size) ∧ (∀ j, j < n → ¬ restN s j = ⟨#[]⟩ ∧ gdN s j)) (fun (n : Nat) (A2 : Option Addr) (c2 : Nat) => (restN s n).size) 0 none 0 ?_ ?_
  ·
   refine ⟨((h21.eq 5 (v := (.slice none 0 0)) (u := (.slice none ((outN s 0).length) 0)) (rfl)).eq 6 (v := (.int .i64 0)) (u := (.int .i64 (0 : Int))) (V.int_eq (by omega))).only _, hO0, hF, (by show 0 + s.size ≤ s.size; omega), (fun j hj => by omega)⟩
  ·
   rintro n A2 c2 a22 w23 ⟨h24, hO_25, hF_26, hn, hg⟩
   have hfs27 := hF_26.size
   have hol := outN_len s n
   have hO0 := hO_25
   refine V.seq fun K28 k29 => ?_
   refine V.sr h24 [(1, .sne (restN s n) ⟨#[]⟩)] 15 15 [(16, .bool (decide (¬ (restN s n) = ⟨#[]⟩)))] fun a h32 => ?_
   refine V.cp h32 (¬ (restN s n) = ⟨#[]⟩) (fun ht33 => ?_) (fun ht33 => ?_)
   ·
    refine V.skip ?_
    refine V.then_n (k29 _ _ ?_)
    refine V.seq fun K34 k35 => ?_
    refine V.block ?_
    refine V.sg fun K36 k37 => ?_
    refine V.run h32 [] 1 1 0 [(20, .string (restN s n))] fun a h38 => ?_
    have hcl40 := cu_len (restN s n) 10
    refine V.cl h38 (Go.Proofs.enters_of Tryz.func43 (by kernel_rfl) rfl) (cu_any w23 (restN s n) 10 (by omega) (hV.fr hF_26)) ?_
    rintro _ w41 ⟨rfl, hF39⟩
    refine ⟨_, rfl, fun a h42 => ?_⟩
    have hsw41 := hF39.size
    have hO_43 := hO_25.fr0 hF39
    have hF_44 := hF_26.new hF39
    refine V.re h42 [] 19 24 [(7, .string (cuA (restN s n) 10)), (8, .string (cuB (restN s n) 10)), (9, .bool (cuF (restN s n) 10))] fun a h45 => k37 _ _ ?_
    refine V.sg fun K46 k47 => ?_
    refine V.run h45 [] 1 1 0 [(26, .string (cuA (restN s n) 10))] fun a h48 => ?_
    refine V.cl h48 (Go.Proofs.enters_of Tryz.func44 (by kernel_rfl) rfl) (read_any w41 (cuA (restN s n) 10) (by omega) (hV.fr hF_44)) ?_
    rintro _ w65 ⟨key49, k50, sv51, Al52, nl53, cl54, Az55, nz56, cz57, Ah58, nh59, ch60, t61, rfl, hF62, hr64⟩
    refine ⟨_, rfl, fun a h66 => ?_⟩
    have hsw65 := hF62.size
    have hO_67 := hO_43.fr0 hF62
    have hF_68 := hF_44.new hF62
    have hq63 := fun hp => en_zone (Z' := fun k => w41.heap.size ≤ k ∧ k < w65.heap.size) (hr64 hp) (fun b hb hz => ⟨hz, hb⟩)
    refine V.run h66 [] 3 25 25 [(28, .agg #[.string key49, .int .i64 k50, .string sv51, .slice Al52 nl53 cl54, .slice Az55 nz56 cz57, .slice Ah58 nh59 ch60, .int .i64 t61]), (29, .bool (bP (rdOk (cuA (restN s n) 10))))] fun a h73 => ?_
    refine V.go (V.mk [] trivial (by kernel_rfl) [.string ⟨#[]⟩, .int .i64 0, .string ⟨#[]⟩, .slice none 0 0, .slice none 0 0, .slice none 0 0, .int .i64 0] 55 (fun b => .pointer (some ⟨b, 0, none⟩)) (by kernel_rfl) ?_)
    intro w70 b69 heb69 hB71 hF72 hsb69
    have hO_74 := hO_67.fr0 hF72
    have hF_75 := hF_68.new hF72
    have hq63_76 := fun hp => enR.mono (fun k hk hz => ⟨hz, hF72.block k hk (by simp)⟩) hF72.size (hq63 hp)
    refine V.pt h73 fun a h77 => ?_
    refine V.go (V.stn b69 0 (.agg #[.string key49, .int .i64 k50, .string sv51, .slice Al52 nl53 cl54, .slice Az55 nz56 cz57, .slice Ah58 nh59 ch60, .int .i64 t61]) [.string key49, .int .i64 k50, .string sv51, .slice Al52 nl53 cl54, .slice Az55 nz56 cz57, .slice Ah58 nh59 ch60, .int .i64 t61] h77.e h77.e rfl rfl (by kernel_rfl) hB71 (by simp) [.string key49, .int .i64 k50, .string sv51, .slice Al52 nl53 cl54, .slice Az55 nz56 cz57, .slice Ah58 nh59 ch60, .int .i64 t61] rfl ?_)
    intro w78 hB79 hF80 hsw78
    have hO_81 := hO_74.frn hF80 (fun h => by have h1 := h.1; have h2 := h.2.1; omega) (by first | exact own_ne hO_74 (by omega) | exact own_ne2 hO_25 (by omega))
    have hF_82 := hF_75.own hF80 (by simp <;> omega)
    have hq63_83 := fun hp => enR.mono (fun k hk hz => ⟨hz, hF80.block k hk (by (try dsimp only at hz); simp <;> omega)⟩) hF80.size (hq63_76 hp)
    refine V.re h77 [] 1 0 [(11, .bool (bP (rdOk (cuA (restN s n) 10))))] fun a h84 => k47 _ _ ?_
    refine V.seq fun K85 k86 => ?_
    refine V.seq fun K87 k88 => ?_
    have hS89 := (hO_81.raise (m := w78.heap.size) (by omega)).readi
    refine V.pl [([0,1,2,3,4,5,6,7,8,9,10,11,12,13,14,15,16,17,18,19,20,21,22,23,24,25,26,27],none)] fun w90 hF91 hsw90 => ?_
    have hO_92 := hO_81.fr0 hF91
    have hF_93 := hF_82.new hF91
    have hq63_94 := fun hp => enR.mono (fun k hk hz => ⟨hz, hF91.block k hk (by simp)⟩) hF91.size (hq63_83 hp)
    have hB79_95 := hB79.fr0 hF91
    have hS89_96 := hS89.fr0 hF91
    refine V.pz0 ?_
    refine V.run h84 [] 3 30 31 [(32, .bool (!(bP (rdOk (cuA (restN s n) 10)))))] fun a h97 => ?_
    by_cases hg98 : (!(bP (rdOk (cuA (restN s n) 10)))) = true
    ·
     have h99 := h97.kbt 32 hg98
     refine V.se h99 [] 35 56 [(33, undef), (34, undef), (37, .bool true), (38, undef), (39, undef), (41, undef), (43, undef), (44, undef), (48, undef), (50, undef), (54, .bool true), (57, .bool true)] fun a h100 => k88 _ _ ?_
     have h101 := h100.only [(0, .string (restN s n)), (5, .slice A2 ((outN s n).length) c2), (6, .int .i64 (n : Int)), (8, .string (cuB (restN s n) 10)), (10, .pointer (some ⟨b69, 0, none⟩)), (57, .bool true)]
     refine V.ct h101 ?_
     refine V.sr h101 [] 58 58 [(2, .slice none 0 0), (3, .int .i64 (n : Int)), (4, .int .i64 91)] fun a h104 => ?_
     refine V.ret (V.then_r (V.blk_r (V.then_r (V.then_r (V.blk_r (V.then_r ?_))))))
     refine V.r3 h104 (.slice none 0 0) (.int .i64 (n : Int)) (.int .i64 91) ?_
     have hno : ¬ gdN s n := fun hgd => by
       obtain ⟨g1, g2, g3, g4⟩ := hgd
       first | exact nb_no (by assumption) g1 | exact nf_no (by assumption) g4 | omega | (have h : slt (rdE (lineN s (n - 1))).key (rdE (cuA (restN s n) 10)).key := g3 (by omega); rw [← outN_at2 (by omega), ← en_key (hq63_94 g1)] at h; exact absurd h (by assumption))
     exact ⟨[], (n : Int), 91, none, 0, rfl, SlR.nil _ _ _, .inr ⟨by omega, n, hg, .inr ⟨by first | assumption | exact Decidable.of_not_not (by assumption), hno, rfl, rfl, rfl⟩⟩, hF_93⟩
    ·
     have h105 := h97.kbf 32 hg98
     refine V.run h105 [(2, .eq (((outN s n).length : Nat) : Int) 65536)] 5 35 36 [(33, .slice A2 ((outN s n).length) c2), (34, .int .i64 (((outN s n).length : Nat) : Int)), (37, .bool (decide ((((outN s n).length : Nat) : Int) = 65536)))] fun a h106 => ?_
     by_cases hg107 : (((outN s n).length : Nat) : Int) = 65536
     ·
      have h108 := h106.kt 37 hg107
      refine V.se h108 [] 40 56 [(38, undef), (39, undef), (41, undef), (43, undef), (44, undef), (48, undef), (50, undef), (54, .bool true), (57, .bool true)] fun a h109 => k88 _ _ ?_
      have h110 := h109.only [(0, .string (restN s n)), (5, .slice A2 ((outN s n).length) c2), (6, .int .i64 (n : Int)), (8, .string (cuB (restN s n) 10)), (10, .pointer (some ⟨b69, 0, none⟩)), (57, .bool true)]
      refine V.ct h110 ?_
      refine V.sr h110 [] 58 58 [(2, .slice none 0 0), (3, .int .i64 (n : Int)), (4, .int .i64 91)] fun a h113 => ?_
      refine V.ret (V.then_r (V.blk_r (V.then_r (V.then_r (V.blk_r (V.then_r ?_))))))
      refine V.r3 h113 (.slice none 0 0) (.int .i64 (n : Int)) (.int .i64 91) ?_
      have hno : ¬ gdN s n := fun hgd => by
        obtain ⟨g1, g2, g3, g4⟩ := hgd
        first | exact nb_no (by assumption) g1 | exact nf_no (by assumption) g4 | omega | (have h : slt (rdE (lineN s (n - 1))).key (rdE (cuA (restN s n) 10)).key := g3 (by omega); rw [← outN_at2 (by omega), ← en_key (hq63_94 g1)] at h; exact absurd h (by assumption))
      exact ⟨[], (n : Int), 91, none, 0, rfl, SlR.nil _ _ _, .inr ⟨by omega, n, hg, .inr ⟨by first | assumption | exact Decidable.of_not_not (by assumption), hno, rfl, rfl, rfl⟩⟩, hF_93⟩
     ·
      have h114 := h106.kf 37 hg107
      refine V.run h114 [] 4 40 40 [(38, .slice A2 ((outN s n).length) c2), (39, .int .i64 (((outN s n).length : Nat) : Int)), (41, .bool (decide ((((outN s n).length : Nat) : Int) > 0)))] fun a h115 => ?_
      by_cases hg116 : (((outN s n).length : Nat) : Int) > 0
      ·
       have h117 := h115.kt 41 hg116
       obtain ⟨g118, o119, hA120, hA120l, hA120z⟩ := hS89_96.addr (by omega)
       obtain ⟨cs121, hok122, hE123⟩ := hS89_96.els hA120 ((((outN s n).length : Nat) : Int) - 1) (by omega) (by omega)
       obtain ⟨Al124, cl125, Az126, cz127, Ah128, ch129, rfl, hS130, hS131, hS132⟩ := en_open hok122
       refine V.run h117 [(3, .i ((((outN s n).length : Nat) : Int) - 1)), (0, .ix g118 o119 ((outN s n).length) c2 .i64 ((((outN s n).length : Nat) : Int) - 1) 7 hA120), (1, .l ⟨g118, o119 + ((((outN s n).length : Nat) : Int) - 1).toNat * 7, none⟩ (.string ((at_ enR (outN s n) ((((outN s n).length : Nat) : Int) - 1)).key)) (hE123.at 0 rfl)), (1, .b hB79_95 0), (0, .q (.bool (decide (¬ slt ((at_ enR (outN s n) ((((outN s n).length : Nat) : Int) - 1)).key) key49))) V.t_sgeq)] 13 42 53 [(43, .slice A2 ((outN s n).length) c2), (44, .int .i64 (((outN s n).length : Nat) : Int)), (48, .string ((at_ enR (outN s n) ((((outN s n).length : Nat) : Int) - 1)).key)), (50, .string key49), (54, .bool (decide (¬ slt ((at_ enR (outN s n) ((((outN s n).length : Nat) : Int) - 1)).key) key49)))] fun a h133 => ?_
       by_cases hg134 : ¬ slt ((at_ enR (outN s n) ((((outN s n).length : Nat) : Int) - 1)).key) key49
       ·
        have h135 := h133.kt 54 hg134
        refine V.se h135 [] 55 56 [(57, .bool true)] fun a h136 => k88 _ _ ?_
        have h137 := h136.only [(0, .string (restN s n)), (5, .slice A2 ((outN s n).length) c2), (6, .int .i64 (n : Int)), (8, .string (cuB (restN s n) 10)), (10, .pointer (some ⟨b69, 0, none⟩)), (57, .bool true)]
        refine V.ct h137 ?_
        refine V.sr h137 [] 58 58 [(2, .slice none 0 0), (3, .int .i64 (n : Int)), (4, .int .i64 91)] fun a h140 => ?_
        refine V.ret (V.then_r (V.blk_r (V.then_r (V.then_r (V.blk_r (V.then_r ?_))))))
        refine V.r3 h140 (.slice none 0 0) (.int .i64 (n : Int)) (.int .i64 91) ?_
        have hno : ¬ gdN s n := fun hgd => by
          obtain ⟨g1, g2, g3, g4⟩ := hgd
          first | exact nb_no (by assumption) g1 | exact nf_no (by assumption) g4 | omega | (have h : slt (rdE (lineN s (n - 1))).key (rdE (cuA (restN s n) 10)).key := g3 (by omega); rw [← outN_at2 (by omega), ← en_key (hq63_94 g1)] at h; exact absurd h (by assumption))
        exact ⟨[], (n : Int), 91, none, 0, rfl, SlR.nil _ _ _, .inr ⟨by omega, n, hg, .inr ⟨by first | assumption | exact Decidable.of_not_not (by assumption), hno, rfl, rfl, rfl⟩⟩, hF_93⟩
       ·
        have h141 := h133.kf 54 hg134
        refine V.se h141 [] 55 56 [(57, .bool (!(cuF (restN s n) 10)))] fun a h142 => k88 _ _ ?_
        have h143 := h142.only [(0, .string (restN s n)), (5, .slice A2 ((outN s n).length) c2), (6, .int .i64 (n : Int)), (8, .string (cuB (restN s n) 10)), (10, .pointer (some ⟨b69, 0, none⟩)), (57, .bool (!(cuF (restN s n) 10)))]
        refine V.cb h143 (!(cuF (restN s n) 10)) (fun ht144 => ?_) (fun ht144 => ?_)
        ·
         refine V.sr h143 [] 58 58 [(2, .slice none 0 0), (3, .int .i64 (n : Int)), (4, .int .i64 91)] fun a h147 => ?_
         refine V.ret (V.then_r (V.blk_r (V.then_r (V.then_r (V.blk_r (V.then_r ?_))))))
         refine V.r3 h147 (.slice none 0 0) (.int .i64 (n : Int)) (.int .i64 91) ?_
         have hno : ¬ gdN s n := fun hgd => by
           obtain ⟨g1, g2, g3, g4⟩ := hgd
           first | exact nb_no (by assumption) g1 | exact nf_no (by assumption) g4 | omega | (have h : slt (rdE (lineN s (n - 1))).key (rdE (cuA (restN s n) 10)).key := g3 (by omega); rw [← outN_at2 (by omega), ← en_key (hq63_94 g1)] at h; exact absurd h (by assumption))
         exact ⟨[], (n : Int), 91, none, 0, rfl, SlR.nil _ _ _, .inr ⟨by omega, n, hg, .inr ⟨by first | assumption | exact Decidable.of_not_not (by assumption), hno, rfl, rfl, rfl⟩⟩, hF_93⟩
        ·
         refine V.skip ?_
         refine V.then_n (k86 _ _ ?_)
         refine V.seq fun K148 k149 => ?_
         have hok1 : rdOk (lineN s n) := nb_yes (by assumption)
         have hkk := en_key (hq63_94 hok1)
         have hcf : cuF (restN s n) 10 = true := nf_yes (by assumption)
         have hclt := cu_lt hcf
         have hgd : gdN s n := ⟨hok1, by omega, fun h0 => by first | omega | (show slt (rdE (lineN s (n - 1))).key (rdE (cuA (restN s n) 10)).key; rw [← outN_at2 (s := s) h0, ← hkk]; first | assumption | exact Decidable.of_not_not (by assumption)), hcf⟩
         refine V.rg ?_
         refine V.run h143 [(1, .bs hB79_95 0 [.string key49, .int .i64 k50, .string sv51, .slice Al52 nl53 cl54, .slice Az55 nz56 cz57, .slice Ah58 nh59 ch60, .int .i64 t61])] 2 1 0 [(59, .slice A2 ((outN s n).length) c2), (60, .agg #[.string key49, .int .i64 k50, .string sv51, .slice Al52 nl53 cl54, .slice Az55 nz56 cz57, .slice Ah58 nh59 ch60, .int .i64 t61])] fun a h150 => ?_
         refine V.go (V.mk [(60, .agg #[.string key49, .int .i64 k50, .string sv51, .slice Al52 nl53 cl54, .slice Az55 nz56 cz57, .slice Ah58 nh59 ch60, .int .i64 t61])] ⟨h150.e, trivial⟩ (by kernel_rfl) [.string key49, .int .i64 k50, .string sv51, .slice Al52 nl53 cl54, .slice Az55 nz56 cz57, .slice Ah58 nh59 ch60, .int .i64 t61] 55 (fun b => .slice (some ⟨b, 0, none⟩) 1 1) (by kernel_rfl) ?_)
         intro w152 b151 heb151 hB153 hF154 hsb151
         have hO_155 := hO_92.fr0 hF154
         have hF_156 := hF_93.new hF154
         have hq63_157 := fun hp => enR.mono (fun k hk hz => ⟨hz, hF154.block k hk (by simp)⟩) hF154.size (hq63_94 hp)
         refine V.pt h150 fun a h160 => ?_
         refine V.go (V.app (R := enR) (ys := ([rdE (lineN s n)])) (news := [(.string key49), (.int .i64 k50), (.string sv51), (.slice Al52 nl53 cl54), (.slice Az55 nz56 cz57), (.slice Ah58 nh59 ch60), (.int .i64 t61)]) (h160.e (v := (.slice A2 ((outN s n).length) c2))) ⟨b151, 0, none⟩ 1 1 (h160.e (v := (.slice (some ⟨b151, 0, none⟩) 1 1))) (by kernel_rfl) (info55) (by kernel_rfl) (by decide) (hO_155.raise (m := w152.heap.size) (by omega)) rfl ⟨_, [], rfl, en_zone (hq63_157 hok1) (fun b hb hz => ⟨by (try dsimp only at hz); omega, hb, fun e => by have := (hO0.lt _ e).2; (try dsimp only at hz); omega⟩), rfl⟩ (blk_cells hB153 0 _ rfl) (by first | omega | (simp; omega)) (by decide) (by omega) ?_)
         intro A161 c162 w163 hO164z hF165 hatw163
         have hsw163 := hF165.size
         have hF_166 := hF_156.own hF165 (own_ge hO_155 (by omega))
         have hO164 := hO164z.zi hatw163
         refine V.pt h160 fun a h168 => ?_
         refine V.re h168 [] 1 0 [(5, .slice A161 (((outN s n).length) + 1) c162)] fun a h169 => k149 _ _ ?_
         refine V.rr h169 [] 63 63 [(0, .string (cuB (restN s n) 10))] fun a h170 => ?_
         refine V.blk_n ?_
         refine V.then_n (k35 _ _ ?_)
         refine V.rr h170 [(1, .i ((n : Int) + 1))] 17 18 [(6, .int .i64 ((n : Int) + 1))] fun a h171 => ?_
         refine V.then_n ?_
         have hqs := outN_next s n
         refine ⟨n + 1, A161, c162, by show (cuB (restN s n) 10).size < (restN s n).size; omega, ?_⟩
         refine ⟨(((h171.eq 0 (v := (.string (cuB (restN s n) 10))) (u := (.string (restN s (n + 1)))) (rfl)).eq 5 (v := (.slice A161 (((outN s n).length) + 1) c162)) (u := (.slice A161 ((outN s (n + 1)).length) c162)) (V.sl_eq (by rw [hqs]; simp))).eq 6 (v := (.int .i64 ((n : Int) + 1))) (u := (.int .i64 ((n + 1) : Int))) (V.int_eq (by omega))).only _, (by rw [hqs]; simpa using hO164.raise (m := w163.heap.size) (by omega)), hF_166, (by show n + 1 + (cuB (restN s n) 10).size ≤ s.size; omega), (fun j hj => by rcases Nat.lt_or_ge j n with h1 | h1; exact hg j h1; obtain rfl : j = n := (by omega); exact ⟨by assumption, hgd⟩)⟩
      ·
       have h172 := h115.kf 41 hg116
       refine V.se h172 [] 42 56 [(43, undef), (44, undef), (48, undef), (50, undef), (54, .bool false), (57, .bool (!(cuF (restN s n) 10)))] fun a h173 => k88 _ _ ?_
       have h174 := h173.only [(0, .string (restN s n)), (5, .slice A2 ((outN s n).length) c2), (6, .int .i64 (n : Int)), (8, .string (cuB (restN s n) 10)), (10, .pointer (some ⟨b69, 0, none⟩)), (57, .bool (!(cuF (restN s n) 10)))]
       refine V.cb h174 (!(cuF (restN s n) 10)) (fun ht175 => ?_) (fun ht175 => ?_)
       ·
        refine V.sr h174 [] 58 58 [(2, .slice none 0 0), (3, .int .i64 (n : Int)), (4, .int .i64 91)] fun a h178 => ?_
        refine V.ret (V.then_r (V.blk_r (V.then_r (V.then_r (V.blk_r (V.then_r ?_))))))
        refine V.r3 h178 (.slice none 0 0) (.int .i64 (n : Int)) (.int .i64 91) ?_
        have hno : ¬ gdN s n := fun hgd => by
          obtain ⟨g1, g2, g3, g4⟩ := hgd
          first | exact nb_no (by assumption) g1 | exact nf_no (by assumption) g4 | omega | (have h : slt (rdE (lineN s (n - 1))).key (rdE (cuA (restN s n) 10)).key := g3 (by omega); rw [← outN_at2 (by omega), ← en_key (hq63_94 g1)] at h; exact absurd h (by assumption))
        exact ⟨[], (n : Int), 91, none, 0, rfl, SlR.nil _ _ _, .inr ⟨by omega, n, hg, .inr ⟨by first | assumption | exact Decidable.of_not_not (by assumption), hno, rfl, rfl, rfl⟩⟩, hF_93⟩
       ·
        refine V.skip ?_
        refine V.then_n (k86 _ _ ?_)
        refine V.seq fun K179 k180 => ?_
        have hok1 : rdOk (lineN s n) := nb_yes (by assumption)
        have hkk := en_key (hq63_94 hok1)
        have hcf : cuF (restN s n) 10 = true := nf_yes (by assumption)
        have hclt := cu_lt hcf
        have hgd : gdN s n := ⟨hok1, by omega, fun h0 => by first | omega | (show slt (rdE (lineN s (n - 1))).key (rdE (cuA (restN s n) 10)).key; rw [← outN_at2 (s := s) h0, ← hkk]; first | assumption | exact Decidable.of_not_not (by assumption)), hcf⟩
        refine V.rg ?_
        refine V.run h174 [(1, .bs hB79_95 0 [.string key49, .int .i64 k50, .string sv51, .slice Al52 nl53 cl54, .slice Az55 nz56 cz57, .slice Ah58 nh59 ch60, .int .i64 t61])] 2 1 0 [(59, .slice A2 ((outN s n).length) c2), (60, .agg #[.string key49, .int .i64 k50, .string sv51, .slice Al52 nl53 cl54, .slice Az55 nz56 cz57, .slice Ah58 nh59 ch60, .int .i64 t61])] fun a h181 => ?_
        refine V.go (V.mk [(60, .agg #[.string key49, .int .i64 k50, .string sv51, .slice Al52 nl53 cl54, .slice Az55 nz56 cz57, .slice Ah58 nh59 ch60, .int .i64 t61])] ⟨h181.e, trivial⟩ (by kernel_rfl) [.string key49, .int .i64 k50, .string sv51, .slice Al52 nl53 cl54, .slice Az55 nz56 cz57, .slice Ah58 nh59 ch60, .int .i64 t61] 55 (fun b => .slice (some ⟨b, 0, none⟩) 1 1) (by kernel_rfl) ?_)
        intro w183 b182 heb182 hB184 hF185 hsb182
        have hO_186 := hO_92.fr0 hF185
        have hF_187 := hF_93.new hF185
        have hq63_188 := fun hp => enR.mono (fun k hk hz => ⟨hz, hF185.block k hk (by simp)⟩) hF185.size (hq63_94 hp)
        refine V.pt h181 fun a h190 => ?_
        refine V.go (V.app (R := enR) (ys := ([rdE (lineN s n)])) (news := [(.string key49), (.int .i64 k50), (.string sv51), (.slice Al52 nl53 cl54), (.slice Az55 nz56 cz57), (.slice Ah58 nh59 ch60), (.int .i64 t61)]) (h190.e (v := (.slice A2 ((outN s n).length) c2))) ⟨b182, 0, none⟩ 1 1 (h190.e (v := (.slice (some ⟨b182, 0, none⟩) 1 1))) (by kernel_rfl) (info55) (by kernel_rfl) (by decide) (hO_186.raise (m := w183.heap.size) (by omega)) rfl ⟨_, [], rfl, en_zone (hq63_188 hok1) (fun b hb hz => ⟨by (try dsimp only at hz); omega, hb, fun e => by have := (hO0.lt _ e).2; (try dsimp only at hz); omega⟩), rfl⟩ (blk_cells hB184 0 _ rfl) (by first | omega | (simp; omega)) (by decide) (by omega) ?_)
        intro A191 c192 w193 hO194z hF195 hatw193
        have hsw193 := hF195.size
        have hF_196 := hF_187.own hF195 (own_ge hO_186 (by omega))
        have hO194 := hO194z.zi hatw193
        refine V.pt h190 fun a h198 => ?_
        refine V.re h198 [] 1 0 [(5, .slice A191 (((outN s n).length) + 1) c192)] fun a h199 => k180 _ _ ?_
        refine V.rr h199 [] 63 63 [(0, .string (cuB (restN s n) 10))] fun a h200 => ?_
        refine V.blk_n ?_
        refine V.then_n (k35 _ _ ?_)
        refine V.rr h200 [(1, .i ((n : Int) + 1))] 17 18 [(6, .int .i64 ((n : Int) + 1))] fun a h201 => ?_
        refine V.then_n ?_
        have hqs := outN_next s n
        refine ⟨n + 1, A191, c192, by show (cuB (restN s n) 10).size < (restN s n).size; omega, ?_⟩
        refine ⟨(((h201.eq 0 (v := (.string (cuB (restN s n) 10))) (u := (.string (restN s (n + 1)))) (rfl)).eq 5 (v := (.slice A191 (((outN s n).length) + 1) c192)) (u := (.slice A191 ((outN s (n + 1)).length) c192)) (V.sl_eq (by rw [hqs]; simp))).eq 6 (v := (.int .i64 ((n : Int) + 1))) (u := (.int .i64 ((n + 1) : Int))) (V.int_eq (by omega))).only _, (by rw [hqs]; simpa using hO194.raise (m := w193.heap.size) (by omega)), hF_196, (by show n + 1 + (cuB (restN s n) 10).size ≤ s.size; omega), (fun j hj => by rcases Nat.lt_or_ge j n with h1 | h1; exact hg j h1; obtain rfl : j = n := (by omega); exact ⟨by assumption, hgd⟩)⟩
   ·
    refine V.exit (V.then_e (V.then_e (V.blk_hit ?_)))
    refine V.then_n (k18 _ _ ?_)
    refine V.sr h32 [] 64 64 [(2, .slice A2 ((outN s n).length) c2), (3, .int .i64 0), (4, .int .i64 0)] fun a h204 => ?_
    refine V.ret ?_
    refine V.r3 h204 (.slice A2 ((outN s n).length) c2) (.int .i64 0) (.int .i64 0) ?_
    exact ⟨outN s n, 0, 0, _, _, rfl, (hO_25.raise (m := w23.heap.size) (by omega)).readi, .inr ⟨by omega, n, hg, .inl ⟨by first | assumption | exact Decidable.of_not_not (by assumption), rfl, rfl, rfl⟩⟩, hF_26⟩
/-! ### alive: one row's text, one text's row -/
def knownD : List EnD := [⟨⟨#[107]⟩, 4, ⟨#[]⟩, [], [(⟨#[98]⟩, -1), (⟨#[97]⟩, 3)], [], -1⟩]
theorem known_txt : txB knownD = [122, 115, 101, 116, 32, 54, 98, 32, 45, 32, 54, 50, 58, 45, 49, 32, 54, 49, 58, 51, 10] := by decide +kernel
def oneL : ByteArray := ⟨#[115, 116, 114, 105, 110, 103, 32, 54, 98, 32, 53, 32, 46]⟩
def oneE : EnD := ⟨⟨#[107]⟩, 1, ⟨#[]⟩, [], [], [], 5⟩
theorem one_spl : spl oneL = [⟨#[115, 116, 114, 105, 110, 103]⟩, ⟨#[54, 98]⟩, ⟨#[53]⟩, ⟨#[46]⟩] := by decide +kernel
theorem one_hex : (uhOk ⟨#[54, 98]⟩ ∧ unhexS ⟨#[54, 98]⟩ = ⟨#[107]⟩) ∧ (uhOk ⟨#[46]⟩ ∧ unhexS ⟨#[46]⟩ = ⟨#[]⟩) := by
  have h1 : uhOk ⟨#[54, 98]⟩ := .inr ⟨by decide, by decide, fun i hi => by
    have hi' : i < 2 := hi
    match i, hi' with
    | 0, _ => unfold uhG; decide +kernel
    | 1, _ => unfold uhG; decide +kernel⟩
  exact ⟨⟨h1, (uh_yes (by decide) h1).1.symm.trans (by decide +kernel)⟩, .inl rfl, (uh_dot rfl).1.symm⟩
theorem one_num : prOk ⟨#[53]⟩ ∧ prN ⟨#[53]⟩ = 5 := by
  have h : itoaS 5 = ⟨#[53]⟩ := by decide +kernel
  have hi : i64 5 := by unfold i64; omega
  exact ⟨⟨5, hi, h⟩, (pr_yes hi h).1.symm⟩
theorem one_rdE : rdE oneL = oneE := by
  unfold rdE rdE0
  rw [one_spl]
  have e0 : at_ Rp.str [⟨#[115, 116, 114, 105, 110, 103]⟩, ⟨#[54, 98]⟩, ⟨#[53]⟩, ⟨#[46]⟩] 0 = ⟨#[115, 116, 114, 105, 110, 103]⟩ := rfl
  have e1 : at_ Rp.str [⟨#[115, 116, 114, 105, 110, 103]⟩, ⟨#[54, 98]⟩, ⟨#[53]⟩, ⟨#[46]⟩] 1 = ⟨#[54, 98]⟩ := rfl
  have e2 : at_ Rp.str [⟨#[115, 116, 114, 105, 110, 103]⟩, ⟨#[54, 98]⟩, ⟨#[53]⟩, ⟨#[46]⟩] 2 = ⟨#[53]⟩ := rfl
  rw [e0, e1, e2, one_hex.1.2]
  have ek : kindI ⟨#[115, 116, 114, 105, 110, 103]⟩ = 1 := by decide +kernel
  have et : tillD ⟨#[53]⟩ = 5 := by unfold tillD; rw [if_neg (by decide)]; exact one_num.2
  rw [ek, et]
  simp only [List.drop_succ_cons, List.drop_zero, List.foldl_cons, List.foldl_nil]
  unfold ptE
  rw [if_pos rfl, one_hex.2.2]
  rfl
theorem one_ok : rdOk oneL := by
  have hp : rdPre oneL := by
    unfold rdPre
    rw [one_spl]
    refine ⟨by decide, by decide +kernel, one_hex.1.1, .inr ⟨one_num.1, ?_⟩, fun i hi => ?_⟩
    · show 0 ≤ prN ⟨#[53]⟩ ∧ prN ⟨#[53]⟩ ≤ 1099511627776
      rw [one_num.2]; decide
    · have hi' : i < 1 := hi
      obtain rfl : i = 0 := by omega
      unfold gP
      rw [one_spl]
      show ptOk (kindI ⟨#[115, 116, 114, 105, 110, 103]⟩) ⟨#[46]⟩
      rw [show kindI ⟨#[115, 116, 114, 105, 110, 103]⟩ = 1 by decide +kernel]
      unfold ptOk
      rw [if_neg (by decide), if_neg (by decide)]
      exact one_hex.2.1
  refine ⟨hp, ?_, ?_⟩
  · rw [one_rdE]
    refine ⟨by decide, .inr ⟨by decide, by decide⟩, ?_⟩
    unfold okV
    rw [if_pos (show oneE.k = 1 from rfl)]
    exact ⟨by decide, rfl, rfl, rfl⟩
  · rw [one_rdE]
    decide +kernel
/-- A row that lies in a block, whole. -/
theorem slr_blk {α : Type} {R : Rp α} {Z : Nat → Prop} {w : World} {b e n : Nat} {cs : List Value} {xs : List α} (hB : Blk w b cs e) (hn : n = xs.length) (hz : Z b) (hl : xs.length ≤ 9223372036854775807) (hc : Cells R Z w xs cs) : SlR R Z w (.slice (some ⟨b, 0, none⟩) n n) xs := by
  subst hn
  refine ⟨_, _, rfl, Nat.le_refl _, hl, fun i x hi => ?_⟩
  obtain ⟨c, h1, h2⟩ := hc.get i x hi
  exact ⟨b, 0, c, rfl, hz, hB.lt, h1, fun j u hj => by rw [hB.cell, Nat.zero_add]; exact h2 j u hj⟩
end Go.Proofs.YtdebkbfnngkdlaaGreatDoor
end
