/- Walks: Match. -/
import Derived.Test.YtmlohijidjbbjaaProg
import Derived.Test.YtmlohijidjbbjaaWj
import Derived.Test.YtmlohijidjbbjaaWf
import Derived.Test.YtmlohijidjbbjaaMat
import Derived.Test.YtmlohijidjbbjaaRowN
namespace Go.Proofs.Ytmlohijidjbbjaa
open Go.V Go.Base
attribute [local irreducible] Act.put Act.eval
set_option linter.unusedVariables false
set_option linter.unusedSimpArgs false
theorem info45 : (Try.prog.info? 45).map (fun i => (i.zero, i.size, i.bytes)) = some (some (.agg #[.int .u64 0, .int .u64 0, .int .u64 0, .int .u64 0]), 4, 32) := by kernel_rfl
/-- A set of bytes as four words. -/
structure S4 where
  a : Nat
  b : Nat
  c : Nat
  d : Nat
def S4.ws (x : S4) : List Nat := [x.a, x.b, x.c, x.d]
def enc4 (x : S4) : List Value := [.int .u64 (x.a : Int), .int .u64 (x.b : Int), .int .u64 (x.c : Int), .int .u64 (x.d : Int)]
theorem enc4_len (x : S4) : (enc4 x).length = 4 := rfl
def z4 : S4 := ⟨0, 0, 0, 0⟩
/-- The sets are those of the first parts. -/
def SetOk (fold : Bool) (g : Glob) (x : S4) : Prop := Wds x.ws ∧ ∀ d : Nat, d < 256 → bitS x.ws d = setB g (d : Int) fold
def SetsOk (fold : Bool) (l : List Glob) (ss : List S4) (k : Nat) : Prop := ∀ j, j < k → SetOk fold (at_ globR l (j : Int)) (ss.getD j z4)
theorem sets_step {fold : Bool} {l : List Glob} {ss : List S4} {k : Nat} {x : S4} (h : SetsOk fold l ss k) (hk : k < ss.length) (hx : SetOk fold (at_ globR l (k : Int)) x) : SetsOk fold l (ss.set (k : Int).toNat x) (k + 1) := by
  intro j hj
  rw [Int.toNat_natCast, List.getD_eq_getElem?_getD]
  by_cases he : j = k
  · subst he; rw [List.getElem?_set_self hk]; exact hx
  · rw [List.getElem?_set_ne (fun e => he e.symm)]
    have := h j (by omega)
    rw [List.getD_eq_getElem?_getD] at this
    exact this
theorem made4 (n : Nat) : (madeCells (Value.cells (.agg #[.int .u64 0, .int .u64 0, .int .u64 0, .int .u64 0])) (n * 4)).toList = (List.replicate n z4).flatMap enc4 := by
  have h2 : ∀ n : Nat, (List.replicate n z4).flatMap enc4 = List.replicate (n * 4) (Value.int .u64 0) := by
    intro n
    induction n with
    | zero => rfl
    | succ n ih => rw [List.replicate_succ, List.flatMap_cons, ih, Nat.add_mul, Nat.add_comm, Nat.one_mul, ← List.replicate_append_replicate]; rfl
  rw [h2]
  apply List.ext_getElem
  · simp [madeCells]
  · intro i h3 h4
    have : i % 4 < 4 := Nat.mod_lt _ (by omega)
    simp only [madeCells, Value.cells, Array.getElem_toList, Array.getElem_map, Array.getElem_range, List.getElem_replicate]
    show (#[Value.int .u64 0, .int .u64 0, .int .u64 0, .int .u64 0])[i % 4]! = _
    match i % 4, this with
    | 0, _ | 1, _ | 2, _ | 3, _ => rfl
theorem Gr.bound {fold : Bool} {l : List Glob} {s : List Int} {i q : Nat} {star : Int} {f : Nat} (h : Gr fold l s i q star f) : star < i ∧ f ≤ q ∧ f ≤ s.length := by
  have h1 := h.hat
  by_cases hs : 0 ≤ star
  · obtain ⟨h2, _, h3⟩ := h.st hs; omega
  · have := h.no (by omega); have := h.lo; omega
theorem meas_back {n m f i q i' q' : Nat} (hf : f < n) (hi : i' ≤ m) : (n - (f + 1)) * (m + n + 3) + (m - i') + (n - q') < (n - f) * (m + n + 3) + (m - i) + (n - q) := by
  have : (n - f) * (m + n + 3) = (n - (f + 1)) * (m + n + 3) + (m + n + 3) := by
    rw [show n - f = (n - (f + 1)) + 1 by omega, Nat.add_mul, Nat.one_mul]
  omega
theorem meas_star {n m f i q : Nat} (hfq : f ≤ q) (hi : i < m) : (n - q) * (m + n + 3) + (m - (i + 1)) + (n - q) < (n - f) * (m + n + 3) + (m - i) + (n - q) := by
  have : (n - q) * (m + n + 3) ≤ (n - f) * (m + n + 3) := Nat.mul_le_mul_right _ (by omega)
  omega
theorem rmat_long {p s : ByteArray} {fold : Bool} (h : ¬ (p.size ≤ 65536 ∧ s.size ≤ 65536)) : false = rmat p s fold := by
  unfold rmat
  by_cases h1 : p.size ≤ 65536
  · rw [decide_eq_true h1, decide_eq_false (fun h2 => h ⟨h1, h2⟩)]; rfl
  · rw [decide_eq_false h1]; rfl
theorem rmat_mat {p s : ByteArray} {fold : Bool} (h1 : p.size ≤ 65536) (h2 : s.size ≤ 65536) : rmat p s fold = true ↔ Mat fold (parse (ints p)) (ints s) := by
  unfold rmat
  rw [decide_eq_true h1, decide_eq_true h2, Bool.true_and, Bool.true_and, dp_mat _ s _ (Nat.le_refl _) _ (Nat.le_refl _), List.take_length, List.take_of_length_le (by rw [ints_length]; omega)]
theorem byte_at (s : ByteArray) (q : Nat) (h : q < s.size) : (ints s)[q]? = some (bi s (q : Int)) := ints_get s q h
theorem set_one {fold : Bool} {l : List Glob} {ss : List S4} {k : Nat} (hok : SetsOk fold l ss k) (hl : k = l.length) (hkind : ∀ g ∈ l, 1 ≤ g.kind ∧ g.kind ≤ 4) {i : Nat} (hi : i < l.length) (hk : (at_ globR l (i : Int)).kind ≠ 1) (s : ByteArray) (q : Int) :
    bitS (ss.getD i z4).ws (byt s q).toNat = oneB (at_ globR l (i : Int)) (bi s q) fold := by
  have hg : l[i]? = some (at_ globR l (i : Int)) := at_some globR (i := (i : Int)) (by omega) (by omega)
  have hlt : (byt s q).toNat < 256 := (byt s q).toNat_lt
  rw [(hok i (by omega)).2 _ hlt, setB_one hk (hkind _ (List.mem_of_getElem? hg))]
  rfl
theorem miss_out {l : List Glob} {fold : Bool} {c : Int} {i : Nat} (h : ¬ i < l.length) : ∀ g, l[i]? = some g → g.kind ≠ 1 ∧ oneB g c fold = false :=
  fun g hg => absurd (List.getElem?_eq_some_iff.1 hg).1 h
theorem miss_in {l : List Glob} {fold : Bool} {c : Int} {i : Nat} (h : i < l.length) (hk : (at_ globR l (i : Int)).kind ≠ 1) (ho : oneB (at_ globR l (i : Int)) c fold = false) : ∀ g, l[i]? = some g → g.kind ≠ 1 ∧ oneB g c fold = false := by
  intro g hg
  have h1 : l[i]? = some (at_ globR l (i : Int)) := at_some globR (i := (i : Int)) (by omega) (by omega)
  rw [h1] at hg
  injection hg with hg
  subst hg
  exact ⟨hk, ho⟩
theorem parse_kinds (p : ByteArray) : ∀ g ∈ parse (ints p), 1 ≤ g.kind ∧ g.kind ≤ 4 := fun g hg => (parse_good_mem _ (byt_ints p) g hg).2
set_option maxHeartbeats 4000000 in
set_option maxRecDepth 20000 in
theorem match_any (w : World) (p s : ByteArray) (fold : Bool) : Calls Try.prog 10 #[.string p, .string s, .bool fold] w (fun e w' => e = .returned (.bool (rmat p s fold)) ∧ Fr [] w w') := by
  have hF := Fr.refl [] w
  refine V.enter 108 Try.func10 rfl rfl ?_
  intro a hz ha
  have s0 : a.eval (.tmp 0) = (.string p) := ha 0 _ rfl
  have s1 : a.eval (.tmp 1) = (.string s) := ha 1 _ rfl
  have s2 : a.eval (.tmp 2) = (.bool fold) := ha 2 _ rfl
  clear ha
  refine V.seq (fun K1 hK2 => ?_)
  refine V.region (by kernel_rfl) ?_
  refine V.go (V.asg (v := (.bool false)) evc ?_)
  refine V.nil ?_
  refine V.then_n (hK2 _ _ ?_)
  refine V.seq (fun K3 hK4 => ?_)
  refine V.seq (fun K5 hK6 => ?_)
  refine V.region (by kernel_rfl) ?_
  refine V.go (V.mv (v := (.string p)) (at_other rfl _ (s0)) ?_)
  refine V.go (V.pv [(15, .string p)] ⟨(at_same (hz.put _ _) rfl _), trivial⟩ (by kernel_rfl) (.int .i64 (p.size : Int)) (by kernel_rfl) ?_)
  refine V.go (V.pv [(16, .int .i64 (p.size : Int))] ⟨(at_same ((hz.put _ _).put _ _) rfl _), trivial⟩ (by kernel_rfl) (.bool (decide ((p.size : Int) > 65536))) (by kernel_rfl) ?_)
  refine V.go (V.mv (v := (.bool (decide ((p.size : Int) > 65536)))) (at_same (((hz.put _ _).put _ _).put _ _) rfl _) ?_)
  by_cases hg7 : (p.size : Int) > 65536
  ·
    refine V.go_off 18 (by kernel_rfl) (((at_same ((((hz.put _ _).put _ _).put _ _).put _ _) rfl _ : Act.eval _ _ = (.bool (decide ((p.size : Int) > 65536))))).trans (dt hg7)) (by kernel_rfl) ?_
    refine V.go_off 18 (by kernel_rfl) (((at_other rfl _ (at_same ((((hz.put _ _).put _ _).put _ _).put _ _) rfl _) : Act.eval _ _ = (.bool (decide ((p.size : Int) > 65536))))).trans (dt hg7)) (by kernel_rfl) ?_
    refine V.go_off 18 (by kernel_rfl) (((at_other rfl _ (at_other rfl _ (at_same ((((hz.put _ _).put _ _).put _ _).put _ _) rfl _)) : Act.eval _ _ = (.bool (decide ((p.size : Int) > 65536))))).trans (dt hg7)) (by kernel_rfl) ?_
    refine V.go (V.pk_t (((at_other rfl _ (at_other rfl _ (at_other rfl _ (at_same ((((hz.put _ _).put _ _).put _ _).put _ _) rfl _))) : Act.eval _ _ = (.bool (decide ((p.size : Int) > 65536))))).trans (dt hg7)) (v := (.bool true)) evc ?_)
    refine V.nil ?_
    refine V.then_n (hK6 _ _ ?_)
    refine V.flushW (((((((((hz.put _ _).put _ _).put _ _).put _ _).put _ _).put _ _).put _ _).put _ _).put _ _) (fun a8 hz9 up10 => ?_)
    have s0_11 : a8.eval (.tmp 0) = (.string p) := up10 _ _ (at_other rfl _ (at_other rfl _ (at_other rfl _ (at_other rfl _ (at_other rfl _ (at_other rfl _ (at_other rfl _ (at_other rfl _ (at_other rfl _ (s0))))))))))
    have s1_12 : a8.eval (.tmp 1) = (.string s) := up10 _ _ (at_other rfl _ (at_other rfl _ (at_other rfl _ (at_other rfl _ (at_other rfl _ (at_other rfl _ (at_other rfl _ (at_other rfl _ (at_other rfl _ (s1))))))))))
    have s2_13 : a8.eval (.tmp 2) = (.bool fold) := up10 _ _ (at_other rfl _ (at_other rfl _ (at_other rfl _ (at_other rfl _ (at_other rfl _ (at_other rfl _ (at_other rfl _ (at_other rfl _ (at_other rfl _ (s2))))))))))
    have s22_14 : a8.eval (.tmp 22) = (.bool true) := up10 _ _ (at_same ((((((((hz.put _ _).put _ _).put _ _).put _ _).put _ _).put _ _).put _ _).put _ _) rfl _)
    clear up10
    refine V.cond_t (s22_14) ?_
    refine V.seq (fun K15 hK16 => ?_)
    refine V.region (by kernel_rfl) ?_
    refine V.go (V.asg (v := (.bool false)) evc ?_)
    refine V.nil ?_
    refine V.then_n (hK16 _ _ ?_)
    refine V.ret ?_
    refine V.then_r ?_
    refine V.ret1 (hz9.put _ _) rfl (at_same hz9 rfl _) ?_
    refine ⟨congrArg Ending.returned (congrArg Value.bool ?_), hF⟩
    exact rmat_long (by omega)
  ·
    refine V.go_on 18 (by kernel_rfl) (((at_same ((((hz.put _ _).put _ _).put _ _).put _ _) rfl _ : Act.eval _ _ = (.bool (decide ((p.size : Int) > 65536))))).trans (df hg7)) (V.mv (v := (.string s)) (at_other rfl _ (at_other rfl _ (at_other rfl _ (at_other rfl _ (at_other rfl _ (s1)))))) ?_)
    refine V.go_on 18 (by kernel_rfl) (((at_other rfl _ (at_same ((((hz.put _ _).put _ _).put _ _).put _ _) rfl _) : Act.eval _ _ = (.bool (decide ((p.size : Int) > 65536))))).trans (df hg7)) (V.pv [(19, .string s)] ⟨(at_same (((((hz.put _ _).put _ _).put _ _).put _ _).put _ _) rfl _), trivial⟩ (by kernel_rfl) (.int .i64 (s.size : Int)) (by kernel_rfl) ?_)
    refine V.go_on 18 (by kernel_rfl) (((at_other rfl _ (at_other rfl _ (at_same ((((hz.put _ _).put _ _).put _ _).put _ _) rfl _)) : Act.eval _ _ = (.bool (decide ((p.size : Int) > 65536))))).trans (df hg7)) (V.pv [(20, .int .i64 (s.size : Int))] ⟨(at_same ((((((hz.put _ _).put _ _).put _ _).put _ _).put _ _).put _ _) rfl _), trivial⟩ (by kernel_rfl) (.bool (decide ((s.size : Int) > 65536))) (by kernel_rfl) ?_)
    refine V.go (V.pk_f (((at_other rfl _ (at_other rfl _ (at_other rfl _ (at_same ((((hz.put _ _).put _ _).put _ _).put _ _) rfl _))) : Act.eval _ _ = (.bool (decide ((p.size : Int) > 65536))))).trans (df hg7)) (v := (.bool (decide ((s.size : Int) > 65536)))) (at_same (((((((hz.put _ _).put _ _).put _ _).put _ _).put _ _).put _ _).put _ _) rfl _) ?_)
    refine V.nil ?_
    refine V.then_n (hK6 _ _ ?_)
    refine V.flushW (((((((((hz.put _ _).put _ _).put _ _).put _ _).put _ _).put _ _).put _ _).put _ _).put _ _) (fun a17 hz18 up19 => ?_)
    have s0_20 : a17.eval (.tmp 0) = (.string p) := up19 _ _ (at_other rfl _ (at_other rfl _ (at_other rfl _ (at_other rfl _ (at_other rfl _ (at_other rfl _ (at_other rfl _ (at_other rfl _ (at_other rfl _ (s0))))))))))
    have s1_21 : a17.eval (.tmp 1) = (.string s) := up19 _ _ (at_other rfl _ (at_other rfl _ (at_other rfl _ (at_other rfl _ (at_other rfl _ (at_other rfl _ (at_other rfl _ (at_other rfl _ (at_other rfl _ (s1))))))))))
    have s2_22 : a17.eval (.tmp 2) = (.bool fold) := up19 _ _ (at_other rfl _ (at_other rfl _ (at_other rfl _ (at_other rfl _ (at_other rfl _ (at_other rfl _ (at_other rfl _ (at_other rfl _ (at_other rfl _ (s2))))))))))
    have s22_23 : a17.eval (.tmp 22) = (.bool (decide ((s.size : Int) > 65536))) := up19 _ _ (at_same ((((((((hz.put _ _).put _ _).put _ _).put _ _).put _ _).put _ _).put _ _).put _ _) rfl _)
    clear up19
    refine V.condP (p := (s.size : Int) > 65536) (s22_23) (fun ht24 => ?_) (fun ht24 => ?_)
    ·
      refine V.seq (fun K25 hK26 => ?_)
      refine V.region (by kernel_rfl) ?_
      refine V.go (V.asg (v := (.bool false)) evc ?_)
      refine V.nil ?_
      refine V.then_n (hK26 _ _ ?_)
      refine V.ret ?_
      refine V.then_r ?_
      refine V.ret1 (hz18.put _ _) rfl (at_same hz18 rfl _) ?_
      refine ⟨congrArg Ending.returned (congrArg Value.bool ?_), hF⟩
      exact rmat_long (by omega)
    ·
      refine V.skip ?_
      refine V.then_n (hK4 _ _ ?_)
      refine V.seq (fun K27 hK28 => ?_)
      refine V.region (by kernel_rfl) ?_
      refine V.go (V.mv (v := (.string p)) (s0_20) ?_)
      refine V.go (V.call 21 #[] #[.string p] evf (args1 (at_same hz18 rfl _)) (Go.Proofs.enters_of Try.func21 (by kernel_rfl) rfl) (parse_any w p (by omega)) ?_)
      rintro _ w33 ⟨A29, c30, rfl, hps31, hF32⟩
      refine ⟨_, rfl, ?_⟩
      have hsw33 := hF32.size
      have hF_34 := hF.new hF32
      have hpl32 := parse_length (ints p); rw [ints_length] at hpl32
      refine V.go (V.asg (v := (.slice A29 ((parse (ints p)).length) c30)) (at_same (hz18.put _ _) rfl _) ?_)
      refine V.nil ?_
      refine V.then_n (hK28 _ _ ?_)
      refine V.seq (fun K35 hK36 => ?_)
      have hps37 := hps31.zone (Z' := fun b => b < w33.heap.size) (fun b hb _ => hb)
      have hgood := parse_good p
      refine V.region (by kernel_rfl) ?_
      refine V.go (V.mv (v := (.slice A29 ((parse (ints p)).length) c30)) (at_same ((hz18.put _ _).put _ _) rfl _) ?_)
      refine V.go (V.pv [(25, .slice A29 ((parse (ints p)).length) c30)] ⟨(at_same (((hz18.put _ _).put _ _).put _ _) rfl _), trivial⟩ (by kernel_rfl) (.int .i64 (((parse (ints p)).length : Nat) : Int)) (by kernel_rfl) ?_)
      refine V.go (V.mkN (enc := enc4) ((parse (ints p)).length) 4 (.agg #[.int .u64 0, .int .u64 0, .int .u64 0, .int .u64 0]) z4 32 ((at_same ((((hz18.put _ _).put _ _).put _ _).put _ _) rfl _).trans (V.int_eq (by omega))) ((at_same ((((hz18.put _ _).put _ _).put _ _).put _ _) rfl _).trans (V.int_eq (by omega))) (by kernel_rfl) info45 (made4 _) (by omega) (by omega) ?_)
      intro w39 b38 heb38 hR40 hF41
      have hsb38 := hR40.lt
      have hF_42 := hF_34.new hF41
      have hps37_43 := hps37.fr0 hF41
      refine V.go (V.asg (v := (.slice (some ⟨b38, 0, none⟩) ((parse (ints p)).length) ((parse (ints p)).length))) (at_same (((((hz18.put _ _).put _ _).put _ _).put _ _).put _ _) rfl _) ?_)
      refine V.nil ?_
      refine V.then_n (hK36 _ _ ?_)
      refine V.flushW (((((((hz18.put _ _).put _ _).put _ _).put _ _).put _ _).put _ _).put _ _) (fun a44 hz45 up46 => ?_)
      have s1_47 : a44.eval (.tmp 1) = (.string s) := up46 _ _ (at_other rfl _ (at_other rfl _ (at_other rfl _ (at_other rfl _ (at_other rfl _ (at_other rfl _ (at_other rfl _ (s1_21))))))))
      have s2_48 : a44.eval (.tmp 2) = (.bool fold) := up46 _ _ (at_other rfl _ (at_other rfl _ (at_other rfl _ (at_other rfl _ (at_other rfl _ (at_other rfl _ (at_other rfl _ (s2_22))))))))
      have s7_49 : a44.eval (.tmp 7) = (.slice A29 ((parse (ints p)).length) c30) := up46 _ _ (at_other rfl _ (at_other rfl _ (at_other rfl _ (at_other rfl _ (at_same ((hz18.put _ _).put _ _) rfl _)))))
      have s8_50 : a44.eval (.tmp 8) = (.slice (some ⟨b38, 0, none⟩) ((parse (ints p)).length) ((parse (ints p)).length)) := up46 _ _ (at_same ((((((hz18.put _ _).put _ _).put _ _).put _ _).put _ _).put _ _) rfl _)
      clear up46
      refine V.seq (fun K51 hK52 => ?_)
      refine V.seq (fun K53 hK54 => ?_)
      refine V.region (by kernel_rfl) ?_
      refine V.go (V.mv (v := (.slice A29 ((parse (ints p)).length) c30)) (s7_49) ?_)
      refine V.go (V.pv [(28, .slice A29 ((parse (ints p)).length) c30)] ⟨(at_same hz45 rfl _), trivial⟩ (by kernel_rfl) (.int .i64 (((parse (ints p)).length : Nat) : Int)) (by kernel_rfl) ?_)
      refine V.go (V.mv (v := (.int .i64 0)) evc ?_)
      refine V.nil ?_
      refine V.then_n (hK54 _ _ ?_)
      refine V.block ?_
      refine V.loop2 (fun (k : Nat) (ss : List S4) a_ w_ => Sz 108 a_ ∧ a_.eval (.tmp 1) = (.string s) ∧ a_.eval (.tmp 2) = (.bool fold) ∧ a_.eval (.tmp 7) = (.slice A29 ((parse (ints p)).length) c30) ∧ a_.eval (.tmp 8) = (.slice (some ⟨b38, 0, none⟩) ((parse (ints p)).length) ((parse (ints p)).length)) ∧ a_.eval (.tmp 28) = (.slice A29 ((parse (ints p)).length) c30) ∧ a_.eval (.tmp 29) = (.int .i64 (((parse (ints p)).length : Nat) : Int)) ∧ a_.eval (.tmp 30) = (.int .i64 (k : Int)) ∧ RowN enc4 w_ b38 ss 45 ∧ Fr [] w w_ ∧ SlR globR (fun b => b < w33.heap.size) w_ (.slice A29 ((parse (ints p)).length) c30) (parse (ints p)) ∧ (k ≤ (parse (ints p)).length) ∧ (ss.length = (parse (ints p)).length) ∧ (SetsOk fold (parse (ints p)) ss k)) (fun (k : Nat) (ss : List S4) => (parse (ints p)).length - k) 0 (List.replicate ((parse (ints p)).length) z4) ?_ ?_
      ·
        refine ⟨(((hz45.put _ _).put _ _).put _ _), ?_, ?_, ?_, ?_, ?_, ?_, ?_, hR40, hF_42, hps37_43, (by omega), (by simp), (fun j hj => by omega)⟩
        · exact (at_other rfl _ (at_other rfl _ (at_other rfl _ (s1_47))))
        · exact (at_other rfl _ (at_other rfl _ (at_other rfl _ (s2_48))))
        · exact (at_other rfl _ (at_other rfl _ (at_other rfl _ (s7_49))))
        · exact (at_other rfl _ (at_other rfl _ (at_other rfl _ (s8_50))))
        · exact (at_other rfl _ (at_other rfl _ (at_same hz45 rfl _)))
        · exact Eq.trans (at_other rfl _ (at_same (hz45.put _ _) rfl _)) (V.int_eq (by omega))
        · exact Eq.trans (at_same ((hz45.put _ _).put _ _) rfl _) (V.int_eq (by omega))
      ·
        rintro k ss a55 w56 ⟨hz57, s1_58, s2_59, s7_60, s8_61, s28_62, s29_63, s30_64, hR_65, hF_66, hps37_67, hk, hls, hok⟩
        have hlt68 := hR_65.lt
        have hfs69 := hF_66.size
        refine V.seq (fun K70 hK71 => ?_)
        refine V.region (by kernel_rfl) ?_
        refine V.go (V.pv [(30, .int .i64 (k : Int)), (29, .int .i64 (((parse (ints p)).length : Nat) : Int))] ⟨(s30_64), (s29_63), trivial⟩ (by kernel_rfl) (.bool (decide ((k : Int) < (((parse (ints p)).length : Nat) : Int)))) (by kernel_rfl) ?_)
        refine V.nil ?_
        refine V.then_n (hK71 _ _ ?_)
        refine V.seq (fun K72 hK73 => ?_)
        refine V.condP (p := (k : Int) < (((parse (ints p)).length : Nat) : Int)) (at_same hz57 rfl _) (fun ht74 => ?_) (fun ht74 => ?_)
        ·
          refine V.skip ?_
          refine V.then_n (hK73 _ _ ?_)
          refine V.seq (fun K75 hK76 => ?_)
          refine V.block ?_
          refine V.seq (fun K77 hK78 => ?_)
          refine V.region (by kernel_rfl) ?_
          refine V.go (V.mv (v := (.int .i64 (k : Int))) (at_other rfl _ (s30_64)) ?_)
          obtain ⟨g79, o80, hA81, hA81l, hA81z⟩ := hps37_67.addr (by omega)
          refine V.go (V.ixa g79 o80 ((parse (ints p)).length) c30 .i64 (k : Int) 4 ((at_other rfl _ (at_other rfl _ (s28_62))).trans (by rw [hA81])) (at_other rfl _ (at_other rfl _ (s30_64))) (by omega) (by omega) (by kernel_rfl) ?_)
          obtain ⟨cs82, hok83, hE84⟩ := hps37_67.els hA81 (k : Int) (by omega) (by omega)
          obtain ⟨A85, c86, rfl, hcap87, hS88⟩ := glob_open hok83
          refine V.go (V.lds ⟨g79, o80 + (k : Int).toNat * 4, none⟩ [.int .i64 ((at_ globR (parse (ints p)) (k : Int)).kind), .int .u8 ((at_ globR (parse (ints p)) (k : Int)).c), .bool ((at_ globR (parse (ints p)) (k : Int)).neg), .slice A85 ((at_ globR (parse (ints p)) (k : Int)).rs.length) c86] (at_same ((hz57.put _ _).put _ _) rfl _) (by kernel_rfl) (hE84.cells 0 _ rfl) ?_)
          refine V.go (V.mk [] trivial (by kernel_rfl) [.int .i64 0, .int .u8 0, .bool false, .slice none 0 0] 42 (fun b => .pointer (some ⟨b, 0, none⟩)) (by kernel_rfl) ?_)
          intro w90 b89 heb89 hB91 hF92 hsb89
          have hR_93 := hR_65.fr0 hF92
          have hF_94 := hF_66.new hF92
          have hps37_95 := hps37_67.fr0 hF92
          have hS88_96 := hS88.fr0 hF92
          have hE84_97 := hE84.fr0 hF92
          refine V.go (V.asg (v := (.int .i64 (k : Int))) (at_other rfl _ (at_other rfl _ (at_other rfl _ (at_same (hz57.put _ _) rfl _)))) ?_)
          refine V.go (V.stn b89 0 (.agg #[.int .i64 ((at_ globR (parse (ints p)) (k : Int)).kind), .int .u8 ((at_ globR (parse (ints p)) (k : Int)).c), .bool ((at_ globR (parse (ints p)) (k : Int)).neg), .slice A85 ((at_ globR (parse (ints p)) (k : Int)).rs.length) c86]) [.int .i64 ((at_ globR (parse (ints p)) (k : Int)).kind), .int .u8 ((at_ globR (parse (ints p)) (k : Int)).c), .bool ((at_ globR (parse (ints p)) (k : Int)).neg), .slice A85 ((at_ globR (parse (ints p)) (k : Int)).rs.length) c86] (at_other rfl _ (at_same ((((hz57.put _ _).put _ _).put _ _).put _ _) rfl _)) (at_other rfl _ (at_other rfl _ (at_same (((hz57.put _ _).put _ _).put _ _) rfl _))) rfl rfl (by kernel_rfl) hB91 (by simp) [.int .i64 ((at_ globR (parse (ints p)) (k : Int)).kind), .int .u8 ((at_ globR (parse (ints p)) (k : Int)).c), .bool ((at_ globR (parse (ints p)) (k : Int)).neg), .slice A85 ((at_ globR (parse (ints p)) (k : Int)).rs.length) c86] rfl ?_)
          intro w98 hB99 hF100 hsw98
          have hR_101 := hR_93.fr1 hF100 (by omega)
          have hF_102 := hF_94.own hF100 (by simp <;> omega)
          have hps37_103 := hps37_95.fr hF100 (by simp <;> omega)
          have hS88_104 := hS88_96.fr hF100 (by simp <;> omega)
          have hE84_105 := hE84_97.fr hF100 (by simp <;> omega)
          refine V.nil ?_
          refine V.then_n (hK78 _ _ ?_)
          refine V.flushW ((((((hz57.put _ _).put _ _).put _ _).put _ _).put _ _).put _ _) (fun a106 hz107 up108 => ?_)
          have s1_109 : a106.eval (.tmp 1) = (.string s) := up108 _ _ (at_other rfl _ (at_other rfl _ (at_other rfl _ (at_other rfl _ (at_other rfl _ (at_other rfl _ (s1_58)))))))
          have s2_110 : a106.eval (.tmp 2) = (.bool fold) := up108 _ _ (at_other rfl _ (at_other rfl _ (at_other rfl _ (at_other rfl _ (at_other rfl _ (at_other rfl _ (s2_59)))))))
          have s7_111 : a106.eval (.tmp 7) = (.slice A29 ((parse (ints p)).length) c30) := up108 _ _ (at_other rfl _ (at_other rfl _ (at_other rfl _ (at_other rfl _ (at_other rfl _ (at_other rfl _ (s7_60)))))))
          have s8_112 : a106.eval (.tmp 8) = (.slice (some ⟨b38, 0, none⟩) ((parse (ints p)).length) ((parse (ints p)).length)) := up108 _ _ (at_other rfl _ (at_other rfl _ (at_other rfl _ (at_other rfl _ (at_other rfl _ (at_other rfl _ (s8_61)))))))
          have s9_113 : a106.eval (.tmp 9) = (.int .i64 (k : Int)) := up108 _ _ (at_same (((((hz57.put _ _).put _ _).put _ _).put _ _).put _ _) rfl _)
          have s10_114 : a106.eval (.tmp 10) = (.pointer (some ⟨b89, 0, none⟩)) := up108 _ _ (at_other rfl _ (at_same ((((hz57.put _ _).put _ _).put _ _).put _ _) rfl _))
          have s28_115 : a106.eval (.tmp 28) = (.slice A29 ((parse (ints p)).length) c30) := up108 _ _ (at_other rfl _ (at_other rfl _ (at_other rfl _ (at_other rfl _ (at_other rfl _ (at_other rfl _ (s28_62)))))))
          have s29_116 : a106.eval (.tmp 29) = (.int .i64 (((parse (ints p)).length : Nat) : Int)) := up108 _ _ (at_other rfl _ (at_other rfl _ (at_other rfl _ (at_other rfl _ (at_other rfl _ (at_other rfl _ (s29_63)))))))
          have s30_117 : a106.eval (.tmp 30) = (.int .i64 (k : Int)) := up108 _ _ (at_other rfl _ (at_other rfl _ (at_other rfl _ (at_other rfl _ (at_other rfl _ (at_other rfl _ (s30_64)))))))
          clear up108
          refine V.region (by kernel_rfl) ?_
          refine V.go (V.mv (v := (.slice (some ⟨b38, 0, none⟩) ((parse (ints p)).length) ((parse (ints p)).length))) (s8_112) ?_)
          refine V.go (V.mv (v := (.int .i64 (k : Int))) (at_other rfl _ (s9_113)) ?_)
          refine V.go (V.lds ⟨b89, 0, none⟩ [.int .i64 ((at_ globR (parse (ints p)) (k : Int)).kind), .int .u8 ((at_ globR (parse (ints p)) (k : Int)).c), .bool ((at_ globR (parse (ints p)) (k : Int)).neg), .slice A85 ((at_ globR (parse (ints p)) (k : Int)).rs.length) c86] (at_other rfl _ (at_other rfl _ (s10_114))) (by kernel_rfl) (blk_cells hB99 0 _ rfl) ?_)
          refine V.go (V.mv (v := (.bool fold)) (at_other rfl _ (at_other rfl _ (at_other rfl _ (s2_110)))) ?_)
          refine V.go (V.call 26 #[] #[.agg #[.int .i64 ((at_ globR (parse (ints p)) (k : Int)).kind), .int .u8 ((at_ globR (parse (ints p)) (k : Int)).c), .bool ((at_ globR (parse (ints p)) (k : Int)).neg), .slice A85 ((at_ globR (parse (ints p)) (k : Int)).rs.length) c86], .bool fold] evf (args2 (at_other rfl _ (at_same ((hz107.put _ _).put _ _) rfl _)) (at_same (((hz107.put _ _).put _ _).put _ _) rfl _)) (Go.Proofs.enters_of Try.func26 (by kernel_rfl) rfl) (matched_any w98 (at_ globR (parse (ints p)) (k : Int)) A85 c86 fold (hgood (k : Int)).1 (hgood (k : Int)).2.1 (fun j => (hgood (k : Int)).at j) (hS88_104.zone fun b hb _ => hb)) ?_)
          rintro _ w125 ⟨n118, n119, n120, n121, rfl, hxs122, hbits123, hF124⟩
          refine ⟨_, rfl, ?_⟩
          have hsw125 := hF124.size
          have hR_126 := hR_101.fr0 hF124
          have hF_127 := hF_102.new hF124
          have hps37_128 := hps37_103.fr0 hF124
          have hS88_129 := hS88_104.fr0 hF124
          have hE84_130 := hE84_105.fr0 hF124
          have hB99_131 := hB99.fr0 hF124
          refine V.go (V.ixa b38 0 ((parse (ints p)).length) ((parse (ints p)).length) .i64 (k : Int) 4 (at_other rfl _ (at_other rfl _ (at_other rfl _ (at_other rfl _ (at_same hz107 rfl _))))) (at_other rfl _ (at_other rfl _ (at_other rfl _ (at_same (hz107.put _ _) rfl _)))) (by omega) (by omega) (by kernel_rfl) ?_)
          refine V.go (V.stRowN (enc := enc4) b38 ((k : Int).toNat) 4 (⟨n118, n119, n120, n121⟩ : S4) (at_same (((((hz107.put _ _).put _ _).put _ _).put _ _).put _ _) rfl _) (.agg #[.int .u64 (n118 : Int), .int .u64 (n119 : Int), .int .u64 (n120 : Int), .int .u64 (n121 : Int)]) (at_other rfl _ (at_same ((((hz107.put _ _).put _ _).put _ _).put _ _) rfl _)) rfl rfl enc4_len (by kernel_rfl) hR_126 (by first | omega | (simp only [List.length_set, List.length_replicate]; omega)) ?_)
          intro w132 hR133 hF134 hsw132
          have hF_135 := hF_127.own hF134 (by simp <;> omega)
          have hps37_136 := hps37_128.fr hF134 (by simp <;> omega)
          have hS88_137 := hS88_129.fr hF134 (by simp <;> omega)
          have hE84_138 := hE84_130.fr hF134 (by simp <;> omega)
          have hB99_139 := hB99_131.fr1 hF134 (by omega)
          refine V.nil ?_
          refine V.blk_n ?_
          refine V.then_n (hK76 _ _ ?_)
          refine V.flushW ((((((hz107.put _ _).put _ _).put _ _).put _ _).put _ _).put _ _) (fun a140 hz141 up142 => ?_)
          have s1_143 : a140.eval (.tmp 1) = (.string s) := up142 _ _ (at_other rfl _ (at_other rfl _ (at_other rfl _ (at_other rfl _ (at_other rfl _ (at_other rfl _ (s1_109)))))))
          have s2_144 : a140.eval (.tmp 2) = (.bool fold) := up142 _ _ (at_other rfl _ (at_other rfl _ (at_other rfl _ (at_other rfl _ (at_other rfl _ (at_other rfl _ (s2_110)))))))
          have s7_145 : a140.eval (.tmp 7) = (.slice A29 ((parse (ints p)).length) c30) := up142 _ _ (at_other rfl _ (at_other rfl _ (at_other rfl _ (at_other rfl _ (at_other rfl _ (at_other rfl _ (s7_111)))))))
          have s8_146 : a140.eval (.tmp 8) = (.slice (some ⟨b38, 0, none⟩) ((parse (ints p)).length) ((parse (ints p)).length)) := up142 _ _ (at_other rfl _ (at_other rfl _ (at_other rfl _ (at_other rfl _ (at_other rfl _ (at_other rfl _ (s8_112)))))))
          have s28_147 : a140.eval (.tmp 28) = (.slice A29 ((parse (ints p)).length) c30) := up142 _ _ (at_other rfl _ (at_other rfl _ (at_other rfl _ (at_other rfl _ (at_other rfl _ (at_other rfl _ (s28_115)))))))
          have s29_148 : a140.eval (.tmp 29) = (.int .i64 (((parse (ints p)).length : Nat) : Int)) := up142 _ _ (at_other rfl _ (at_other rfl _ (at_other rfl _ (at_other rfl _ (at_other rfl _ (at_other rfl _ (s29_116)))))))
          have s30_149 : a140.eval (.tmp 30) = (.int .i64 (k : Int)) := up142 _ _ (at_other rfl _ (at_other rfl _ (at_other rfl _ (at_other rfl _ (at_other rfl _ (at_other rfl _ (s30_117)))))))
          clear up142
          refine V.region (by kernel_rfl) ?_
          refine V.go (V.pvw [(30, .int .i64 (k : Int))] ⟨(s30_149), trivial⟩ (by kernel_rfl) (.int .i64 (IntKind.i64.wrap ((k : Int) + 1))) (.int .i64 ((k : Int) + 1)) (by kernel_rfl) (V.w_i64 (by omega) (by omega)) ?_)
          refine V.go (V.mv (v := (.int .i64 ((k : Int) + 1))) (at_same hz141 rfl _) ?_)
          refine V.nil ?_
          refine V.then_n ?_
          refine ⟨k + 1, ss.set ((k : Int).toNat) (⟨n118, n119, n120, n121⟩ : S4), by omega, ?_⟩
          refine ⟨((hz141.put _ _).put _ _), ?_, ?_, ?_, ?_, ?_, ?_, ?_, hR133, hF_135, hps37_136, (by omega), (by simp only [List.length_set]; exact hls), (sets_step hok (by omega) ⟨hxs122, hbits123⟩)⟩
          · exact (at_other rfl _ (at_other rfl _ (s1_143)))
          · exact (at_other rfl _ (at_other rfl _ (s2_144)))
          · exact (at_other rfl _ (at_other rfl _ (s7_145)))
          · exact (at_other rfl _ (at_other rfl _ (s8_146)))
          · exact (at_other rfl _ (at_other rfl _ (s28_147)))
          · exact Eq.trans (at_other rfl _ (at_other rfl _ (s29_148))) (V.int_eq (by omega))
          · exact Eq.trans (at_same (hz141.put _ _) rfl _) (V.int_eq (by omega))
        ·
          refine V.exit ?_
          refine V.then_e ?_
          refine V.then_e ?_
          refine V.blk_hit ?_
          refine V.then_n (hK52 _ _ ?_)
          refine V.seq (fun K150 hK151 => ?_)
          refine V.region (by kernel_rfl) ?_
          refine V.go (V.asg (v := (.int .i64 0)) evc ?_)
          refine V.go (V.asg (v := (.int .i64 0)) evc ?_)
          refine V.go (V.asg (v := (.int .i64 (-1))) evc ?_)
          refine V.go (V.asg (v := (.int .i64 0)) evc ?_)
          refine V.nil ?_
          refine V.then_n (hK151 _ _ ?_)
          refine V.flushW (((((hz57.put _ _).put _ _).put _ _).put _ _).put _ _) (fun a152 hz153 up154 => ?_)
          have s1_155 : a152.eval (.tmp 1) = (.string s) := up154 _ _ (at_other rfl _ (at_other rfl _ (at_other rfl _ (at_other rfl _ (at_other rfl _ (s1_58))))))
          have s7_156 : a152.eval (.tmp 7) = (.slice A29 ((parse (ints p)).length) c30) := up154 _ _ (at_other rfl _ (at_other rfl _ (at_other rfl _ (at_other rfl _ (at_other rfl _ (s7_60))))))
          have s8_157 : a152.eval (.tmp 8) = (.slice (some ⟨b38, 0, none⟩) ((parse (ints p)).length) ((parse (ints p)).length)) := up154 _ _ (at_other rfl _ (at_other rfl _ (at_other rfl _ (at_other rfl _ (at_other rfl _ (s8_61))))))
          have s11_158 : a152.eval (.tmp 11) = (.int .i64 0) := up154 _ _ (at_other rfl _ (at_other rfl _ (at_other rfl _ (at_same (hz57.put _ _) rfl _))))
          have s12_159 : a152.eval (.tmp 12) = (.int .i64 0) := up154 _ _ (at_other rfl _ (at_other rfl _ (at_same ((hz57.put _ _).put _ _) rfl _)))
          have s13_160 : a152.eval (.tmp 13) = (.int .i64 (-1)) := up154 _ _ (at_other rfl _ (at_same (((hz57.put _ _).put _ _).put _ _) rfl _))
          have s14_161 : a152.eval (.tmp 14) = (.int .i64 0) := up154 _ _ (at_same ((((hz57.put _ _).put _ _).put _ _).put _ _) rfl _)
          clear up154
          refine V.seq (fun K162 hK163 => ?_)
          refine V.block ?_
          have hkl : k = (parse (ints p)).length := by omega
          refine V.loop4 (fun (i : Nat) (q : Nat) (star : Int) (f : Nat) a_ w_ => Sz 108 a_ ∧ a_.eval (.tmp 1) = (.string s) ∧ a_.eval (.tmp 7) = (.slice A29 ((parse (ints p)).length) c30) ∧ a_.eval (.tmp 8) = (.slice (some ⟨b38, 0, none⟩) ((parse (ints p)).length) ((parse (ints p)).length)) ∧ a_.eval (.tmp 11) = (.int .i64 (q : Int)) ∧ a_.eval (.tmp 12) = (.int .i64 (i : Int)) ∧ a_.eval (.tmp 13) = (.int .i64 star) ∧ a_.eval (.tmp 14) = (.int .i64 (f : Int)) ∧ RowN enc4 w_ b38 ss 45 ∧ Fr [] w w_ ∧ SlR globR (fun b => b < w33.heap.size) w_ (.slice A29 ((parse (ints p)).length) c30) (parse (ints p)) ∧ (Gr fold (parse (ints p)) (ints s) i q star f)) (fun (i : Nat) (q : Nat) (star : Int) (f : Nat) => (s.size - f) * ((parse (ints p)).length + s.size + 3) + ((parse (ints p)).length - i) + (s.size - q)) 0 0 (-1) 0 ?_ ?_
          ·
            refine ⟨hz153, ?_, ?_, ?_, ?_, ?_, ?_, ?_, hR_65, hF_66, hps37_67, (Gr.start _ _)⟩
            · exact (s1_155)
            · exact (s7_156)
            · exact (s8_157)
            · exact Eq.trans (s11_158) (V.int_eq (by omega))
            · exact Eq.trans (s12_159) (V.int_eq (by omega))
            · exact Eq.trans (s13_160) (V.int_eq (by omega))
            · exact Eq.trans (s14_161) (V.int_eq (by omega))
          ·
            rintro i q star f a164 w165 ⟨hz166, s1_167, s7_168, s8_169, s11_170, s12_171, s13_172, s14_173, hR_174, hF_175, hps37_176, hg⟩
            have hlt177 := hR_174.lt
            have hfs178 := hF_175.size
            have hlk := ints_length s
            have hgi := hg.hi
            have hgq := hg.hat
            have hglo := hg.lo
            have hgst := hg.bound
            refine V.seq (fun K179 hK180 => ?_)
            refine V.seq (fun K181 hK182 => ?_)
            refine V.region (by kernel_rfl) ?_
            refine V.go (V.mv (v := (.int .i64 (q : Int))) (s11_170) ?_)
            refine V.go (V.mv (v := (.string s)) (at_other rfl _ (s1_167)) ?_)
            refine V.go (V.pv [(43, .string s)] ⟨(at_same (hz166.put _ _) rfl _), trivial⟩ (by kernel_rfl) (.int .i64 (s.size : Int)) (by kernel_rfl) ?_)
            refine V.go (V.pv [(42, .int .i64 (q : Int)), (44, .int .i64 (s.size : Int))] ⟨(at_other rfl _ (at_other rfl _ (at_same hz166 rfl _))), (at_same ((hz166.put _ _).put _ _) rfl _), trivial⟩ (by kernel_rfl) (.bool (decide ((q : Int) < (s.size : Int)))) (by kernel_rfl) ?_)
            refine V.nil ?_
            refine V.then_n (hK182 _ _ ?_)
            refine V.flushW ((((hz166.put _ _).put _ _).put _ _).put _ _) (fun a183 hz184 up185 => ?_)
            have s1_186 : a183.eval (.tmp 1) = (.string s) := up185 _ _ (at_other rfl _ (at_other rfl _ (at_other rfl _ (at_other rfl _ (s1_167)))))
            have s7_187 : a183.eval (.tmp 7) = (.slice A29 ((parse (ints p)).length) c30) := up185 _ _ (at_other rfl _ (at_other rfl _ (at_other rfl _ (at_other rfl _ (s7_168)))))
            have s8_188 : a183.eval (.tmp 8) = (.slice (some ⟨b38, 0, none⟩) ((parse (ints p)).length) ((parse (ints p)).length)) := up185 _ _ (at_other rfl _ (at_other rfl _ (at_other rfl _ (at_other rfl _ (s8_169)))))
            have s11_189 : a183.eval (.tmp 11) = (.int .i64 (q : Int)) := up185 _ _ (at_other rfl _ (at_other rfl _ (at_other rfl _ (at_other rfl _ (s11_170)))))
            have s12_190 : a183.eval (.tmp 12) = (.int .i64 (i : Int)) := up185 _ _ (at_other rfl _ (at_other rfl _ (at_other rfl _ (at_other rfl _ (s12_171)))))
            have s13_191 : a183.eval (.tmp 13) = (.int .i64 star) := up185 _ _ (at_other rfl _ (at_other rfl _ (at_other rfl _ (at_other rfl _ (s13_172)))))
            have s14_192 : a183.eval (.tmp 14) = (.int .i64 (f : Int)) := up185 _ _ (at_other rfl _ (at_other rfl _ (at_other rfl _ (at_other rfl _ (s14_173)))))
            have s45_193 : a183.eval (.tmp 45) = (.bool (decide ((q : Int) < (s.size : Int)))) := up185 _ _ (at_same (((hz166.put _ _).put _ _).put _ _) rfl _)
            clear up185
            refine V.condP (p := (q : Int) < (s.size : Int)) (s45_193) (fun ht194 => ?_) (fun ht194 => ?_)
            ·
              refine V.skip ?_
              refine V.then_n (hK180 _ _ ?_)
              refine V.block ?_
              refine V.block ?_
              refine V.seq (fun K195 hK196 => ?_)
              refine V.region (by kernel_rfl) ?_
              refine V.go (V.mv (v := (.int .i64 (i : Int))) (s12_190) ?_)
              refine V.go (V.mv (v := (.slice A29 ((parse (ints p)).length) c30)) (at_other rfl _ (s7_187)) ?_)
              refine V.go (V.pv [(48, .slice A29 ((parse (ints p)).length) c30)] ⟨(at_same (hz184.put _ _) rfl _), trivial⟩ (by kernel_rfl) (.int .i64 (((parse (ints p)).length : Nat) : Int)) (by kernel_rfl) ?_)
              refine V.go (V.pv [(47, .int .i64 (i : Int)), (49, .int .i64 (((parse (ints p)).length : Nat) : Int))] ⟨(at_other rfl _ (at_other rfl _ (at_same hz184 rfl _))), (at_same ((hz184.put _ _).put _ _) rfl _), trivial⟩ (by kernel_rfl) (.bool (decide ((i : Int) < (((parse (ints p)).length : Nat) : Int)))) (by kernel_rfl) ?_)
              refine V.go (V.mv (v := (.bool (decide ((i : Int) < (((parse (ints p)).length : Nat) : Int))))) (at_same (((hz184.put _ _).put _ _).put _ _) rfl _) ?_)
              by_cases hg197 : (i : Int) < (((parse (ints p)).length : Nat) : Int)
              ·
                refine V.go_on 51 (by kernel_rfl) (((at_same ((((hz184.put _ _).put _ _).put _ _).put _ _) rfl _ : Act.eval _ _ = (.bool (decide ((i : Int) < (((parse (ints p)).length : Nat) : Int)))))).trans (dt hg197)) (V.mv (v := (.slice A29 ((parse (ints p)).length) c30)) (at_other rfl _ (at_other rfl _ (at_other rfl _ (at_other rfl _ (at_other rfl _ (s7_187)))))) ?_)
                refine V.go_on 51 (by kernel_rfl) (((at_other rfl _ (at_same ((((hz184.put _ _).put _ _).put _ _).put _ _) rfl _) : Act.eval _ _ = (.bool (decide ((i : Int) < (((parse (ints p)).length : Nat) : Int)))))).trans (dt hg197)) (V.mv (v := (.int .i64 (i : Int))) (at_other rfl _ (at_other rfl _ (at_other rfl _ (at_other rfl _ (at_other rfl _ (at_other rfl _ (s12_190))))))) ?_)
                obtain ⟨g198, o199, hA200, hA200l, hA200z⟩ := hps37_176.addr (by omega)
                refine V.go_on 51 (by kernel_rfl) (((at_other rfl _ (at_other rfl _ (at_same ((((hz184.put _ _).put _ _).put _ _).put _ _) rfl _)) : Act.eval _ _ = (.bool (decide ((i : Int) < (((parse (ints p)).length : Nat) : Int)))))).trans (dt hg197)) (V.ixa g198 o199 ((parse (ints p)).length) c30 .i64 (i : Int) 4 ((at_other rfl _ (at_same (((((hz184.put _ _).put _ _).put _ _).put _ _).put _ _) rfl _)).trans (by rw [hA200])) (at_same ((((((hz184.put _ _).put _ _).put _ _).put _ _).put _ _).put _ _) rfl _) (by omega) (by omega) (by kernel_rfl) ?_)
                refine V.go_on 51 (by kernel_rfl) (((at_other rfl _ (at_other rfl _ (at_other rfl _ (at_same ((((hz184.put _ _).put _ _).put _ _).put _ _) rfl _))) : Act.eval _ _ = (.bool (decide ((i : Int) < (((parse (ints p)).length : Nat) : Int)))))).trans (dt hg197)) (V.fa (at_same (((((((hz184.put _ _).put _ _).put _ _).put _ _).put _ _).put _ _).put _ _) rfl _) 0 (fun _ _ => by kernel_rfl) ?_)
                obtain ⟨cs201, hok202, hE203⟩ := hps37_176.els hA200 (i : Int) (by omega) (by omega)
                obtain ⟨A204, c205, rfl, hcap206, hS207⟩ := glob_open hok202
                refine V.go_on 51 (by kernel_rfl) (((at_other rfl _ (at_other rfl _ (at_other rfl _ (at_other rfl _ (at_same ((((hz184.put _ _).put _ _).put _ _).put _ _) rfl _)))) : Act.eval _ _ = (.bool (decide ((i : Int) < (((parse (ints p)).length : Nat) : Int)))))).trans (dt hg197)) (V.ld ⟨g198, o199 + (i : Int).toNat * 4, none⟩ (.int .i64 ((at_ globR (parse (ints p)) (i : Int)).kind)) (at_same ((((((((hz184.put _ _).put _ _).put _ _).put _ _).put _ _).put _ _).put _ _).put _ _) rfl _) (by kernel_rfl) (hE203.at 0 rfl) ?_)
                refine V.go_on 51 (by kernel_rfl) (((at_other rfl _ (at_other rfl _ (at_other rfl _ (at_other rfl _ (at_other rfl _ (at_same ((((hz184.put _ _).put _ _).put _ _).put _ _) rfl _))))) : Act.eval _ _ = (.bool (decide ((i : Int) < (((parse (ints p)).length : Nat) : Int)))))).trans (dt hg197)) (V.pvw [(56, .int .i64 ((at_ globR (parse (ints p)) (i : Int)).kind))] ⟨(at_same (((((((((hz184.put _ _).put _ _).put _ _).put _ _).put _ _).put _ _).put _ _).put _ _).put _ _) rfl _), trivial⟩ (by kernel_rfl) (.bool (((at_ globR (parse (ints p)) (i : Int)).kind) == 1)) (.bool (decide (((at_ globR (parse (ints p)) (i : Int)).kind) = 1))) (by kernel_rfl) V.t_eql ?_)
                refine V.go (V.pk_t (((at_other rfl _ (at_other rfl _ (at_other rfl _ (at_other rfl _ (at_other rfl _ (at_other rfl _ (at_same ((((hz184.put _ _).put _ _).put _ _).put _ _) rfl _)))))) : Act.eval _ _ = (.bool (decide ((i : Int) < (((parse (ints p)).length : Nat) : Int)))))).trans (dt hg197)) (v := (.bool (decide (((at_ globR (parse (ints p)) (i : Int)).kind) = 1)))) (at_same ((((((((((hz184.put _ _).put _ _).put _ _).put _ _).put _ _).put _ _).put _ _).put _ _).put _ _).put _ _) rfl _) ?_)
                refine V.go (V.asg (v := (.bool (decide (((at_ globR (parse (ints p)) (i : Int)).kind) = 1)))) (at_same (((((((((((hz184.put _ _).put _ _).put _ _).put _ _).put _ _).put _ _).put _ _).put _ _).put _ _).put _ _).put _ _) rfl _) ?_)
                refine V.nil ?_
                refine V.then_n (hK196 _ _ ?_)
                refine V.flushW (((((((((((((hz184.put _ _).put _ _).put _ _).put _ _).put _ _).put _ _).put _ _).put _ _).put _ _).put _ _).put _ _).put _ _).put _ _) (fun a208 hz209 up210 => ?_)
                have s1_211 : a208.eval (.tmp 1) = (.string s) := up210 _ _ (at_other rfl _ (at_other rfl _ (at_other rfl _ (at_other rfl _ (at_other rfl _ (at_other rfl _ (at_other rfl _ (at_other rfl _ (at_other rfl _ (at_other rfl _ (at_other rfl _ (at_other rfl _ (at_other rfl _ (s1_186))))))))))))))
                have s7_212 : a208.eval (.tmp 7) = (.slice A29 ((parse (ints p)).length) c30) := up210 _ _ (at_other rfl _ (at_other rfl _ (at_other rfl _ (at_other rfl _ (at_other rfl _ (at_other rfl _ (at_other rfl _ (at_other rfl _ (at_other rfl _ (at_other rfl _ (at_other rfl _ (at_other rfl _ (at_other rfl _ (s7_187))))))))))))))
                have s8_213 : a208.eval (.tmp 8) = (.slice (some ⟨b38, 0, none⟩) ((parse (ints p)).length) ((parse (ints p)).length)) := up210 _ _ (at_other rfl _ (at_other rfl _ (at_other rfl _ (at_other rfl _ (at_other rfl _ (at_other rfl _ (at_other rfl _ (at_other rfl _ (at_other rfl _ (at_other rfl _ (at_other rfl _ (at_other rfl _ (at_other rfl _ (s8_188))))))))))))))
                have s11_214 : a208.eval (.tmp 11) = (.int .i64 (q : Int)) := up210 _ _ (at_other rfl _ (at_other rfl _ (at_other rfl _ (at_other rfl _ (at_other rfl _ (at_other rfl _ (at_other rfl _ (at_other rfl _ (at_other rfl _ (at_other rfl _ (at_other rfl _ (at_other rfl _ (at_other rfl _ (s11_189))))))))))))))
                have s12_215 : a208.eval (.tmp 12) = (.int .i64 (i : Int)) := up210 _ _ (at_other rfl _ (at_other rfl _ (at_other rfl _ (at_other rfl _ (at_other rfl _ (at_other rfl _ (at_other rfl _ (at_other rfl _ (at_other rfl _ (at_other rfl _ (at_other rfl _ (at_other rfl _ (at_other rfl _ (s12_190))))))))))))))
                have s13_216 : a208.eval (.tmp 13) = (.int .i64 star) := up210 _ _ (at_other rfl _ (at_other rfl _ (at_other rfl _ (at_other rfl _ (at_other rfl _ (at_other rfl _ (at_other rfl _ (at_other rfl _ (at_other rfl _ (at_other rfl _ (at_other rfl _ (at_other rfl _ (at_other rfl _ (s13_191))))))))))))))
                have s14_217 : a208.eval (.tmp 14) = (.int .i64 (f : Int)) := up210 _ _ (at_other rfl _ (at_other rfl _ (at_other rfl _ (at_other rfl _ (at_other rfl _ (at_other rfl _ (at_other rfl _ (at_other rfl _ (at_other rfl _ (at_other rfl _ (at_other rfl _ (at_other rfl _ (at_other rfl _ (s14_192))))))))))))))
                have s46_218 : a208.eval (.tmp 46) = (.bool (decide (((at_ globR (parse (ints p)) (i : Int)).kind) = 1))) := up210 _ _ (at_same ((((((((((((hz184.put _ _).put _ _).put _ _).put _ _).put _ _).put _ _).put _ _).put _ _).put _ _).put _ _).put _ _).put _ _) rfl _)
                clear up210
                refine V.condP (p := ((at_ globR (parse (ints p)) (i : Int)).kind) = 1) (s46_218) (fun ht219 => ?_) (fun ht219 => ?_)
                ·
                  refine V.seq (fun K220 hK221 => ?_)
                  refine V.region (by kernel_rfl) ?_
                  refine V.go (V.mv (v := (.int .i64 (i : Int))) (s12_215) ?_)
                  refine V.go (V.mv (v := (.int .i64 (q : Int))) (at_other rfl _ (s11_214)) ?_)
                  refine V.go (V.asg (v := (.int .i64 (i : Int))) (at_other rfl _ (at_same hz209 rfl _)) ?_)
                  refine V.go (V.asg (v := (.int .i64 (q : Int))) (at_other rfl _ (at_same (hz209.put _ _) rfl _)) ?_)
                  refine V.nil ?_
                  refine V.then_n (hK221 _ _ ?_)
                  refine V.flushW ((((hz209.put _ _).put _ _).put _ _).put _ _) (fun a222 hz223 up224 => ?_)
                  have s1_225 : a222.eval (.tmp 1) = (.string s) := up224 _ _ (at_other rfl _ (at_other rfl _ (at_other rfl _ (at_other rfl _ (s1_211)))))
                  have s7_226 : a222.eval (.tmp 7) = (.slice A29 ((parse (ints p)).length) c30) := up224 _ _ (at_other rfl _ (at_other rfl _ (at_other rfl _ (at_other rfl _ (s7_212)))))
                  have s8_227 : a222.eval (.tmp 8) = (.slice (some ⟨b38, 0, none⟩) ((parse (ints p)).length) ((parse (ints p)).length)) := up224 _ _ (at_other rfl _ (at_other rfl _ (at_other rfl _ (at_other rfl _ (s8_213)))))
                  have s11_228 : a222.eval (.tmp 11) = (.int .i64 (q : Int)) := up224 _ _ (at_other rfl _ (at_other rfl _ (at_other rfl _ (at_other rfl _ (s11_214)))))
                  have s12_229 : a222.eval (.tmp 12) = (.int .i64 (i : Int)) := up224 _ _ (at_other rfl _ (at_other rfl _ (at_other rfl _ (at_other rfl _ (s12_215)))))
                  have s13_230 : a222.eval (.tmp 13) = (.int .i64 (i : Int)) := up224 _ _ (at_other rfl _ (at_same ((hz209.put _ _).put _ _) rfl _))
                  have s14_231 : a222.eval (.tmp 14) = (.int .i64 (q : Int)) := up224 _ _ (at_same (((hz209.put _ _).put _ _).put _ _) rfl _)
                  clear up224
                  refine V.region (by kernel_rfl) ?_
                  refine V.go (V.mv (v := (.int .i64 (i : Int))) (s12_229) ?_)
                  refine V.go (V.pvw [(61, .int .i64 (i : Int))] ⟨(at_same hz223 rfl _), trivial⟩ (by kernel_rfl) (.int .i64 (IntKind.i64.wrap ((i : Int) + 1))) (.int .i64 ((i : Int) + 1)) (by kernel_rfl) (V.w_i64 (by omega) (by omega)) ?_)
                  refine V.go (V.asg (v := (.int .i64 ((i : Int) + 1))) (at_same (hz223.put _ _) rfl _) ?_)
                  refine V.nil ?_
                  refine V.blk_n ?_
                  refine V.blk_n ?_
                  refine V.then_n ?_
                  refine ⟨i + 1, q, (i : Int), q, meas_star (by omega) (by omega), ?_⟩
                  refine ⟨(((hz223.put _ _).put _ _).put _ _), ?_, ?_, ?_, ?_, ?_, ?_, ?_, hR_174, hF_175, hps37_176, (hg.any (at_some globR (i := (i : Int)) (by omega) (by omega)) ht219)⟩
                  · exact (at_other rfl _ (at_other rfl _ (at_other rfl _ (s1_225))))
                  · exact (at_other rfl _ (at_other rfl _ (at_other rfl _ (s7_226))))
                  · exact (at_other rfl _ (at_other rfl _ (at_other rfl _ (s8_227))))
                  · exact Eq.trans (at_other rfl _ (at_other rfl _ (at_other rfl _ (s11_228)))) (V.int_eq (by omega))
                  · exact Eq.trans (at_same ((hz223.put _ _).put _ _) rfl _) (V.int_eq (by omega))
                  · exact Eq.trans (at_other rfl _ (at_other rfl _ (at_other rfl _ (s13_230)))) (V.int_eq (by omega))
                  · exact Eq.trans (at_other rfl _ (at_other rfl _ (at_other rfl _ (s14_231)))) (V.int_eq (by omega))
                ·
                  refine V.seq (fun K232 hK233 => ?_)
                  refine V.plan [[], [], [1], [0, 1, 2], [0, 1, 2, 3], [0, 1, 2, 3, 4], [0, 1, 2, 3, 4], [0, 1, 2, 3, 4, 5, 6], [0, 1, 2, 3, 4, 5, 6, 7], [0, 1, 2, 3, 4], [0, 1, 2, 3, 4], [0, 1, 2, 3, 4, 9, 10], [0, 1, 2, 3, 4, 5, 6, 7, 8, 9, 10, 11], [0, 1, 2, 3, 4, 5, 6, 7, 8, 9, 10, 11, 12], [0, 1, 2, 3, 4, 5, 6, 7, 8, 9, 10, 11, 12, 13]] [([0, 1, 2, 3, 4, 5, 6, 7, 8, 9, 10, 11], some (12, [])), ([13, 14], none)] (by kernel_rfl) (by kernel_rfl) (by exact fun _ _ _ _ h => h) ?_
                  simp only [Plan.wpSegs, Plan.pickAll, Plan.nth, V.L_eq]
                  obtain ⟨w234, hF235e⟩ : ∃ w1, w1 = w165.drew := ⟨_, rfl⟩
                  rw [← hF235e]
                  have hF235 : Fr [] w165 w234 := by rw [hF235e]; exact Fr.drew _ _
                  have hsw234 : w234.heap.size = w165.heap.size := by rw [hF235e]; rfl
                  clear hF235e
                  have hR_236 := hR_174.fr0 hF235
                  have hF_237 := hF_175.new hF235
                  have hps37_238 := hps37_176.fr0 hF235
                  have hS207_239 := hS207.fr0 hF235
                  have hE203_240 := hE203.fr0 hF235
                  refine V.go (V.mv (v := (.int .i64 (i : Int))) (s12_215) ?_)
                  refine V.go (V.mv (v := (.slice A29 ((parse (ints p)).length) c30)) (at_other rfl _ (s7_212)) ?_)
                  refine V.go (V.pv [(65, .slice A29 ((parse (ints p)).length) c30)] ⟨(at_same (hz209.put _ _) rfl _), trivial⟩ (by kernel_rfl) (.int .i64 (((parse (ints p)).length : Nat) : Int)) (by kernel_rfl) ?_)
                  refine V.go (V.pv [(64, .int .i64 (i : Int)), (66, .int .i64 (((parse (ints p)).length : Nat) : Int))] ⟨(at_other rfl _ (at_other rfl _ (at_same hz209 rfl _))), (at_same ((hz209.put _ _).put _ _) rfl _), trivial⟩ (by kernel_rfl) (.bool (decide ((i : Int) < (((parse (ints p)).length : Nat) : Int)))) (by kernel_rfl) ?_)
                  refine V.go (V.mv (v := (.bool true)) (((at_same (((hz209.put _ _).put _ _).put _ _) rfl _ : Act.eval _ _ = (.bool (decide ((i : Int) < (((parse (ints p)).length : Nat) : Int)))))).trans (dt hg197)) ?_)
                  refine V.go_on 68 (by kernel_rfl) (at_same ((((hz209.put _ _).put _ _).put _ _).put _ _) rfl _) (V.mv (v := (.slice (some ⟨b38, 0, none⟩) ((parse (ints p)).length) ((parse (ints p)).length))) (at_other rfl _ (at_other rfl _ (at_other rfl _ (at_other rfl _ (at_other rfl _ (s8_213)))))) ?_)
                  refine V.go_on 68 (by kernel_rfl) (at_other rfl _ (at_same ((((hz209.put _ _).put _ _).put _ _).put _ _) rfl _)) (V.mv (v := (.int .i64 (i : Int))) (at_other rfl _ (at_other rfl _ (at_other rfl _ (at_other rfl _ (at_other rfl _ (at_other rfl _ (s12_215))))))) ?_)
                  refine V.go_on 68 (by kernel_rfl) (at_other rfl _ (at_other rfl _ (at_same ((((hz209.put _ _).put _ _).put _ _).put _ _) rfl _))) (V.ixa b38 0 ((parse (ints p)).length) ((parse (ints p)).length) .i64 (i : Int) 4 (at_other rfl _ (at_same (((((hz209.put _ _).put _ _).put _ _).put _ _).put _ _) rfl _)) (at_same ((((((hz209.put _ _).put _ _).put _ _).put _ _).put _ _).put _ _) rfl _) (by omega) (by omega) (by kernel_rfl) ?_)
                  refine V.go_on 68 (by kernel_rfl) (at_other rfl _ (at_other rfl _ (at_other rfl _ (at_same ((((hz209.put _ _).put _ _).put _ _).put _ _) rfl _)))) (V.lds ⟨b38, 0 + (i : Int).toNat * 4, none⟩ [.int .u64 ((ss.getD ((i : Int).toNat) z4).a : Int), .int .u64 ((ss.getD ((i : Int).toNat) z4).b : Int), .int .u64 ((ss.getD ((i : Int).toNat) z4).c : Int), .int .u64 ((ss.getD ((i : Int).toNat) z4).d : Int)] (at_same (((((((hz209.put _ _).put _ _).put _ _).put _ _).put _ _).put _ _).put _ _) rfl _) (by kernel_rfl) (hR_236.cells enc4_len ((i : Int).toNat) z4 (by first | omega | (simp only [List.length_set, List.length_replicate]; omega))) ?_)
                  refine V.go_on 68 (by kernel_rfl) (at_other rfl _ (at_other rfl _ (at_other rfl _ (at_other rfl _ (at_same ((((hz209.put _ _).put _ _).put _ _).put _ _) rfl _))))) (V.mv (v := (.string s)) (at_other rfl _ (at_other rfl _ (at_other rfl _ (at_other rfl _ (at_other rfl _ (at_other rfl _ (at_other rfl _ (at_other rfl _ (at_other rfl _ (s1_211)))))))))) ?_)
                  refine V.go_on 68 (by kernel_rfl) (at_other rfl _ (at_other rfl _ (at_other rfl _ (at_other rfl _ (at_other rfl _ (at_same ((((hz209.put _ _).put _ _).put _ _).put _ _) rfl _)))))) (V.mv (v := (.int .i64 (q : Int))) (at_other rfl _ (at_other rfl _ (at_other rfl _ (at_other rfl _ (at_other rfl _ (at_other rfl _ (at_other rfl _ (at_other rfl _ (at_other rfl _ (at_other rfl _ (s11_214))))))))))) ?_)
                  refine V.go_on 68 (by kernel_rfl) (at_other rfl _ (at_other rfl _ (at_other rfl _ (at_other rfl _ (at_other rfl _ (at_other rfl _ (at_same ((((hz209.put _ _).put _ _).put _ _).put _ _) rfl _))))))) (V.ixs s .i64 (q : Int) (at_other rfl _ (at_same (((((((((hz209.put _ _).put _ _).put _ _).put _ _).put _ _).put _ _).put _ _).put _ _).put _ _) rfl _)) (at_same ((((((((((hz209.put _ _).put _ _).put _ _).put _ _).put _ _).put _ _).put _ _).put _ _).put _ _).put _ _) rfl _) (by omega) (by omega) (by kernel_rfl) ?_)
                  have hb241 := byt_lt s (q : Int)
                  refine V.nil ?_
                  refine ⟨chk [(65, .slice A29 ((parse (ints p)).length) c30), (64, .int .i64 (i : Int)), (66, .int .i64 (((parse (ints p)).length : Nat) : Int)), (68, .bool true)] ⟨(at_other rfl _ (at_other rfl _ (at_other rfl _ (at_other rfl _ (at_other rfl _ (at_other rfl _ (at_other rfl _ (at_other rfl _ (at_other rfl _ (at_other rfl _ (at_same (hz209.put _ _) rfl _))))))))))), (at_other rfl _ (at_other rfl _ (at_other rfl _ (at_other rfl _ (at_other rfl _ (at_other rfl _ (at_other rfl _ (at_other rfl _ (at_other rfl _ (at_other rfl _ (at_other rfl _ (at_same hz209 rfl _)))))))))))), (at_other rfl _ (at_other rfl _ (at_other rfl _ (at_other rfl _ (at_other rfl _ (at_other rfl _ (at_other rfl _ (at_other rfl _ (at_other rfl _ (at_same ((hz209.put _ _).put _ _) rfl _)))))))))), (at_other rfl _ (at_other rfl _ (at_other rfl _ (at_other rfl _ (at_other rfl _ (at_other rfl _ (at_other rfl _ (at_same ((((hz209.put _ _).put _ _).put _ _).put _ _) rfl _)))))))), trivial⟩ (by kernel_rfl), ?_⟩
                  refine V.go_on 68 (by kernel_rfl) (at_other rfl _ (at_other rfl _ (at_other rfl _ (at_other rfl _ (at_other rfl _ (at_other rfl _ (at_other rfl _ (at_same ((((hz209.put _ _).put _ _).put _ _).put _ _) rfl _)))))))) (V.call 27 #[] #[.agg #[.int .u64 ((ss.getD ((i : Int).toNat) z4).a : Int), .int .u64 ((ss.getD ((i : Int).toNat) z4).b : Int), .int .u64 ((ss.getD ((i : Int).toNat) z4).c : Int), .int .u64 ((ss.getD ((i : Int).toNat) z4).d : Int)], .int .u8 (bi s (q : Int))] evf (args2 (at_other rfl _ (at_other rfl _ (at_other rfl _ (at_same ((((((((hz209.put _ _).put _ _).put _ _).put _ _).put _ _).put _ _).put _ _).put _ _) rfl _)))) (at_same (((((((((((hz209.put _ _).put _ _).put _ _).put _ _).put _ _).put _ _).put _ _).put _ _).put _ _).put _ _).put _ _) rfl _)) (Go.Proofs.enters_of Try.func27 (by kernel_rfl) rfl) (has_any w234 (byt s (q : Int)).toNat (ss.getD ((i : Int).toNat) z4).a (ss.getD ((i : Int).toNat) z4).b (ss.getD ((i : Int).toNat) z4).c (ss.getD ((i : Int).toNat) z4).d (byt s (q : Int)).toNat_lt (hok ((i : Int).toNat) (by omega)).1) ?_)
                  rintro _ w243 ⟨rfl, hF242⟩
                  refine ⟨_, rfl, ?_⟩
                  have hsw243 := hF242.size
                  have hR_244 := hR_236.fr0 hF242
                  have hF_245 := hF_237.new hF242
                  have hps37_246 := hps37_238.fr0 hF242
                  have hS207_247 := hS207_239.fr0 hF242
                  have hE203_248 := hE203_240.fr0 hF242
                  refine V.nil ?_
                  refine ⟨trivial, ?_⟩
                  refine V.go (V.pk_t (at_other rfl _ (at_other rfl _ (at_other rfl _ (at_other rfl _ (at_other rfl _ (at_other rfl _ (at_other rfl _ (at_other rfl _ (at_same ((((hz209.put _ _).put _ _).put _ _).put _ _) rfl _))))))))) (v := (.bool (bitS (ss.getD ((i : Int).toNat) z4).ws (byt s (q : Int)).toNat))) (at_same ((((((((((((hz209.put _ _).put _ _).put _ _).put _ _).put _ _).put _ _).put _ _).put _ _).put _ _).put _ _).put _ _).put _ _) rfl _) ?_)
                  refine V.go (V.asg (v := (.bool (bitS (ss.getD ((i : Int).toNat) z4).ws (byt s (q : Int)).toNat))) (at_same (((((((((((((hz209.put _ _).put _ _).put _ _).put _ _).put _ _).put _ _).put _ _).put _ _).put _ _).put _ _).put _ _).put _ _).put _ _) rfl _) ?_)
                  refine V.nil ?_
                  refine ⟨chk [] trivial (by kernel_rfl), ?_⟩
                  refine V.then_n (hK233 _ _ ?_)
                  refine V.flushW (((((((((((((((hz209.put _ _).put _ _).put _ _).put _ _).put _ _).put _ _).put _ _).put _ _).put _ _).put _ _).put _ _).put _ _).put _ _).put _ _).put _ _) (fun a249 hz250 up251 => ?_)
                  have s1_252 : a249.eval (.tmp 1) = (.string s) := up251 _ _ (at_other rfl _ (at_other rfl _ (at_other rfl _ (at_other rfl _ (at_other rfl _ (at_other rfl _ (at_other rfl _ (at_other rfl _ (at_other rfl _ (at_other rfl _ (at_other rfl _ (at_other rfl _ (at_other rfl _ (at_other rfl _ (at_other rfl _ (s1_211))))))))))))))))
                  have s7_253 : a249.eval (.tmp 7) = (.slice A29 ((parse (ints p)).length) c30) := up251 _ _ (at_other rfl _ (at_other rfl _ (at_other rfl _ (at_other rfl _ (at_other rfl _ (at_other rfl _ (at_other rfl _ (at_other rfl _ (at_other rfl _ (at_other rfl _ (at_other rfl _ (at_other rfl _ (at_other rfl _ (at_other rfl _ (at_other rfl _ (s7_212))))))))))))))))
                  have s8_254 : a249.eval (.tmp 8) = (.slice (some ⟨b38, 0, none⟩) ((parse (ints p)).length) ((parse (ints p)).length)) := up251 _ _ (at_other rfl _ (at_other rfl _ (at_other rfl _ (at_other rfl _ (at_other rfl _ (at_other rfl _ (at_other rfl _ (at_other rfl _ (at_other rfl _ (at_other rfl _ (at_other rfl _ (at_other rfl _ (at_other rfl _ (at_other rfl _ (at_other rfl _ (s8_213))))))))))))))))
                  have s11_255 : a249.eval (.tmp 11) = (.int .i64 (q : Int)) := up251 _ _ (at_other rfl _ (at_other rfl _ (at_other rfl _ (at_other rfl _ (at_other rfl _ (at_other rfl _ (at_other rfl _ (at_other rfl _ (at_other rfl _ (at_other rfl _ (at_other rfl _ (at_other rfl _ (at_other rfl _ (at_other rfl _ (at_other rfl _ (s11_214))))))))))))))))
                  have s12_256 : a249.eval (.tmp 12) = (.int .i64 (i : Int)) := up251 _ _ (at_other rfl _ (at_other rfl _ (at_other rfl _ (at_other rfl _ (at_other rfl _ (at_other rfl _ (at_other rfl _ (at_other rfl _ (at_other rfl _ (at_other rfl _ (at_other rfl _ (at_other rfl _ (at_other rfl _ (at_other rfl _ (at_other rfl _ (s12_215))))))))))))))))
                  have s13_257 : a249.eval (.tmp 13) = (.int .i64 star) := up251 _ _ (at_other rfl _ (at_other rfl _ (at_other rfl _ (at_other rfl _ (at_other rfl _ (at_other rfl _ (at_other rfl _ (at_other rfl _ (at_other rfl _ (at_other rfl _ (at_other rfl _ (at_other rfl _ (at_other rfl _ (at_other rfl _ (at_other rfl _ (s13_216))))))))))))))))
                  have s14_258 : a249.eval (.tmp 14) = (.int .i64 (f : Int)) := up251 _ _ (at_other rfl _ (at_other rfl _ (at_other rfl _ (at_other rfl _ (at_other rfl _ (at_other rfl _ (at_other rfl _ (at_other rfl _ (at_other rfl _ (at_other rfl _ (at_other rfl _ (at_other rfl _ (at_other rfl _ (at_other rfl _ (at_other rfl _ (s14_217))))))))))))))))
                  have s63_259 : a249.eval (.tmp 63) = (.bool (bitS (ss.getD ((i : Int).toNat) z4).ws (byt s (q : Int)).toNat)) := up251 _ _ (at_same ((((((((((((((hz209.put _ _).put _ _).put _ _).put _ _).put _ _).put _ _).put _ _).put _ _).put _ _).put _ _).put _ _).put _ _).put _ _).put _ _) rfl _)
                  clear up251
                  refine V.cond (s63_259) (fun ht260 => ?_) (fun ht260q => ?_)
                  ·
                    refine V.region (by kernel_rfl) ?_
                    refine V.go (V.mv (v := (.int .i64 (i : Int))) (s12_256) ?_)
                    refine V.go (V.pvw [(78, .int .i64 (i : Int))] ⟨(at_same hz250 rfl _), trivial⟩ (by kernel_rfl) (.int .i64 (IntKind.i64.wrap ((i : Int) + 1))) (.int .i64 ((i : Int) + 1)) (by kernel_rfl) (V.w_i64 (by omega) (by omega)) ?_)
                    refine V.go (V.mv (v := (.int .i64 (q : Int))) (at_other rfl _ (at_other rfl _ (s11_255))) ?_)
                    refine V.go (V.pvw [(80, .int .i64 (q : Int))] ⟨(at_same ((hz250.put _ _).put _ _) rfl _), trivial⟩ (by kernel_rfl) (.int .i64 (IntKind.i64.wrap ((q : Int) + 1))) (.int .i64 ((q : Int) + 1)) (by kernel_rfl) (V.w_i64 (by omega) (by omega)) ?_)
                    refine V.go (V.asg (v := (.int .i64 ((i : Int) + 1))) (at_other rfl _ (at_other rfl _ (at_same (hz250.put _ _) rfl _))) ?_)
                    refine V.go (V.asg (v := (.int .i64 ((q : Int) + 1))) (at_other rfl _ (at_same (((hz250.put _ _).put _ _).put _ _) rfl _)) ?_)
                    refine V.nil ?_
                    refine V.blk_n ?_
                    refine V.blk_n ?_
                    refine V.then_n ?_
                    have hcq := byte_at s q (by omega)
                    refine ⟨i + 1, q + 1, star, f, by omega, ?_⟩
                    refine ⟨((((((hz250.put _ _).put _ _).put _ _).put _ _).put _ _).put _ _), ?_, ?_, ?_, ?_, ?_, ?_, ?_, hR_244, hF_245, hps37_246, (hg.eat (at_some globR (i := (i : Int)) (by omega) (by omega)) ht219 hcq ((set_one hok hkl (parse_kinds p) (by omega) ht219 s (q : Int)).symm.trans ht260))⟩
                    · exact (at_other rfl _ (at_other rfl _ (at_other rfl _ (at_other rfl _ (at_other rfl _ (at_other rfl _ (s1_252)))))))
                    · exact (at_other rfl _ (at_other rfl _ (at_other rfl _ (at_other rfl _ (at_other rfl _ (at_other rfl _ (s7_253)))))))
                    · exact (at_other rfl _ (at_other rfl _ (at_other rfl _ (at_other rfl _ (at_other rfl _ (at_other rfl _ (s8_254)))))))
                    · exact Eq.trans (at_same (((((hz250.put _ _).put _ _).put _ _).put _ _).put _ _) rfl _) (V.int_eq (by omega))
                    · exact Eq.trans (at_other rfl _ (at_same ((((hz250.put _ _).put _ _).put _ _).put _ _) rfl _)) (V.int_eq (by omega))
                    · exact Eq.trans (at_other rfl _ (at_other rfl _ (at_other rfl _ (at_other rfl _ (at_other rfl _ (at_other rfl _ (s13_257))))))) (V.int_eq (by omega))
                    · exact Eq.trans (at_other rfl _ (at_other rfl _ (at_other rfl _ (at_other rfl _ (at_other rfl _ (at_other rfl _ (s14_258))))))) (V.int_eq (by omega))
                  ·
                    have ht260 : ¬ ((bitS (ss.getD ((i : Int).toNat) z4).ws (byt s (q : Int)).toNat) = true) := by rw [ht260q]; simp
                    refine V.seq (fun K261 hK262 => ?_)
                    refine V.region (by kernel_rfl) ?_
                    refine V.go (V.mv (v := (.int .i64 star)) (s13_257) ?_)
                    refine V.go (V.pv [(83, .int .i64 star)] ⟨(at_same hz250 rfl _), trivial⟩ (by kernel_rfl) (.bool (decide (star ≥ 0))) (by kernel_rfl) ?_)
                    refine V.go (V.asg (v := (.bool (decide (star ≥ 0)))) (at_same (hz250.put _ _) rfl _) ?_)
                    refine V.nil ?_
                    refine V.then_n (hK262 _ _ ?_)
                    refine V.condP (p := star ≥ 0) (at_same ((hz250.put _ _).put _ _) rfl _) (fun ht263 => ?_) (fun ht263 => ?_)
                    ·
                      refine V.seq (fun K264 hK265 => ?_)
                      refine V.region (by kernel_rfl) ?_
                      refine V.go (V.mv (v := (.int .i64 (f : Int))) (at_other rfl _ (at_other rfl _ (at_other rfl _ (s14_258)))) ?_)
                      refine V.go (V.pvw [(85, .int .i64 (f : Int))] ⟨(at_same (((hz250.put _ _).put _ _).put _ _) rfl _), trivial⟩ (by kernel_rfl) (.int .i64 (IntKind.i64.wrap ((f : Int) + 1))) (.int .i64 ((f : Int) + 1)) (by kernel_rfl) (V.w_i64 (by omega) (by omega)) ?_)
                      refine V.go (V.asg (v := (.int .i64 ((f : Int) + 1))) (at_same ((((hz250.put _ _).put _ _).put _ _).put _ _) rfl _) ?_)
                      refine V.nil ?_
                      refine V.then_n (hK265 _ _ ?_)
                      refine V.flushW ((((((hz250.put _ _).put _ _).put _ _).put _ _).put _ _).put _ _) (fun a266 hz267 up268 => ?_)
                      have s1_269 : a266.eval (.tmp 1) = (.string s) := up268 _ _ (at_other rfl _ (at_other rfl _ (at_other rfl _ (at_other rfl _ (at_other rfl _ (at_other rfl _ (s1_252)))))))
                      have s7_270 : a266.eval (.tmp 7) = (.slice A29 ((parse (ints p)).length) c30) := up268 _ _ (at_other rfl _ (at_other rfl _ (at_other rfl _ (at_other rfl _ (at_other rfl _ (at_other rfl _ (s7_253)))))))
                      have s8_271 : a266.eval (.tmp 8) = (.slice (some ⟨b38, 0, none⟩) ((parse (ints p)).length) ((parse (ints p)).length)) := up268 _ _ (at_other rfl _ (at_other rfl _ (at_other rfl _ (at_other rfl _ (at_other rfl _ (at_other rfl _ (s8_254)))))))
                      have s11_272 : a266.eval (.tmp 11) = (.int .i64 (q : Int)) := up268 _ _ (at_other rfl _ (at_other rfl _ (at_other rfl _ (at_other rfl _ (at_other rfl _ (at_other rfl _ (s11_255)))))))
                      have s12_273 : a266.eval (.tmp 12) = (.int .i64 (i : Int)) := up268 _ _ (at_other rfl _ (at_other rfl _ (at_other rfl _ (at_other rfl _ (at_other rfl _ (at_other rfl _ (s12_256)))))))
                      have s13_274 : a266.eval (.tmp 13) = (.int .i64 star) := up268 _ _ (at_other rfl _ (at_other rfl _ (at_other rfl _ (at_other rfl _ (at_other rfl _ (at_other rfl _ (s13_257)))))))
                      have s14_275 : a266.eval (.tmp 14) = (.int .i64 ((f : Int) + 1)) := up268 _ _ (at_same (((((hz250.put _ _).put _ _).put _ _).put _ _).put _ _) rfl _)
                      clear up268
                      refine V.region (by kernel_rfl) ?_
                      refine V.go (V.mv (v := (.int .i64 star)) (s13_274) ?_)
                      refine V.go (V.pvw [(87, .int .i64 star)] ⟨(at_same hz267 rfl _), trivial⟩ (by kernel_rfl) (.int .i64 (IntKind.i64.wrap (star + 1))) (.int .i64 (star + 1)) (by kernel_rfl) (V.w_i64 (by omega) (by omega)) ?_)
                      refine V.go (V.mv (v := (.int .i64 ((f : Int) + 1))) (at_other rfl _ (at_other rfl _ (s14_275))) ?_)
                      refine V.go (V.asg (v := (.int .i64 (star + 1))) (at_other rfl _ (at_same (hz267.put _ _) rfl _)) ?_)
                      refine V.go (V.asg (v := (.int .i64 ((f : Int) + 1))) (at_other rfl _ (at_same ((hz267.put _ _).put _ _) rfl _)) ?_)
                      refine V.nil ?_
                      refine V.blk_n ?_
                      refine V.blk_n ?_
                      refine V.then_n ?_
                      have hcq := byte_at s q (by omega)
                      have hn : ∀ g, (parse (ints p))[i]? = some g → g.kind ≠ 1 ∧ oneB g (bi s (q : Int)) fold = false := miss_in (by omega) ht219 ((set_one hok hkl (parse_kinds p) (by omega) ht219 s (q : Int)).symm.trans (Bool.not_eq_true _ ▸ ht260))
                      refine ⟨star.toNat + 1, f + 1, star, f + 1, meas_back (by omega) (by omega), ?_⟩
                      refine ⟨(((((hz267.put _ _).put _ _).put _ _).put _ _).put _ _), ?_, ?_, ?_, ?_, ?_, ?_, ?_, hR_244, hF_245, hps37_246, (hg.back hcq hn (by omega))⟩
                      · exact (at_other rfl _ (at_other rfl _ (at_other rfl _ (at_other rfl _ (at_other rfl _ (s1_269))))))
                      · exact (at_other rfl _ (at_other rfl _ (at_other rfl _ (at_other rfl _ (at_other rfl _ (s7_270))))))
                      · exact (at_other rfl _ (at_other rfl _ (at_other rfl _ (at_other rfl _ (at_other rfl _ (s8_271))))))
                      · exact Eq.trans (at_same ((((hz267.put _ _).put _ _).put _ _).put _ _) rfl _) (V.int_eq (by omega))
                      · exact Eq.trans (at_other rfl _ (at_same (((hz267.put _ _).put _ _).put _ _) rfl _)) (V.int_eq (by omega))
                      · exact Eq.trans (at_other rfl _ (at_other rfl _ (at_other rfl _ (at_other rfl _ (at_other rfl _ (s13_274)))))) (V.int_eq (by omega))
                      · exact Eq.trans (at_other rfl _ (at_other rfl _ (at_other rfl _ (at_other rfl _ (at_other rfl _ (s14_275)))))) (V.int_eq (by omega))
                    ·
                      refine V.seq (fun K276 hK277 => ?_)
                      refine V.region (by kernel_rfl) ?_
                      refine V.go (V.asg (v := (.bool false)) evc ?_)
                      refine V.nil ?_
                      refine V.then_n (hK277 _ _ ?_)
                      refine V.flushW ((((hz250.put _ _).put _ _).put _ _).put _ _) (fun a278 hz279 up280 => ?_)
                      have s1_281 : a278.eval (.tmp 1) = (.string s) := up280 _ _ (at_other rfl _ (at_other rfl _ (at_other rfl _ (at_other rfl _ (s1_252)))))
                      have s6_282 : a278.eval (.tmp 6) = (.bool false) := up280 _ _ (at_same (((hz250.put _ _).put _ _).put _ _) rfl _)
                      have s7_283 : a278.eval (.tmp 7) = (.slice A29 ((parse (ints p)).length) c30) := up280 _ _ (at_other rfl _ (at_other rfl _ (at_other rfl _ (at_other rfl _ (s7_253)))))
                      have s8_284 : a278.eval (.tmp 8) = (.slice (some ⟨b38, 0, none⟩) ((parse (ints p)).length) ((parse (ints p)).length)) := up280 _ _ (at_other rfl _ (at_other rfl _ (at_other rfl _ (at_other rfl _ (s8_254)))))
                      have s11_285 : a278.eval (.tmp 11) = (.int .i64 (q : Int)) := up280 _ _ (at_other rfl _ (at_other rfl _ (at_other rfl _ (at_other rfl _ (s11_255)))))
                      have s12_286 : a278.eval (.tmp 12) = (.int .i64 (i : Int)) := up280 _ _ (at_other rfl _ (at_other rfl _ (at_other rfl _ (at_other rfl _ (s12_256)))))
                      have s13_287 : a278.eval (.tmp 13) = (.int .i64 star) := up280 _ _ (at_other rfl _ (at_other rfl _ (at_other rfl _ (at_other rfl _ (s13_257)))))
                      have s14_288 : a278.eval (.tmp 14) = (.int .i64 (f : Int)) := up280 _ _ (at_other rfl _ (at_other rfl _ (at_other rfl _ (at_other rfl _ (s14_258)))))
                      clear up280
                      refine V.ret ?_
                      refine V.blk_r ?_
                      refine V.blk_r ?_
                      refine V.then_r ?_
                      refine V.blk_r ?_
                      refine V.then_r ?_
                      refine V.ret1 hz279 rfl (s6_282) ?_
                      refine ⟨congrArg Ending.returned (congrArg Value.bool ?_), hF_245⟩
                      have hcq := byte_at s q (by omega)
                      have hn : ∀ g, (parse (ints p))[i]? = some g → g.kind ≠ 1 ∧ oneB g (bi s (q : Int)) fold = false := miss_in (by omega) ht219 ((set_one hok hkl (parse_kinds p) (by omega) ht219 s (q : Int)).symm.trans (Bool.not_eq_true _ ▸ ht260))
                      have hnm := hg.none hcq hn (by omega)
                      exact ((Bool.not_eq_true _).mp (fun h => hnm ((rmat_mat (by omega) (by omega)).1 h))).symm
              ·
                refine V.go_off 51 (by kernel_rfl) (((at_same ((((hz184.put _ _).put _ _).put _ _).put _ _) rfl _ : Act.eval _ _ = (.bool (decide ((i : Int) < (((parse (ints p)).length : Nat) : Int)))))).trans (df hg197)) (by kernel_rfl) ?_
                refine V.go_off 51 (by kernel_rfl) (((at_other rfl _ (at_same ((((hz184.put _ _).put _ _).put _ _).put _ _) rfl _) : Act.eval _ _ = (.bool (decide ((i : Int) < (((parse (ints p)).length : Nat) : Int)))))).trans (df hg197)) (by kernel_rfl) ?_
                refine V.go_off 51 (by kernel_rfl) (((at_other rfl _ (at_other rfl _ (at_same ((((hz184.put _ _).put _ _).put _ _).put _ _) rfl _)) : Act.eval _ _ = (.bool (decide ((i : Int) < (((parse (ints p)).length : Nat) : Int)))))).trans (df hg197)) (by kernel_rfl) ?_
                refine V.go_off 51 (by kernel_rfl) (((at_other rfl _ (at_other rfl _ (at_other rfl _ (at_same ((((hz184.put _ _).put _ _).put _ _).put _ _) rfl _))) : Act.eval _ _ = (.bool (decide ((i : Int) < (((parse (ints p)).length : Nat) : Int)))))).trans (df hg197)) (by kernel_rfl) ?_
                refine V.go_off 51 (by kernel_rfl) (((at_other rfl _ (at_other rfl _ (at_other rfl _ (at_other rfl _ (at_same ((((hz184.put _ _).put _ _).put _ _).put _ _) rfl _)))) : Act.eval _ _ = (.bool (decide ((i : Int) < (((parse (ints p)).length : Nat) : Int)))))).trans (df hg197)) (by kernel_rfl) ?_
                refine V.go_off 51 (by kernel_rfl) (((at_other rfl _ (at_other rfl _ (at_other rfl _ (at_other rfl _ (at_other rfl _ (at_same ((((hz184.put _ _).put _ _).put _ _).put _ _) rfl _))))) : Act.eval _ _ = (.bool (decide ((i : Int) < (((parse (ints p)).length : Nat) : Int)))))).trans (df hg197)) (by kernel_rfl) ?_
                refine V.go (V.pk_f (((at_other rfl _ (at_other rfl _ (at_other rfl _ (at_other rfl _ (at_other rfl _ (at_other rfl _ (at_same ((((hz184.put _ _).put _ _).put _ _).put _ _) rfl _)))))) : Act.eval _ _ = (.bool (decide ((i : Int) < (((parse (ints p)).length : Nat) : Int)))))).trans (df hg197)) (v := (.bool false)) evc ?_)
                refine V.go (V.asg (v := (.bool false)) (at_same (((((((((((hz184.put _ _).put _ _).put _ _).put _ _).put _ _).put _ _).put _ _).put _ _).put _ _).put _ _).put _ _) rfl _) ?_)
                refine V.nil ?_
                refine V.then_n (hK196 _ _ ?_)
                refine V.flushW (((((((((((((hz184.put _ _).put _ _).put _ _).put _ _).put _ _).put _ _).put _ _).put _ _).put _ _).put _ _).put _ _).put _ _).put _ _) (fun a289 hz290 up291 => ?_)
                have s1_292 : a289.eval (.tmp 1) = (.string s) := up291 _ _ (at_other rfl _ (at_other rfl _ (at_other rfl _ (at_other rfl _ (at_other rfl _ (at_other rfl _ (at_other rfl _ (at_other rfl _ (at_other rfl _ (at_other rfl _ (at_other rfl _ (at_other rfl _ (at_other rfl _ (s1_186))))))))))))))
                have s7_293 : a289.eval (.tmp 7) = (.slice A29 ((parse (ints p)).length) c30) := up291 _ _ (at_other rfl _ (at_other rfl _ (at_other rfl _ (at_other rfl _ (at_other rfl _ (at_other rfl _ (at_other rfl _ (at_other rfl _ (at_other rfl _ (at_other rfl _ (at_other rfl _ (at_other rfl _ (at_other rfl _ (s7_187))))))))))))))
                have s8_294 : a289.eval (.tmp 8) = (.slice (some ⟨b38, 0, none⟩) ((parse (ints p)).length) ((parse (ints p)).length)) := up291 _ _ (at_other rfl _ (at_other rfl _ (at_other rfl _ (at_other rfl _ (at_other rfl _ (at_other rfl _ (at_other rfl _ (at_other rfl _ (at_other rfl _ (at_other rfl _ (at_other rfl _ (at_other rfl _ (at_other rfl _ (s8_188))))))))))))))
                have s11_295 : a289.eval (.tmp 11) = (.int .i64 (q : Int)) := up291 _ _ (at_other rfl _ (at_other rfl _ (at_other rfl _ (at_other rfl _ (at_other rfl _ (at_other rfl _ (at_other rfl _ (at_other rfl _ (at_other rfl _ (at_other rfl _ (at_other rfl _ (at_other rfl _ (at_other rfl _ (s11_189))))))))))))))
                have s12_296 : a289.eval (.tmp 12) = (.int .i64 (i : Int)) := up291 _ _ (at_other rfl _ (at_other rfl _ (at_other rfl _ (at_other rfl _ (at_other rfl _ (at_other rfl _ (at_other rfl _ (at_other rfl _ (at_other rfl _ (at_other rfl _ (at_other rfl _ (at_other rfl _ (at_other rfl _ (s12_190))))))))))))))
                have s13_297 : a289.eval (.tmp 13) = (.int .i64 star) := up291 _ _ (at_other rfl _ (at_other rfl _ (at_other rfl _ (at_other rfl _ (at_other rfl _ (at_other rfl _ (at_other rfl _ (at_other rfl _ (at_other rfl _ (at_other rfl _ (at_other rfl _ (at_other rfl _ (at_other rfl _ (s13_191))))))))))))))
                have s14_298 : a289.eval (.tmp 14) = (.int .i64 (f : Int)) := up291 _ _ (at_other rfl _ (at_other rfl _ (at_other rfl _ (at_other rfl _ (at_other rfl _ (at_other rfl _ (at_other rfl _ (at_other rfl _ (at_other rfl _ (at_other rfl _ (at_other rfl _ (at_other rfl _ (at_other rfl _ (s14_192))))))))))))))
                have s46_299 : a289.eval (.tmp 46) = (.bool false) := up291 _ _ (at_same ((((((((((((hz184.put _ _).put _ _).put _ _).put _ _).put _ _).put _ _).put _ _).put _ _).put _ _).put _ _).put _ _).put _ _) rfl _)
                clear up291
                refine V.cond_f (s46_299) ?_
                refine V.seq (fun K300 hK301 => ?_)
                refine V.plan [[], [], [1], [0, 1, 2], [0, 1, 2, 3], [0, 1, 2, 3, 4], [0, 1, 2, 3, 4], [0, 1, 2, 3, 4, 5, 6], [0, 1, 2, 3, 4, 5, 6, 7], [0, 1, 2, 3, 4], [0, 1, 2, 3, 4], [0, 1, 2, 3, 4, 9, 10], [0, 1, 2, 3, 4, 5, 6, 7, 8, 9, 10, 11], [0, 1, 2, 3, 4, 5, 6, 7, 8, 9, 10, 11, 12], [0, 1, 2, 3, 4, 5, 6, 7, 8, 9, 10, 11, 12, 13]] [([0, 1, 2, 3, 4, 5, 6, 7, 8, 9, 10, 11], some (12, [])), ([13, 14], none)] (by kernel_rfl) (by kernel_rfl) (by exact fun _ _ _ _ h => h) ?_
                simp only [Plan.wpSegs, Plan.pickAll, Plan.nth, V.L_eq]
                obtain ⟨w302, hF303e⟩ : ∃ w1, w1 = w165.drew := ⟨_, rfl⟩
                rw [← hF303e]
                have hF303 : Fr [] w165 w302 := by rw [hF303e]; exact Fr.drew _ _
                have hsw302 : w302.heap.size = w165.heap.size := by rw [hF303e]; rfl
                clear hF303e
                have hR_304 := hR_174.fr0 hF303
                have hF_305 := hF_175.new hF303
                have hps37_306 := hps37_176.fr0 hF303
                refine V.go (V.mv (v := (.int .i64 (i : Int))) (s12_296) ?_)
                refine V.go (V.mv (v := (.slice A29 ((parse (ints p)).length) c30)) (at_other rfl _ (s7_293)) ?_)
                refine V.go (V.pv [(65, .slice A29 ((parse (ints p)).length) c30)] ⟨(at_same (hz290.put _ _) rfl _), trivial⟩ (by kernel_rfl) (.int .i64 (((parse (ints p)).length : Nat) : Int)) (by kernel_rfl) ?_)
                refine V.go (V.pv [(64, .int .i64 (i : Int)), (66, .int .i64 (((parse (ints p)).length : Nat) : Int))] ⟨(at_other rfl _ (at_other rfl _ (at_same hz290 rfl _))), (at_same ((hz290.put _ _).put _ _) rfl _), trivial⟩ (by kernel_rfl) (.bool (decide ((i : Int) < (((parse (ints p)).length : Nat) : Int)))) (by kernel_rfl) ?_)
                refine V.go (V.mv (v := (.bool false)) (((at_same (((hz290.put _ _).put _ _).put _ _) rfl _ : Act.eval _ _ = (.bool (decide ((i : Int) < (((parse (ints p)).length : Nat) : Int)))))).trans (df hg197)) ?_)
                refine V.go_off 68 (by kernel_rfl) (at_same ((((hz290.put _ _).put _ _).put _ _).put _ _) rfl _) (by kernel_rfl) ?_
                refine V.go_off 68 (by kernel_rfl) (at_other rfl _ (at_same ((((hz290.put _ _).put _ _).put _ _).put _ _) rfl _)) (by kernel_rfl) ?_
                refine V.go_off 68 (by kernel_rfl) (at_other rfl _ (at_other rfl _ (at_same ((((hz290.put _ _).put _ _).put _ _).put _ _) rfl _))) (by kernel_rfl) ?_
                refine V.go_off 68 (by kernel_rfl) (at_other rfl _ (at_other rfl _ (at_other rfl _ (at_same ((((hz290.put _ _).put _ _).put _ _).put _ _) rfl _)))) (by kernel_rfl) ?_
                refine V.go_off 68 (by kernel_rfl) (at_other rfl _ (at_other rfl _ (at_other rfl _ (at_other rfl _ (at_same ((((hz290.put _ _).put _ _).put _ _).put _ _) rfl _))))) (by kernel_rfl) ?_
                refine V.go_off 68 (by kernel_rfl) (at_other rfl _ (at_other rfl _ (at_other rfl _ (at_other rfl _ (at_other rfl _ (at_same ((((hz290.put _ _).put _ _).put _ _).put _ _) rfl _)))))) (by kernel_rfl) ?_
                refine V.go_off 68 (by kernel_rfl) (at_other rfl _ (at_other rfl _ (at_other rfl _ (at_other rfl _ (at_other rfl _ (at_other rfl _ (at_same ((((hz290.put _ _).put _ _).put _ _).put _ _) rfl _))))))) (by kernel_rfl) ?_
                refine V.nil ?_
                refine ⟨chk [(65, .slice A29 ((parse (ints p)).length) c30), (64, .int .i64 (i : Int)), (66, .int .i64 (((parse (ints p)).length : Nat) : Int)), (68, .bool false)] ⟨(at_other rfl _ (at_other rfl _ (at_other rfl _ (at_other rfl _ (at_other rfl _ (at_other rfl _ (at_other rfl _ (at_other rfl _ (at_other rfl _ (at_other rfl _ (at_same (hz290.put _ _) rfl _))))))))))), (at_other rfl _ (at_other rfl _ (at_other rfl _ (at_other rfl _ (at_other rfl _ (at_other rfl _ (at_other rfl _ (at_other rfl _ (at_other rfl _ (at_other rfl _ (at_other rfl _ (at_same hz290 rfl _)))))))))))), (at_other rfl _ (at_other rfl _ (at_other rfl _ (at_other rfl _ (at_other rfl _ (at_other rfl _ (at_other rfl _ (at_other rfl _ (at_other rfl _ (at_same ((hz290.put _ _).put _ _) rfl _)))))))))), (at_other rfl _ (at_other rfl _ (at_other rfl _ (at_other rfl _ (at_other rfl _ (at_other rfl _ (at_other rfl _ (at_same ((((hz290.put _ _).put _ _).put _ _).put _ _) rfl _)))))))), trivial⟩ (by kernel_rfl), ?_⟩
                refine V.go_off 68 (by kernel_rfl) (at_other rfl _ (at_other rfl _ (at_other rfl _ (at_other rfl _ (at_other rfl _ (at_other rfl _ (at_other rfl _ (at_same ((((hz290.put _ _).put _ _).put _ _).put _ _) rfl _)))))))) (by kernel_rfl) ?_
                refine V.nil ?_
                refine ⟨trivial, ?_⟩
                refine V.go (V.pk_f (at_other rfl _ (at_other rfl _ (at_other rfl _ (at_other rfl _ (at_other rfl _ (at_other rfl _ (at_other rfl _ (at_other rfl _ (at_same ((((hz290.put _ _).put _ _).put _ _).put _ _) rfl _))))))))) (v := (.bool false)) evc ?_)
                refine V.go (V.asg (v := (.bool false)) (at_same (((((((((((((hz290.put _ _).put _ _).put _ _).put _ _).put _ _).put _ _).put _ _).put _ _).put _ _).put _ _).put _ _).put _ _).put _ _) rfl _) ?_)
                refine V.nil ?_
                refine ⟨chk [] trivial (by kernel_rfl), ?_⟩
                refine V.then_n (hK301 _ _ ?_)
                refine V.flushW (((((((((((((((hz290.put _ _).put _ _).put _ _).put _ _).put _ _).put _ _).put _ _).put _ _).put _ _).put _ _).put _ _).put _ _).put _ _).put _ _).put _ _) (fun a307 hz308 up309 => ?_)
                have s1_310 : a307.eval (.tmp 1) = (.string s) := up309 _ _ (at_other rfl _ (at_other rfl _ (at_other rfl _ (at_other rfl _ (at_other rfl _ (at_other rfl _ (at_other rfl _ (at_other rfl _ (at_other rfl _ (at_other rfl _ (at_other rfl _ (at_other rfl _ (at_other rfl _ (at_other rfl _ (at_other rfl _ (s1_292))))))))))))))))
                have s7_311 : a307.eval (.tmp 7) = (.slice A29 ((parse (ints p)).length) c30) := up309 _ _ (at_other rfl _ (at_other rfl _ (at_other rfl _ (at_other rfl _ (at_other rfl _ (at_other rfl _ (at_other rfl _ (at_other rfl _ (at_other rfl _ (at_other rfl _ (at_other rfl _ (at_other rfl _ (at_other rfl _ (at_other rfl _ (at_other rfl _ (s7_293))))))))))))))))
                have s8_312 : a307.eval (.tmp 8) = (.slice (some ⟨b38, 0, none⟩) ((parse (ints p)).length) ((parse (ints p)).length)) := up309 _ _ (at_other rfl _ (at_other rfl _ (at_other rfl _ (at_other rfl _ (at_other rfl _ (at_other rfl _ (at_other rfl _ (at_other rfl _ (at_other rfl _ (at_other rfl _ (at_other rfl _ (at_other rfl _ (at_other rfl _ (at_other rfl _ (at_other rfl _ (s8_294))))))))))))))))
                have s11_313 : a307.eval (.tmp 11) = (.int .i64 (q : Int)) := up309 _ _ (at_other rfl _ (at_other rfl _ (at_other rfl _ (at_other rfl _ (at_other rfl _ (at_other rfl _ (at_other rfl _ (at_other rfl _ (at_other rfl _ (at_other rfl _ (at_other rfl _ (at_other rfl _ (at_other rfl _ (at_other rfl _ (at_other rfl _ (s11_295))))))))))))))))
                have s12_314 : a307.eval (.tmp 12) = (.int .i64 (i : Int)) := up309 _ _ (at_other rfl _ (at_other rfl _ (at_other rfl _ (at_other rfl _ (at_other rfl _ (at_other rfl _ (at_other rfl _ (at_other rfl _ (at_other rfl _ (at_other rfl _ (at_other rfl _ (at_other rfl _ (at_other rfl _ (at_other rfl _ (at_other rfl _ (s12_296))))))))))))))))
                have s13_315 : a307.eval (.tmp 13) = (.int .i64 star) := up309 _ _ (at_other rfl _ (at_other rfl _ (at_other rfl _ (at_other rfl _ (at_other rfl _ (at_other rfl _ (at_other rfl _ (at_other rfl _ (at_other rfl _ (at_other rfl _ (at_other rfl _ (at_other rfl _ (at_other rfl _ (at_other rfl _ (at_other rfl _ (s13_297))))))))))))))))
                have s14_316 : a307.eval (.tmp 14) = (.int .i64 (f : Int)) := up309 _ _ (at_other rfl _ (at_other rfl _ (at_other rfl _ (at_other rfl _ (at_other rfl _ (at_other rfl _ (at_other rfl _ (at_other rfl _ (at_other rfl _ (at_other rfl _ (at_other rfl _ (at_other rfl _ (at_other rfl _ (at_other rfl _ (at_other rfl _ (s14_298))))))))))))))))
                have s63_317 : a307.eval (.tmp 63) = (.bool false) := up309 _ _ (at_same ((((((((((((((hz290.put _ _).put _ _).put _ _).put _ _).put _ _).put _ _).put _ _).put _ _).put _ _).put _ _).put _ _).put _ _).put _ _).put _ _) rfl _)
                clear up309
                refine V.cond_f (s63_317) ?_
                refine V.seq (fun K318 hK319 => ?_)
                refine V.region (by kernel_rfl) ?_
                refine V.go (V.mv (v := (.int .i64 star)) (s13_315) ?_)
                refine V.go (V.pv [(83, .int .i64 star)] ⟨(at_same hz308 rfl _), trivial⟩ (by kernel_rfl) (.bool (decide (star ≥ 0))) (by kernel_rfl) ?_)
                refine V.go (V.asg (v := (.bool (decide (star ≥ 0)))) (at_same (hz308.put _ _) rfl _) ?_)
                refine V.nil ?_
                refine V.then_n (hK319 _ _ ?_)
                refine V.condP (p := star ≥ 0) (at_same ((hz308.put _ _).put _ _) rfl _) (fun ht320 => ?_) (fun ht320 => ?_)
                ·
                  refine V.seq (fun K321 hK322 => ?_)
                  refine V.region (by kernel_rfl) ?_
                  refine V.go (V.mv (v := (.int .i64 (f : Int))) (at_other rfl _ (at_other rfl _ (at_other rfl _ (s14_316)))) ?_)
                  refine V.go (V.pvw [(85, .int .i64 (f : Int))] ⟨(at_same (((hz308.put _ _).put _ _).put _ _) rfl _), trivial⟩ (by kernel_rfl) (.int .i64 (IntKind.i64.wrap ((f : Int) + 1))) (.int .i64 ((f : Int) + 1)) (by kernel_rfl) (V.w_i64 (by omega) (by omega)) ?_)
                  refine V.go (V.asg (v := (.int .i64 ((f : Int) + 1))) (at_same ((((hz308.put _ _).put _ _).put _ _).put _ _) rfl _) ?_)
                  refine V.nil ?_
                  refine V.then_n (hK322 _ _ ?_)
                  refine V.flushW ((((((hz308.put _ _).put _ _).put _ _).put _ _).put _ _).put _ _) (fun a323 hz324 up325 => ?_)
                  have s1_326 : a323.eval (.tmp 1) = (.string s) := up325 _ _ (at_other rfl _ (at_other rfl _ (at_other rfl _ (at_other rfl _ (at_other rfl _ (at_other rfl _ (s1_310)))))))
                  have s7_327 : a323.eval (.tmp 7) = (.slice A29 ((parse (ints p)).length) c30) := up325 _ _ (at_other rfl _ (at_other rfl _ (at_other rfl _ (at_other rfl _ (at_other rfl _ (at_other rfl _ (s7_311)))))))
                  have s8_328 : a323.eval (.tmp 8) = (.slice (some ⟨b38, 0, none⟩) ((parse (ints p)).length) ((parse (ints p)).length)) := up325 _ _ (at_other rfl _ (at_other rfl _ (at_other rfl _ (at_other rfl _ (at_other rfl _ (at_other rfl _ (s8_312)))))))
                  have s11_329 : a323.eval (.tmp 11) = (.int .i64 (q : Int)) := up325 _ _ (at_other rfl _ (at_other rfl _ (at_other rfl _ (at_other rfl _ (at_other rfl _ (at_other rfl _ (s11_313)))))))
                  have s12_330 : a323.eval (.tmp 12) = (.int .i64 (i : Int)) := up325 _ _ (at_other rfl _ (at_other rfl _ (at_other rfl _ (at_other rfl _ (at_other rfl _ (at_other rfl _ (s12_314)))))))
                  have s13_331 : a323.eval (.tmp 13) = (.int .i64 star) := up325 _ _ (at_other rfl _ (at_other rfl _ (at_other rfl _ (at_other rfl _ (at_other rfl _ (at_other rfl _ (s13_315)))))))
                  have s14_332 : a323.eval (.tmp 14) = (.int .i64 ((f : Int) + 1)) := up325 _ _ (at_same (((((hz308.put _ _).put _ _).put _ _).put _ _).put _ _) rfl _)
                  clear up325
                  refine V.region (by kernel_rfl) ?_
                  refine V.go (V.mv (v := (.int .i64 star)) (s13_331) ?_)
                  refine V.go (V.pvw [(87, .int .i64 star)] ⟨(at_same hz324 rfl _), trivial⟩ (by kernel_rfl) (.int .i64 (IntKind.i64.wrap (star + 1))) (.int .i64 (star + 1)) (by kernel_rfl) (V.w_i64 (by omega) (by omega)) ?_)
                  refine V.go (V.mv (v := (.int .i64 ((f : Int) + 1))) (at_other rfl _ (at_other rfl _ (s14_332))) ?_)
                  refine V.go (V.asg (v := (.int .i64 (star + 1))) (at_other rfl _ (at_same (hz324.put _ _) rfl _)) ?_)
                  refine V.go (V.asg (v := (.int .i64 ((f : Int) + 1))) (at_other rfl _ (at_same ((hz324.put _ _).put _ _) rfl _)) ?_)
                  refine V.nil ?_
                  refine V.blk_n ?_
                  refine V.blk_n ?_
                  refine V.then_n ?_
                  have hcq := byte_at s q (by omega)
                  have hn : ∀ g, (parse (ints p))[i]? = some g → g.kind ≠ 1 ∧ oneB g (bi s (q : Int)) fold = false := miss_out (by omega)
                  refine ⟨star.toNat + 1, f + 1, star, f + 1, meas_back (by omega) (by omega), ?_⟩
                  refine ⟨(((((hz324.put _ _).put _ _).put _ _).put _ _).put _ _), ?_, ?_, ?_, ?_, ?_, ?_, ?_, hR_304, hF_305, hps37_306, (hg.back hcq hn (by omega))⟩
                  · exact (at_other rfl _ (at_other rfl _ (at_other rfl _ (at_other rfl _ (at_other rfl _ (s1_326))))))
                  · exact (at_other rfl _ (at_other rfl _ (at_other rfl _ (at_other rfl _ (at_other rfl _ (s7_327))))))
                  · exact (at_other rfl _ (at_other rfl _ (at_other rfl _ (at_other rfl _ (at_other rfl _ (s8_328))))))
                  · exact Eq.trans (at_same ((((hz324.put _ _).put _ _).put _ _).put _ _) rfl _) (V.int_eq (by omega))
                  · exact Eq.trans (at_other rfl _ (at_same (((hz324.put _ _).put _ _).put _ _) rfl _)) (V.int_eq (by omega))
                  · exact Eq.trans (at_other rfl _ (at_other rfl _ (at_other rfl _ (at_other rfl _ (at_other rfl _ (s13_331)))))) (V.int_eq (by omega))
                  · exact Eq.trans (at_other rfl _ (at_other rfl _ (at_other rfl _ (at_other rfl _ (at_other rfl _ (s14_332)))))) (V.int_eq (by omega))
                ·
                  refine V.seq (fun K333 hK334 => ?_)
                  refine V.region (by kernel_rfl) ?_
                  refine V.go (V.asg (v := (.bool false)) evc ?_)
                  refine V.nil ?_
                  refine V.then_n (hK334 _ _ ?_)
                  refine V.flushW ((((hz308.put _ _).put _ _).put _ _).put _ _) (fun a335 hz336 up337 => ?_)
                  have s1_338 : a335.eval (.tmp 1) = (.string s) := up337 _ _ (at_other rfl _ (at_other rfl _ (at_other rfl _ (at_other rfl _ (s1_310)))))
                  have s6_339 : a335.eval (.tmp 6) = (.bool false) := up337 _ _ (at_same (((hz308.put _ _).put _ _).put _ _) rfl _)
                  have s7_340 : a335.eval (.tmp 7) = (.slice A29 ((parse (ints p)).length) c30) := up337 _ _ (at_other rfl _ (at_other rfl _ (at_other rfl _ (at_other rfl _ (s7_311)))))
                  have s8_341 : a335.eval (.tmp 8) = (.slice (some ⟨b38, 0, none⟩) ((parse (ints p)).length) ((parse (ints p)).length)) := up337 _ _ (at_other rfl _ (at_other rfl _ (at_other rfl _ (at_other rfl _ (s8_312)))))
                  have s11_342 : a335.eval (.tmp 11) = (.int .i64 (q : Int)) := up337 _ _ (at_other rfl _ (at_other rfl _ (at_other rfl _ (at_other rfl _ (s11_313)))))
                  have s12_343 : a335.eval (.tmp 12) = (.int .i64 (i : Int)) := up337 _ _ (at_other rfl _ (at_other rfl _ (at_other rfl _ (at_other rfl _ (s12_314)))))
                  have s13_344 : a335.eval (.tmp 13) = (.int .i64 star) := up337 _ _ (at_other rfl _ (at_other rfl _ (at_other rfl _ (at_other rfl _ (s13_315)))))
                  have s14_345 : a335.eval (.tmp 14) = (.int .i64 (f : Int)) := up337 _ _ (at_other rfl _ (at_other rfl _ (at_other rfl _ (at_other rfl _ (s14_316)))))
                  clear up337
                  refine V.ret ?_
                  refine V.blk_r ?_
                  refine V.blk_r ?_
                  refine V.then_r ?_
                  refine V.blk_r ?_
                  refine V.then_r ?_
                  refine V.ret1 hz336 rfl (s6_339) ?_
                  refine ⟨congrArg Ending.returned (congrArg Value.bool ?_), hF_305⟩
                  have hcq := byte_at s q (by omega)
                  have hn : ∀ g, (parse (ints p))[i]? = some g → g.kind ≠ 1 ∧ oneB g (bi s (q : Int)) fold = false := miss_out (by omega)
                  have hnm := hg.none hcq hn (by omega)
                  exact ((Bool.not_eq_true _).mp (fun h => hnm ((rmat_mat (by omega) (by omega)).1 h))).symm
            ·
              refine V.exit ?_
              refine V.then_e ?_
              refine V.then_e ?_
              refine V.blk_hit ?_
              refine V.then_n (hK163 _ _ ?_)
              refine V.seq (fun K346 hK347 => ?_)
              refine V.block ?_
              refine V.loop1 (fun (i2 : Nat) a_ w_ => Sz 108 a_ ∧ a_.eval (.tmp 7) = (.slice A29 ((parse (ints p)).length) c30) ∧ a_.eval (.tmp 12) = (.int .i64 (i2 : Int)) ∧ Fr [] w w_ ∧ SlR globR (fun b => b < w33.heap.size) w_ (.slice A29 ((parse (ints p)).length) c30) (parse (ints p)) ∧ (i2 ≤ (parse (ints p)).length) ∧ (Mat fold (parse (ints p)) (ints s) ↔ Mat fold ((parse (ints p)).drop i2) [])) (fun (i2 : Nat) => (parse (ints p)).length - i2) i ?_ ?_
              ·
                have hans := hg.last (by omega)
                refine ⟨hz184, ?_, ?_, hF_175, hps37_176, (by omega), hans⟩
                · exact (s7_187)
                · exact Eq.trans (s12_190) (V.int_eq (by omega))
              ·
                rintro i2 a348 w349 ⟨hz350, s7_351, s12_352, hF_353, hps37_354, hi2, hans2⟩
                have hfs355 := hF_353.size
                refine V.seq (fun K356 hK357 => ?_)
                refine V.seq (fun K358 hK359 => ?_)
                refine V.region (by kernel_rfl) ?_
                refine V.go (V.mv (v := (.int .i64 (i2 : Int))) (s12_352) ?_)
                refine V.go (V.mv (v := (.slice A29 ((parse (ints p)).length) c30)) (at_other rfl _ (s7_351)) ?_)
                refine V.go (V.pv [(91, .slice A29 ((parse (ints p)).length) c30)] ⟨(at_same (hz350.put _ _) rfl _), trivial⟩ (by kernel_rfl) (.int .i64 (((parse (ints p)).length : Nat) : Int)) (by kernel_rfl) ?_)
                refine V.go (V.pv [(90, .int .i64 (i2 : Int)), (92, .int .i64 (((parse (ints p)).length : Nat) : Int))] ⟨(at_other rfl _ (at_other rfl _ (at_same hz350 rfl _))), (at_same ((hz350.put _ _).put _ _) rfl _), trivial⟩ (by kernel_rfl) (.bool (decide ((i2 : Int) < (((parse (ints p)).length : Nat) : Int)))) (by kernel_rfl) ?_)
                refine V.go (V.mv (v := (.bool (decide ((i2 : Int) < (((parse (ints p)).length : Nat) : Int))))) (at_same (((hz350.put _ _).put _ _).put _ _) rfl _) ?_)
                by_cases hg360 : (i2 : Int) < (((parse (ints p)).length : Nat) : Int)
                ·
                  refine V.go_on 94 (by kernel_rfl) (((at_same ((((hz350.put _ _).put _ _).put _ _).put _ _) rfl _ : Act.eval _ _ = (.bool (decide ((i2 : Int) < (((parse (ints p)).length : Nat) : Int)))))).trans (dt hg360)) (V.mv (v := (.slice A29 ((parse (ints p)).length) c30)) (at_other rfl _ (at_other rfl _ (at_other rfl _ (at_other rfl _ (at_other rfl _ (s7_351)))))) ?_)
                  refine V.go_on 94 (by kernel_rfl) (((at_other rfl _ (at_same ((((hz350.put _ _).put _ _).put _ _).put _ _) rfl _) : Act.eval _ _ = (.bool (decide ((i2 : Int) < (((parse (ints p)).length : Nat) : Int)))))).trans (dt hg360)) (V.mv (v := (.int .i64 (i2 : Int))) (at_other rfl _ (at_other rfl _ (at_other rfl _ (at_other rfl _ (at_other rfl _ (at_other rfl _ (s12_352))))))) ?_)
                  obtain ⟨g361, o362, hA363, hA363l, hA363z⟩ := hps37_354.addr (by omega)
                  refine V.go_on 94 (by kernel_rfl) (((at_other rfl _ (at_other rfl _ (at_same ((((hz350.put _ _).put _ _).put _ _).put _ _) rfl _)) : Act.eval _ _ = (.bool (decide ((i2 : Int) < (((parse (ints p)).length : Nat) : Int)))))).trans (dt hg360)) (V.ixa g361 o362 ((parse (ints p)).length) c30 .i64 (i2 : Int) 4 ((at_other rfl _ (at_same (((((hz350.put _ _).put _ _).put _ _).put _ _).put _ _) rfl _)).trans (by rw [hA363])) (at_same ((((((hz350.put _ _).put _ _).put _ _).put _ _).put _ _).put _ _) rfl _) (by omega) (by omega) (by kernel_rfl) ?_)
                  refine V.go_on 94 (by kernel_rfl) (((at_other rfl _ (at_other rfl _ (at_other rfl _ (at_same ((((hz350.put _ _).put _ _).put _ _).put _ _) rfl _))) : Act.eval _ _ = (.bool (decide ((i2 : Int) < (((parse (ints p)).length : Nat) : Int)))))).trans (dt hg360)) (V.fa (at_same (((((((hz350.put _ _).put _ _).put _ _).put _ _).put _ _).put _ _).put _ _) rfl _) 0 (fun _ _ => by kernel_rfl) ?_)
                  obtain ⟨cs364, hok365, hE366⟩ := hps37_354.els hA363 (i2 : Int) (by omega) (by omega)
                  obtain ⟨A367, c368, rfl, hcap369, hS370⟩ := glob_open hok365
                  refine V.go_on 94 (by kernel_rfl) (((at_other rfl _ (at_other rfl _ (at_other rfl _ (at_other rfl _ (at_same ((((hz350.put _ _).put _ _).put _ _).put _ _) rfl _)))) : Act.eval _ _ = (.bool (decide ((i2 : Int) < (((parse (ints p)).length : Nat) : Int)))))).trans (dt hg360)) (V.ld ⟨g361, o362 + (i2 : Int).toNat * 4, none⟩ (.int .i64 ((at_ globR (parse (ints p)) (i2 : Int)).kind)) (at_same ((((((((hz350.put _ _).put _ _).put _ _).put _ _).put _ _).put _ _).put _ _).put _ _) rfl _) (by kernel_rfl) (hE366.at 0 rfl) ?_)
                  refine V.go_on 94 (by kernel_rfl) (((at_other rfl _ (at_other rfl _ (at_other rfl _ (at_other rfl _ (at_other rfl _ (at_same ((((hz350.put _ _).put _ _).put _ _).put _ _) rfl _))))) : Act.eval _ _ = (.bool (decide ((i2 : Int) < (((parse (ints p)).length : Nat) : Int)))))).trans (dt hg360)) (V.pvw [(99, .int .i64 ((at_ globR (parse (ints p)) (i2 : Int)).kind))] ⟨(at_same (((((((((hz350.put _ _).put _ _).put _ _).put _ _).put _ _).put _ _).put _ _).put _ _).put _ _) rfl _), trivial⟩ (by kernel_rfl) (.bool (((at_ globR (parse (ints p)) (i2 : Int)).kind) == 1)) (.bool (decide (((at_ globR (parse (ints p)) (i2 : Int)).kind) = 1))) (by kernel_rfl) V.t_eql ?_)
                  refine V.go (V.pk_t (((at_other rfl _ (at_other rfl _ (at_other rfl _ (at_other rfl _ (at_other rfl _ (at_other rfl _ (at_same ((((hz350.put _ _).put _ _).put _ _).put _ _) rfl _)))))) : Act.eval _ _ = (.bool (decide ((i2 : Int) < (((parse (ints p)).length : Nat) : Int)))))).trans (dt hg360)) (v := (.bool (decide (((at_ globR (parse (ints p)) (i2 : Int)).kind) = 1)))) (at_same ((((((((((hz350.put _ _).put _ _).put _ _).put _ _).put _ _).put _ _).put _ _).put _ _).put _ _).put _ _) rfl _) ?_)
                  refine V.nil ?_
                  refine V.then_n (hK359 _ _ ?_)
                  refine V.flushW ((((((((((((hz350.put _ _).put _ _).put _ _).put _ _).put _ _).put _ _).put _ _).put _ _).put _ _).put _ _).put _ _).put _ _) (fun a371 hz372 up373 => ?_)
                  have s7_374 : a371.eval (.tmp 7) = (.slice A29 ((parse (ints p)).length) c30) := up373 _ _ (at_other rfl _ (at_other rfl _ (at_other rfl _ (at_other rfl _ (at_other rfl _ (at_other rfl _ (at_other rfl _ (at_other rfl _ (at_other rfl _ (at_other rfl _ (at_other rfl _ (at_other rfl _ (s7_351)))))))))))))
                  have s12_375 : a371.eval (.tmp 12) = (.int .i64 (i2 : Int)) := up373 _ _ (at_other rfl _ (at_other rfl _ (at_other rfl _ (at_other rfl _ (at_other rfl _ (at_other rfl _ (at_other rfl _ (at_other rfl _ (at_other rfl _ (at_other rfl _ (at_other rfl _ (at_other rfl _ (s12_352)))))))))))))
                  have s101_376 : a371.eval (.tmp 101) = (.bool (decide (((at_ globR (parse (ints p)) (i2 : Int)).kind) = 1))) := up373 _ _ (at_same (((((((((((hz350.put _ _).put _ _).put _ _).put _ _).put _ _).put _ _).put _ _).put _ _).put _ _).put _ _).put _ _) rfl _)
                  clear up373
                  refine V.condP (p := ((at_ globR (parse (ints p)) (i2 : Int)).kind) = 1) (s101_376) (fun ht377 => ?_) (fun ht377 => ?_)
                  ·
                    refine V.skip ?_
                    refine V.then_n (hK357 _ _ ?_)
                    refine V.block ?_
                    refine V.region (by kernel_rfl) ?_
                    refine V.go (V.mv (v := (.int .i64 (i2 : Int))) (s12_375) ?_)
                    refine V.go (V.pvw [(102, .int .i64 (i2 : Int))] ⟨(at_same hz372 rfl _), trivial⟩ (by kernel_rfl) (.int .i64 (IntKind.i64.wrap ((i2 : Int) + 1))) (.int .i64 ((i2 : Int) + 1)) (by kernel_rfl) (V.w_i64 (by omega) (by omega)) ?_)
                    refine V.go (V.asg (v := (.int .i64 ((i2 : Int) + 1))) (at_same (hz372.put _ _) rfl _) ?_)
                    refine V.nil ?_
                    refine V.blk_n ?_
                    refine V.then_n ?_
                    refine ⟨i2 + 1, by omega, ?_⟩
                    refine ⟨(((hz372.put _ _).put _ _).put _ _), ?_, ?_, hF_353, hps37_354, (by omega), (hans2.trans (mat_end_any (at_some globR (i := (i2 : Int)) (by omega) (by omega)) (by assumption)))⟩
                    · exact (at_other rfl _ (at_other rfl _ (at_other rfl _ (s7_374))))
                    · exact Eq.trans (at_same ((hz372.put _ _).put _ _) rfl _) (V.int_eq (by omega))
                  ·
                    refine V.exit ?_
                    refine V.then_e ?_
                    refine V.then_e ?_
                    refine V.blk_hit ?_
                    refine V.then_n (hK347 _ _ ?_)
                    refine V.seq (fun K378 hK379 => ?_)
                    refine V.region (by kernel_rfl) ?_
                    refine V.go (V.mv (v := (.int .i64 (i2 : Int))) (s12_375) ?_)
                    refine V.go (V.mv (v := (.slice A29 ((parse (ints p)).length) c30)) (at_other rfl _ (s7_374)) ?_)
                    refine V.go (V.pv [(105, .slice A29 ((parse (ints p)).length) c30)] ⟨(at_same (hz372.put _ _) rfl _), trivial⟩ (by kernel_rfl) (.int .i64 (((parse (ints p)).length : Nat) : Int)) (by kernel_rfl) ?_)
                    refine V.go (V.pvw [(104, .int .i64 (i2 : Int)), (106, .int .i64 (((parse (ints p)).length : Nat) : Int))] ⟨(at_other rfl _ (at_other rfl _ (at_same hz372 rfl _))), (at_same ((hz372.put _ _).put _ _) rfl _), trivial⟩ (by kernel_rfl) (.bool ((i2 : Int) == (((parse (ints p)).length : Nat) : Int))) (.bool (decide ((i2 : Int) = (((parse (ints p)).length : Nat) : Int)))) (by kernel_rfl) V.t_eql ?_)
                    refine V.go (V.asg (v := (.bool (decide ((i2 : Int) = (((parse (ints p)).length : Nat) : Int))))) (at_same (((hz372.put _ _).put _ _).put _ _) rfl _) ?_)
                    refine V.nil ?_
                    refine V.then_n (hK379 _ _ ?_)
                    refine V.flushW (((((hz372.put _ _).put _ _).put _ _).put _ _).put _ _) (fun a380 hz381 up382 => ?_)
                    have s6_383 : a380.eval (.tmp 6) = (.bool (decide ((i2 : Int) = (((parse (ints p)).length : Nat) : Int)))) := up382 _ _ (at_same ((((hz372.put _ _).put _ _).put _ _).put _ _) rfl _)
                    clear up382
                    refine V.ret ?_
                    refine V.ret1 hz381 rfl (s6_383) ?_
                    refine ⟨congrArg Ending.returned (congrArg Value.bool ?_), hF_353⟩
                    rw [Bool.eq_iff_iff, rmat_mat (by omega) (by omega), hans2, decide_eq_true_iff]
                    exact ⟨fun h => by omega, fun h => absurd h (mat_end_other (at_some globR (i := (i2 : Int)) (by omega) (by omega)) ht377)⟩
                ·
                  refine V.go_off 94 (by kernel_rfl) (((at_same ((((hz350.put _ _).put _ _).put _ _).put _ _) rfl _ : Act.eval _ _ = (.bool (decide ((i2 : Int) < (((parse (ints p)).length : Nat) : Int)))))).trans (df hg360)) (by kernel_rfl) ?_
                  refine V.go_off 94 (by kernel_rfl) (((at_other rfl _ (at_same ((((hz350.put _ _).put _ _).put _ _).put _ _) rfl _) : Act.eval _ _ = (.bool (decide ((i2 : Int) < (((parse (ints p)).length : Nat) : Int)))))).trans (df hg360)) (by kernel_rfl) ?_
                  refine V.go_off 94 (by kernel_rfl) (((at_other rfl _ (at_other rfl _ (at_same ((((hz350.put _ _).put _ _).put _ _).put _ _) rfl _)) : Act.eval _ _ = (.bool (decide ((i2 : Int) < (((parse (ints p)).length : Nat) : Int)))))).trans (df hg360)) (by kernel_rfl) ?_
                  refine V.go_off 94 (by kernel_rfl) (((at_other rfl _ (at_other rfl _ (at_other rfl _ (at_same ((((hz350.put _ _).put _ _).put _ _).put _ _) rfl _))) : Act.eval _ _ = (.bool (decide ((i2 : Int) < (((parse (ints p)).length : Nat) : Int)))))).trans (df hg360)) (by kernel_rfl) ?_
                  refine V.go_off 94 (by kernel_rfl) (((at_other rfl _ (at_other rfl _ (at_other rfl _ (at_other rfl _ (at_same ((((hz350.put _ _).put _ _).put _ _).put _ _) rfl _)))) : Act.eval _ _ = (.bool (decide ((i2 : Int) < (((parse (ints p)).length : Nat) : Int)))))).trans (df hg360)) (by kernel_rfl) ?_
                  refine V.go_off 94 (by kernel_rfl) (((at_other rfl _ (at_other rfl _ (at_other rfl _ (at_other rfl _ (at_other rfl _ (at_same ((((hz350.put _ _).put _ _).put _ _).put _ _) rfl _))))) : Act.eval _ _ = (.bool (decide ((i2 : Int) < (((parse (ints p)).length : Nat) : Int)))))).trans (df hg360)) (by kernel_rfl) ?_
                  refine V.go (V.pk_f (((at_other rfl _ (at_other rfl _ (at_other rfl _ (at_other rfl _ (at_other rfl _ (at_other rfl _ (at_same ((((hz350.put _ _).put _ _).put _ _).put _ _) rfl _)))))) : Act.eval _ _ = (.bool (decide ((i2 : Int) < (((parse (ints p)).length : Nat) : Int)))))).trans (df hg360)) (v := (.bool false)) evc ?_)
                  refine V.nil ?_
                  refine V.then_n (hK359 _ _ ?_)
                  refine V.flushW ((((((((((((hz350.put _ _).put _ _).put _ _).put _ _).put _ _).put _ _).put _ _).put _ _).put _ _).put _ _).put _ _).put _ _) (fun a384 hz385 up386 => ?_)
                  have s7_387 : a384.eval (.tmp 7) = (.slice A29 ((parse (ints p)).length) c30) := up386 _ _ (at_other rfl _ (at_other rfl _ (at_other rfl _ (at_other rfl _ (at_other rfl _ (at_other rfl _ (at_other rfl _ (at_other rfl _ (at_other rfl _ (at_other rfl _ (at_other rfl _ (at_other rfl _ (s7_351)))))))))))))
                  have s12_388 : a384.eval (.tmp 12) = (.int .i64 (i2 : Int)) := up386 _ _ (at_other rfl _ (at_other rfl _ (at_other rfl _ (at_other rfl _ (at_other rfl _ (at_other rfl _ (at_other rfl _ (at_other rfl _ (at_other rfl _ (at_other rfl _ (at_other rfl _ (at_other rfl _ (s12_352)))))))))))))
                  have s101_389 : a384.eval (.tmp 101) = (.bool false) := up386 _ _ (at_same (((((((((((hz350.put _ _).put _ _).put _ _).put _ _).put _ _).put _ _).put _ _).put _ _).put _ _).put _ _).put _ _) rfl _)
                  clear up386
                  refine V.cond_f (s101_389) ?_
                  refine V.exit ?_
                  refine V.then_e ?_
                  refine V.then_e ?_
                  refine V.blk_hit ?_
                  refine V.then_n (hK347 _ _ ?_)
                  refine V.seq (fun K390 hK391 => ?_)
                  refine V.region (by kernel_rfl) ?_
                  refine V.go (V.mv (v := (.int .i64 (i2 : Int))) (s12_388) ?_)
                  refine V.go (V.mv (v := (.slice A29 ((parse (ints p)).length) c30)) (at_other rfl _ (s7_387)) ?_)
                  refine V.go (V.pv [(105, .slice A29 ((parse (ints p)).length) c30)] ⟨(at_same (hz385.put _ _) rfl _), trivial⟩ (by kernel_rfl) (.int .i64 (((parse (ints p)).length : Nat) : Int)) (by kernel_rfl) ?_)
                  refine V.go (V.pvw [(104, .int .i64 (i2 : Int)), (106, .int .i64 (((parse (ints p)).length : Nat) : Int))] ⟨(at_other rfl _ (at_other rfl _ (at_same hz385 rfl _))), (at_same ((hz385.put _ _).put _ _) rfl _), trivial⟩ (by kernel_rfl) (.bool ((i2 : Int) == (((parse (ints p)).length : Nat) : Int))) (.bool (decide ((i2 : Int) = (((parse (ints p)).length : Nat) : Int)))) (by kernel_rfl) V.t_eql ?_)
                  refine V.go (V.asg (v := (.bool (decide ((i2 : Int) = (((parse (ints p)).length : Nat) : Int))))) (at_same (((hz385.put _ _).put _ _).put _ _) rfl _) ?_)
                  refine V.nil ?_
                  refine V.then_n (hK391 _ _ ?_)
                  refine V.flushW (((((hz385.put _ _).put _ _).put _ _).put _ _).put _ _) (fun a392 hz393 up394 => ?_)
                  have s6_395 : a392.eval (.tmp 6) = (.bool (decide ((i2 : Int) = (((parse (ints p)).length : Nat) : Int)))) := up394 _ _ (at_same ((((hz385.put _ _).put _ _).put _ _).put _ _) rfl _)
                  clear up394
                  refine V.ret ?_
                  refine V.ret1 hz393 rfl (s6_395) ?_
                  refine ⟨congrArg Ending.returned (congrArg Value.bool ?_), hF_353⟩
                  rw [Bool.eq_iff_iff, rmat_mat (by omega) (by omega), hans2, decide_eq_true_iff]
                  rw [List.drop_eq_nil_of_le (by omega)]; exact ⟨fun _ => .nil, fun _ => by omega⟩
end Go.Proofs.Ytmlohijidjbbjaa
