/- Joined texts: Kg, Kh, Ko, Kp, Kq, Kr, Ks, Kt, Ku, Lf, Tk, Bks, Word, Tab, BksW, Del, Lg, Lh. -/
import Derived.Test.YtdebkbfnngkdlaaGreatDoorProg
import Derived.Deep.DeepAppendRoom
import Derived.Test.YtdebkbfnngkdlaaGreatDoorIp4
section
namespace Go.Proofs.YtdebkbfnngkdlaaGreatDoor
open Go.V Go.Base
open Go.RowKit (Below)
attribute [local irreducible] Act.put Act.eval
set_option linter.unusedVariables false
set_option linter.unusedSimpArgs false
set_option maxHeartbeats 4000000
set_option maxRecDepth 20000
/-! ### Lines -/
theorem tail_le {c : UInt8} {B : Nat} : ∀ {xs : List (List UInt8)}, (∀ x ∈ xs, x.length ≤ B) → (Lib.joinTail [c] xs).length ≤ xs.length * (B + 1)
  | [], _ => Nat.zero_le _
  | x :: xs, h => by
    have h1 := tail_le (c := c) (xs := xs) fun y hy => h y (List.mem_cons_of_mem _ hy)
    have h2 := h x (List.mem_cons_self ..)
    unfold Lib.joinTail at h1 ⊢
    rw [List.map_cons, List.flatten_cons, List.length_append, List.length_append, List.length_singleton, List.length_cons, Nat.add_mul]
    omega
theorem join_le {c : UInt8} {B : Nat} {xs : List (List UInt8)} (h : ∀ x ∈ xs, x.length ≤ B) : (Lib.join xs [c]).length ≤ xs.length * (B + 1) := by
  cases xs with
  | nil => exact Nat.zero_le _
  | cons x xs =>
    have h1 := tail_le (c := c) (xs := xs) fun y hy => h y (List.mem_cons_of_mem _ hy)
    have h2 := h x (List.mem_cons_self ..)
    rw [Lib.join_cons, List.length_append, List.length_cons, Nat.add_mul]; omega
def joinS (xs : List ByteArray) (c : UInt8) : ByteArray := ⟨(Lib.join (xs.map (·.data.toList)) [c]).toArray⟩
theorem join_le2 {c : UInt8} {B : Nat} {xs : List ByteArray} (h : ∀ x ∈ xs, x.size ≤ B) : (Lib.join (xs.map (·.data.toList)) [c]).length ≤ xs.length * (B + 1) := by
  have h1 := join_le (c := c) (B := B) (xs := xs.map (·.data.toList)) fun y hy => by
    obtain ⟨x, hx, rfl⟩ := List.mem_map.1 hy
    exact Nat.le_trans (Nat.le_of_eq Array.length_toList) (h x hx)
  rwa [List.length_map] at h1
theorem jn_any (w : World) (base c : Nat) (A : Option Addr) (xs : List ByteArray) (hO : OwR Rp.str NoZ w base 9 (.slice A xs.length c) xs) (hN : xs.length ≤ 65540) (hB : ∀ x ∈ xs, x.size ≤ 262200) :
    Calls Tryz.prog 82 #[.slice A xs.length c, .string ⟨#[32]⟩] w fun e w' => e = .returned (.string (joinS xs 32)) ∧ Fr [] w w' := by
  have hl := join_le2 (c := 32) hB
  have hm : xs.length * (262200 + 1) ≤ 65540 * (262200 + 1) := Nat.mul_le_mul_right _ hN
  have hS := hO.is
  rcases Nat.eq_zero_or_pos xs.length with h0 | h0
  · obtain rfl : xs = [] := List.eq_nil_of_length_eq_zero h0
    exact (Tryz.strings_Join_none A c _ w).mono fun e w' ⟨h1, h2⟩ => ⟨h1, h2 ▸ Fr.refl _ _⟩
  · obtain ⟨g, o, rfl, hg, -⟩ := hS.addr h0
    refine (Tryz.strings_Join g o c xs ⟨#[32]⟩ w (fun j x hj => ?_) hg (by omega) hO.cap (by show (Lib.join _ [32]).length ≤ _; omega)).mono fun e w' ⟨h1, h2⟩ => ⟨h1, Fr.of_below h2 _⟩
    obtain ⟨A', c', e, _, _, h3⟩ := hS
    obtain ⟨g', o', cs, hA, _, _, hok, hc⟩ := h3 j x hj
    injection e with e1 _ _
    rw [← e1] at hA
    injection hA with hA
    obtain ⟨rfl, rfl⟩ : g = g' ∧ o = o' := by injection hA with q1 q2 _; exact ⟨q1, q2⟩
    have hcs : cs = [.string x] := hok
    subst hcs
    have := hc 0 _ rfl
    rwa [show Rp.str.sz = 1 from rfl, Nat.mul_one, Nat.add_zero] at this
def atS (t : Int) : ByteArray := if t = -1 then ⟨#[45]⟩ else itoaS t
def lnD (key : ByteArray) (k : Int) (s : ByteArray) (l : List ByteArray) (z : List (ByteArray × Int)) (h : List (ByteArray × ByteArray)) (t : Int) : ByteArray := joinS ([nmD k, hexS key, atS t] ++ ptD k s l z h) 32
theorem nmD_len (k : Int) : (nmD k).size ≤ 6 := by unfold nmD; split <;> (try split) <;> (try split) <;> (try split) <;> decide
theorem pz_len {x : ByteArray × Int} (h : x.1.size ≤ 65536 ∧ i64 x.2) : (pzS x).size ≤ 262200 := by
  have h1 := hexS_len x.1
  have h2 := itoaS_len h.2
  have h3 : (⟨#[58]⟩ : ByteArray).size = 1 := rfl
  unfold pzS; rw [ByteArray.size_append, ByteArray.size_append]; omega
theorem ph_len {x : ByteArray × ByteArray} (h : x.1.size ≤ 65536 ∧ x.2.size ≤ 65536) : (phS x).size ≤ 262200 := by
  have h1 := hexS_len x.1
  have h2 := hexS_len x.2
  have h3 : (⟨#[61]⟩ : ByteArray).size = 1 := rfl
  unfold phS; rw [ByteArray.size_append, ByteArray.size_append]; omega
theorem pt_len {k : Int} {s : ByteArray} {l : List ByteArray} {z : List (ByteArray × Int)} {h : List (ByteArray × ByteArray)} (hs : ShV s l z h) : (ptD k s l z h).length ≤ 65536 ∧ ∀ x ∈ ptD k s l z h, x.size ≤ 262200 := by
  have hx : ∀ y : ByteArray, y.size ≤ 65536 → (hexS y).size ≤ 262200 := fun y hy => by have := hexS_len y; omega
  unfold ptD
  split
  · exact ⟨by simp, fun x hm => by rw [List.mem_singleton.1 hm]; exact hx _ hs.s⟩
  split
  · exact ⟨by rw [List.length_map]; exact hs.zl, fun x hm => by obtain ⟨y, hy, rfl⟩ := List.mem_map.1 hm; exact pz_len (hs.z y hy)⟩
  split
  · exact ⟨by rw [List.length_map]; exact hs.hl, fun x hm => by obtain ⟨y, hy, rfl⟩ := List.mem_map.1 hm; exact ph_len (hs.h y hy)⟩
  · exact ⟨by rw [List.length_map]; exact hs.ll, fun x hm => by obtain ⟨y, hy, rfl⟩ := List.mem_map.1 hm; exact hx _ (hs.l y hy)⟩
theorem ln_parts {key : ByteArray} {k : Int} {s : ByteArray} {l : List ByteArray} {z : List (ByteArray × Int)} {h : List (ByteArray × ByteArray)} {a : ByteArray} (hk : key.size ≤ 65536) (ha : a.size ≤ 21) (hs : ShV s l z h) :
    ([nmD k, hexS key, a] ++ ptD k s l z h).length ≤ 65540 ∧ ∀ x ∈ [nmD k, hexS key, a] ++ ptD k s l z h, x.size ≤ 262200 := by
  obtain ⟨h1, h2⟩ := pt_len (k := k) hs
  have h3 := nmD_len k
  have h4 := hexS_len key
  refine ⟨by rw [List.length_append]; simp only [List.length_cons, List.length_nil]; omega, fun x hm => ?_⟩
  rcases List.mem_append.1 hm with hm | hm
  · simp only [List.mem_cons, List.not_mem_nil, or_false] at hm
    rcases hm with rfl | rfl | rfl <;> omega
  · exact h2 x hm
theorem lnD_len {key : ByteArray} {k : Int} {s : ByteArray} {l : List ByteArray} {z : List (ByteArray × Int)} {h : List (ByteArray × ByteArray)} {t : Int} (hk : key.size ≤ 65536) (ht : i64 t) (hs : ShV s l z h) : (lnD key k s l z h t).size ≤ 17184718080 := by
  have ha : (atS t).size ≤ 21 := by unfold atS; split; exact Nat.le_add_left ..; exact itoaS_len ht
  obtain ⟨h1, h2⟩ := ln_parts (k := k) (a := atS t) hk ha hs
  have h3 := join_le2 (c := 32) h2
  have hm : ([nmD k, hexS key, atS t] ++ ptD k s l z h).length * (262200 + 1) ≤ 65540 * (262200 + 1) := Nat.mul_le_mul_right _ h1
  have h4 : (lnD key k s l z h t).size = (Lib.join (([nmD k, hexS key, atS t] ++ ptD k s l z h).map (·.data.toList)) [32]).length := by unfold lnD joinS; exact List.size_toArray
  omega
theorem line_any (w : World) (key : ByteArray) (k : Int) (s : ByteArray) (Al : Option Addr) (cl : Nat) (l : List ByteArray) (hSl : SlR Rp.str (fun k => k < w.heap.size) w (.slice Al l.length cl) l) (Az : Option Addr) (cz : Nat) (z : List (ByteArray × Int)) (hSz : SlR scR (fun k => k < w.heap.size) w (.slice Az z.length cz) z) (Ah : Option Addr) (ch : Nat) (h : List (ByteArray × ByteArray)) (hSh : SlR fdR (fun k => k < w.heap.size) w (.slice Ah h.length ch) h) (at' : Int) (hk : key.size ≤ 65536) (ht : i64 at') (hsh : ShV s l z h) (hV : Vs w) : Calls Tryz.prog 36 #[.agg #[.string key, .int .i64 k, .string s, .slice Al l.length cl, .slice Az z.length cz, .slice Ah h.length ch, .int .i64 at']] w (fun e w' => e = .returned (.string (lnD key k s l z h at')) ∧ Fr [] w w') := by
 have hF := Fr.refl [] w
 have hlit1 : (⟨#[45]⟩ : ByteArray).size = 1 := rfl
 have hptl := (pt_len (k := k) hsh).1
 refine V.en 27 Tryz.func36 fun a h1 => ?_
 refine V.sg fun K2 k3 => ?_
 refine V.go (V.mk [(0, .agg #[.string key, .int .i64 k, .string s, .slice Al l.length cl, .slice Az z.length cz, .slice Ah h.length ch, .int .i64 at'])] ⟨h1.e, trivial⟩ (by kernel_rfl) [.string key, .int .i64 k, .string s, .slice Al l.length cl, .slice Az z.length cz, .slice Ah h.length ch, .int .i64 at'] 55 (fun b => .pointer (some ⟨b, 0, none⟩)) (by kernel_rfl) ?_)
 intro w5 b4 heb4 hB6 hF7 hsb4
 have hF_8 := hF.new hF7
 have hSl_9 := hSl.fr0 hF7
 have hSz_10 := hSz.fr0 hF7
 have hSh_11 := hSh.fr0 hF7
 refine V.pt h1 fun a h12 => ?_
 refine V.re h12 [] 2 2 [] fun a h13 => k3 _ _ ?_
 refine V.sr h13 [] 1 0 [(3, .string ⟨#[45]⟩)] fun a h16 => ?_
 refine V.seq fun K17 k18 => ?_
 refine V.sr h16 [(1, .b hB6 6), (0, .ne at' (-1))] 6 7 [(8, .bool (decide (¬ at' = (-1))))] fun a h21 => ?_
 refine V.cp h21 (¬ at' = (-1)) (fun ht22 => ?_) (fun ht22 => ?_)
 ·
  refine V.rg ?_
  refine V.run h21 [(1, .b hB6 6)] 2 9 9 [(10, .int .i64 at')] fun a h23 => ?_
  have hil25 := itoaS_len (n := at') ht
  refine V.cl h23 (Go.Proofs.enters_of Tryz.func80 (by kernel_rfl) rfl) (ntext_any w5 at' ht (hV.fr hF_8)) ?_
  rintro _ w26 ⟨rfl, hF24⟩
  refine ⟨_, rfl, fun a h27 => ?_⟩
  have hsw26 := hF24.size
  have hF_28 := hF_8.new hF24
  have hSl_29 := hSl_9.fr0 hF24
  have hSz_30 := hSz_10.fr0 hF24
  have hSh_31 := hSh_11.fr0 hF24
  have hB6_32 := hB6.fr0 hF24
  refine V.re h27 [] 1 0 [(3, .string (itoaS at'))] fun a h33 => k18 _ _ ?_
  refine V.sg fun K34 k35 => ?_
  refine V.run h33 [(1, .bs hB6_32 1 [.int .i64 k, .string s, .slice Al l.length cl, .slice Az z.length cz, .slice Ah h.length ch])] 2 13 13 [(14, .agg #[.int .i64 k, .string s, .slice Al l.length cl, .slice Az z.length cz, .slice Ah h.length ch])] fun a h36 => ?_
  refine V.cl h36 (Go.Proofs.enters_of Tryz.func81 (by kernel_rfl) rfl) (words_any w26 k s Al cl l hSl_29.old Az cz z hSz_30.old Ah ch h hSh_31.old hsh (hV.fr hF_28)) ?_
  rintro _ w42 ⟨A37, c38, rfl, hO39, hF40⟩
  refine ⟨_, rfl, fun a h43 => ?_⟩
  have hsw42 := hF40.size
  have hF_44 := hF_28.new hF40
  have hB6_48 := hB6_32.fr0 hF40
  have hS41 := hO39.read (Z' := fun k => k < w42.heap.size) (fun _ _ h => h.elim) (fun _ _ h => h)
  refine V.re h43 [] 12 17 [(4, .string (nmD k)), (5, .slice A37 ((ptD k s l z h).length) c38)] fun a h49 => k35 _ _ ?_
  refine V.sg fun K50 k51 => ?_
  refine V.run h49 [(2, .b hB6_48 0)] 3 19 19 [(18, .string (nmD k)), (20, .string key)] fun a h52 => ?_
  have hxl54 := hexS_len key
  refine V.cl h52 (Go.Proofs.enters_of Tryz.func83 (by kernel_rfl) rfl) (hex_any w42 key (by omega)) ?_
  rintro _ w55 ⟨rfl, hF53⟩
  refine ⟨_, rfl, fun a h56 => ?_⟩
  have hsw55 := hF53.size
  have hF_57 := hF_44.new hF53
  have hS41_62 := hS41.fr0 hF53
  refine V.run h56 [] 1 1 0 [(22, .string (itoaS at'))] fun a h63 => ?_
  refine V.go (V.mk [(18, .string (nmD k)), (21, .string (hexS key)), (22, .string (itoaS at'))] ⟨h63.e, h63.e, h63.e, trivial⟩ (by kernel_rfl) [.string (nmD k), .string (hexS key), .string (itoaS at')] 9 (fun b => .slice (some ⟨b, 0, none⟩) 3 3) (by kernel_rfl) ?_)
  intro w65 b64 heb64 hB66 hF67 hsb64
  have hF_68 := hF_57.new hF67
  have hS41_73 := hS41_62.fr0 hF67
  refine V.pt h63 fun a h74 => ?_
  refine V.run h74 [] 1 1 0 [(24, .slice A37 ((ptD k s l z h).length) c38)] fun a h76 => ?_
  have hO75 := OwR.mkS (base := b64) (l := [nmD k, hexS key, itoaS at']) hB66 rfl (Nat.le_refl _) (show 3 ≤ maxLen from by decide) (Nat.le_refl _) rfl
  refine V.go (V.appS (R := Rp.str) (h76.e (v := (.slice (some ⟨b64, 0, none⟩) 3 3))) (h76.e (v := (.slice A37 ((ptD k s l z h).length) c38))) (by kernel_rfl) info9 (by kernel_rfl) (by decide) hO75 hS41_73 (fun _ _ h => h) (by (try simp only [List.length_cons, List.length_nil]); omega) (by decide) (by omega) ?_)
  intro A77 c78 w79 hO80 hF81
  have hsw79 := hF81.size
  have hF_82 := hF_68.own hF81 (own_ge hO75 (by omega))
  refine V.pt h76 fun a h88 => ?_
  have hjl : (([nmD k, hexS key, itoaS at']) ++ (ptD k s l z h)).length = ([nmD k, hexS key, itoaS at']).length + ((ptD k s l z h)).length := List.length_append
  rw [← hjl] at hO80
  refine V.cl (av := #[.slice A77 (([nmD k, hexS key, itoaS at']).length + ((ptD k s l z h)).length) c78, .string ⟨#[32]⟩]) h88 (Go.Proofs.enters_of Tryz.func82 (by kernel_rfl) rfl) (by rw [← hjl]; exact jn_any w79 _ c78 A77 (([nmD k, hexS key, itoaS at']) ++ (ptD k s l z h)) hO80 (ln_parts hk (by first | omega | exact itoaS_len ht) hsh).1 (ln_parts hk (by first | omega | exact itoaS_len ht) hsh).2) ?_
  rintro _ w90 ⟨rfl, hF89⟩
  refine ⟨_, rfl, fun a h91 => ?_⟩
  have hsw90 := hF89.size
  have hF_92 := hF_82.new hF89
  refine V.re h91 [] 1 0 [(2, .string (joinS (([nmD k, hexS key, itoaS at']) ++ (ptD k s l z h)) 32))] fun a h98 => k51 _ _ ?_
  refine V.ret ?_
  refine V.r1 h98 (.string (joinS (([nmD k, hexS key, itoaS at']) ++ (ptD k s l z h)) 32)) ?_
  exact ⟨by unfold lnD atS; rw [if_neg (by assumption)]; try rfl, hF_92⟩
 ·
  refine V.skip ?_
  refine V.then_n (k18 _ _ ?_)
  refine V.sg fun K99 k100 => ?_
  refine V.run h21 [(1, .bs hB6 1 [.int .i64 k, .string s, .slice Al l.length cl, .slice Az z.length cz, .slice Ah h.length ch])] 2 13 13 [(14, .agg #[.int .i64 k, .string s, .slice Al l.length cl, .slice Az z.length cz, .slice Ah h.length ch])] fun a h101 => ?_
  refine V.cl h101 (Go.Proofs.enters_of Tryz.func81 (by kernel_rfl) rfl) (words_any w5 k s Al cl l hSl_9.old Az cz z hSz_10.old Ah ch h hSh_11.old hsh (hV.fr hF_8)) ?_
  rintro _ w107 ⟨A102, c103, rfl, hO104, hF105⟩
  refine ⟨_, rfl, fun a h108 => ?_⟩
  have hsw107 := hF105.size
  have hF_109 := hF_8.new hF105
  have hB6_113 := hB6.fr0 hF105
  have hS106 := hO104.read (Z' := fun k => k < w107.heap.size) (fun _ _ h => h.elim) (fun _ _ h => h)
  refine V.re h108 [] 12 17 [(4, .string (nmD k)), (5, .slice A102 ((ptD k s l z h).length) c103)] fun a h114 => k100 _ _ ?_
  refine V.sg fun K115 k116 => ?_
  refine V.run h114 [(2, .b hB6_113 0)] 3 19 19 [(18, .string (nmD k)), (20, .string key)] fun a h117 => ?_
  have hxl119 := hexS_len key
  refine V.cl h117 (Go.Proofs.enters_of Tryz.func83 (by kernel_rfl) rfl) (hex_any w107 key (by omega)) ?_
  rintro _ w120 ⟨rfl, hF118⟩
  refine ⟨_, rfl, fun a h121 => ?_⟩
  have hsw120 := hF118.size
  have hF_122 := hF_109.new hF118
  have hS106_127 := hS106.fr0 hF118
  refine V.run h121 [] 1 1 0 [(22, .string ⟨#[45]⟩)] fun a h128 => ?_
  refine V.go (V.mk [(18, .string (nmD k)), (21, .string (hexS key)), (22, .string ⟨#[45]⟩)] ⟨h128.e, h128.e, h128.e, trivial⟩ (by kernel_rfl) [.string (nmD k), .string (hexS key), .string ⟨#[45]⟩] 9 (fun b => .slice (some ⟨b, 0, none⟩) 3 3) (by kernel_rfl) ?_)
  intro w130 b129 heb129 hB131 hF132 hsb129
  have hF_133 := hF_122.new hF132
  have hS106_138 := hS106_127.fr0 hF132
  refine V.pt h128 fun a h139 => ?_
  refine V.run h139 [] 1 1 0 [(24, .slice A102 ((ptD k s l z h).length) c103)] fun a h141 => ?_
  have hO140 := OwR.mkS (base := b129) (l := [nmD k, hexS key, ⟨#[45]⟩]) hB131 rfl (Nat.le_refl _) (show 3 ≤ maxLen from by decide) (Nat.le_refl _) rfl
  refine V.go (V.appS (R := Rp.str) (h141.e (v := (.slice (some ⟨b129, 0, none⟩) 3 3))) (h141.e (v := (.slice A102 ((ptD k s l z h).length) c103))) (by kernel_rfl) info9 (by kernel_rfl) (by decide) hO140 hS106_138 (fun _ _ h => h) (by (try simp only [List.length_cons, List.length_nil]); omega) (by decide) (by omega) ?_)
  intro A142 c143 w144 hO145 hF146
  have hsw144 := hF146.size
  have hF_147 := hF_133.own hF146 (own_ge hO140 (by omega))
  refine V.pt h141 fun a h153 => ?_
  have hjl : (([nmD k, hexS key, ⟨#[45]⟩]) ++ (ptD k s l z h)).length = ([nmD k, hexS key, ⟨#[45]⟩]).length + ((ptD k s l z h)).length := List.length_append
  rw [← hjl] at hO145
  refine V.cl (av := #[.slice A142 (([nmD k, hexS key, ⟨#[45]⟩]).length + ((ptD k s l z h)).length) c143, .string ⟨#[32]⟩]) h153 (Go.Proofs.enters_of Tryz.func82 (by kernel_rfl) rfl) (by rw [← hjl]; exact jn_any w144 _ c143 A142 (([nmD k, hexS key, ⟨#[45]⟩]) ++ (ptD k s l z h)) hO145 (ln_parts hk (by first | omega | exact itoaS_len ht) hsh).1 (ln_parts hk (by first | omega | exact itoaS_len ht) hsh).2) ?_
  rintro _ w155 ⟨rfl, hF154⟩
  refine ⟨_, rfl, fun a h156 => ?_⟩
  have hsw155 := hF154.size
  have hF_157 := hF_147.new hF154
  refine V.re h156 [] 1 0 [(2, .string (joinS (([nmD k, hexS key, ⟨#[45]⟩]) ++ (ptD k s l z h)) 32))] fun a h163 => k116 _ _ ?_
  refine V.ret ?_
  refine V.r1 h163 (.string (joinS (([nmD k, hexS key, ⟨#[45]⟩]) ++ (ptD k s l z h)) 32)) ?_
  exact ⟨by unfold lnD atS; rw [if_pos (by omega)]; try rfl, hF_157⟩
/-! ### The text of a row -/
theorem bl_any (w : World) (b n : Nat) (l : List UInt8) (h : BldI w b n l) : Calls Tryz.prog 38 #[.pointer (some ⟨b, 0, none⟩)] w fun e w' => e = .returned (.int .i64 ((l.length : Nat) : Int)) ∧ w = w' :=
  (Tryz.Builder_Len b b _ w h.is).mono fun e w' ⟨h1, h2⟩ => ⟨by rw [h1, Lib.byteCells_length], h2.symm⟩
theorem btl_len (s : ByteArray) : s.data.toList.length = s.size := Array.length_toList
def lnE (e : EnD) : List UInt8 := (lnD e.key e.k e.s e.l e.z e.h e.till).data.toList ++ [10]
def txB (l : List EnD) : List UInt8 := (l.map lnE).flatten
theorem txB_next {l : List EnD} {i : Nat} (h : i < l.length) : txB (l.take (i + 1)) = txB (l.take i) ++ (lnD (at_ enR l (i : Int)).key (at_ enR l (i : Int)).k (at_ enR l (i : Int)).s (at_ enR l (i : Int)).l (at_ enR l (i : Int)).z (at_ enR l (i : Int)).h (at_ enR l (i : Int)).till).data.toList ++ [10] := by
  unfold txB; rw [map_next lnE enR h, List.flatten_append, List.flatten_singleton, List.append_assoc]; rfl
theorem txB_le (l : List EnD) (i : Nat) : (txB (l.take i)).length ≤ (txB l).length := by
  have h : txB l = txB (l.take i) ++ txB (l.drop i) := by unfold txB; rw [← List.flatten_append, ← List.map_append, List.take_append_drop]
  rw [h, List.length_append]; omega
noncomputable def txN (l : List EnD) : Int := if imgN l = 0 then (if (txB l).length > 67108864 then 2 else 0) else imgN l
noncomputable def txS (l : List EnD) : ByteArray := if txN l = 0 then ⟨(txB l).toArray⟩ else ⟨#[]⟩
theorem tx_no {l : List EnD} (h : ¬ imgN l = 0) : txN l = imgN l ∧ txS l = ⟨#[]⟩ := by
  have h1 : txN l = imgN l := if_neg h
  exact ⟨h1, by unfold txS; rw [h1, if_neg h]⟩
theorem tx_long {l : List EnD} (h : imgN l = 0) (i : Nat) (hl : (txB (l.take i)).length > 67108864) : txN l = 2 ∧ txS l = ⟨#[]⟩ := by
  have h0 := txB_le l i
  have h1 : txN l = 2 := by unfold txN; rw [if_pos h, if_pos (by omega)]
  exact ⟨h1, by unfold txS; rw [h1]; rfl⟩
theorem tx_yes {l : List EnD} (h : imgN l = 0) (hl : ¬ (txB l).length > 67108864) : txN l = 0 ∧ txS l = ⟨(txB l).toArray⟩ := by
  have h1 : txN l = 0 := by unfold txN; rw [if_pos h, if_neg hl]
  exact ⟨h1, by unfold txS; rw [h1]; rfl⟩
theorem mem_at {α : Type} (R : Rp α) {l : List α} {x : α} (h : x ∈ l) : ∃ i, i < l.length ∧ at_ R l ((i : Nat) : Int) = x := by
  obtain ⟨i, hi, e⟩ := List.mem_iff_getElem.1 h
  exact ⟨i, hi, by rw [at_el R hi]; exact e⟩
theorem shV_of {k : Int} {s : ByteArray} {l : List ByteArray} {z : List (ByteArray × Int)} {h : List (ByteArray × ByteArray)} (hv : okV k s l z h) (hi : ∀ x ∈ z, i64 x.2) : ShV s l z h := by
  have e0 : (⟨#[]⟩ : ByteArray).size ≤ 65536 := Nat.zero_le _
  have nl : ∀ {α : Type} {x : α} {q : List α} {p : Prop}, q.length = 0 → x ∈ q → p := fun h0 hx => by rw [List.eq_nil_of_length_eq_zero h0] at hx; cases hx
  have gl : ∀ {r : Bool}, AllG (gT l r) l.length → ∀ x ∈ l, x.size ≤ 65536 := fun hg x hx => by obtain ⟨i, hi, rfl⟩ := mem_at Rp.str hx; exact (hg i hi).1
  unfold okV at hv
  split at hv
  · obtain ⟨h1, h2, h3, h4⟩ := hv
    exact ⟨h1, by omega, by omega, by omega, fun x hx => nl h2 hx, fun x hx => nl h3 hx, fun x hx => nl h4 hx⟩
  split at hv
  · obtain ⟨rfl, h2, h3, h4, h5⟩ := hv
    exact ⟨e0, by omega, by omega, by omega, gl h5, fun x hx => nl h2 hx, fun x hx => nl h3 hx⟩
  split at hv
  · obtain ⟨rfl, h2, h3, h4, h5⟩ := hv
    exact ⟨e0, by omega, by omega, by omega, gl h5, fun x hx => nl h2 hx, fun x hx => nl h3 hx⟩
  split at hv
  · obtain ⟨rfl, h2, h3, h4, h5, _⟩ := hv
    exact ⟨e0, by omega, by omega, by omega, fun x hx => nl h2 hx, fun x hx => ⟨by obtain ⟨i, hi, rfl⟩ := mem_at scR hx; exact (h5 i hi).1, hi x hx⟩, fun x hx => nl h3 hx⟩
  split at hv
  · obtain ⟨rfl, h2, h3, h4, h5⟩ := hv
    exact ⟨e0, by omega, by omega, by omega, fun x hx => nl h2 hx, fun x hx => nl h3 hx, fun x hx => by obtain ⟨i, hi, rfl⟩ := mem_at fdR hx; exact ⟨(h5 i hi).1, (h5 i hi).2.1⟩⟩
  · exact hv.elim
/-- What an image's entries are good for. -/
theorem img_at {l : List EnD} (h : imgN l = 0) (hz : ∀ e ∈ l, ∀ x ∈ e.z, i64 x.2) {i : Nat} (hi : i < l.length) :
    (at_ enR l (i : Int)).key.size ≤ 65536 ∧ i64 (at_ enR l (i : Int)).till ∧ ShV (at_ enR l (i : Int)).s (at_ enR l (i : Int)).l (at_ enR l (i : Int)).z (at_ enR l (i : Int)).h := by
  unfold imgN at h
  split at h
  · cases h
  split at h
  · rename_i h2
    obtain ⟨h3, h4, h5⟩ := (h2 i hi).1
    exact ⟨h3, by unfold i64; omega, shV_of h5 (hz _ (at_in enR hi))⟩
  · cases h
theorem text_any (w : World) (Al : Option Addr) (cl : Nat) (l : List EnD) (hSl : SlR enR (fun k => k < w.heap.size) w (.slice Al l.length cl) l) (hbn : ∀ x ∈ l, bndE x) (hzi : ∀ e ∈ l, ∀ x ∈ e.z, i64 x.2) (hV : Vs w) : Calls Tryz.prog 9 #[.slice Al l.length cl] w (fun e w' => e = .returned (.tuple #[.string (txS l), .int .i64 (txN l)]) ∧ Fr [] w w') := by
 have hF := Fr.refl [] w
 have hlen0 := hSl.len_le
 refine V.en 27 Tryz.func9 fun a h1 => ?_
 refine V.sr h1 [] 2 3 [] fun a h4 => ?_
 refine V.seq fun K5 k6 => ?_
 refine V.sg fun K7 k8 => ?_
 refine V.run h4 [] 1 1 0 [(8, .slice Al l.length cl)] fun a h9 => ?_
 refine V.cl h9 (Go.Proofs.enters_of Tryz.func20 (by kernel_rfl) rfl) (check_any w Al cl l hSl.old hbn) ?_
 rintro _ w11 ⟨rfl, hF10⟩
 refine ⟨_, rfl, fun a h12 => ?_⟩
 have hsw11 := hF10.size
 have hF_13 := hF.new hF10
 have hSl_14 := hSl.fr0 hF10
 refine V.re h12 [] 1 0 [(4, .int .i64 (imgN l))] fun a h15 => k8 _ _ ?_
 refine V.sr h15 [(1, .ne (imgN l) 0)] 10 10 [(11, .bool (decide (¬ (imgN l) = 0)))] fun a h18 => ?_
 refine V.cp h18 (¬ (imgN l) = 0) (fun ht19 => ?_) (fun ht19 => ?_)
 ·
  refine V.sr h18 [] 12 12 [(2, .string ⟨#[]⟩), (3, .int .i64 (imgN l))] fun a h22 => ?_
  refine V.ret (V.then_r ?_)
  refine V.r2 h22 (.string ⟨#[]⟩) (.int .i64 (imgN l)) ?_
  obtain ⟨hq1, hq2⟩ := tx_no (by assumption)
  exact ⟨by rw [hq1, hq2], hF_13⟩
 ·
  refine V.skip ?_
  refine V.then_n (k6 _ _ ?_)
  refine V.seq fun K23 k24 => ?_
  have h0 : imgN l = 0 := Decidable.of_not_not (by assumption)
  refine V.rg ?_
  refine V.go (V.mk [] trivial (by kernel_rfl) [.pointer none, .slice none 0 0] 73 (fun b => .pointer (some ⟨b, 0, none⟩)) (by kernel_rfl) ?_)
  intro w26 b25 heb25 hB27 hF28 hsb25
  have hF_29 := hF_13.new hF28
  have hSl_30 := hSl_14.fr0 hF28
  refine V.pt h18 fun a h31 => ?_
  refine V.nt (k24 _ _ ?_)
  refine V.seq fun K32 k33 => ?_
  refine V.seq fun K34 k35 => ?_
  have hB36 := bld_new hB27 (hB27).lt
  refine V.rr h31 [] 1 0 [(13, .slice Al l.length cl), (14, .int .i64 ((l.length : Nat) : Int)), (15, .int .i64 0)] fun a h37 => ?_
  refine V.then_n (k35 _ _ ?_)
  refine V.block ?_
  refine V.loop1 (fun (i : Nat) a_ w_ => En 27 [] a_ [(5, .pointer (some ⟨b25, 0, none⟩)), (13, .slice Al l.length cl), (14, .int .i64 ((l.length : Nat) : Int)), (15, .int .i64 (i : Int))] ∧ BldI w_ b25 w_.heap.size (txB (l.take i)) ∧ Fr [] w w_ ∧ SlR enR (fun k => k < w.heap.size) w_ (.slice Al l.length cl) l ∧ (i ≤ l.length) ∧ ((txB (l.take i)).length ≤ 67108864)) (fun (i : Nat) => l.length - i) 0 ?_ ?_
  ·
   refine ⟨(h37.eq 15 (v := (.int .i64 0)) (u := (.int .i64 (0 : Int))) (V.int_eq (by omega))).only _, (hB36.up (by omega) (by omega)), hF_29, hSl_30, (by omega), (by simp [txB])⟩
  ·
   rintro i a38 w39 ⟨h40, hB_41, hF_42, hSl_43, hi, hm⟩
   have hfs44 := hF_42.size
   refine V.sr h40 [] 1 0 [(16, .bool (decide ((i : Int) < ((l.length : Nat) : Int))))] fun a h47 => ?_
   refine V.seq fun K48 k49 => ?_
   refine V.cp h47 ((i : Int) < ((l.length : Nat) : Int)) (fun ht50 => ?_) (fun ht50 => ?_)
   ·
    refine V.skip ?_
    refine V.then_n (k49 _ _ ?_)
    refine V.seq fun K51 k52 => ?_
    refine V.block ?_
    obtain ⟨g55, o56, hA57, hA57l, hA57z⟩ := hSl_43.addr (by omega)
    obtain ⟨cs58, hok59, hE60⟩ := hSl_43.els hA57 (i : Int) (by omega) (by omega)
    obtain ⟨Al61, cl62, Az63, cz64, Ah65, ch66, rfl, hS67, hS68, hS69⟩ := en_open hok59
    refine V.sg fun K53 k54 => ?_
    refine V.run h47 [(0, .ix g55 o56 l.length cl .i64 (i : Int) 7 hA57), (0, .ls ⟨g55, o56 + (i : Int).toNat * 7, none⟩ [.string ((at_ enR l (i : Int)).key), .int .i64 ((at_ enR l (i : Int)).k), .string ((at_ enR l (i : Int)).s), .slice Al61 ((at_ enR l (i : Int)).l.length) cl62, .slice Az63 ((at_ enR l (i : Int)).z.length) cz64, .slice Ah65 ((at_ enR l (i : Int)).h.length) ch66, .int .i64 ((at_ enR l (i : Int)).till)] (hE60.cells 0 _ rfl))] 2 17 17 [(18, .agg #[.string ((at_ enR l (i : Int)).key), .int .i64 ((at_ enR l (i : Int)).k), .string ((at_ enR l (i : Int)).s), .slice Al61 ((at_ enR l (i : Int)).l.length) cl62, .slice Az63 ((at_ enR l (i : Int)).z.length) cz64, .slice Ah65 ((at_ enR l (i : Int)).h.length) ch66, .int .i64 ((at_ enR l (i : Int)).till)])] fun a h74 => ?_
    refine V.go (V.mk [] trivial (by kernel_rfl) [.string ⟨#[]⟩, .int .i64 0, .string ⟨#[]⟩, .slice none 0 0, .slice none 0 0, .slice none 0 0, .int .i64 0] 55 (fun b => .pointer (some ⟨b, 0, none⟩)) (by kernel_rfl) ?_)
    intro w71 b70 heb70 hB72 hF73 hsb70
    have hB_75 := hB_41.fr hF73 (by simp <;> omega)
    have hF_76 := hF_42.new hF73
    have hSl_77 := hSl_43.fr0 hF73
    have hS67_78 := hS67.fr0 hF73
    have hS68_79 := hS68.fr0 hF73
    have hS69_80 := hS69.fr0 hF73
    refine V.pt h74 fun a h82 => ?_
    refine V.go (V.stn b70 0 (.agg #[.string ((at_ enR l (i : Int)).key), .int .i64 ((at_ enR l (i : Int)).k), .string ((at_ enR l (i : Int)).s), .slice Al61 ((at_ enR l (i : Int)).l.length) cl62, .slice Az63 ((at_ enR l (i : Int)).z.length) cz64, .slice Ah65 ((at_ enR l (i : Int)).h.length) ch66, .int .i64 ((at_ enR l (i : Int)).till)]) [.string ((at_ enR l (i : Int)).key), .int .i64 ((at_ enR l (i : Int)).k), .string ((at_ enR l (i : Int)).s), .slice Al61 ((at_ enR l (i : Int)).l.length) cl62, .slice Az63 ((at_ enR l (i : Int)).z.length) cz64, .slice Ah65 ((at_ enR l (i : Int)).h.length) ch66, .int .i64 ((at_ enR l (i : Int)).till)] h82.e h82.e rfl rfl (by kernel_rfl) hB72 (by simp) [.string ((at_ enR l (i : Int)).key), .int .i64 ((at_ enR l (i : Int)).k), .string ((at_ enR l (i : Int)).s), .slice Al61 ((at_ enR l (i : Int)).l.length) cl62, .slice Az63 ((at_ enR l (i : Int)).z.length) cz64, .slice Ah65 ((at_ enR l (i : Int)).h.length) ch66, .int .i64 ((at_ enR l (i : Int)).till)] rfl ?_)
    intro w83 hB84 hF85 hsw83
    have hB_86 := hB_75.fr hF85 (by simp <;> omega)
    have hF_87 := hF_76.own hF85 (by simp <;> omega)
    have hSl_88 := hSl_77.fr hF85 (by simp <;> omega)
    have hS67_89 := hS67_78.fr hF85 (by simp <;> omega)
    have hS68_90 := hS68_79.fr hF85 (by simp <;> omega)
    have hS69_91 := hS69_80.fr hF85 (by simp <;> omega)
    refine V.nt (k54 _ _ ?_)
    refine V.seq fun K93 k94 => ?_
    obtain ⟨hek, het, heh⟩ := img_at h0 hzi (i := i) (by omega)
    refine V.rg ?_
    refine V.run h82 [(0, .bs hB84 0 [.string ((at_ enR l (i : Int)).key), .int .i64 ((at_ enR l (i : Int)).k), .string ((at_ enR l (i : Int)).s), .slice Al61 ((at_ enR l (i : Int)).l.length) cl62, .slice Az63 ((at_ enR l (i : Int)).z.length) cz64, .slice Ah65 ((at_ enR l (i : Int)).h.length) ch66, .int .i64 ((at_ enR l (i : Int)).till)])] 1 1 0 [(19, .agg #[.string ((at_ enR l (i : Int)).key), .int .i64 ((at_ enR l (i : Int)).k), .string ((at_ enR l (i : Int)).s), .slice Al61 ((at_ enR l (i : Int)).l.length) cl62, .slice Az63 ((at_ enR l (i : Int)).z.length) cz64, .slice Ah65 ((at_ enR l (i : Int)).h.length) ch66, .int .i64 ((at_ enR l (i : Int)).till)])] fun a h95 => ?_
    have hll97 := lnD_len (k := ((at_ enR l (i : Int)).k)) hek het heh
    refine V.cl h95 (Go.Proofs.enters_of Tryz.func36 (by kernel_rfl) rfl) (line_any w83 ((at_ enR l (i : Int)).key) ((at_ enR l (i : Int)).k) ((at_ enR l (i : Int)).s) Al61 cl62 ((at_ enR l (i : Int)).l) hS67_89.old Az63 cz64 ((at_ enR l (i : Int)).z) hS68_90.old Ah65 ch66 ((at_ enR l (i : Int)).h) hS69_91.old ((at_ enR l (i : Int)).till) hek het heh (hV.fr hF_87)) ?_
    rintro _ w98 ⟨rfl, hF96⟩
    refine ⟨_, rfl, fun a h99 => ?_⟩
    have hsw98 := hF96.size
    have hB_100 := hB_86.fr hF96 (by simp <;> omega)
    have hF_101 := hF_87.new hF96
    have hSl_102 := hSl_88.fr0 hF96
    have hS67_103 := hS67_89.fr0 hF96
    have hS68_104 := hS68_90.fr0 hF96
    have hS69_105 := hS69_91.fr0 hF96
    refine V.cl h99 (Go.Proofs.enters_of Tryz.func35 (by kernel_rfl) rfl) (ws_any w98 b25 _ (txB (l.take i)) (lnD ((at_ enR l (i : Int)).key) ((at_ enR l (i : Int)).k) ((at_ enR l (i : Int)).s) ((at_ enR l (i : Int)).l) ((at_ enR l (i : Int)).z) ((at_ enR l (i : Int)).h) ((at_ enR l (i : Int)).till)) hB_100 (by (try simp only [List.length_append, List.length_cons, List.length_nil, btl_len] at *); omega)) ?_
    rintro _ w110 ⟨rfl, hB108, hL109⟩
    refine ⟨_, rfl, fun a h111 => ?_⟩
    have hsw110 := hL109.size
    have hF_112 := V.Fr.bel hF_101 hL109 (by omega)
    have hSl_113 := hSl_102.mono (fun k hk hz => ⟨hz, hL109.block k (by (try dsimp only at hz); omega)⟩) hL109.size
    have hS67_114 := hS67_103.mono (fun k hk hz => ⟨hz, hL109.block k (by (try dsimp only at hz); omega)⟩) hL109.size
    have hS68_115 := hS68_104.mono (fun k hk hz => ⟨hz, hL109.block k (by (try dsimp only at hz); omega)⟩) hL109.size
    have hS69_116 := hS69_105.mono (fun k hk hz => ⟨hz, hL109.block k (by (try dsimp only at hz); omega)⟩) hL109.size
    refine V.nt (k94 _ _ ?_)
    refine V.sg fun K117 k118 => ?_
    refine V.cl h111 (Go.Proofs.enters_of Tryz.func37 (by kernel_rfl) rfl) (wb_any w110 b25 _ ((txB (l.take i)) ++ (lnD ((at_ enR l (i : Int)).key) ((at_ enR l (i : Int)).k) ((at_ enR l (i : Int)).s) ((at_ enR l (i : Int)).l) ((at_ enR l (i : Int)).z) ((at_ enR l (i : Int)).h) ((at_ enR l (i : Int)).till)).data.toList) (10 : UInt8) hB108 (by (try simp only [List.length_append, List.length_cons, List.length_nil, btl_len] at *); omega)) ?_
    rintro _ w121 ⟨rfl, hB119, hL120⟩
    refine ⟨_, rfl, fun a h122 => ?_⟩
    have hsw121 := hL120.size
    have hF_123 := V.Fr.bel hF_112 hL120 (by omega)
    have hSl_124 := hSl_113.mono (fun k hk hz => ⟨hz, hL120.block k (by (try dsimp only at hz); omega)⟩) hL120.size
    have hS67_125 := hS67_114.mono (fun k hk hz => ⟨hz, hL120.block k (by (try dsimp only at hz); omega)⟩) hL120.size
    have hS68_126 := hS68_115.mono (fun k hk hz => ⟨hz, hL120.block k (by (try dsimp only at hz); omega)⟩) hL120.size
    have hS69_127 := hS69_116.mono (fun k hk hz => ⟨hz, hL120.block k (by (try dsimp only at hz); omega)⟩) hL120.size
    refine V.nt (k118 _ _ ?_)
    refine V.sg fun K128 k129 => ?_
    refine V.cl h122 (Go.Proofs.enters_of Tryz.func38 (by kernel_rfl) rfl) (bl_any w121 b25 _ (((txB (l.take i)) ++ (lnD ((at_ enR l (i : Int)).key) ((at_ enR l (i : Int)).k) ((at_ enR l (i : Int)).s) ((at_ enR l (i : Int)).l) ((at_ enR l (i : Int)).z) ((at_ enR l (i : Int)).h) ((at_ enR l (i : Int)).till)).data.toList) ++ [(10 : UInt8)]) hB119) ?_
    rintro _ _ ⟨rfl, rfl⟩
    refine ⟨_, rfl, fun a h130 => ?_⟩
    refine V.re h130 [] 1 0 [(24, .bool (decide ((((((txB (l.take i)) ++ (lnD ((at_ enR l (i : Int)).key) ((at_ enR l (i : Int)).k) ((at_ enR l (i : Int)).s) ((at_ enR l (i : Int)).l) ((at_ enR l (i : Int)).z) ((at_ enR l (i : Int)).h) ((at_ enR l (i : Int)).till)).data.toList) ++ [(10 : UInt8)]).length : Nat) : Int) > 67108864)))] fun a h131 => k129 _ _ ?_
    refine V.cp h131 ((((((txB (l.take i)) ++ (lnD ((at_ enR l (i : Int)).key) ((at_ enR l (i : Int)).k) ((at_ enR l (i : Int)).s) ((at_ enR l (i : Int)).l) ((at_ enR l (i : Int)).z) ((at_ enR l (i : Int)).h) ((at_ enR l (i : Int)).till)).data.toList) ++ [(10 : UInt8)]).length : Nat) : Int) > 67108864) (fun ht132 => ?_) (fun ht132 => ?_)
    ·
     refine V.sr h131 [] 1 0 [(2, .string ⟨#[]⟩), (3, .int .i64 2)] fun a h135 => ?_
     refine V.ret (V.blk_r (V.then_r (V.then_r (V.blk_r (V.then_r ?_)))))
     refine V.r2 h135 (.string ⟨#[]⟩) (.int .i64 2) ?_
     obtain ⟨hq1, hq2⟩ := tx_long h0 (i + 1) (by rw [txB_next (by omega)]; omega)
     exact ⟨by rw [hq1, hq2], hF_123⟩
    ·
     refine V.skip (V.blk_n ?_)
     refine V.then_n (k52 _ _ ?_)
     refine V.rr h131 [(0, .i ((i : Int) + 1))] 25 25 [(15, .int .i64 ((i : Int) + 1))] fun a h136 => ?_
     refine V.then_n ?_
     refine ⟨i + 1, by omega, ?_⟩
     refine ⟨(h136.eq 15 (v := (.int .i64 ((i : Int) + 1))) (u := (.int .i64 ((i + 1) : Int))) (V.int_eq (by omega))).only _, (by rw [txB_next (by omega)]; exact hB119.up (by omega) (by omega)), hF_123, hSl_124, (by omega), (by rw [txB_next (by omega)]; omega)⟩
   ·
    refine V.exit (V.then_e (V.then_e (V.blk_hit ?_)))
    refine V.then_n (k33 _ _ ?_)
    refine V.sg fun K137 k138 => ?_
    refine V.cl h47 (Go.Proofs.enters_of Tryz.func39 (by kernel_rfl) rfl) (bs_any w39 b25 _ (txB (l.take i)) hB_41) ?_
    rintro _ w140 ⟨rfl, hL139⟩
    refine ⟨_, rfl, fun a h141 => ?_⟩
    have hsw140 := hL139.size
    have hF_142 := V.Fr.bel hF_42 hL139 (by omega)
    have hSl_143 := hSl_43.mono (fun k hk hz => ⟨hz, hL139.block k (by (try dsimp only at hz); omega)⟩) hL139.size
    refine V.re h141 [] 1 0 [(2, .string ⟨(txB (l.take i)).toArray⟩), (3, .int .i64 0)] fun a h144 => k138 _ _ ?_
    refine V.ret ?_
    refine V.r2 h144 (.string ⟨(txB (l.take i)).toArray⟩) (.int .i64 0) ?_
    have hql : txB (l.take i) = txB l := by rw [List.take_of_length_le (by omega)]
    rw [hql] at hm ⊢
    obtain ⟨hq1, hq2⟩ := tx_yes h0 (by omega)
    exact ⟨by rw [hq1, hq2], hF_142⟩
/-! ### The entry of a line -/
noncomputable def tillD (x : ByteArray) : Int := if x = ⟨#[45]⟩ then -1 else prN x
def tmOk (x : ByteArray) : Prop := x = ⟨#[45]⟩ ∨ (prOk x ∧ 0 ≤ prN x ∧ prN x ≤ 1099511627776)
noncomputable def rdE0 (s : ByteArray) : EnD := ⟨unhexS (at_ Rp.str (spl s) 1), kindI (at_ Rp.str (spl s) 0), ⟨#[]⟩, [], [], [], tillD (at_ Rp.str (spl s) 2)⟩
noncomputable def rdE (s : ByteArray) : EnD := ((spl s).drop 3).foldl ptE (rdE0 s)
def gP (s : ByteArray) (i : Nat) : Prop := ptOk (kindI (at_ Rp.str (spl s) 0)) (at_ Rp.str ((spl s).drop 3) (i : Int))
def rdPre (s : ByteArray) : Prop := 4 ≤ (spl s).length ∧ 1 ≤ kindI (at_ Rp.str (spl s) 0) ∧ uhOk (at_ Rp.str (spl s) 1) ∧ tmOk (at_ Rp.str (spl s) 2) ∧ AllG (gP s) ((spl s).length - 3)
def lnOf (e : EnD) : ByteArray := lnD e.key e.k e.s e.l e.z e.h e.till
def rdOk (s : ByteArray) : Prop := rdPre s ∧ okD (rdE s) ∧ lnOf (rdE s) = s
theorem bd0 (key s : ByteArray) (k t : Int) : BdE ⟨key, k, s, [], [], [], t⟩ 0 := ⟨Nat.le_refl _, Nat.le_refl _, Nat.le_refl _, fun x hx => by cases hx⟩
theorem enB_new {w : World} {b : Nat} {key s : ByteArray} {k t : Int} (h : Blk w b [.string key, .int .i64 k, .string s, .slice none 0 0, .slice none 0 0, .slice none 0 0, .int .i64 t] 55) : EnB w b ⟨key, k, s, [], [], [], t⟩ :=
  ⟨none, 0, none, 0, none, 0, h, OwR.nil .., OwR.nil .., OwR.nil .., fun _ => ⟨rfl, rfl, rfl⟩, fun _ => ⟨rfl, rfl, rfl⟩, fun _ => ⟨rfl, rfl, rfl⟩⟩
theorem wd_size {s : ByteArray} {i : Nat} (h : i < (spl s).length) : (at_ Rp.str (spl s) (i : Int)).size ≤ s.size := spl_size (at_in Rp.str h)
theorem wd3_size {s : ByteArray} {x : ByteArray} (h : x ∈ (spl s).drop 3) : x.size ≤ s.size := spl_size (List.mem_of_mem_drop h)
theorem ent_good {x : EnD} {n : Nat} (h : okE x.key x.till (okV x.k x.s x.l x.z x.h)) (hb : BdE x n) : x.key.size ≤ 65536 ∧ i64 x.till ∧ ShV x.s x.l x.z x.h :=
  ⟨h.1, by have := h.2.1; unfold i64; omega, shV_of h.2.2 fun y hy => (hb.x y hy).2⟩
theorem read_any (w : World) (s : ByteArray) (hs : s.size ≤ 67108864) (hV : Vs w) : Calls Tryz.prog 44 #[.string s] w (fun e w' => ∃ key k sv Al nl cl Az nz cz Ah nh ch t, e = .returned (.tuple #[.agg #[.string key, .int .i64 k, .string sv, .slice Al nl cl, .slice Az nz cz, .slice Ah nh ch, .int .i64 t], .bool (bP (rdOk s))]) ∧ Fr [] w w' ∧ (rdOk s → enR.ok (fun k => w.heap.size ≤ k) w' (rdE s) [.string key, .int .i64 k, .string sv, .slice Al nl cl, .slice Az nz cz, .slice Ah nh ch, .int .i64 t])) := by
 have hF := Fr.refl [] w
 have hlo := hV.lo
 refine V.en 88 Tryz.func44 fun a h1 => ?_
 refine V.sg fun K2 k3 => ?_
 refine V.go (V.mk [] trivial (by kernel_rfl) [.string ⟨#[]⟩, .int .i64 0, .string ⟨#[]⟩, .slice none 0 0, .slice none 0 0, .slice none 0 0, .int .i64 0] 55 (fun b => .pointer (some ⟨b, 0, none⟩)) (by kernel_rfl) ?_)
 intro w5 b4 heb4 hB6 hF7 hsb4
 have hF_8 := hF.new hF7
 refine V.pt h1 fun a h9 => ?_
 refine V.re h9 [] 3 3 [] fun a h10 => k3 _ _ ?_
 refine V.sg fun K11 k12 => ?_
 refine V.run h10 [] 1 1 0 [(13, .string s)] fun a h13 => ?_
 refine V.cl h13 (Go.Proofs.enters_of Tryz.func87 (by kernel_rfl) rfl) (sp_any w5 s (by omega) (hV.fr hF_8)) ?_
 rintro _ w17 ⟨b14, rfl, hS15, hF16⟩
 refine ⟨_, rfl, fun a h18 => ?_⟩
 have hsw17 := hF16.size
 have hF_19 := hF_8.new hF16
 have hB6_20 := hB6.fr0 hF16
 refine V.re h18 [] 1 0 [(4, .slice (some ⟨b14, 0, none⟩) ((spl s).length) ((spl s).length))] fun a h21 => k12 _ _ ?_
 refine V.seq fun K22 k23 => ?_
 refine V.sr h21 [] 15 16 [(17, .bool (decide ((((spl s).length : Nat) : Int) < 4)))] fun a h26 => ?_
 refine V.cp h26 ((((spl s).length : Nat) : Int) < 4) (fun ht27 => ?_) (fun ht27 => ?_)
 ·
  refine V.sg fun K28 k29 => ?_
  refine V.run h26 [] 1 1 0 [(18, .agg #[.string ⟨#[]⟩, .int .i64 0, .string ⟨#[]⟩, .slice none 0 0, .slice none 0 0, .slice none 0 0, .int .i64 0])] fun a h33 => ?_
  refine V.go (V.stn b4 0 (.agg #[.string ⟨#[]⟩, .int .i64 0, .string ⟨#[]⟩, .slice none 0 0, .slice none 0 0, .slice none 0 0, .int .i64 0]) [.string ⟨#[]⟩, .int .i64 0, .string ⟨#[]⟩, .slice none 0 0, .slice none 0 0, .slice none 0 0, .int .i64 0] h33.e h33.e rfl rfl (by kernel_rfl) hB6_20 (by simp) [.string ⟨#[]⟩, .int .i64 0, .string ⟨#[]⟩, .slice none 0 0, .slice none 0 0, .slice none 0 0, .int .i64 0] rfl ?_)
  intro w30 hB31 hF32 hsw30
  have hF_34 := hF_19.own hF32 (by simp <;> omega)
  refine V.re h33 [] 1 0 [(3, .bool false)] fun a h36 => k29 _ _ ?_
  refine V.ret (V.then_r ?_)
  refine V.retCT h36.sd rfl _ (h36.e (v := (.pointer (some ⟨b4, 0, none⟩)))) (V.run_loadVar_agg (cs := [.string ⟨#[]⟩, .int .i64 0, .string ⟨#[]⟩, .slice none 0 0, .slice none 0 0, .slice none 0 0, .int .i64 0]) (by kernel_rfl) (blk_cells hB31 0 _ rfl)) (h36.e (v := (.bool false))) ?_
  have hno : ¬ rdOk s := fun hq => by
    obtain ⟨⟨q1, q2, q3, q4, q5⟩, q6, q7⟩ := hq
    first | omega | exact nb_no (by assumption) q3 | exact nb_no (by assumption) (q5 i (by omega)) | (rcases q4 with q4 | ⟨q8, q9, q10⟩ <;> first | exact absurd q4 (by assumption) | omega | exact absurd (prC_0.2 q8) (by assumption))
  exact ⟨_, _, _, _, _, _, _, _, _, _, _, _, _, congrArg (fun b => Ending.returned (Value.tuple #[.agg #[.string ⟨#[]⟩, .int .i64 0, .string ⟨#[]⟩, .slice none 0 0, .slice none 0 0, .slice none 0 0, .int .i64 0], Value.bool b])) (bP_no hno), hF_34, fun h => absurd h hno⟩
 ·
  refine V.skip ?_
  refine V.then_n (k23 _ _ ?_)
  refine V.seq fun K37 k38 => ?_
  have hw0 : (at_ Rp.str (spl s) (0 : Int)).size ≤ s.size := wd_size (i := 0) (by omega)
  have hw1 : (at_ Rp.str (spl s) (1 : Int)).size ≤ s.size := wd_size (i := 1) (by omega)
  have hw2 : (at_ Rp.str (spl s) (2 : Int)).size ≤ s.size := wd_size (i := 2) (by omega)
  refine V.rg ?_
  refine V.go (V.mk [] trivial (by kernel_rfl) [.string ⟨#[]⟩, .string ⟨#[115, 116, 114, 105, 110, 103]⟩, .string ⟨#[108, 105, 115, 116]⟩, .string ⟨#[115, 101, 116]⟩, .string ⟨#[122, 115, 101, 116]⟩, .string ⟨#[104, 97, 115, 104]⟩] 9 (fun b => .slice (some ⟨b, 0, none⟩) 6 6) (by kernel_rfl) ?_)
  intro w40 b39 heb39 hB41 hF42 hsb39
  have hF_43 := hF_19.new hF42
  have hB6_44 := hB6_20.fr0 hF42
  have hS15_45 := hS15.fr0 hF42
  refine V.pt h26 fun a h46 => ?_
  obtain ⟨cs47, hok48, hE49⟩ := hS15_45.els rfl (0 : Int) (by omega) (by omega)
  obtain rfl : cs47 = [.string (at_ Rp.str (spl s) (0 : Int))] := hok48
  refine V.run h46 [(1, .ix b14 0 ((spl s).length) ((spl s).length) .i64 0 1 rfl), (0, .l ⟨b14, 0 + (0 : Int).toNat * 1, none⟩ (.string (at_ Rp.str (spl s) (0 : Int))) (hE49.at 0 rfl))] 3 20 21 [(22, .string (at_ Rp.str (spl s) (0 : Int)))] fun a h50 => ?_
  refine V.cl h50 (Go.Proofs.enters_of Tryz.func88 (by kernel_rfl) rfl) (ki_any w40 b39 (at_ Rp.str (spl s) (0 : Int)) hB41) ?_
  rintro _ _ ⟨rfl, rfl⟩
  refine ⟨_, rfl, fun a h51 => ?_⟩
  refine V.re h51 [] 1 0 [(5, .int .i64 (kindI (at_ Rp.str (spl s) (0 : Int))))] fun a h52 => k38 _ _ ?_
  obtain ⟨cs55, hok56, hE57⟩ := hS15_45.els rfl (1 : Int) (by omega) (by omega)
  obtain rfl : cs55 = [.string (at_ Rp.str (spl s) (1 : Int))] := hok56
  refine V.sg fun K53 k54 => ?_
  refine V.run h52 [(1, .ix b14 0 ((spl s).length) ((spl s).length) .i64 1 1 rfl), (0, .l ⟨b14, 0 + (1 : Int).toNat * 1, none⟩ (.string (at_ Rp.str (spl s) (1 : Int))) (hE57.at 0 rfl))] 3 25 26 [(27, .string (at_ Rp.str (spl s) (1 : Int)))] fun a h58 => ?_
  refine V.cl h58 (Go.Proofs.enters_of Tryz.func89 (by kernel_rfl) rfl) (unhex_any w40 (at_ Rp.str (spl s) (1 : Int)) (by omega)) ?_
  rintro _ w60 ⟨rfl, hF59⟩
  refine ⟨_, rfl, fun a h61 => ?_⟩
  have hsw60 := hF59.size
  have hF_62 := hF_43.new hF59
  have hB6_63 := hB6_44.fr0 hF59
  have hS15_64 := hS15_45.fr0 hF59
  refine V.re h61 [] 24 30 [(6, .string (unhexS (at_ Rp.str (spl s) (1 : Int)))), (7, .bool (bP (uhOk (at_ Rp.str (spl s) (1 : Int)))))] fun a h68 => k54 _ _ ?_
  refine V.seq fun K69 k70 => ?_
  refine V.sg fun K71 k72 => ?_
  refine V.run h68 [] 3 31 32 [(33, .bool (decide ((kindI (at_ Rp.str (spl s) (0 : Int))) < 1)))] fun a h73 => ?_
  by_cases hg74 : (kindI (at_ Rp.str (spl s) (0 : Int))) < 1
  ·
   have h75 := h73.kt 33 hg74
   refine V.re h75 [] 34 35 [(36, .bool true)] fun a h76 => k72 _ _ ?_
   refine V.ct h76 ?_
   refine V.sg fun K77 k78 => ?_
   refine V.run h76 [] 1 1 0 [(37, .agg #[.string ⟨#[]⟩, .int .i64 0, .string ⟨#[]⟩, .slice none 0 0, .slice none 0 0, .slice none 0 0, .int .i64 0])] fun a h82 => ?_
   refine V.go (V.stn b4 0 (.agg #[.string ⟨#[]⟩, .int .i64 0, .string ⟨#[]⟩, .slice none 0 0, .slice none 0 0, .slice none 0 0, .int .i64 0]) [.string ⟨#[]⟩, .int .i64 0, .string ⟨#[]⟩, .slice none 0 0, .slice none 0 0, .slice none 0 0, .int .i64 0] h82.e h82.e rfl rfl (by kernel_rfl) hB6_63 (by simp) [.string ⟨#[]⟩, .int .i64 0, .string ⟨#[]⟩, .slice none 0 0, .slice none 0 0, .slice none 0 0, .int .i64 0] rfl ?_)
   intro w79 hB80 hF81 hsw79
   have hF_83 := hF_62.own hF81 (by simp <;> omega)
   refine V.re h82 [] 1 0 [(3, .bool false)] fun a h86 => k78 _ _ ?_
   refine V.ret (V.then_r ?_)
   refine V.retCT h86.sd rfl _ (h86.e (v := (.pointer (some ⟨b4, 0, none⟩)))) (V.run_loadVar_agg (cs := [.string ⟨#[]⟩, .int .i64 0, .string ⟨#[]⟩, .slice none 0 0, .slice none 0 0, .slice none 0 0, .int .i64 0]) (by kernel_rfl) (blk_cells hB80 0 _ rfl)) (h86.e (v := (.bool false))) ?_
   have hno : ¬ rdOk s := fun hq => by
     obtain ⟨⟨q1, q2, q3, q4, q5⟩, q6, q7⟩ := hq
     first | omega | exact nb_no (by assumption) q3 | exact nb_no (by assumption) (q5 i (by omega)) | (rcases q4 with q4 | ⟨q8, q9, q10⟩ <;> first | exact absurd q4 (by assumption) | omega | exact absurd (prC_0.2 q8) (by assumption))
   exact ⟨_, _, _, _, _, _, _, _, _, _, _, _, _, congrArg (fun b => Ending.returned (Value.tuple #[.agg #[.string ⟨#[]⟩, .int .i64 0, .string ⟨#[]⟩, .slice none 0 0, .slice none 0 0, .slice none 0 0, .int .i64 0], Value.bool b])) (bP_no hno), hF_83, fun h => absurd h hno⟩
  ·
   have h87 := h73.kf 33 hg74
   refine V.re h87 [] 34 35 [(36, .bool (!(bP (uhOk (at_ Rp.str (spl s) (1 : Int))))))] fun a h88 => k72 _ _ ?_
   refine V.cb h88 (!(bP (uhOk (at_ Rp.str (spl s) (1 : Int))))) (fun ht89 => ?_) (fun ht89 => ?_)
   ·
    refine V.sg fun K90 k91 => ?_
    refine V.run h88 [] 1 1 0 [(37, .agg #[.string ⟨#[]⟩, .int .i64 0, .string ⟨#[]⟩, .slice none 0 0, .slice none 0 0, .slice none 0 0, .int .i64 0])] fun a h95 => ?_
    refine V.go (V.stn b4 0 (.agg #[.string ⟨#[]⟩, .int .i64 0, .string ⟨#[]⟩, .slice none 0 0, .slice none 0 0, .slice none 0 0, .int .i64 0]) [.string ⟨#[]⟩, .int .i64 0, .string ⟨#[]⟩, .slice none 0 0, .slice none 0 0, .slice none 0 0, .int .i64 0] h95.e h95.e rfl rfl (by kernel_rfl) hB6_63 (by simp) [.string ⟨#[]⟩, .int .i64 0, .string ⟨#[]⟩, .slice none 0 0, .slice none 0 0, .slice none 0 0, .int .i64 0] rfl ?_)
    intro w92 hB93 hF94 hsw92
    have hF_96 := hF_62.own hF94 (by simp <;> omega)
    refine V.re h95 [] 1 0 [(3, .bool false)] fun a h99 => k91 _ _ ?_
    refine V.ret (V.then_r ?_)
    refine V.retCT h99.sd rfl _ (h99.e (v := (.pointer (some ⟨b4, 0, none⟩)))) (V.run_loadVar_agg (cs := [.string ⟨#[]⟩, .int .i64 0, .string ⟨#[]⟩, .slice none 0 0, .slice none 0 0, .slice none 0 0, .int .i64 0]) (by kernel_rfl) (blk_cells hB93 0 _ rfl)) (h99.e (v := (.bool false))) ?_
    have hno : ¬ rdOk s := fun hq => by
      obtain ⟨⟨q1, q2, q3, q4, q5⟩, q6, q7⟩ := hq
      first | omega | exact nb_no (by assumption) q3 | exact nb_no (by assumption) (q5 i (by omega)) | (rcases q4 with q4 | ⟨q8, q9, q10⟩ <;> first | exact absurd q4 (by assumption) | omega | exact absurd (prC_0.2 q8) (by assumption))
    exact ⟨_, _, _, _, _, _, _, _, _, _, _, _, _, congrArg (fun b => Ending.returned (Value.tuple #[.agg #[.string ⟨#[]⟩, .int .i64 0, .string ⟨#[]⟩, .slice none 0 0, .slice none 0 0, .slice none 0 0, .int .i64 0], Value.bool b])) (bP_no hno), hF_96, fun h => absurd h hno⟩
   ·
    refine V.skip ?_
    refine V.then_n (k70 _ _ ?_)
    refine V.sg fun K100 k101 => ?_
    refine V.run h88 [] 4 38 40 [(41, .agg #[.string (unhexS (at_ Rp.str (spl s) (1 : Int))), .int .i64 (kindI (at_ Rp.str (spl s) (0 : Int))), .string ⟨#[]⟩, .slice none 0 0, .slice none 0 0, .slice none 0 0, .int .i64 (-1)])] fun a h106 => ?_
    refine V.go (V.mk [] trivial (by kernel_rfl) [.string ⟨#[]⟩, .int .i64 0, .string ⟨#[]⟩, .slice none 0 0, .slice none 0 0, .slice none 0 0, .int .i64 0] 55 (fun b => .pointer (some ⟨b, 0, none⟩)) (by kernel_rfl) ?_)
    intro w103 b102 heb102 hB104 hF105 hsb102
    have hF_107 := hF_62.new hF105
    have hB6_108 := hB6_63.fr0 hF105
    have hS15_109 := hS15_64.fr0 hF105
    refine V.pt h106 fun a h113 => ?_
    refine V.go (V.stn b102 0 (.agg #[.string (unhexS (at_ Rp.str (spl s) (1 : Int))), .int .i64 (kindI (at_ Rp.str (spl s) (0 : Int))), .string ⟨#[]⟩, .slice none 0 0, .slice none 0 0, .slice none 0 0, .int .i64 (-1)]) [.string (unhexS (at_ Rp.str (spl s) (1 : Int))), .int .i64 (kindI (at_ Rp.str (spl s) (0 : Int))), .string ⟨#[]⟩, .slice none 0 0, .slice none 0 0, .slice none 0 0, .int .i64 (-1)] h113.e h113.e rfl rfl (by kernel_rfl) hB104 (by simp) [.string (unhexS (at_ Rp.str (spl s) (1 : Int))), .int .i64 (kindI (at_ Rp.str (spl s) (0 : Int))), .string ⟨#[]⟩, .slice none 0 0, .slice none 0 0, .slice none 0 0, .int .i64 (-1)] rfl ?_)
    intro w114 hB115 hF116 hsw114
    have hF_117 := hF_107.own hF116 (by simp <;> omega)
    have hB6_118 := hB6_108.fr1 hF116 (by omega)
    have hS15_119 := hS15_109.fr hF116 (by simp <;> omega)
    refine V.nt (k101 _ _ ?_)
    refine V.seq fun K121 k122 => ?_
    obtain ⟨cs125, hok126, hE127⟩ := hS15_119.els rfl (2 : Int) (by omega) (by omega)
    obtain rfl : cs125 = [.string (at_ Rp.str (spl s) (2 : Int))] := hok126
    refine V.sr h113 [(1, .ix b14 0 ((spl s).length) ((spl s).length) .i64 2 1 rfl), (0, .l ⟨b14, 0 + (2 : Int).toNat * 1, none⟩ (.string (at_ Rp.str (spl s) (2 : Int))) (hE127.at 0 rfl)), (0, .sne (at_ Rp.str (spl s) (2 : Int)) ⟨#[45]⟩)] 42 44 [(45, .bool (decide (¬ (at_ Rp.str (spl s) (2 : Int)) = ⟨#[45]⟩)))] fun a h128 => ?_
    refine V.cp h128 (¬ (at_ Rp.str (spl s) (2 : Int)) = ⟨#[45]⟩) (fun ht129 => ?_) (fun ht129 => ?_)
    ·
     refine V.sg fun K130 k131 => ?_
     refine V.run h128 [(1, .ix b14 0 ((spl s).length) ((spl s).length) .i64 2 1 rfl), (0, .l ⟨b14, 0 + (2 : Int).toNat * 1, none⟩ (.string (at_ Rp.str (spl s) (2 : Int))) (hE127.at 0 rfl))] 3 47 48 [(49, .string (at_ Rp.str (spl s) (2 : Int)))] fun a h132 => ?_
     refine V.cl h132 (Go.Proofs.enters_of Tryz.func90 (by kernel_rfl) rfl) (parse_any w114 (at_ Rp.str (spl s) (2 : Int)) (by omega) (hV.fr hF_117)) ?_
     rintro _ w134 ⟨rfl, hF133⟩
     refine ⟨_, rfl, fun a h135 => ?_⟩
     have hsw134 := hF133.size
     have hF_136 := hF_117.new hF133
     have hB6_137 := hB6_118.fr0 hF133
     have hS15_138 := hS15_119.fr0 hF133
     have hB115_140 := hB115.fr0 hF133
     refine V.re h135 [] 46 52 [(9, .int .i64 (prN (at_ Rp.str (spl s) (2 : Int)))), (10, .int .i64 (prC (at_ Rp.str (spl s) (2 : Int))))] fun a h142 => k131 _ _ ?_
     have h143 := h142.only [(0, .string s), (2, .pointer (some ⟨b4, 0, none⟩)), (4, .slice (some ⟨b14, 0, none⟩) ((spl s).length) ((spl s).length)), (8, .pointer (some ⟨b102, 0, none⟩)), (9, .int .i64 (prN (at_ Rp.str (spl s) (2 : Int)))), (10, .int .i64 (prC (at_ Rp.str (spl s) (2 : Int))))]
     refine V.seq fun K144 k145 => ?_
     refine V.sg fun K146 k147 => ?_
     refine V.run h143 [(1, .ne (prC (at_ Rp.str (spl s) (2 : Int))) 0)] 3 53 54 [(55, .bool (decide (¬ (prC (at_ Rp.str (spl s) (2 : Int))) = 0)))] fun a h148 => ?_
     by_cases hg149 : ¬ (prC (at_ Rp.str (spl s) (2 : Int))) = 0
     ·
      have h150 := h148.kt 55 hg149
      refine V.re h150 [] 56 61 [(62, .bool true)] fun a h151 => k147 _ _ ?_
      refine V.ct h151 ?_
      refine V.sg fun K152 k153 => ?_
      refine V.run h151 [] 1 1 0 [(63, .agg #[.string ⟨#[]⟩, .int .i64 0, .string ⟨#[]⟩, .slice none 0 0, .slice none 0 0, .slice none 0 0, .int .i64 0])] fun a h157 => ?_
      refine V.go (V.stn b4 0 (.agg #[.string ⟨#[]⟩, .int .i64 0, .string ⟨#[]⟩, .slice none 0 0, .slice none 0 0, .slice none 0 0, .int .i64 0]) [.string ⟨#[]⟩, .int .i64 0, .string ⟨#[]⟩, .slice none 0 0, .slice none 0 0, .slice none 0 0, .int .i64 0] h157.e h157.e rfl rfl (by kernel_rfl) hB6_137 (by simp) [.string ⟨#[]⟩, .int .i64 0, .string ⟨#[]⟩, .slice none 0 0, .slice none 0 0, .slice none 0 0, .int .i64 0] rfl ?_)
      intro w154 hB155 hF156 hsw154
      have hF_158 := hF_136.own hF156 (by simp <;> omega)
      refine V.re h157 [] 1 0 [(3, .bool false)] fun a h162 => k153 _ _ ?_
      refine V.ret (V.then_r (V.then_r ?_))
      refine V.retCT h162.sd rfl _ (h162.e (v := (.pointer (some ⟨b4, 0, none⟩)))) (V.run_loadVar_agg (cs := [.string ⟨#[]⟩, .int .i64 0, .string ⟨#[]⟩, .slice none 0 0, .slice none 0 0, .slice none 0 0, .int .i64 0]) (by kernel_rfl) (blk_cells hB155 0 _ rfl)) (h162.e (v := (.bool false))) ?_
      have hno : ¬ rdOk s := fun hq => by
        obtain ⟨⟨q1, q2, q3, q4, q5⟩, q6, q7⟩ := hq
        first | omega | exact nb_no (by assumption) q3 | exact nb_no (by assumption) (q5 i (by omega)) | (rcases q4 with q4 | ⟨q8, q9, q10⟩ <;> first | exact absurd q4 (by assumption) | omega | exact absurd (prC_0.2 q8) (by assumption))
      exact ⟨_, _, _, _, _, _, _, _, _, _, _, _, _, congrArg (fun b => Ending.returned (Value.tuple #[.agg #[.string ⟨#[]⟩, .int .i64 0, .string ⟨#[]⟩, .slice none 0 0, .slice none 0 0, .slice none 0 0, .int .i64 0], Value.bool b])) (bP_no hno), hF_158, fun h => absurd h hno⟩
     ·
      have h163 := h148.kf 55 hg149
      refine V.run h163 [] 4 56 58 [(59, .bool (decide ((prN (at_ Rp.str (spl s) (2 : Int))) < 0)))] fun a h164 => ?_
      by_cases hg165 : (prN (at_ Rp.str (spl s) (2 : Int))) < 0
      ·
       have h166 := h164.kt 59 hg165
       refine V.re h166 [] 60 61 [(62, .bool true)] fun a h167 => k147 _ _ ?_
       refine V.ct h167 ?_
       refine V.sg fun K168 k169 => ?_
       refine V.run h167 [] 1 1 0 [(63, .agg #[.string ⟨#[]⟩, .int .i64 0, .string ⟨#[]⟩, .slice none 0 0, .slice none 0 0, .slice none 0 0, .int .i64 0])] fun a h173 => ?_
       refine V.go (V.stn b4 0 (.agg #[.string ⟨#[]⟩, .int .i64 0, .string ⟨#[]⟩, .slice none 0 0, .slice none 0 0, .slice none 0 0, .int .i64 0]) [.string ⟨#[]⟩, .int .i64 0, .string ⟨#[]⟩, .slice none 0 0, .slice none 0 0, .slice none 0 0, .int .i64 0] h173.e h173.e rfl rfl (by kernel_rfl) hB6_137 (by simp) [.string ⟨#[]⟩, .int .i64 0, .string ⟨#[]⟩, .slice none 0 0, .slice none 0 0, .slice none 0 0, .int .i64 0] rfl ?_)
       intro w170 hB171 hF172 hsw170
       have hF_174 := hF_136.own hF172 (by simp <;> omega)
       refine V.re h173 [] 1 0 [(3, .bool false)] fun a h178 => k169 _ _ ?_
       refine V.ret (V.then_r (V.then_r ?_))
       refine V.retCT h178.sd rfl _ (h178.e (v := (.pointer (some ⟨b4, 0, none⟩)))) (V.run_loadVar_agg (cs := [.string ⟨#[]⟩, .int .i64 0, .string ⟨#[]⟩, .slice none 0 0, .slice none 0 0, .slice none 0 0, .int .i64 0]) (by kernel_rfl) (blk_cells hB171 0 _ rfl)) (h178.e (v := (.bool false))) ?_
       have hno : ¬ rdOk s := fun hq => by
         obtain ⟨⟨q1, q2, q3, q4, q5⟩, q6, q7⟩ := hq
         first | omega | exact nb_no (by assumption) q3 | exact nb_no (by assumption) (q5 i (by omega)) | (rcases q4 with q4 | ⟨q8, q9, q10⟩ <;> first | exact absurd q4 (by assumption) | omega | exact absurd (prC_0.2 q8) (by assumption))
       exact ⟨_, _, _, _, _, _, _, _, _, _, _, _, _, congrArg (fun b => Ending.returned (Value.tuple #[.agg #[.string ⟨#[]⟩, .int .i64 0, .string ⟨#[]⟩, .slice none 0 0, .slice none 0 0, .slice none 0 0, .int .i64 0], Value.bool b])) (bP_no hno), hF_174, fun h => absurd h hno⟩
      ·
       have h179 := h164.kf 59 hg165
       refine V.re h179 [] 60 61 [(62, .bool (decide ((prN (at_ Rp.str (spl s) (2 : Int))) > 1099511627776)))] fun a h180 => k147 _ _ ?_
       refine V.cp h180 ((prN (at_ Rp.str (spl s) (2 : Int))) > 1099511627776) (fun ht181 => ?_) (fun ht181 => ?_)
       ·
        refine V.sg fun K182 k183 => ?_
        refine V.run h180 [] 1 1 0 [(63, .agg #[.string ⟨#[]⟩, .int .i64 0, .string ⟨#[]⟩, .slice none 0 0, .slice none 0 0, .slice none 0 0, .int .i64 0])] fun a h187 => ?_
        refine V.go (V.stn b4 0 (.agg #[.string ⟨#[]⟩, .int .i64 0, .string ⟨#[]⟩, .slice none 0 0, .slice none 0 0, .slice none 0 0, .int .i64 0]) [.string ⟨#[]⟩, .int .i64 0, .string ⟨#[]⟩, .slice none 0 0, .slice none 0 0, .slice none 0 0, .int .i64 0] h187.e h187.e rfl rfl (by kernel_rfl) hB6_137 (by simp) [.string ⟨#[]⟩, .int .i64 0, .string ⟨#[]⟩, .slice none 0 0, .slice none 0 0, .slice none 0 0, .int .i64 0] rfl ?_)
        intro w184 hB185 hF186 hsw184
        have hF_188 := hF_136.own hF186 (by simp <;> omega)
        refine V.re h187 [] 1 0 [(3, .bool false)] fun a h192 => k183 _ _ ?_
        refine V.ret (V.then_r (V.then_r ?_))
        refine V.retCT h192.sd rfl _ (h192.e (v := (.pointer (some ⟨b4, 0, none⟩)))) (V.run_loadVar_agg (cs := [.string ⟨#[]⟩, .int .i64 0, .string ⟨#[]⟩, .slice none 0 0, .slice none 0 0, .slice none 0 0, .int .i64 0]) (by kernel_rfl) (blk_cells hB185 0 _ rfl)) (h192.e (v := (.bool false))) ?_
        have hno : ¬ rdOk s := fun hq => by
          obtain ⟨⟨q1, q2, q3, q4, q5⟩, q6, q7⟩ := hq
          first | omega | exact nb_no (by assumption) q3 | exact nb_no (by assumption) (q5 i (by omega)) | (rcases q4 with q4 | ⟨q8, q9, q10⟩ <;> first | exact absurd q4 (by assumption) | omega | exact absurd (prC_0.2 q8) (by assumption))
        exact ⟨_, _, _, _, _, _, _, _, _, _, _, _, _, congrArg (fun b => Ending.returned (Value.tuple #[.agg #[.string ⟨#[]⟩, .int .i64 0, .string ⟨#[]⟩, .slice none 0 0, .slice none 0 0, .slice none 0 0, .int .i64 0], Value.bool b])) (bP_no hno), hF_188, fun h => absurd h hno⟩
       ·
        refine V.skip ?_
        refine V.then_n (k145 _ _ ?_)
        refine V.rg ?_
        refine V.run h180 [] 2 1 0 [(64, .int .i64 (prN (at_ Rp.str (spl s) (2 : Int)))), (65, .pointer (some ⟨b102, 6, none⟩))] fun a h196 => ?_
        refine V.go (V.stn b102 6 (.int .i64 (prN (at_ Rp.str (spl s) (2 : Int)))) [.int .i64 (prN (at_ Rp.str (spl s) (2 : Int)))] h196.e h196.e rfl rfl (by kernel_rfl) hB115_140 (by simp) [.string (unhexS (at_ Rp.str (spl s) (1 : Int))), .int .i64 (kindI (at_ Rp.str (spl s) (0 : Int))), .string ⟨#[]⟩, .slice none 0 0, .slice none 0 0, .slice none 0 0, .int .i64 (prN (at_ Rp.str (spl s) (2 : Int)))] rfl ?_)
        intro w193 hB194 hF195 hsw193
        have hF_197 := hF_136.own hF195 (by simp <;> omega)
        have hB6_198 := hB6_137.fr1 hF195 (by omega)
        have hS15_199 := hS15_138.fr hF195 (by simp <;> omega)
        refine V.nt (k122 _ _ ?_)
        refine V.seq fun K201 k202 => ?_
        have hS205 := hS15_199.dr (i := 3) (by omega)
        refine V.sr h196 [(1, .cutE (some ⟨b14, 0, none⟩) ((spl s).length) ((spl s).length) 3 3 1)] 66 66 [(67, .slice (cutA (some ⟨b14, 0, none⟩) 3 ((spl s).length) 1) (((spl s).length) - 3) (((spl s).length) - 3)), (68, .int .i64 ((((spl s).length) - 3 : Nat) : Int)), (69, .int .i64 0)] fun a h206 => ?_
        refine V.block ?_
        have hE207 : EnB w193 b102 (⟨unhexS (at_ Rp.str (spl s) (1 : Int)), kindI (at_ Rp.str (spl s) (0 : Int)), ⟨#[]⟩, [], [], [], prN (at_ Rp.str (spl s) (2 : Int))⟩ : EnD) := enB_new hB194
        refine V.loop1 (fun (i : Nat) a_ w_ => En 88 [] a_ [(0, .string s), (2, .pointer (some ⟨b4, 0, none⟩)), (8, .pointer (some ⟨b102, 0, none⟩)), (67, .slice (cutA (some ⟨b14, 0, none⟩) 3 ((spl s).length) 1) (((spl s).length) - 3) (((spl s).length) - 3)), (68, .int .i64 ((((spl s).length) - 3 : Nat) : Int)), (69, .int .i64 (i : Int))] ∧ EnB w_ b102 ((((spl s).drop 3).take i).foldl ptE (⟨unhexS (at_ Rp.str (spl s) (1 : Int)), kindI (at_ Rp.str (spl s) (0 : Int)), ⟨#[]⟩, [], [], [], prN (at_ Rp.str (spl s) (2 : Int))⟩ : EnD)) ∧ Fr [] w w_ ∧ Blk w_ b4 [.string ⟨#[]⟩, .int .i64 0, .string ⟨#[]⟩, .slice none 0 0, .slice none 0 0, .slice none 0 0, .int .i64 0] 55 ∧ SlR Rp.str (fun k => w5.heap.size ≤ k ∧ k < w17.heap.size) w_ (.slice (some ⟨b14, 0, none⟩) ((spl s).length) ((spl s).length)) (spl s) ∧ SlR Rp.str (fun k => w5.heap.size ≤ k ∧ k < w17.heap.size) w_ (.slice (cutA (some ⟨b14, 0, none⟩) 3 ((spl s).length) 1) (((spl s).length) - 3) (((spl s).length) - 3)) ((spl s).drop 3) ∧ (i ≤ (spl s).length - 3) ∧ (AllG (gP s) i)) (fun (i : Nat) => (spl s).length - i) 0 ?_ ?_
        ·
         refine ⟨(h206.eq 69 (v := (.int .i64 0)) (u := (.int .i64 (0 : Int))) (V.int_eq (by omega))).only _, hE207, hF_197, hB6_198, hS15_199, hS205, (by omega), (AllG.zero _)⟩
        ·
         rintro i a208 w209 ⟨h210, hE_211, hF_212, hB6_213, hS15_214, hS205_215, hi, hG⟩
         have hfs216 := hF_212.size
         have hlt217 := hB6_213.lt
         have hbd := fold_bd (((spl s).drop 3).take i) (⟨unhexS (at_ Rp.str (spl s) (1 : Int)), kindI (at_ Rp.str (spl s) (0 : Int)), ⟨#[]⟩, [], [], [], prN (at_ Rp.str (spl s) (2 : Int))⟩ : EnD) 0 (bd0 _ _ _ _) (fun x hx => by have := wd3_size (List.mem_of_mem_take hx); omega)
         have htl : (((spl s).drop 3).take i).length ≤ i := List.length_take_le ..
         have hsl := spl_le s
         have hdl : ((spl s).drop 3).length = (spl s).length - 3 := List.length_drop
         obtain ⟨hb1, hb2, hb3, hbx⟩ := hbd
         refine V.sr h210 [] 1 0 [(70, .bool (decide ((i : Int) < ((((spl s).length) - 3 : Nat) : Int))))] fun a h220 => ?_
         refine V.seq fun K221 k222 => ?_
         refine V.cp h220 ((i : Int) < ((((spl s).length) - 3 : Nat) : Int)) (fun ht223 => ?_) (fun ht223 => ?_)
         ·
          refine V.skip ?_
          refine V.then_n (k222 _ _ ?_)
          refine V.seq fun K224 k225 => ?_
          refine V.block ?_
          obtain ⟨g228, o229, hA230, hA230l, hA230z⟩ := hS205_215.addr (by omega)
          try dsimp only at hA230z
          obtain ⟨cs231, hok232, hE233⟩ := hS205_215.els hA230 (i : Int) (by omega) (by omega)
          obtain rfl : cs231 = [.string (at_ Rp.str ((spl s).drop 3) (i : Int))] := hok232
          refine V.sr h220 [(0, .ix g228 o229 (((spl s).length) - 3) (((spl s).length) - 3) .i64 (i : Int) 1 hA230), (0, .l ⟨g228, o229 + (i : Int).toNat * 1, none⟩ (.string (at_ Rp.str ((spl s).drop 3) (i : Int))) (hE233.at 0 rfl))] 71 72 [(12, .string (at_ Rp.str ((spl s).drop 3) (i : Int)))] fun a h234 => ?_
          refine V.seq fun K235 k236 => ?_
          have hxs := wd3_size (at_in Rp.str (l := ((spl s).drop 3)) (i := i) (by rw [List.length_drop]; omega))
          refine V.rg ?_
          refine V.run h234 [] 2 1 0 [(73, .pointer (some ⟨b102, 1, none⟩)), (74, .string (at_ Rp.str ((spl s).drop 3) (i : Int)))] fun a h237 => ?_
          refine V.cl (av := #[.pointer (some ⟨b102, 1, none⟩), .string (at_ Rp.str ((spl s).drop 3) (i : Int))]) h237 (Go.Proofs.enters_of Tryz.func91 (by kernel_rfl) rfl) (by have h := part_any w209 b102 ((((spl s).drop 3).take i).foldl ptE (⟨unhexS (at_ Rp.str (spl s) (1 : Int)), kindI (at_ Rp.str (spl s) (0 : Int)), ⟨#[]⟩, [], [], [], prN (at_ Rp.str (spl s) (2 : Int))⟩ : EnD)) (at_ Rp.str ((spl s).drop 3) (i : Int)) hE_211 (by omega) (by omega) (by omega) (by omega) (by omega) (hV.fr hF_212); rw [(fold_k _ _).1] at h; exact h) ?_
          rintro _ w240 ⟨rfl, hq238, hL239⟩
          refine ⟨_, rfl, fun a h241 => ?_⟩
          have hsw240 := hL239.size
          have hF_242 := V.Fr.bel hF_212 hL239 (by omega)
          have hB6_243 := hB6_213.below hL239 (by omega)
          have hS15_244 := hS15_214.mono (fun k hk hz => ⟨hz, hL239.block k (by (try dsimp only at hz); omega)⟩) hL239.size
          have hS205_245 := hS205_215.mono (fun k hk hz => ⟨hz, hL239.block k (by (try dsimp only at hz); omega)⟩) hL239.size
          refine V.re h241 [] 1 0 [(76, .bool (!(bP (ptOk (kindI (at_ Rp.str (spl s) 0)) (at_ Rp.str ((spl s).drop 3) (i : Int))))))] fun a h246 => k236 _ _ ?_
          refine V.cb h246 (!(bP (ptOk (kindI (at_ Rp.str (spl s) 0)) (at_ Rp.str ((spl s).drop 3) (i : Int))))) (fun ht247 => ?_) (fun ht247 => ?_)
          ·
           refine V.sg fun K248 k249 => ?_
           refine V.run h246 [] 1 1 0 [(77, .agg #[.string ⟨#[]⟩, .int .i64 0, .string ⟨#[]⟩, .slice none 0 0, .slice none 0 0, .slice none 0 0, .int .i64 0])] fun a h253 => ?_
           refine V.go (V.stn b4 0 (.agg #[.string ⟨#[]⟩, .int .i64 0, .string ⟨#[]⟩, .slice none 0 0, .slice none 0 0, .slice none 0 0, .int .i64 0]) [.string ⟨#[]⟩, .int .i64 0, .string ⟨#[]⟩, .slice none 0 0, .slice none 0 0, .slice none 0 0, .int .i64 0] h253.e h253.e rfl rfl (by kernel_rfl) hB6_243 (by simp) [.string ⟨#[]⟩, .int .i64 0, .string ⟨#[]⟩, .slice none 0 0, .slice none 0 0, .slice none 0 0, .int .i64 0] rfl ?_)
           intro w250 hB251 hF252 hsw250
           have hF_254 := hF_242.own hF252 (by simp <;> omega)
           refine V.re h253 [] 1 0 [(3, .bool false)] fun a h257 => k249 _ _ ?_
           refine V.ret (V.blk_r (V.then_r (V.then_r (V.blk_r (V.then_r ?_)))))
           refine V.retCT h257.sd rfl _ (h257.e (v := (.pointer (some ⟨b4, 0, none⟩)))) (V.run_loadVar_agg (cs := [.string ⟨#[]⟩, .int .i64 0, .string ⟨#[]⟩, .slice none 0 0, .slice none 0 0, .slice none 0 0, .int .i64 0]) (by kernel_rfl) (blk_cells hB251 0 _ rfl)) (h257.e (v := (.bool false))) ?_
           have hno : ¬ rdOk s := fun hq => by
             obtain ⟨⟨q1, q2, q3, q4, q5⟩, q6, q7⟩ := hq
             first | omega | exact nb_no (by assumption) q3 | exact nb_no (by assumption) (q5 i (by omega)) | (rcases q4 with q4 | ⟨q8, q9, q10⟩ <;> first | exact absurd q4 (by assumption) | omega | exact absurd (prC_0.2 q8) (by assumption))
           exact ⟨_, _, _, _, _, _, _, _, _, _, _, _, _, congrArg (fun b => Ending.returned (Value.tuple #[.agg #[.string ⟨#[]⟩, .int .i64 0, .string ⟨#[]⟩, .slice none 0 0, .slice none 0 0, .slice none 0 0, .int .i64 0], Value.bool b])) (bP_no hno), hF_254, fun h => absurd h hno⟩
          ·
           refine V.skip (V.blk_n ?_)
           refine V.then_n (k225 _ _ ?_)
           refine V.rr h246 [(0, .i ((i : Int) + 1))] 78 78 [(69, .int .i64 ((i : Int) + 1))] fun a h258 => ?_
           refine V.then_n ?_
           refine ⟨i + 1, by omega, ?_⟩
           refine ⟨(h258.eq 69 (v := (.int .i64 ((i : Int) + 1))) (u := (.int .i64 ((i + 1) : Int))) (V.int_eq (by omega))).only _, (by rw [fold_next _ (by rw [List.length_drop]; omega)]; exact hq238 (nb_yes (by assumption))), hF_242, hB6_243, hS15_244, hS205_245, (by omega), (hG.step (nb_yes (by assumption)))⟩
         ·
          refine V.exit (V.then_e (V.then_e (V.blk_hit ?_)))
          refine V.then_n (k202 _ _ ?_)
          refine V.seq fun K259 k260 => ?_
          obtain ⟨X, hX⟩ : ∃ X, X = ((((spl s).drop 3).take i).foldl ptE (⟨unhexS (at_ Rp.str (spl s) (1 : Int)), kindI (at_ Rp.str (spl s) (0 : Int)), ⟨#[]⟩, [], [], [], prN (at_ Rp.str (spl s) (2 : Int))⟩ : EnD)) := ⟨_, rfl⟩
          have hbX : BdE X (0 + (((spl s).drop 3).take i).length) := hX ▸ ⟨hb1, hb2, hb3, hbx⟩
          obtain ⟨hX1, hX2, hX3, hX4⟩ := hbX
          obtain ⟨Al261, cl262, Az263, cz264, Ah265, ch266, hB267, hO268, hO269, hO270, -⟩ := (show EnB w209 b102 X from hX ▸ hE_211)
          have hS271 := hO268.read (Z' := fun k => b102 + 1 ≤ k) (fun _ _ q => q.elim) (fun _ q _ => q)
          have hS272 := hO269.read (Z' := fun k => b102 + 1 ≤ k) (fun _ _ q => q.elim) (fun _ q _ => q)
          have hS273 := hO270.read (Z' := fun k => b102 + 1 ≤ k) (fun _ _ q => q.elim) (fun _ q _ => q)
          refine V.pl [([0,1],some (2,[0])),([3,4,6],some (5,[0])),([7,8],some (9,[])),([10],none)] fun w274 hF275 hsw274 => ?_
          have hF_276 := hF_212.new hF275
          have hB6_277 := hB6_213.fr0 hF275
          have hB267_280 := hB267.fr0 hF275
          have hS271_281 := hS271.fr0 hF275
          have hS272_282 := hS272.fr0 hF275
          have hS273_283 := hS273.fr0 hF275
          refine V.pe h220 [(0, .bs hB267_280 0 [.string X.key, .int .i64 X.k, .string X.s, .slice Al261 X.l.length cl262, .slice Az263 X.z.length cz264, .slice Ah265 X.h.length ch266, .int .i64 X.till]), (0, .bs hB267_280 0 [.string X.key, .int .i64 X.k, .string X.s, .slice Al261 X.l.length cl262, .slice Az263 X.z.length cz264, .slice Ah265 X.h.length ch266, .int .i64 X.till])] 1 0 [(79, .agg #[.string X.key, .int .i64 X.k, .string X.s, .slice Al261 X.l.length cl262, .slice Az263 X.z.length cz264, .slice Ah265 X.h.length ch266, .int .i64 X.till]), (80, .agg #[.string X.key, .int .i64 X.k, .string X.s, .slice Al261 X.l.length cl262, .slice Az263 X.z.length cz264, .slice Ah265 X.h.length ch266, .int .i64 X.till])] fun a h284 => ?_
          refine V.cl h284 (Go.Proofs.enters_of Tryz.func54 (by kernel_rfl) rfl) (entry_any w274 X.key X.k X.s Al261 cl262 X.l hS271_281.old Az263 cz264 X.z hS272_282.old Ah265 ch266 X.h hS273_283.old X.till (by omega) (by omega) (by omega) (fun y hy => by have := (hX4 y hy).1; unfold maxLen; omega)) ?_
          rintro _ w286 ⟨rfl, hF285⟩
          refine ⟨_, rfl, fun a h287 => ?_⟩
          have hsw286 := hF285.size
          have hF_288 := hF_276.new hF285
          have hB6_289 := hB6_277.fr0 hF285
          have hB267_292 := hB267_280.fr0 hF285
          have hS271_293 := hS271_281.fr0 hF285
          have hS272_294 := hS272_282.fr0 hF285
          have hS273_295 := hS273_283.fr0 hF285
          refine V.eh (fun _ => held_blk (n := 7) (hx := (h284.e (v := (.pointer (some ⟨b102, 0, none⟩))))) hB267_280 hB267_292 (by kernel_rfl) rfl (by simp only [List.length]; omega)) ?_
          refine V.pe0 ?_
          refine V.run h287 [] 1 1 0 [(82, .bool (bP (okE X.key X.till (okV X.k X.s X.l X.z X.h))))] fun a h296 => ?_
          by_cases hg297 : (bP (okE X.key X.till (okV X.k X.s X.l X.z X.h))) = true
          ·
           have h298 := h296.kbt 82 hg297
           refine V.se h298 [(0, .bs hB267_292 0 [.string X.key, .int .i64 X.k, .string X.s, .slice Al261 X.l.length cl262, .slice Az263 X.z.length cz264, .slice Ah265 X.h.length ch266, .int .i64 X.till])] 1 0 [(83, .agg #[.string X.key, .int .i64 X.k, .string X.s, .slice Al261 X.l.length cl262, .slice Az263 X.z.length cz264, .slice Ah265 X.h.length ch266, .int .i64 X.till]), (85, .string s)] fun a h299 => ?_
           obtain ⟨hek, het, heh⟩ := ent_good (x := X) (bP_of (by assumption)) ⟨hX1, hX2, hX3, hX4⟩
           have hll301 := lnD_len (k := X.k) hek het heh
           refine V.clg h299 (Go.Proofs.enters_of Tryz.func36 (by kernel_rfl) rfl) (line_any w286 X.key X.k X.s Al261 cl262 X.l hS271_293.old Az263 cz264 X.z hS272_294.old Ah265 ch266 X.h hS273_295.old X.till hek het heh (hV.fr hF_288)) ?_
           rintro _ w302 ⟨rfl, hF300⟩
           refine ⟨_, rfl, fun a h303 => ?_⟩
           have hsw302 := hF300.size
           have hF_304 := hF_288.new hF300
           have hB6_305 := hB6_289.fr0 hF300
           have hB267_308 := hB267_292.fr0 hF300
           have hS271_309 := hS271_293.fr0 hF300
           have hS272_310 := hS272_294.fr0 hF300
           have hS273_311 := hS273_295.fr0 hF300
           refine V.eh (fun _ => held_blk (n := 7) (hx := (h299.e (v := (.pointer (some ⟨b102, 0, none⟩))))) hB267_292 hB267_308 (by kernel_rfl) rfl (by simp only [List.length]; omega)) ?_
           refine V.pe h303 [(0, .seq (lnD X.key X.k X.s X.l X.z X.h X.till) s)] 86 86 [(87, .bool (decide ((lnD X.key X.k X.s X.l X.z X.h X.till) = s)))] fun a h312 => ?_
           refine V.go (V.stn b4 0 (.agg #[.string X.key, .int .i64 X.k, .string X.s, .slice Al261 X.l.length cl262, .slice Az263 X.z.length cz264, .slice Ah265 X.h.length ch266, .int .i64 X.till]) [.string X.key, .int .i64 X.k, .string X.s, .slice Al261 X.l.length cl262, .slice Az263 X.z.length cz264, .slice Ah265 X.h.length ch266, .int .i64 X.till] h312.e h312.e rfl rfl (by kernel_rfl) hB6_305 (by simp) [.string X.key, .int .i64 X.k, .string X.s, .slice Al261 X.l.length cl262, .slice Az263 X.z.length cz264, .slice Ah265 X.h.length ch266, .int .i64 X.till] rfl ?_)
           intro w313 hB314 hF315 hsw313
           have hF_316 := hF_304.own hF315 (by simp <;> omega)
           have hS271_320 := hS271_309.fr hF315 (by simp <;> omega)
           have hS272_321 := hS272_310.fr hF315 (by simp <;> omega)
           have hS273_322 := hS273_311.fr hF315 (by simp <;> omega)
           refine V.eh trivial ?_
           refine V.pz h312 [] 1 0 [(3, .bool (decide ((lnD X.key X.k X.s X.l X.z X.h X.till) = s)))] fun a h323 => k260 _ _ ?_
           refine V.ret ?_
           refine V.retCT h323.sd rfl _ (h323.e (v := (.pointer (some ⟨b4, 0, none⟩)))) (V.run_loadVar_agg (cs := [.string X.key, .int .i64 X.k, .string X.s, .slice Al261 X.l.length cl262, .slice Az263 X.z.length cz264, .slice Ah265 X.h.length ch266, .int .i64 X.till]) (by kernel_rfl) (blk_cells hB314 0 _ rfl)) (h323.e (v := (.bool (decide ((lnD X.key X.k X.s X.l X.z X.h X.till) = s))))) ?_
           have hXe : X = rdE s := by rw [hX, List.take_of_length_le (by rw [List.length_drop]; omega)]; unfold rdE rdE0 tillD; first | rw [if_pos (by first | assumption | exact Decidable.of_not_not (by assumption))] | rw [if_neg (by assumption)]
           have hpre : rdPre s := ⟨by omega, by omega, nb_yes (by assumption), by first | exact .inl (by assumption) | exact .inl (Decidable.of_not_not (by assumption)) | exact .inr ⟨prC_0.1 (by first | assumption | omega), by omega, by omega⟩, hG.le (by omega)⟩
           have hbb : (decide ((lnD X.key X.k X.s X.l X.z X.h X.till) = s)) = bP (rdOk s) := bP_dec.trans (congrArg bP (propext ⟨fun q => ⟨hpre, hXe ▸ (bP_of (by assumption) : okD X), hXe ▸ q⟩, fun q => hXe.symm ▸ q.2.2⟩))
           exact ⟨_, _, _, _, _, _, _, _, _, _, _, _, _, congrArg (fun b => Ending.returned (Value.tuple #[.agg #[.string X.key, .int .i64 X.k, .string X.s, .slice Al261 X.l.length cl262, .slice Az263 X.z.length cz264, .slice Ah265 X.h.length ch266, .int .i64 X.till], Value.bool b])) hbb, hF_316, fun _ => hXe ▸ (⟨_, _, _, rfl, hS271_320.zone (fun k _ h => by (try dsimp only at h); omega), hS272_321.zone (fun k _ h => by (try dsimp only at h); omega), hS273_322.zone (fun k _ h => by (try dsimp only at h); omega)⟩ : enR.ok _ _ X _)⟩
          ·
           have h324 := h296.kbf 82 hg297
           refine V.se h324 [] 1 0 [(83, undef), (85, undef)] fun a h325 => ?_
           refine V.run h325 [] 1 1 0 [(84, undef)] fun a h326 => ?_
           refine V.eh (fun _ => held_blk (n := 7) (hx := (h325.e (v := (.pointer (some ⟨b102, 0, none⟩))))) hB267_292 hB267_292 (by kernel_rfl) rfl (by simp only [List.length]; omega)) ?_
           refine V.pe h326 [] 86 86 [(87, .bool false)] fun a h327 => ?_
           refine V.go (V.stn b4 0 (.agg #[.string X.key, .int .i64 X.k, .string X.s, .slice Al261 X.l.length cl262, .slice Az263 X.z.length cz264, .slice Ah265 X.h.length ch266, .int .i64 X.till]) [.string X.key, .int .i64 X.k, .string X.s, .slice Al261 X.l.length cl262, .slice Az263 X.z.length cz264, .slice Ah265 X.h.length ch266, .int .i64 X.till] h327.e h327.e rfl rfl (by kernel_rfl) hB6_289 (by simp) [.string X.key, .int .i64 X.k, .string X.s, .slice Al261 X.l.length cl262, .slice Az263 X.z.length cz264, .slice Ah265 X.h.length ch266, .int .i64 X.till] rfl ?_)
           intro w328 hB329 hF330 hsw328
           have hF_331 := hF_288.own hF330 (by simp <;> omega)
           have hS271_335 := hS271_293.fr hF330 (by simp <;> omega)
           have hS272_336 := hS272_294.fr hF330 (by simp <;> omega)
           have hS273_337 := hS273_295.fr hF330 (by simp <;> omega)
           refine V.eh trivial ?_
           refine V.pz h327 [] 1 0 [(3, .bool false)] fun a h338 => k260 _ _ ?_
           refine V.ret ?_
           refine V.retCT h338.sd rfl _ (h338.e (v := (.pointer (some ⟨b4, 0, none⟩)))) (V.run_loadVar_agg (cs := [.string X.key, .int .i64 X.k, .string X.s, .slice Al261 X.l.length cl262, .slice Az263 X.z.length cz264, .slice Ah265 X.h.length ch266, .int .i64 X.till]) (by kernel_rfl) (blk_cells hB329 0 _ rfl)) (h338.e (v := (.bool false))) ?_
           have hXe : X = rdE s := by rw [hX, List.take_of_length_le (by rw [List.length_drop]; omega)]; unfold rdE rdE0 tillD; first | rw [if_pos (by first | assumption | exact Decidable.of_not_not (by assumption))] | rw [if_neg (by assumption)]
           have hpre : rdPre s := ⟨by omega, by omega, nb_yes (by assumption), by first | exact .inl (by assumption) | exact .inl (Decidable.of_not_not (by assumption)) | exact .inr ⟨prC_0.1 (by first | assumption | omega), by omega, by omega⟩, hG.le (by omega)⟩
           have hbb : false = bP (rdOk s) := bP_no (fun hq => absurd (bP_yes (show okE X.key X.till (okV X.k X.s X.l X.z X.h) from hXe ▸ hq.2.1)).symm (by assumption))
           exact ⟨_, _, _, _, _, _, _, _, _, _, _, _, _, congrArg (fun b => Ending.returned (Value.tuple #[.agg #[.string X.key, .int .i64 X.k, .string X.s, .slice Al261 X.l.length cl262, .slice Az263 X.z.length cz264, .slice Ah265 X.h.length ch266, .int .i64 X.till], Value.bool b])) hbb, hF_331, fun _ => hXe ▸ (⟨_, _, _, rfl, hS271_335.zone (fun k _ h => by (try dsimp only at h); omega), hS272_336.zone (fun k _ h => by (try dsimp only at h); omega), hS273_337.zone (fun k _ h => by (try dsimp only at h); omega)⟩ : enR.ok _ _ X _)⟩
    ·
     refine V.skip ?_
     refine V.then_n (k122 _ _ ?_)
     refine V.seq fun K339 k340 => ?_
     have hS343 := hS15_119.dr (i := 3) (by omega)
     refine V.sr h128 [(1, .cutE (some ⟨b14, 0, none⟩) ((spl s).length) ((spl s).length) 3 3 1)] 66 66 [(67, .slice (cutA (some ⟨b14, 0, none⟩) 3 ((spl s).length) 1) (((spl s).length) - 3) (((spl s).length) - 3)), (68, .int .i64 ((((spl s).length) - 3 : Nat) : Int)), (69, .int .i64 0)] fun a h344 => ?_
     refine V.block ?_
     have hE345 : EnB w114 b102 (⟨unhexS (at_ Rp.str (spl s) (1 : Int)), kindI (at_ Rp.str (spl s) (0 : Int)), ⟨#[]⟩, [], [], [], (-1)⟩ : EnD) := enB_new hB115
     refine V.loop1 (fun (i : Nat) a_ w_ => En 88 [] a_ [(0, .string s), (2, .pointer (some ⟨b4, 0, none⟩)), (8, .pointer (some ⟨b102, 0, none⟩)), (67, .slice (cutA (some ⟨b14, 0, none⟩) 3 ((spl s).length) 1) (((spl s).length) - 3) (((spl s).length) - 3)), (68, .int .i64 ((((spl s).length) - 3 : Nat) : Int)), (69, .int .i64 (i : Int))] ∧ EnB w_ b102 ((((spl s).drop 3).take i).foldl ptE (⟨unhexS (at_ Rp.str (spl s) (1 : Int)), kindI (at_ Rp.str (spl s) (0 : Int)), ⟨#[]⟩, [], [], [], (-1)⟩ : EnD)) ∧ Fr [] w w_ ∧ Blk w_ b4 [.string ⟨#[]⟩, .int .i64 0, .string ⟨#[]⟩, .slice none 0 0, .slice none 0 0, .slice none 0 0, .int .i64 0] 55 ∧ SlR Rp.str (fun k => w5.heap.size ≤ k ∧ k < w17.heap.size) w_ (.slice (some ⟨b14, 0, none⟩) ((spl s).length) ((spl s).length)) (spl s) ∧ SlR Rp.str (fun k => w5.heap.size ≤ k ∧ k < w17.heap.size) w_ (.slice (cutA (some ⟨b14, 0, none⟩) 3 ((spl s).length) 1) (((spl s).length) - 3) (((spl s).length) - 3)) ((spl s).drop 3) ∧ (i ≤ (spl s).length - 3) ∧ (AllG (gP s) i)) (fun (i : Nat) => (spl s).length - i) 0 ?_ ?_
     ·
      refine ⟨(h344.eq 69 (v := (.int .i64 0)) (u := (.int .i64 (0 : Int))) (V.int_eq (by omega))).only _, hE345, hF_117, hB6_118, hS15_119, hS343, (by omega), (AllG.zero _)⟩
     ·
      rintro i a346 w347 ⟨h348, hE_349, hF_350, hB6_351, hS15_352, hS343_353, hi, hG⟩
      have hfs354 := hF_350.size
      have hlt355 := hB6_351.lt
      have hbd := fold_bd (((spl s).drop 3).take i) (⟨unhexS (at_ Rp.str (spl s) (1 : Int)), kindI (at_ Rp.str (spl s) (0 : Int)), ⟨#[]⟩, [], [], [], (-1)⟩ : EnD) 0 (bd0 _ _ _ _) (fun x hx => by have := wd3_size (List.mem_of_mem_take hx); omega)
      have htl : (((spl s).drop 3).take i).length ≤ i := List.length_take_le ..
      have hsl := spl_le s
      have hdl : ((spl s).drop 3).length = (spl s).length - 3 := List.length_drop
      obtain ⟨hb1, hb2, hb3, hbx⟩ := hbd
      refine V.sr h348 [] 1 0 [(70, .bool (decide ((i : Int) < ((((spl s).length) - 3 : Nat) : Int))))] fun a h358 => ?_
      refine V.seq fun K359 k360 => ?_
      refine V.cp h358 ((i : Int) < ((((spl s).length) - 3 : Nat) : Int)) (fun ht361 => ?_) (fun ht361 => ?_)
      ·
       refine V.skip ?_
       refine V.then_n (k360 _ _ ?_)
       refine V.seq fun K362 k363 => ?_
       refine V.block ?_
       obtain ⟨g366, o367, hA368, hA368l, hA368z⟩ := hS343_353.addr (by omega)
       try dsimp only at hA368z
       obtain ⟨cs369, hok370, hE371⟩ := hS343_353.els hA368 (i : Int) (by omega) (by omega)
       obtain rfl : cs369 = [.string (at_ Rp.str ((spl s).drop 3) (i : Int))] := hok370
       refine V.sr h358 [(0, .ix g366 o367 (((spl s).length) - 3) (((spl s).length) - 3) .i64 (i : Int) 1 hA368), (0, .l ⟨g366, o367 + (i : Int).toNat * 1, none⟩ (.string (at_ Rp.str ((spl s).drop 3) (i : Int))) (hE371.at 0 rfl))] 71 72 [(12, .string (at_ Rp.str ((spl s).drop 3) (i : Int)))] fun a h372 => ?_
       refine V.seq fun K373 k374 => ?_
       have hxs := wd3_size (at_in Rp.str (l := ((spl s).drop 3)) (i := i) (by rw [List.length_drop]; omega))
       refine V.rg ?_
       refine V.run h372 [] 2 1 0 [(73, .pointer (some ⟨b102, 1, none⟩)), (74, .string (at_ Rp.str ((spl s).drop 3) (i : Int)))] fun a h375 => ?_
       refine V.cl (av := #[.pointer (some ⟨b102, 1, none⟩), .string (at_ Rp.str ((spl s).drop 3) (i : Int))]) h375 (Go.Proofs.enters_of Tryz.func91 (by kernel_rfl) rfl) (by have h := part_any w347 b102 ((((spl s).drop 3).take i).foldl ptE (⟨unhexS (at_ Rp.str (spl s) (1 : Int)), kindI (at_ Rp.str (spl s) (0 : Int)), ⟨#[]⟩, [], [], [], (-1)⟩ : EnD)) (at_ Rp.str ((spl s).drop 3) (i : Int)) hE_349 (by omega) (by omega) (by omega) (by omega) (by omega) (hV.fr hF_350); rw [(fold_k _ _).1] at h; exact h) ?_
       rintro _ w378 ⟨rfl, hq376, hL377⟩
       refine ⟨_, rfl, fun a h379 => ?_⟩
       have hsw378 := hL377.size
       have hF_380 := V.Fr.bel hF_350 hL377 (by omega)
       have hB6_381 := hB6_351.below hL377 (by omega)
       have hS15_382 := hS15_352.mono (fun k hk hz => ⟨hz, hL377.block k (by (try dsimp only at hz); omega)⟩) hL377.size
       have hS343_383 := hS343_353.mono (fun k hk hz => ⟨hz, hL377.block k (by (try dsimp only at hz); omega)⟩) hL377.size
       refine V.re h379 [] 1 0 [(76, .bool (!(bP (ptOk (kindI (at_ Rp.str (spl s) 0)) (at_ Rp.str ((spl s).drop 3) (i : Int))))))] fun a h384 => k374 _ _ ?_
       refine V.cb h384 (!(bP (ptOk (kindI (at_ Rp.str (spl s) 0)) (at_ Rp.str ((spl s).drop 3) (i : Int))))) (fun ht385 => ?_) (fun ht385 => ?_)
       ·
        refine V.sg fun K386 k387 => ?_
        refine V.run h384 [] 1 1 0 [(77, .agg #[.string ⟨#[]⟩, .int .i64 0, .string ⟨#[]⟩, .slice none 0 0, .slice none 0 0, .slice none 0 0, .int .i64 0])] fun a h391 => ?_
        refine V.go (V.stn b4 0 (.agg #[.string ⟨#[]⟩, .int .i64 0, .string ⟨#[]⟩, .slice none 0 0, .slice none 0 0, .slice none 0 0, .int .i64 0]) [.string ⟨#[]⟩, .int .i64 0, .string ⟨#[]⟩, .slice none 0 0, .slice none 0 0, .slice none 0 0, .int .i64 0] h391.e h391.e rfl rfl (by kernel_rfl) hB6_381 (by simp) [.string ⟨#[]⟩, .int .i64 0, .string ⟨#[]⟩, .slice none 0 0, .slice none 0 0, .slice none 0 0, .int .i64 0] rfl ?_)
        intro w388 hB389 hF390 hsw388
        have hF_392 := hF_380.own hF390 (by simp <;> omega)
        refine V.re h391 [] 1 0 [(3, .bool false)] fun a h395 => k387 _ _ ?_
        refine V.ret (V.blk_r (V.then_r (V.then_r (V.blk_r (V.then_r ?_)))))
        refine V.retCT h395.sd rfl _ (h395.e (v := (.pointer (some ⟨b4, 0, none⟩)))) (V.run_loadVar_agg (cs := [.string ⟨#[]⟩, .int .i64 0, .string ⟨#[]⟩, .slice none 0 0, .slice none 0 0, .slice none 0 0, .int .i64 0]) (by kernel_rfl) (blk_cells hB389 0 _ rfl)) (h395.e (v := (.bool false))) ?_
        have hno : ¬ rdOk s := fun hq => by
          obtain ⟨⟨q1, q2, q3, q4, q5⟩, q6, q7⟩ := hq
          first | omega | exact nb_no (by assumption) q3 | exact nb_no (by assumption) (q5 i (by omega)) | (rcases q4 with q4 | ⟨q8, q9, q10⟩ <;> first | exact absurd q4 (by assumption) | omega | exact absurd (prC_0.2 q8) (by assumption))
        exact ⟨_, _, _, _, _, _, _, _, _, _, _, _, _, congrArg (fun b => Ending.returned (Value.tuple #[.agg #[.string ⟨#[]⟩, .int .i64 0, .string ⟨#[]⟩, .slice none 0 0, .slice none 0 0, .slice none 0 0, .int .i64 0], Value.bool b])) (bP_no hno), hF_392, fun h => absurd h hno⟩
       ·
        refine V.skip (V.blk_n ?_)
        refine V.then_n (k363 _ _ ?_)
        refine V.rr h384 [(0, .i ((i : Int) + 1))] 78 78 [(69, .int .i64 ((i : Int) + 1))] fun a h396 => ?_
        refine V.then_n ?_
        refine ⟨i + 1, by omega, ?_⟩
        refine ⟨(h396.eq 69 (v := (.int .i64 ((i : Int) + 1))) (u := (.int .i64 ((i + 1) : Int))) (V.int_eq (by omega))).only _, (by rw [fold_next _ (by rw [List.length_drop]; omega)]; exact hq376 (nb_yes (by assumption))), hF_380, hB6_381, hS15_382, hS343_383, (by omega), (hG.step (nb_yes (by assumption)))⟩
      ·
       refine V.exit (V.then_e (V.then_e (V.blk_hit ?_)))
       refine V.then_n (k340 _ _ ?_)
       refine V.seq fun K397 k398 => ?_
       obtain ⟨X, hX⟩ : ∃ X, X = ((((spl s).drop 3).take i).foldl ptE (⟨unhexS (at_ Rp.str (spl s) (1 : Int)), kindI (at_ Rp.str (spl s) (0 : Int)), ⟨#[]⟩, [], [], [], (-1)⟩ : EnD)) := ⟨_, rfl⟩
       have hbX : BdE X (0 + (((spl s).drop 3).take i).length) := hX ▸ ⟨hb1, hb2, hb3, hbx⟩
       obtain ⟨hX1, hX2, hX3, hX4⟩ := hbX
       obtain ⟨Al399, cl400, Az401, cz402, Ah403, ch404, hB405, hO406, hO407, hO408, -⟩ := (show EnB w347 b102 X from hX ▸ hE_349)
       have hS409 := hO406.read (Z' := fun k => b102 + 1 ≤ k) (fun _ _ q => q.elim) (fun _ q _ => q)
       have hS410 := hO407.read (Z' := fun k => b102 + 1 ≤ k) (fun _ _ q => q.elim) (fun _ q _ => q)
       have hS411 := hO408.read (Z' := fun k => b102 + 1 ≤ k) (fun _ _ q => q.elim) (fun _ q _ => q)
       refine V.pl [([0,1],some (2,[0])),([3,4,6],some (5,[0])),([7,8],some (9,[])),([10],none)] fun w412 hF413 hsw412 => ?_
       have hF_414 := hF_350.new hF413
       have hB6_415 := hB6_351.fr0 hF413
       have hB405_418 := hB405.fr0 hF413
       have hS409_419 := hS409.fr0 hF413
       have hS410_420 := hS410.fr0 hF413
       have hS411_421 := hS411.fr0 hF413
       refine V.pe h358 [(0, .bs hB405_418 0 [.string X.key, .int .i64 X.k, .string X.s, .slice Al399 X.l.length cl400, .slice Az401 X.z.length cz402, .slice Ah403 X.h.length ch404, .int .i64 X.till]), (0, .bs hB405_418 0 [.string X.key, .int .i64 X.k, .string X.s, .slice Al399 X.l.length cl400, .slice Az401 X.z.length cz402, .slice Ah403 X.h.length ch404, .int .i64 X.till])] 1 0 [(79, .agg #[.string X.key, .int .i64 X.k, .string X.s, .slice Al399 X.l.length cl400, .slice Az401 X.z.length cz402, .slice Ah403 X.h.length ch404, .int .i64 X.till]), (80, .agg #[.string X.key, .int .i64 X.k, .string X.s, .slice Al399 X.l.length cl400, .slice Az401 X.z.length cz402, .slice Ah403 X.h.length ch404, .int .i64 X.till])] fun a h422 => ?_
       refine V.cl h422 (Go.Proofs.enters_of Tryz.func54 (by kernel_rfl) rfl) (entry_any w412 X.key X.k X.s Al399 cl400 X.l hS409_419.old Az401 cz402 X.z hS410_420.old Ah403 ch404 X.h hS411_421.old X.till (by omega) (by omega) (by omega) (fun y hy => by have := (hX4 y hy).1; unfold maxLen; omega)) ?_
       rintro _ w424 ⟨rfl, hF423⟩
       refine ⟨_, rfl, fun a h425 => ?_⟩
       have hsw424 := hF423.size
       have hF_426 := hF_414.new hF423
       have hB6_427 := hB6_415.fr0 hF423
       have hB405_430 := hB405_418.fr0 hF423
       have hS409_431 := hS409_419.fr0 hF423
       have hS410_432 := hS410_420.fr0 hF423
       have hS411_433 := hS411_421.fr0 hF423
       refine V.eh (fun _ => held_blk (n := 7) (hx := (h422.e (v := (.pointer (some ⟨b102, 0, none⟩))))) hB405_418 hB405_430 (by kernel_rfl) rfl (by simp only [List.length]; omega)) ?_
       refine V.pe0 ?_
       refine V.run h425 [] 1 1 0 [(82, .bool (bP (okE X.key X.till (okV X.k X.s X.l X.z X.h))))] fun a h434 => ?_
       by_cases hg435 : (bP (okE X.key X.till (okV X.k X.s X.l X.z X.h))) = true
       ·
        have h436 := h434.kbt 82 hg435
        refine V.se h436 [(0, .bs hB405_430 0 [.string X.key, .int .i64 X.k, .string X.s, .slice Al399 X.l.length cl400, .slice Az401 X.z.length cz402, .slice Ah403 X.h.length ch404, .int .i64 X.till])] 1 0 [(83, .agg #[.string X.key, .int .i64 X.k, .string X.s, .slice Al399 X.l.length cl400, .slice Az401 X.z.length cz402, .slice Ah403 X.h.length ch404, .int .i64 X.till]), (85, .string s)] fun a h437 => ?_
        obtain ⟨hek, het, heh⟩ := ent_good (x := X) (bP_of (by assumption)) ⟨hX1, hX2, hX3, hX4⟩
        have hll439 := lnD_len (k := X.k) hek het heh
        refine V.clg h437 (Go.Proofs.enters_of Tryz.func36 (by kernel_rfl) rfl) (line_any w424 X.key X.k X.s Al399 cl400 X.l hS409_431.old Az401 cz402 X.z hS410_432.old Ah403 ch404 X.h hS411_433.old X.till hek het heh (hV.fr hF_426)) ?_
        rintro _ w440 ⟨rfl, hF438⟩
        refine ⟨_, rfl, fun a h441 => ?_⟩
        have hsw440 := hF438.size
        have hF_442 := hF_426.new hF438
        have hB6_443 := hB6_427.fr0 hF438
        have hB405_446 := hB405_430.fr0 hF438
        have hS409_447 := hS409_431.fr0 hF438
        have hS410_448 := hS410_432.fr0 hF438
        have hS411_449 := hS411_433.fr0 hF438
        refine V.eh (fun _ => held_blk (n := 7) (hx := (h437.e (v := (.pointer (some ⟨b102, 0, none⟩))))) hB405_430 hB405_446 (by kernel_rfl) rfl (by simp only [List.length]; omega)) ?_
        refine V.pe h441 [(0, .seq (lnD X.key X.k X.s X.l X.z X.h X.till) s)] 86 86 [(87, .bool (decide ((lnD X.key X.k X.s X.l X.z X.h X.till) = s)))] fun a h450 => ?_
        refine V.go (V.stn b4 0 (.agg #[.string X.key, .int .i64 X.k, .string X.s, .slice Al399 X.l.length cl400, .slice Az401 X.z.length cz402, .slice Ah403 X.h.length ch404, .int .i64 X.till]) [.string X.key, .int .i64 X.k, .string X.s, .slice Al399 X.l.length cl400, .slice Az401 X.z.length cz402, .slice Ah403 X.h.length ch404, .int .i64 X.till] h450.e h450.e rfl rfl (by kernel_rfl) hB6_443 (by simp) [.string X.key, .int .i64 X.k, .string X.s, .slice Al399 X.l.length cl400, .slice Az401 X.z.length cz402, .slice Ah403 X.h.length ch404, .int .i64 X.till] rfl ?_)
        intro w451 hB452 hF453 hsw451
        have hF_454 := hF_442.own hF453 (by simp <;> omega)
        have hS409_458 := hS409_447.fr hF453 (by simp <;> omega)
        have hS410_459 := hS410_448.fr hF453 (by simp <;> omega)
        have hS411_460 := hS411_449.fr hF453 (by simp <;> omega)
        refine V.eh trivial ?_
        refine V.pz h450 [] 1 0 [(3, .bool (decide ((lnD X.key X.k X.s X.l X.z X.h X.till) = s)))] fun a h461 => k398 _ _ ?_
        refine V.ret ?_
        refine V.retCT h461.sd rfl _ (h461.e (v := (.pointer (some ⟨b4, 0, none⟩)))) (V.run_loadVar_agg (cs := [.string X.key, .int .i64 X.k, .string X.s, .slice Al399 X.l.length cl400, .slice Az401 X.z.length cz402, .slice Ah403 X.h.length ch404, .int .i64 X.till]) (by kernel_rfl) (blk_cells hB452 0 _ rfl)) (h461.e (v := (.bool (decide ((lnD X.key X.k X.s X.l X.z X.h X.till) = s))))) ?_
        have hXe : X = rdE s := by rw [hX, List.take_of_length_le (by rw [List.length_drop]; omega)]; unfold rdE rdE0 tillD; first | rw [if_pos (by first | assumption | exact Decidable.of_not_not (by assumption))] | rw [if_neg (by assumption)]
        have hpre : rdPre s := ⟨by omega, by omega, nb_yes (by assumption), by first | exact .inl (by assumption) | exact .inl (Decidable.of_not_not (by assumption)) | exact .inr ⟨prC_0.1 (by first | assumption | omega), by omega, by omega⟩, hG.le (by omega)⟩
        have hbb : (decide ((lnD X.key X.k X.s X.l X.z X.h X.till) = s)) = bP (rdOk s) := bP_dec.trans (congrArg bP (propext ⟨fun q => ⟨hpre, hXe ▸ (bP_of (by assumption) : okD X), hXe ▸ q⟩, fun q => hXe.symm ▸ q.2.2⟩))
        exact ⟨_, _, _, _, _, _, _, _, _, _, _, _, _, congrArg (fun b => Ending.returned (Value.tuple #[.agg #[.string X.key, .int .i64 X.k, .string X.s, .slice Al399 X.l.length cl400, .slice Az401 X.z.length cz402, .slice Ah403 X.h.length ch404, .int .i64 X.till], Value.bool b])) hbb, hF_454, fun _ => hXe ▸ (⟨_, _, _, rfl, hS409_458.zone (fun k _ h => by (try dsimp only at h); omega), hS410_459.zone (fun k _ h => by (try dsimp only at h); omega), hS411_460.zone (fun k _ h => by (try dsimp only at h); omega)⟩ : enR.ok _ _ X _)⟩
       ·
        have h462 := h434.kbf 82 hg435
        refine V.se h462 [] 1 0 [(83, undef), (85, undef)] fun a h463 => ?_
        refine V.run h463 [] 1 1 0 [(84, undef)] fun a h464 => ?_
        refine V.eh (fun _ => held_blk (n := 7) (hx := (h463.e (v := (.pointer (some ⟨b102, 0, none⟩))))) hB405_430 hB405_430 (by kernel_rfl) rfl (by simp only [List.length]; omega)) ?_
        refine V.pe h464 [] 86 86 [(87, .bool false)] fun a h465 => ?_
        refine V.go (V.stn b4 0 (.agg #[.string X.key, .int .i64 X.k, .string X.s, .slice Al399 X.l.length cl400, .slice Az401 X.z.length cz402, .slice Ah403 X.h.length ch404, .int .i64 X.till]) [.string X.key, .int .i64 X.k, .string X.s, .slice Al399 X.l.length cl400, .slice Az401 X.z.length cz402, .slice Ah403 X.h.length ch404, .int .i64 X.till] h465.e h465.e rfl rfl (by kernel_rfl) hB6_427 (by simp) [.string X.key, .int .i64 X.k, .string X.s, .slice Al399 X.l.length cl400, .slice Az401 X.z.length cz402, .slice Ah403 X.h.length ch404, .int .i64 X.till] rfl ?_)
        intro w466 hB467 hF468 hsw466
        have hF_469 := hF_426.own hF468 (by simp <;> omega)
        have hS409_473 := hS409_431.fr hF468 (by simp <;> omega)
        have hS410_474 := hS410_432.fr hF468 (by simp <;> omega)
        have hS411_475 := hS411_433.fr hF468 (by simp <;> omega)
        refine V.eh trivial ?_
        refine V.pz h465 [] 1 0 [(3, .bool false)] fun a h476 => k398 _ _ ?_
        refine V.ret ?_
        refine V.retCT h476.sd rfl _ (h476.e (v := (.pointer (some ⟨b4, 0, none⟩)))) (V.run_loadVar_agg (cs := [.string X.key, .int .i64 X.k, .string X.s, .slice Al399 X.l.length cl400, .slice Az401 X.z.length cz402, .slice Ah403 X.h.length ch404, .int .i64 X.till]) (by kernel_rfl) (blk_cells hB467 0 _ rfl)) (h476.e (v := (.bool false))) ?_
        have hXe : X = rdE s := by rw [hX, List.take_of_length_le (by rw [List.length_drop]; omega)]; unfold rdE rdE0 tillD; first | rw [if_pos (by first | assumption | exact Decidable.of_not_not (by assumption))] | rw [if_neg (by assumption)]
        have hpre : rdPre s := ⟨by omega, by omega, nb_yes (by assumption), by first | exact .inl (by assumption) | exact .inl (Decidable.of_not_not (by assumption)) | exact .inr ⟨prC_0.1 (by first | assumption | omega), by omega, by omega⟩, hG.le (by omega)⟩
        have hbb : false = bP (rdOk s) := bP_no (fun hq => absurd (bP_yes (show okE X.key X.till (okV X.k X.s X.l X.z X.h) from hXe ▸ hq.2.1)).symm (by assumption))
        exact ⟨_, _, _, _, _, _, _, _, _, _, _, _, _, congrArg (fun b => Ending.returned (Value.tuple #[.agg #[.string X.key, .int .i64 X.k, .string X.s, .slice Al399 X.l.length cl400, .slice Az401 X.z.length cz402, .slice Ah403 X.h.length ch404, .int .i64 X.till], Value.bool b])) hbb, hF_469, fun _ => hXe ▸ (⟨_, _, _, rfl, hS409_473.zone (fun k _ h => by (try dsimp only at h); omega), hS410_474.zone (fun k _ h => by (try dsimp only at h); omega), hS411_475.zone (fun k _ h => by (try dsimp only at h); omega)⟩ : enR.ok _ _ X _)⟩
/-! ### The lines of a text -/
def restN (s : ByteArray) : Nat → ByteArray
  | 0 => s
  | n + 1 => cuB (restN s n) 10
def lineN (s : ByteArray) (n : Nat) : ByteArray := cuA (restN s n) 10
noncomputable def outN (s : ByteArray) (n : Nat) : List EnD := (List.range n).map fun j => rdE (lineN s j)
def gdN (s : ByteArray) (j : Nat) : Prop := rdOk (lineN s j) ∧ ¬ j = 65536 ∧ (0 < j → slt (rdE (lineN s (j - 1))).key (rdE (lineN s j)).key) ∧ cuF (restN s j) 10 = true
theorem outN_len (s : ByteArray) (n : Nat) : (outN s n).length = n := by unfold outN; rw [List.length_map, List.length_range]
theorem outN_next (s : ByteArray) (n : Nat) : outN s (n + 1) = outN s n ++ [rdE (lineN s n)] := by unfold outN; rw [List.range_succ, List.map_append]; rfl
theorem outN_at {s : ByteArray} {n : Nat} (h : 0 < n) : at_ enR (outN s n) (((n : Nat) : Int) - 1) = rdE (lineN s (n - 1)) := by
  rw [show ((n : Nat) : Int) - 1 = ((n - 1 : Nat) : Int) by omega, at_el enR (by rw [outN_len]; omega)]
  unfold outN
  rw [List.getElem_map, List.getElem_range]
theorem cu_lt {s : ByteArray} {c : UInt8} (h : cuF s c = true) : (cuB s c).size + 1 ≤ s.size := by
  have h0 : s.data.toList.length = s.size := Array.length_toList
  have h2 : (cuB s c).size = (Lib.cut s.data.toList [c]).2.1.length := List.size_toArray
  have h3 : (cuF s c) = (Lib.cut s.data.toList [c]).2.2 := rfl
  rw [h3] at h
  rw [h2]
  unfold Lib.cut at h ⊢
  split at h
  · rename_i hix
    rw [if_pos hix]
    show (List.drop _ _).length + 1 ≤ _
    rw [List.length_drop]
    have h4 : ¬ s.data.toList = [] := fun hn => by
      rw [hn] at hix; simp [Lib.index, Lib.hasPrefix] at hix
    have h5 : 0 < s.data.toList.length := List.length_pos_iff.2 h4
    simp only [List.length_singleton]; omega
  · cases h
/-- What Read tells of a text. -/
def RdR (s : ByteArray) (l : List EnD) (i c : Int) : Prop :=
  (s.size > 67108864 ∧ l = [] ∧ i = 0 ∧ c = 2) ∨
  (s.size ≤ 67108864 ∧ ∃ n, (∀ j, j < n → ¬ restN s j = ⟨#[]⟩ ∧ gdN s j) ∧ ((restN s n = ⟨#[]⟩ ∧ l = outN s n ∧ i = 0 ∧ c = 0) ∨ (¬ restN s n = ⟨#[]⟩ ∧ ¬ gdN s n ∧ l = [] ∧ i = n ∧ c = 91)))
theorem en_key {Z : Nat → Prop} {w : World} {x : EnD} {key sv : ByteArray} {k t : Int} {vl vz vh : Value} (h : enR.ok Z w x [.string key, .int .i64 k, .string sv, vl, vz, vh, .int .i64 t]) : key = x.key := by
  obtain ⟨a, b, c, he, _⟩ := h
  injection he with h1 _
  injection h1
theorem en_zone {Z Z' : Nat → Prop} {w : World} {x : EnD} {cs : List Value} (h : enR.ok Z w x cs) (hz : ∀ b, b < w.heap.size → Z b → Z' b) : enR.ok Z' w x cs := enR.mono (fun b hb hq => ⟨hz b hb hq, rfl⟩) (Nat.le_refl _) h
theorem outN_at2 {s : ByteArray} {n : Nat} (h : 0 < n) : at_ enR (outN s n) ((((outN s n).length : Nat) : Int) - 1) = rdE (lineN s (n - 1)) := by rw [outN_len]; exact outN_at h
theorem reads_any (w : World) (s : ByteArray) (hs : s.size ≤ 1099511627776) (hV : Vs w) : Calls Tryz.prog 13 #[.string s] w (fun e w' => ∃ l i c A' c', e = .returned (.tuple #[.slice A' l.length c', .int .i64 i, .int .i64 c]) ∧ SlR enR (fun k => w.heap.size ≤ k) w' (.slice A' l.length c') l ∧ RdR s l i c ∧ Fr [] w w') := by
 have hF := Fr.refl [] w
 have hlo := hV.lo
 refine V.en 65 Tryz.func13 fun a h1 => ?_
 refine V.sr h1 [] 2 4 [] fun a h4 => ?_
 refine V.seq fun K5 k6 => ?_
 refine V.sr h4 [] 12 13 [(14, .bool (decide ((s.size : Int) > 67108864)))] fun a h9 => ?_
 refine V.cp h9 ((s.size : Int) > 67108864) (fun ht10 => ?_) (fun ht10 => ?_)
 ·
  refine V.sr h9 [] 1 0 [(2, .slice none 0 0), (3, .int .i64 0), (4, .int .i64 2)] fun a h13 => ?_
  refine V.ret (V.then_r ?_)
  refine V.r3 h13 (.slice none 0 0) (.int .i64 0) (.int .i64 2) ?_
  exact ⟨[], 0, 2, none, 0, rfl, SlR.nil _ _ _, .inl ⟨by omega, rfl, rfl, rfl⟩, hF⟩
 ·
  refine V.skip ?_
  refine V.then_n (k6 _ _ ?_)
  refine V.sr h9 [] 1 0 [(5, .slice none 0 0)] fun a h16 => ?_
  refine V.seq fun K17 k18 => ?_
  refine V.sr h16 [] 1 0 [(6, .int .i64 0)] fun a h21 => ?_
  refine V.block ?_
  have hO0 := OwR.nil enR (Zi w.heap.size w.heap.size (.slice none 0 0)) w w.heap.size 55
  refine V.loop3 (fun (n : Nat) (A2 : Option Addr) (c2 : Nat) a_ w_ => En 65 [] a_ [(0, .string (restN s n)), (5, .slice A2 ((outN s n).length) c2), (6, .int .i64 (n : Int))] ∧ OwR enR (Zi w.heap.size w_.heap.size (.slice A2 (outN s n).length c2)) w_ w.heap.size 55 (.slice A2 ((outN s n).length) c2) (outN s n) ∧ Fr [] w w_ ∧ (n + (restN s n).size ≤ s.size) ∧ (∀ j, j < n → ¬ restN s j = ⟨#[]⟩ ∧ gdN s j)) (fun (n : Nat) (A2 : Option Addr) (c2 : Nat) => (restN s n).size) 0 none 0 ?_ ?_
  ·
   refine ⟨((h21.eq 5 (v := (.slice none 0 0)) (u := (.slice none ((outN s 0).length) 0)) (rfl)).eq 6 (v := (.int .i64 0)) (u := (.int .i64 (0 : Int))) (V.int_eq (by omega))).only _, hO0, hF, (by show 0 + s.size ≤ s.size; omega), (fun j hj => by omega)⟩
  ·
   rintro n A2 c2 a22 w23 ⟨h24, hO_25, hF_26, hn, hg⟩
   have hfs27 := hF_26.size
   have hol := outN_len s n
   have hO0 := hO_25
   refine V.seq fun K28 k29 => ?_
   refine V.sr h24 [(1, .sne (restN s n) ⟨#[]⟩)] 15 15 [(16, .bool (decide (¬ (restN s n) = ⟨#[]⟩)))] fun a h32 => ?_
   refine V.cp h32 (¬ (restN s n) = ⟨#[]⟩) (fun ht33 => ?_) (fun ht33 => ?_)
   ·
    refine V.skip ?_
    refine V.then_n (k29 _ _ ?_)
    refine V.seq fun K34 k35 => ?_
    refine V.block ?_
    refine V.sg fun K36 k37 => ?_
    refine V.run h32 [] 1 1 0 [(20, .string (restN s n))] fun a h38 => ?_
    have hcl40 := cu_len (restN s n) 10
    refine V.cl h38 (Go.Proofs.enters_of Tryz.func43 (by kernel_rfl) rfl) (cu_any w23 (restN s n) 10 (by omega) (hV.fr hF_26)) ?_
    rintro _ w41 ⟨rfl, hF39⟩
    refine ⟨_, rfl, fun a h42 => ?_⟩
    have hsw41 := hF39.size
    have hO_43 := hO_25.fr0 hF39
    have hF_44 := hF_26.new hF39
    refine V.re h42 [] 19 24 [(7, .string (cuA (restN s n) 10)), (8, .string (cuB (restN s n) 10)), (9, .bool (cuF (restN s n) 10))] fun a h45 => k37 _ _ ?_
    refine V.sg fun K46 k47 => ?_
    refine V.run h45 [] 1 1 0 [(26, .string (cuA (restN s n) 10))] fun a h48 => ?_
    refine V.cl h48 (Go.Proofs.enters_of Tryz.func44 (by kernel_rfl) rfl) (read_any w41 (cuA (restN s n) 10) (by omega) (hV.fr hF_44)) ?_
    rintro _ w65 ⟨key49, k50, sv51, Al52, nl53, cl54, Az55, nz56, cz57, Ah58, nh59, ch60, t61, rfl, hF62, hr64⟩
    refine ⟨_, rfl, fun a h66 => ?_⟩
    have hsw65 := hF62.size
    have hO_67 := hO_43.fr0 hF62
    have hF_68 := hF_44.new hF62
    have hq63 := fun hp => en_zone (Z' := fun k => w41.heap.size ≤ k ∧ k < w65.heap.size) (hr64 hp) (fun b hb hz => ⟨hz, hb⟩)
    refine V.run h66 [] 3 25 25 [(28, .agg #[.string key49, .int .i64 k50, .string sv51, .slice Al52 nl53 cl54, .slice Az55 nz56 cz57, .slice Ah58 nh59 ch60, .int .i64 t61]), (29, .bool (bP (rdOk (cuA (restN s n) 10))))] fun a h73 => ?_
    refine V.go (V.mk [] trivial (by kernel_rfl) [.string ⟨#[]⟩, .int .i64 0, .string ⟨#[]⟩, .slice none 0 0, .slice none 0 0, .slice none 0 0, .int .i64 0] 55 (fun b => .pointer (some ⟨b, 0, none⟩)) (by kernel_rfl) ?_)
    intro w70 b69 heb69 hB71 hF72 hsb69
    have hO_74 := hO_67.fr0 hF72
    have hF_75 := hF_68.new hF72
    have hq63_76 := fun hp => enR.mono (fun k hk hz => ⟨hz, hF72.block k hk (by simp)⟩) hF72.size (hq63 hp)
    refine V.pt h73 fun a h77 => ?_
    refine V.go (V.stn b69 0 (.agg #[.string key49, .int .i64 k50, .string sv51, .slice Al52 nl53 cl54, .slice Az55 nz56 cz57, .slice Ah58 nh59 ch60, .int .i64 t61]) [.string key49, .int .i64 k50, .string sv51, .slice Al52 nl53 cl54, .slice Az55 nz56 cz57, .slice Ah58 nh59 ch60, .int .i64 t61] h77.e h77.e rfl rfl (by kernel_rfl) hB71 (by simp) [.string key49, .int .i64 k50, .string sv51, .slice Al52 nl53 cl54, .slice Az55 nz56 cz57, .slice Ah58 nh59 ch60, .int .i64 t61] rfl ?_)
    intro w78 hB79 hF80 hsw78
    have hO_81 := hO_74.frn hF80 (fun h => by have h1 := h.1; have h2 := h.2.1; omega) (by first | exact own_ne hO_74 (by omega) | exact own_ne2 hO_25 (by omega))
    have hF_82 := hF_75.own hF80 (by simp <;> omega)
    have hq63_83 := fun hp => enR.mono (fun k hk hz => ⟨hz, hF80.block k hk (by (try dsimp only at hz); simp <;> omega)⟩) hF80.size (hq63_76 hp)
    refine V.re h77 [] 1 0 [(11, .bool (bP (rdOk (cuA (restN s n) 10))))] fun a h84 => k47 _ _ ?_
    refine V.seq fun K85 k86 => ?_
    refine V.seq fun K87 k88 => ?_
    have hS89 := (hO_81.raise (m := w78.heap.size) (by omega)).readi
    refine V.pl [([0,1,2,3,4,5,6,7,8,9,10,11,12,13,14,15,16,17,18,19,20,21,22,23,24,25,26,27],none)] fun w90 hF91 hsw90 => ?_
    have hO_92 := hO_81.fr0 hF91
    have hF_93 := hF_82.new hF91
    have hq63_94 := fun hp => enR.mono (fun k hk hz => ⟨hz, hF91.block k hk (by simp)⟩) hF91.size (hq63_83 hp)
    have hB79_95 := hB79.fr0 hF91
    have hS89_96 := hS89.fr0 hF91
    refine V.pz0 ?_
    refine V.run h84 [] 3 30 31 [(32, .bool (!(bP (rdOk (cuA (restN s n) 10)))))] fun a h97 => ?_
    by_cases hg98 : (!(bP (rdOk (cuA (restN s n) 10)))) = true
    ·
     have h99 := h97.kbt 32 hg98
     refine V.se h99 [] 35 56 [(33, undef), (34, undef), (37, .bool true), (38, undef), (39, undef), (41, undef), (43, undef), (44, undef), (48, undef), (50, undef), (54, .bool true), (57, .bool true)] fun a h100 => k88 _ _ ?_
     have h101 := h100.only [(0, .string (restN s n)), (5, .slice A2 ((outN s n).length) c2), (6, .int .i64 (n : Int)), (8, .string (cuB (restN s n) 10)), (10, .pointer (some ⟨b69, 0, none⟩)), (57, .bool true)]
     refine V.ct h101 ?_
     refine V.sr h101 [] 58 58 [(2, .slice none 0 0), (3, .int .i64 (n : Int)), (4, .int .i64 91)] fun a h104 => ?_
     refine V.ret (V.then_r (V.blk_r (V.then_r (V.then_r (V.blk_r (V.then_r ?_))))))
     refine V.r3 h104 (.slice none 0 0) (.int .i64 (n : Int)) (.int .i64 91) ?_
     have hno : ¬ gdN s n := fun hgd => by
       obtain ⟨g1, g2, g3, g4⟩ := hgd
       first | exact nb_no (by assumption) g1 | exact nf_no (by assumption) g4 | omega | (have h : slt (rdE (lineN s (n - 1))).key (rdE (cuA (restN s n) 10)).key := g3 (by omega); rw [← outN_at2 (by omega), ← en_key (hq63_94 g1)] at h; exact absurd h (by assumption))
     exact ⟨[], (n : Int), 91, none, 0, rfl, SlR.nil _ _ _, .inr ⟨by omega, n, hg, .inr ⟨by first | assumption | exact Decidable.of_not_not (by assumption), hno, rfl, rfl, rfl⟩⟩, hF_93⟩
    ·
     have h105 := h97.kbf 32 hg98
     refine V.run h105 [(2, .eq (((outN s n).length : Nat) : Int) 65536)] 5 35 36 [(33, .slice A2 ((outN s n).length) c2), (34, .int .i64 (((outN s n).length : Nat) : Int)), (37, .bool (decide ((((outN s n).length : Nat) : Int) = 65536)))] fun a h106 => ?_
     by_cases hg107 : (((outN s n).length : Nat) : Int) = 65536
     ·
      have h108 := h106.kt 37 hg107
      refine V.se h108 [] 40 56 [(38, undef), (39, undef), (41, undef), (43, undef), (44, undef), (48, undef), (50, undef), (54, .bool true), (57, .bool true)] fun a h109 => k88 _ _ ?_
      have h110 := h109.only [(0, .string (restN s n)), (5, .slice A2 ((outN s n).length) c2), (6, .int .i64 (n : Int)), (8, .string (cuB (restN s n) 10)), (10, .pointer (some ⟨b69, 0, none⟩)), (57, .bool true)]
      refine V.ct h110 ?_
      refine V.sr h110 [] 58 58 [(2, .slice none 0 0), (3, .int .i64 (n : Int)), (4, .int .i64 91)] fun a h113 => ?_
      refine V.ret (V.then_r (V.blk_r (V.then_r (V.then_r (V.blk_r (V.then_r ?_))))))
      refine V.r3 h113 (.slice none 0 0) (.int .i64 (n : Int)) (.int .i64 91) ?_
      have hno : ¬ gdN s n := fun hgd => by
        obtain ⟨g1, g2, g3, g4⟩ := hgd
        first | exact nb_no (by assumption) g1 | exact nf_no (by assumption) g4 | omega | (have h : slt (rdE (lineN s (n - 1))).key (rdE (cuA (restN s n) 10)).key := g3 (by omega); rw [← outN_at2 (by omega), ← en_key (hq63_94 g1)] at h; exact absurd h (by assumption))
      exact ⟨[], (n : Int), 91, none, 0, rfl, SlR.nil _ _ _, .inr ⟨by omega, n, hg, .inr ⟨by first | assumption | exact Decidable.of_not_not (by assumption), hno, rfl, rfl, rfl⟩⟩, hF_93⟩
     ·
      have h114 := h106.kf 37 hg107
      refine V.run h114 [] 4 40 40 [(38, .slice A2 ((outN s n).length) c2), (39, .int .i64 (((outN s n).length : Nat) : Int)), (41, .bool (decide ((((outN s n).length : Nat) : Int) > 0)))] fun a h115 => ?_
      by_cases hg116 : (((outN s n).length : Nat) : Int) > 0
      ·
       have h117 := h115.kt 41 hg116
       obtain ⟨g118, o119, hA120, hA120l, hA120z⟩ := hS89_96.addr (by omega)
       obtain ⟨cs121, hok122, hE123⟩ := hS89_96.els hA120 ((((outN s n).length : Nat) : Int) - 1) (by omega) (by omega)
       obtain ⟨Al124, cl125, Az126, cz127, Ah128, ch129, rfl, hS130, hS131, hS132⟩ := en_open hok122
       refine V.run h117 [(3, .i ((((outN s n).length : Nat) : Int) - 1)), (0, .ix g118 o119 ((outN s n).length) c2 .i64 ((((outN s n).length : Nat) : Int) - 1) 7 hA120), (1, .l ⟨g118, o119 + ((((outN s n).length : Nat) : Int) - 1).toNat * 7, none⟩ (.string ((at_ enR (outN s n) ((((outN s n).length : Nat) : Int) - 1)).key)) (hE123.at 0 rfl)), (1, .b hB79_95 0), (0, .q (.bool (decide (¬ slt ((at_ enR (outN s n) ((((outN s n).length : Nat) : Int) - 1)).key) key49))) V.t_sgeq)] 13 42 53 [(43, .slice A2 ((outN s n).length) c2), (44, .int .i64 (((outN s n).length : Nat) : Int)), (48, .string ((at_ enR (outN s n) ((((outN s n).length : Nat) : Int) - 1)).key)), (50, .string key49), (54, .bool (decide (¬ slt ((at_ enR (outN s n) ((((outN s n).length : Nat) : Int) - 1)).key) key49)))] fun a h133 => ?_
       by_cases hg134 : ¬ slt ((at_ enR (outN s n) ((((outN s n).length : Nat) : Int) - 1)).key) key49
       ·
        have h135 := h133.kt 54 hg134
        refine V.se h135 [] 55 56 [(57, .bool true)] fun a h136 => k88 _ _ ?_
        have h137 := h136.only [(0, .string (restN s n)), (5, .slice A2 ((outN s n).length) c2), (6, .int .i64 (n : Int)), (8, .string (cuB (restN s n) 10)), (10, .pointer (some ⟨b69, 0, none⟩)), (57, .bool true)]
        refine V.ct h137 ?_
        refine V.sr h137 [] 58 58 [(2, .slice none 0 0), (3, .int .i64 (n : Int)), (4, .int .i64 91)] fun a h140 => ?_
        refine V.ret (V.then_r (V.blk_r (V.then_r (V.then_r (V.blk_r (V.then_r ?_))))))
        refine V.r3 h140 (.slice none 0 0) (.int .i64 (n : Int)) (.int .i64 91) ?_
        have hno : ¬ gdN s n := fun hgd => by
          obtain ⟨g1, g2, g3, g4⟩ := hgd
          first | exact nb_no (by assumption) g1 | exact nf_no (by assumption) g4 | omega | (have h : slt (rdE (lineN s (n - 1))).key (rdE (cuA (restN s n) 10)).key := g3 (by omega); rw [← outN_at2 (by omega), ← en_key (hq63_94 g1)] at h; exact absurd h (by assumption))
        exact ⟨[], (n : Int), 91, none, 0, rfl, SlR.nil _ _ _, .inr ⟨by omega, n, hg, .inr ⟨by first | assumption | exact Decidable.of_not_not (by assumption), hno, rfl, rfl, rfl⟩⟩, hF_93⟩
       ·
        have h141 := h133.kf 54 hg134
        refine V.se h141 [] 55 56 [(57, .bool (!(cuF (restN s n) 10)))] fun a h142 => k88 _ _ ?_
        have h143 := h142.only [(0, .string (restN s n)), (5, .slice A2 ((outN s n).length) c2), (6, .int .i64 (n : Int)), (8, .string (cuB (restN s n) 10)), (10, .pointer (some ⟨b69, 0, none⟩)), (57, .bool (!(cuF (restN s n) 10)))]
        refine V.cb h143 (!(cuF (restN s n) 10)) (fun ht144 => ?_) (fun ht144 => ?_)
        ·
         refine V.sr h143 [] 58 58 [(2, .slice none 0 0), (3, .int .i64 (n : Int)), (4, .int .i64 91)] fun a h147 => ?_
         refine V.ret (V.then_r (V.blk_r (V.then_r (V.then_r (V.blk_r (V.then_r ?_))))))
         refine V.r3 h147 (.slice none 0 0) (.int .i64 (n : Int)) (.int .i64 91) ?_
         have hno : ¬ gdN s n := fun hgd => by
           obtain ⟨g1, g2, g3, g4⟩ := hgd
           first | exact nb_no (by assumption) g1 | exact nf_no (by assumption) g4 | omega | (have h : slt (rdE (lineN s (n - 1))).key (rdE (cuA (restN s n) 10)).key := g3 (by omega); rw [← outN_at2 (by omega), ← en_key (hq63_94 g1)] at h; exact absurd h (by assumption))
         exact ⟨[], (n : Int), 91, none, 0, rfl, SlR.nil _ _ _, .inr ⟨by omega, n, hg, .inr ⟨by first | assumption | exact Decidable.of_not_not (by assumption), hno, rfl, rfl, rfl⟩⟩, hF_93⟩
        ·
         refine V.skip ?_
         refine V.then_n (k86 _ _ ?_)
         refine V.seq fun K148 k149 => ?_
         have hok1 : rdOk (lineN s n) := nb_yes (by assumption)
         have hkk := en_key (hq63_94 hok1)
         have hcf : cuF (restN s n) 10 = true := nf_yes (by assumption)
         have hclt := cu_lt hcf
         have hgd : gdN s n := ⟨hok1, by omega, fun h0 => by first | omega | (show slt (rdE (lineN s (n - 1))).key (rdE (cuA (restN s n) 10)).key; rw [← outN_at2 (s := s) h0, ← hkk]; first | assumption | exact Decidable.of_not_not (by assumption)), hcf⟩
         refine V.rg ?_
         refine V.run h143 [(1, .bs hB79_95 0 [.string key49, .int .i64 k50, .string sv51, .slice Al52 nl53 cl54, .slice Az55 nz56 cz57, .slice Ah58 nh59 ch60, .int .i64 t61])] 2 1 0 [(59, .slice A2 ((outN s n).length) c2), (60, .agg #[.string key49, .int .i64 k50, .string sv51, .slice Al52 nl53 cl54, .slice Az55 nz56 cz57, .slice Ah58 nh59 ch60, .int .i64 t61])] fun a h150 => ?_
         refine V.go (V.mk [(60, .agg #[.string key49, .int .i64 k50, .string sv51, .slice Al52 nl53 cl54, .slice Az55 nz56 cz57, .slice Ah58 nh59 ch60, .int .i64 t61])] ⟨h150.e, trivial⟩ (by kernel_rfl) [.string key49, .int .i64 k50, .string sv51, .slice Al52 nl53 cl54, .slice Az55 nz56 cz57, .slice Ah58 nh59 ch60, .int .i64 t61] 55 (fun b => .slice (some ⟨b, 0, none⟩) 1 1) (by kernel_rfl) ?_)
         intro w152 b151 heb151 hB153 hF154 hsb151
         have hO_155 := hO_92.fr0 hF154
         have hF_156 := hF_93.new hF154
         have hq63_157 := fun hp => enR.mono (fun k hk hz => ⟨hz, hF154.block k hk (by simp)⟩) hF154.size (hq63_94 hp)
         refine V.pt h150 fun a h160 => ?_
         refine V.go (V.app (R := enR) (ys := ([rdE (lineN s n)])) (news := [(.string key49), (.int .i64 k50), (.string sv51), (.slice Al52 nl53 cl54), (.slice Az55 nz56 cz57), (.slice Ah58 nh59 ch60), (.int .i64 t61)]) (h160.e (v := (.slice A2 ((outN s n).length) c2))) ⟨b151, 0, none⟩ 1 1 (h160.e (v := (.slice (some ⟨b151, 0, none⟩) 1 1))) (by kernel_rfl) (info55) (by kernel_rfl) (by decide) (hO_155.raise (m := w152.heap.size) (by omega)) rfl ⟨_, [], rfl, en_zone (hq63_157 hok1) (fun b hb hz => ⟨by (try dsimp only at hz); omega, hb, fun e => by have := (hO0.lt _ e).2; (try dsimp only at hz); omega⟩), rfl⟩ (blk_cells hB153 0 _ rfl) (by first | omega | (simp; omega)) (by decide) (by omega) ?_)
         intro A161 c162 w163 hO164z hF165 hatw163
         have hsw163 := hF165.size
         have hF_166 := hF_156.own hF165 (own_ge hO_155 (by omega))
         have hO164 := hO164z.zi hatw163
         refine V.pt h160 fun a h168 => ?_
         refine V.re h168 [] 1 0 [(5, .slice A161 (((outN s n).length) + 1) c162)] fun a h169 => k149 _ _ ?_
         refine V.rr h169 [] 63 63 [(0, .string (cuB (restN s n) 10))] fun a h170 => ?_
         refine V.blk_n ?_
         refine V.then_n (k35 _ _ ?_)
         refine V.rr h170 [(1, .i ((n : Int) + 1))] 17 18 [(6, .int .i64 ((n : Int) + 1))] fun a h171 => ?_
         refine V.then_n ?_
         have hqs := outN_next s n
         refine ⟨n + 1, A161, c162, by show (cuB (restN s n) 10).size < (restN s n).size; omega, ?_⟩
         refine ⟨(((h171.eq 0 (v := (.string (cuB (restN s n) 10))) (u := (.string (restN s (n + 1)))) (rfl)).eq 5 (v := (.slice A161 (((outN s n).length) + 1) c162)) (u := (.slice A161 ((outN s (n + 1)).length) c162)) (V.sl_eq (by rw [hqs]; simp))).eq 6 (v := (.int .i64 ((n : Int) + 1))) (u := (.int .i64 ((n + 1) : Int))) (V.int_eq (by omega))).only _, (by rw [hqs]; simpa using hO164.raise (m := w163.heap.size) (by omega)), hF_166, (by show n + 1 + (cuB (restN s n) 10).size ≤ s.size; omega), (fun j hj => by rcases Nat.lt_or_ge j n with h1 | h1; exact hg j h1; obtain rfl : j = n := (by omega); exact ⟨by assumption, hgd⟩)⟩
      ·
       have h172 := h115.kf 41 hg116
       refine V.se h172 [] 42 56 [(43, undef), (44, undef), (48, undef), (50, undef), (54, .bool false), (57, .bool (!(cuF (restN s n) 10)))] fun a h173 => k88 _ _ ?_
       have h174 := h173.only [(0, .string (restN s n)), (5, .slice A2 ((outN s n).length) c2), (6, .int .i64 (n : Int)), (8, .string (cuB (restN s n) 10)), (10, .pointer (some ⟨b69, 0, none⟩)), (57, .bool (!(cuF (restN s n) 10)))]
       refine V.cb h174 (!(cuF (restN s n) 10)) (fun ht175 => ?_) (fun ht175 => ?_)
       ·
        refine V.sr h174 [] 58 58 [(2, .slice none 0 0), (3, .int .i64 (n : Int)), (4, .int .i64 91)] fun a h178 => ?_
        refine V.ret (V.then_r (V.blk_r (V.then_r (V.then_r (V.blk_r (V.then_r ?_))))))
        refine V.r3 h178 (.slice none 0 0) (.int .i64 (n : Int)) (.int .i64 91) ?_
        have hno : ¬ gdN s n := fun hgd => by
          obtain ⟨g1, g2, g3, g4⟩ := hgd
          first | exact nb_no (by assumption) g1 | exact nf_no (by assumption) g4 | omega | (have h : slt (rdE (lineN s (n - 1))).key (rdE (cuA (restN s n) 10)).key := g3 (by omega); rw [← outN_at2 (by omega), ← en_key (hq63_94 g1)] at h; exact absurd h (by assumption))
        exact ⟨[], (n : Int), 91, none, 0, rfl, SlR.nil _ _ _, .inr ⟨by omega, n, hg, .inr ⟨by first | assumption | exact Decidable.of_not_not (by assumption), hno, rfl, rfl, rfl⟩⟩, hF_93⟩
       ·
        refine V.skip ?_
        refine V.then_n (k86 _ _ ?_)
        refine V.seq fun K179 k180 => ?_
        have hok1 : rdOk (lineN s n) := nb_yes (by assumption)
        have hkk := en_key (hq63_94 hok1)
        have hcf : cuF (restN s n) 10 = true := nf_yes (by assumption)
        have hclt := cu_lt hcf
        have hgd : gdN s n := ⟨hok1, by omega, fun h0 => by first | omega | (show slt (rdE (lineN s (n - 1))).key (rdE (cuA (restN s n) 10)).key; rw [← outN_at2 (s := s) h0, ← hkk]; first | assumption | exact Decidable.of_not_not (by assumption)), hcf⟩
        refine V.rg ?_
        refine V.run h174 [(1, .bs hB79_95 0 [.string key49, .int .i64 k50, .string sv51, .slice Al52 nl53 cl54, .slice Az55 nz56 cz57, .slice Ah58 nh59 ch60, .int .i64 t61])] 2 1 0 [(59, .slice A2 ((outN s n).length) c2), (60, .agg #[.string key49, .int .i64 k50, .string sv51, .slice Al52 nl53 cl54, .slice Az55 nz56 cz57, .slice Ah58 nh59 ch60, .int .i64 t61])] fun a h181 => ?_
        refine V.go (V.mk [(60, .agg #[.string key49, .int .i64 k50, .string sv51, .slice Al52 nl53 cl54, .slice Az55 nz56 cz57, .slice Ah58 nh59 ch60, .int .i64 t61])] ⟨h181.e, trivial⟩ (by kernel_rfl) [.string key49, .int .i64 k50, .string sv51, .slice Al52 nl53 cl54, .slice Az55 nz56 cz57, .slice Ah58 nh59 ch60, .int .i64 t61] 55 (fun b => .slice (some ⟨b, 0, none⟩) 1 1) (by kernel_rfl) ?_)
        intro w183 b182 heb182 hB184 hF185 hsb182
        have hO_186 := hO_92.fr0 hF185
        have hF_187 := hF_93.new hF185
        have hq63_188 := fun hp => enR.mono (fun k hk hz => ⟨hz, hF185.block k hk (by simp)⟩) hF185.size (hq63_94 hp)
        refine V.pt h181 fun a h190 => ?_
        refine V.go (V.app (R := enR) (ys := ([rdE (lineN s n)])) (news := [(.string key49), (.int .i64 k50), (.string sv51), (.slice Al52 nl53 cl54), (.slice Az55 nz56 cz57), (.slice Ah58 nh59 ch60), (.int .i64 t61)]) (h190.e (v := (.slice A2 ((outN s n).length) c2))) ⟨b182, 0, none⟩ 1 1 (h190.e (v := (.slice (some ⟨b182, 0, none⟩) 1 1))) (by kernel_rfl) (info55) (by kernel_rfl) (by decide) (hO_186.raise (m := w183.heap.size) (by omega)) rfl ⟨_, [], rfl, en_zone (hq63_188 hok1) (fun b hb hz => ⟨by (try dsimp only at hz); omega, hb, fun e => by have := (hO0.lt _ e).2; (try dsimp only at hz); omega⟩), rfl⟩ (blk_cells hB184 0 _ rfl) (by first | omega | (simp; omega)) (by decide) (by omega) ?_)
        intro A191 c192 w193 hO194z hF195 hatw193
        have hsw193 := hF195.size
        have hF_196 := hF_187.own hF195 (own_ge hO_186 (by omega))
        have hO194 := hO194z.zi hatw193
        refine V.pt h190 fun a h198 => ?_
        refine V.re h198 [] 1 0 [(5, .slice A191 (((outN s n).length) + 1) c192)] fun a h199 => k180 _ _ ?_
        refine V.rr h199 [] 63 63 [(0, .string (cuB (restN s n) 10))] fun a h200 => ?_
        refine V.blk_n ?_
        refine V.then_n (k35 _ _ ?_)
        refine V.rr h200 [(1, .i ((n : Int) + 1))] 17 18 [(6, .int .i64 ((n : Int) + 1))] fun a h201 => ?_
        refine V.then_n ?_
        have hqs := outN_next s n
        refine ⟨n + 1, A191, c192, by show (cuB (restN s n) 10).size < (restN s n).size; omega, ?_⟩
        refine ⟨(((h201.eq 0 (v := (.string (cuB (restN s n) 10))) (u := (.string (restN s (n + 1)))) (rfl)).eq 5 (v := (.slice A191 (((outN s n).length) + 1) c192)) (u := (.slice A191 ((outN s (n + 1)).length) c192)) (V.sl_eq (by rw [hqs]; simp))).eq 6 (v := (.int .i64 ((n : Int) + 1))) (u := (.int .i64 ((n + 1) : Int))) (V.int_eq (by omega))).only _, (by rw [hqs]; simpa using hO194.raise (m := w193.heap.size) (by omega)), hF_196, (by show n + 1 + (cuB (restN s n) 10).size ≤ s.size; omega), (fun j hj => by rcases Nat.lt_or_ge j n with h1 | h1; exact hg j h1; obtain rfl : j = n := (by omega); exact ⟨by assumption, hgd⟩)⟩
   ·
    refine V.exit (V.then_e (V.then_e (V.blk_hit ?_)))
    refine V.then_n (k18 _ _ ?_)
    refine V.sr h32 [] 64 64 [(2, .slice A2 ((outN s n).length) c2), (3, .int .i64 0), (4, .int .i64 0)] fun a h204 => ?_
    refine V.ret ?_
    refine V.r3 h204 (.slice A2 ((outN s n).length) c2) (.int .i64 0) (.int .i64 0) ?_
    exact ⟨outN s n, 0, 0, _, _, rfl, (hO_25.raise (m := w23.heap.size) (by omega)).readi, .inr ⟨by omega, n, hg, .inl ⟨by first | assumption | exact Decidable.of_not_not (by assumption), rfl, rfl, rfl⟩⟩, hF_26⟩
/-! ### alive: one row's text, one text's row -/
def knownD : List EnD := [⟨⟨#[107]⟩, 4, ⟨#[]⟩, [], [(⟨#[98]⟩, -1), (⟨#[97]⟩, 3)], [], -1⟩]
theorem known_txt : txB knownD = [122, 115, 101, 116, 32, 54, 98, 32, 45, 32, 54, 50, 58, 45, 49, 32, 54, 49, 58, 51, 10] := by decide +kernel
def oneL : ByteArray := ⟨#[115, 116, 114, 105, 110, 103, 32, 54, 98, 32, 53, 32, 46]⟩
def oneE : EnD := ⟨⟨#[107]⟩, 1, ⟨#[]⟩, [], [], [], 5⟩
theorem one_spl : spl oneL = [⟨#[115, 116, 114, 105, 110, 103]⟩, ⟨#[54, 98]⟩, ⟨#[53]⟩, ⟨#[46]⟩] := by decide +kernel
theorem one_hex : (uhOk ⟨#[54, 98]⟩ ∧ unhexS ⟨#[54, 98]⟩ = ⟨#[107]⟩) ∧ (uhOk ⟨#[46]⟩ ∧ unhexS ⟨#[46]⟩ = ⟨#[]⟩) := by
  have h1 : uhOk ⟨#[54, 98]⟩ := .inr ⟨by decide, by decide, fun i hi => by
    have hi' : i < 2 := hi
    match i, hi' with
    | 0, _ => unfold uhG; decide +kernel
    | 1, _ => unfold uhG; decide +kernel⟩
  exact ⟨⟨h1, (uh_yes (by decide) h1).1.symm.trans (by decide +kernel)⟩, .inl rfl, (uh_dot rfl).1.symm⟩
theorem one_num : prOk ⟨#[53]⟩ ∧ prN ⟨#[53]⟩ = 5 := by
  have h : itoaS 5 = ⟨#[53]⟩ := by decide +kernel
  have hi : i64 5 := by unfold i64; omega
  exact ⟨⟨5, hi, h⟩, (pr_yes hi h).1.symm⟩
theorem one_rdE : rdE oneL = oneE := by
  unfold rdE rdE0
  rw [one_spl]
  have e0 : at_ Rp.str [⟨#[115, 116, 114, 105, 110, 103]⟩, ⟨#[54, 98]⟩, ⟨#[53]⟩, ⟨#[46]⟩] 0 = ⟨#[115, 116, 114, 105, 110, 103]⟩ := rfl
  have e1 : at_ Rp.str [⟨#[115, 116, 114, 105, 110, 103]⟩, ⟨#[54, 98]⟩, ⟨#[53]⟩, ⟨#[46]⟩] 1 = ⟨#[54, 98]⟩ := rfl
  have e2 : at_ Rp.str [⟨#[115, 116, 114, 105, 110, 103]⟩, ⟨#[54, 98]⟩, ⟨#[53]⟩, ⟨#[46]⟩] 2 = ⟨#[53]⟩ := rfl
  rw [e0, e1, e2, one_hex.1.2]
  have ek : kindI ⟨#[115, 116, 114, 105, 110, 103]⟩ = 1 := by decide +kernel
  have et : tillD ⟨#[53]⟩ = 5 := by unfold tillD; rw [if_neg (by decide)]; exact one_num.2
  rw [ek, et]
  simp only [List.drop_succ_cons, List.drop_zero, List.foldl_cons, List.foldl_nil]
  unfold ptE
  rw [if_pos rfl, one_hex.2.2]
  rfl
theorem one_ok : rdOk oneL := by
  have hp : rdPre oneL := by
    unfold rdPre
    rw [one_spl]
    refine ⟨by decide, by decide +kernel, one_hex.1.1, .inr ⟨one_num.1, ?_⟩, fun i hi => ?_⟩
    · show 0 ≤ prN ⟨#[53]⟩ ∧ prN ⟨#[53]⟩ ≤ 1099511627776
      rw [one_num.2]; decide
    · have hi' : i < 1 := hi
      obtain rfl : i = 0 := by omega
      unfold gP
      rw [one_spl]
      show ptOk (kindI ⟨#[115, 116, 114, 105, 110, 103]⟩) ⟨#[46]⟩
      rw [show kindI ⟨#[115, 116, 114, 105, 110, 103]⟩ = 1 by decide +kernel]
      unfold ptOk
      rw [if_neg (by decide), if_neg (by decide)]
      exact one_hex.2.1
  refine ⟨hp, ?_, ?_⟩
  · rw [one_rdE]
    refine ⟨by decide, .inr ⟨by decide, by decide⟩, ?_⟩
    unfold okV
    rw [if_pos (show oneE.k = 1 from rfl)]
    exact ⟨by decide, rfl, rfl, rfl⟩
  · rw [one_rdE]
    decide +kernel
/-- A row that lies in a block, whole. -/
theorem slr_blk {α : Type} {R : Rp α} {Z : Nat → Prop} {w : World} {b e n : Nat} {cs : List Value} {xs : List α} (hB : Blk w b cs e) (hn : n = xs.length) (hz : Z b) (hl : xs.length ≤ 9223372036854775807) (hc : Cells R Z w xs cs) : SlR R Z w (.slice (some ⟨b, 0, none⟩) n n) xs := by
  subst hn
  refine ⟨_, _, rfl, Nat.le_refl _, hl, fun i x hi => ?_⟩
  obtain ⟨c, h1, h2⟩ := hc.get i x hi
  exact ⟨b, 0, c, rfl, hz, hB.lt, h1, fun j u hj => by rw [hB.cell, Nat.zero_add]; exact h2 j u hj⟩
theorem known_any (w : World)  : Calls Tryz.prog 47 #[] w (fun e w' => ∃ A c, e = .returned (.slice A knownD.length c) ∧ SlR enR (fun k => w.heap.size ≤ k) w' (.slice A knownD.length c) knownD ∧ Fr [] w w') := by
 have hF := Fr.refl [] w
 refine V.en 7 Tryz.func47 fun a h1 => ?_
 refine V.sr h1 [] 0 0 [] fun a h4 => ?_
 refine V.sg fun K5 k6 => ?_
 refine V.run h4 [] 2 1 0 [(1, .agg #[.string ⟨#[98]⟩, .int .i64 (-1)]), (2, .agg #[.string ⟨#[97]⟩, .int .i64 3])] fun a h7 => ?_
 refine V.go (V.mk [(1, .agg #[.string ⟨#[98]⟩, .int .i64 (-1)]), (2, .agg #[.string ⟨#[97]⟩, .int .i64 3])] ⟨h7.e, h7.e, trivial⟩ (by kernel_rfl) [.string ⟨#[98]⟩, .int .i64 (-1), .string ⟨#[97]⟩, .int .i64 3] 98 (fun b => .slice (some ⟨b, 0, none⟩) 2 2) (by kernel_rfl) ?_)
 intro w9 b8 heb8 hB10 hF11 hsb8
 have hF_12 := hF.new hF11
 refine V.pt h7 fun a h13 => ?_
 refine V.run h13 [] 2 4 4 [(5, .agg #[.string ⟨#[107]⟩, .int .i64 4, .string ⟨#[]⟩, .slice none 0 0, .slice (some ⟨b8, 0, none⟩) 2 2, .slice none 0 0, .int .i64 (-1)])] fun a h14 => ?_
 refine V.go (V.mk [(5, .agg #[.string ⟨#[107]⟩, .int .i64 4, .string ⟨#[]⟩, .slice none 0 0, .slice (some ⟨b8, 0, none⟩) 2 2, .slice none 0 0, .int .i64 (-1)])] ⟨h14.e, trivial⟩ (by kernel_rfl) [.string ⟨#[107]⟩, .int .i64 4, .string ⟨#[]⟩, .slice none 0 0, .slice (some ⟨b8, 0, none⟩) 2 2, .slice none 0 0, .int .i64 (-1)] 55 (fun b => .slice (some ⟨b, 0, none⟩) 1 1) (by kernel_rfl) ?_)
 intro w16 b15 heb15 hB17 hF18 hsb15
 have hF_19 := hF_12.new hF18
 have hB10_20 := hB10.fr0 hF18
 refine V.pt h14 fun a h21 => ?_
 refine V.re h21 [] 1 0 [(0, .slice (some ⟨b15, 0, none⟩) 1 1)] fun a h22 => k6 _ _ ?_
 refine V.ret ?_
 refine V.r1 h22 (.slice (some ⟨b15, 0, none⟩) 1 1) ?_
 have hz : SlR scR (fun k => w.heap.size ≤ k) w16 (.slice (some ⟨b8, 0, none⟩) 2 2) [(⟨#[98]⟩, -1), (⟨#[97]⟩, 3)] := slr_blk (R := scR) hB10_20 rfl (by omega) (by decide) ⟨_, _, rfl, rfl, _, _, rfl, rfl, rfl⟩
 exact ⟨_, _, rfl, slr_blk (R := enR) hB17 rfl (by omega) (by decide) ⟨_, [], rfl, ⟨_, _, _, rfl, SlR.nil _ _ _, hz, SlR.nil _ _ _⟩, rfl⟩, hF_19⟩
/-! ### alive's two constants -/
theorem two_set : (setOf (mTx [((⟨#[98]⟩ : ByteArray), (-1 : Int)), (⟨#[97]⟩, 3)] 2)).length = 2 := by
  have hm : mTx [((⟨#[98]⟩ : ByteArray), (-1 : Int)), (⟨#[97]⟩, 3)] 2 = [⟨#[98]⟩, ⟨#[97]⟩] := rfl
  rw [hm]
  have h1 := (setOf_mem [⟨#[98]⟩, ⟨#[97]⟩] ⟨#[98]⟩).2 (by simp)
  have h2 := (setOf_mem [⟨#[98]⟩, ⟨#[97]⟩] ⟨#[97]⟩).2 (by simp)
  have h3 := setOf_len [(⟨#[98]⟩ : ByteArray), ⟨#[97]⟩]
  have h4 : ([⟨#[98]⟩, ⟨#[97]⟩] : List ByteArray).length = 2 := rfl
  generalize setOf [⟨#[98]⟩, ⟨#[97]⟩] = S at h1 h2 h3
  match S, h1, h2, h3 with
  | [x], h1, h2, _ =>
    have e1 := List.mem_singleton.1 h1
    have e2 := List.mem_singleton.1 h2
    exact absurd (e1.trans e2.symm) (by decide)
  | [x, y], _, _, _ => rfl
  | x :: y :: z :: t, _, _, h3 => simp at h3
theorem known_img : imgN knownD = 0 := by
  refine imgN_ok (by decide) fun i hi => ?_
  have hi' : i < 1 := hi
  obtain rfl : i = 0 := by omega
  refine ⟨⟨by decide, .inl rfl, ?_⟩, fun h => absurd h (by omega)⟩
  show okV 4 ⟨#[]⟩ [] [(⟨#[98]⟩, -1), (⟨#[97]⟩, 3)] []
  unfold okV
  rw [if_neg (by decide), if_neg (by decide), if_neg (by decide), if_pos rfl]
  refine ⟨rfl, rfl, rfl, ⟨by decide, by decide⟩, fun j hj => ?_, two_set⟩
  have hj' : j < 2 := hj
  match j, hj' with
  | 0, _ => exact ⟨by decide, fun h => absurd h (by omega)⟩
  | 1, _ => exact ⟨by decide, fun _ => .inl (by decide)⟩
theorem known_bnd : (∀ x ∈ knownD, bndE x) ∧ ∀ e ∈ knownD, ∀ x ∈ e.z, i64 x.2 := by
  constructor
  · intro x hx
    obtain rfl := List.mem_singleton.1 hx
    refine ⟨by decide, by decide, by decide, fun y hy => ?_⟩
    rcases List.mem_cons.1 hy with rfl | hy
    · show 1 ≤ maxLen; unfold maxLen; omega
    · obtain rfl := List.mem_singleton.1 hy
      show 1 ≤ maxLen; unfold maxLen; omega
  · intro e he x hx
    obtain rfl := List.mem_singleton.1 he
    rcases List.mem_cons.1 hx with rfl | hx
    · unfold i64; decide
    · obtain rfl := List.mem_singleton.1 hx
      unfold i64; decide
def knownT : ByteArray := ⟨#[122, 115, 101, 116, 32, 54, 98, 32, 45, 32, 54, 50, 58, 45, 49, 32, 54, 49, 58, 51, 10]⟩
theorem known_tx : txN knownD = 0 ∧ txS knownD = knownT := by
  obtain ⟨h1, h2⟩ := tx_yes known_img (by rw [known_txt]; decide)
  exact ⟨h1, by rw [h2, known_txt]; rfl⟩
theorem textk_any (w : World) (A : Option Addr) (c : Nat) (hS : SlR enR (fun k => k < w.heap.size) w (.slice A knownD.length c) knownD) (hV : Vs w) : Calls Tryz.prog 9 #[.slice A knownD.length c] w fun e w' => e = .returned (.tuple #[.string knownT, .int .i64 0]) ∧ Fr [] w w' :=
  (text_any w A c knownD hS known_bnd.1 known_bnd.2 hV).mono fun e w' ⟨h1, h2⟩ => ⟨by rw [h1, known_tx.1, known_tx.2], h2⟩
def oneT : ByteArray := ⟨#[115, 116, 114, 105, 110, 103, 32, 54, 98, 32, 53, 32, 46, 10]⟩
theorem one_lines : lineN oneT 0 = oneL ∧ restN oneT 1 = ⟨#[]⟩ ∧ cuF (restN oneT 0) 10 = true := by
  refine ⟨?_, ?_, ?_⟩ <;> decide +kernel
theorem one_gd : gdN oneT 0 := by
  refine ⟨?_, by decide, fun h => absurd h (by omega), one_lines.2.2⟩
  rw [one_lines.1]; exact one_ok
theorem one_rd {l : List EnD} {i c : Int} (h : RdR oneT l i c) : l = [oneE] ∧ i = 0 ∧ c = 0 := by
  rcases h with ⟨h, _⟩ | ⟨_, n, h1, h2⟩
  · exact absurd h (by decide)
  match n with
  | 0 =>
    rcases h2 with ⟨h2, _⟩ | ⟨_, h2, _⟩
    · exact absurd h2 (by decide +kernel)
    · exact absurd one_gd h2
  | 1 =>
    rcases h2 with ⟨_, h3, h4, h5⟩ | ⟨h2, _⟩
    · refine ⟨?_, h4, h5⟩
      rw [h3]
      show [rdE (lineN oneT 0)] = _
      rw [one_lines.1, one_rdE]
    · exact absurd one_lines.2.1 h2
  | n + 2 => exact absurd one_lines.2.1 (h1 1 (by omega)).1
theorem reado_any (w : World) (hV : Vs w) : Calls Tryz.prog 13 #[.string oneT] w fun e w' => ∃ A c, e = .returned (.tuple #[.slice A 1 c, .int .i64 0, .int .i64 0]) ∧ SlR enR (fun k => w.heap.size ≤ k) w' (.slice A 1 c) [oneE] ∧ Fr [] w w' :=
  (reads_any w oneT (by decide) hV).mono fun e w' ⟨l, i, c, A, c', h1, h2, h3, h4⟩ => by
    obtain ⟨rfl, rfl, rfl⟩ := one_rd h3
    exact ⟨A, c', h1, h2, h4⟩
theorem alive_any (w : World)  (hV : Vs w) : Calls Tryz.prog 16 #[] w (fun e w' => e = .returned (.bool (true)) ∧ Fr [] w w') := by
 have hF := Fr.refl [] w
 refine V.en 53 Tryz.func16 fun a h1 => ?_
 refine V.sr h1 [] 0 0 [] fun a h4 => ?_
 refine V.sg fun K5 k6 => ?_
 refine V.cl h4 (Go.Proofs.enters_of Tryz.func47 (by kernel_rfl) rfl) (known_any w) ?_
 rintro _ w11 ⟨A7, c8, rfl, hS9, hF10⟩
 refine ⟨_, rfl, fun a h12 => ?_⟩
 have hsw11 := hF10.size
 have hF_13 := hF.new hF10
 refine V.cl h12 (Go.Proofs.enters_of Tryz.func9 (by kernel_rfl) rfl) (textk_any w11 A7 c8 hS9.old (hV.fr hF_13)) ?_
 rintro _ w15 ⟨rfl, hF14⟩
 refine ⟨_, rfl, fun a h16 => ?_⟩
 have hsw15 := hF14.size
 have hF_17 := hF_13.new hF14
 refine V.re h16 [] 6 10 [(1, .string knownT), (2, .int .i64 0)] fun a h19 => k6 _ _ ?_
 refine V.sg fun K20 k21 => ?_
 refine V.cl h19 (Go.Proofs.enters_of Tryz.func13 (by kernel_rfl) rfl) (reado_any w15 (hV.fr hF_17)) ?_
 rintro _ w26 ⟨A22, c23, rfl, hS24, hF25⟩
 refine ⟨_, rfl, fun a h27 => ?_⟩
 have hsw26 := hF25.size
 have hF_28 := hF_17.new hF25
 refine V.re h27 [] 4 15 [(3, .slice A22 ([oneE].length) c23), (5, .int .i64 0)] fun a h30 => k21 _ _ ?_
 refine V.sg fun K31 k32 => ?_
 refine V.run h30 [(1, .q (.bool true) (V.t_same 0)), (2, .q (.bool true) (V.t_same 0)), (3, .seq knownT ⟨#[122, 115, 101, 116, 32, 54, 98, 32, 45, 32, 54, 50, 58, 45, 49, 32, 54, 49, 58, 51, 10]⟩)] 11 16 25 [(26, .bool (decide (knownT = ⟨#[122, 115, 101, 116, 32, 54, 98, 32, 45, 32, 54, 50, 58, 45, 49, 32, 54, 49, 58, 51, 10]⟩)))] fun a h33 => ?_
 by_cases hg34 : knownT = ⟨#[122, 115, 101, 116, 32, 54, 98, 32, 45, 32, 54, 50, 58, 45, 49, 32, 54, 49, 58, 51, 10]⟩
 ·
  have h35 := h33.kt 26 hg34
  refine V.run h35 [(2, .eq (([oneE].length : Nat) : Int) 1)] 5 27 30 [(31, .bool (decide ((([oneE].length : Nat) : Int) = 1)))] fun a h36 => ?_
  by_cases hg37 : (([oneE].length : Nat) : Int) = 1
  ·
   have h38 := h36.kt 31 hg37
   obtain ⟨g39, o40, hA41, hA41l, hA41z⟩ := hS24.addr (by omega)
   try dsimp only at hA41z
   obtain ⟨cs42, hok43, hE44⟩ := hS24.els hA41 (0 : Int) (by omega) (by omega)
   obtain ⟨Al45, cl46, Az47, cz48, Ah49, ch50, rfl, hS51, hS52, hS53⟩ := en_open hok43
   refine V.run h38 [(1, .ix g39 o40 ([oneE].length) c23 .i64 0 7 hA41), (1, .l ⟨g39, o40 + (0 : Int).toNat * 7, none⟩ (.string ((at_ enR ([oneE]) (0 : Int)).key)) (hE44.at 0 rfl)), (0, .seq ((at_ enR ([oneE]) (0 : Int)).key) ⟨#[107]⟩)] 7 32 37 [(38, .bool (decide (((at_ enR ([oneE]) (0 : Int)).key) = ⟨#[107]⟩)))] fun a h54 => ?_
   by_cases hg55 : ((at_ enR ([oneE]) (0 : Int)).key) = ⟨#[107]⟩
   ·
    have h56 := h54.kt 38 hg55
    refine V.run h56 [(1, .ix g39 o40 ([oneE].length) c23 .i64 0 7 hA41), (1, .l ⟨g39, (o40 + (0 : Int).toNat * 7) + 6, none⟩ (.int .i64 ((at_ enR ([oneE]) (0 : Int)).till)) (hE44.at 6 rfl)), (0, .eq ((at_ enR ([oneE]) (0 : Int)).till) 5)] 7 39 44 [(45, .bool (decide (((at_ enR ([oneE]) (0 : Int)).till) = 5)))] fun a h57 => ?_
    by_cases hg58 : ((at_ enR ([oneE]) (0 : Int)).till) = 5
    ·
     have h59 := h57.kt 45 hg58
     refine V.re h59 [(1, .ix g39 o40 ([oneE].length) c23 .i64 0 7 hA41), (2, .l ⟨g39, (o40 + (0 : Int).toNat * 7) + 1, none⟩ (.int .i64 ((at_ enR ([oneE]) (0 : Int)).k)) (hE44.at 1 rfl)), (0, .eq ((at_ enR ([oneE]) (0 : Int)).k) 1)] 46 52 [(0, .bool (decide (((at_ enR ([oneE]) (0 : Int)).k) = 1)))] fun a h60 => k32 _ _ ?_
     have h61 := h60.only [(0, .bool (decide (((at_ enR ([oneE]) (0 : Int)).k) = 1)))]
     refine V.ret ?_
     refine V.r1 h61 (.bool (decide (((at_ enR ([oneE]) (0 : Int)).k) = 1))) ?_
     exact ⟨congrArg (fun b => Ending.returned (Value.bool b)) (by first | rfl | exact decide_eq_true (by rfl)), hF_28⟩
    ·
     have h62 := h57.kf 45 hg58
     refine V.re h62 [] 46 52 [(0, .bool false)] fun a h63 => k32 _ _ ?_
     have h64 := h63.only [(0, .bool false)]
     refine V.ret ?_
     refine V.r1 h64 (.bool false) ?_
     exact absurd (by first | rfl | decide | kernel_rfl) hg58
   ·
    have h65 := h54.kf 38 hg55
    refine V.re h65 [] 39 52 [(0, .bool false)] fun a h66 => k32 _ _ ?_
    have h67 := h66.only [(0, .bool false)]
    refine V.ret ?_
    refine V.r1 h67 (.bool false) ?_
    exact absurd (by first | rfl | decide | kernel_rfl) hg55
  ·
   have h68 := h36.kf 31 hg37
   refine V.re h68 [] 32 52 [(0, .bool false)] fun a h69 => k32 _ _ ?_
   have h70 := h69.only [(0, .bool false)]
   refine V.ret ?_
   refine V.r1 h70 (.bool false) ?_
   exact absurd (by first | rfl | decide | kernel_rfl) hg37
 ·
  have h71 := h33.kf 26 hg34
  refine V.re h71 [] 27 52 [(0, .bool false)] fun a h72 => k32 _ _ ?_
  have h73 := h72.only [(0, .bool false)]
  refine V.ret ?_
  refine V.r1 h73 (.bool false) ?_
  exact absurd (by first | rfl | decide | kernel_rfl) hg34
theorem cutz_any (w : World) (m : Nat) (hm : m ≤ w.heap.size) (Al : Option Addr) (cl : Nat) (l : List EnD) (hSl : SlR enR (fun k => k < m) w (.slice Al l.length cl) l) : Calls Tryz.prog 8 #[.slice Al l.length cl] w (fun e w' => ∃ A' c', e = .returned (.slice A' (cutD l).length c') ∧ OwR enR (fun k => k < m) w' w.heap.size 55 (.slice A' (cutD l).length c') (cutD l) ∧ Fr [] w w') := by
 have hF := Fr.refl [] w
 have hlen0 := hSl.len_le
 refine V.en 29 Tryz.func8 fun a h1 => ?_
 refine V.sr h1 [] 2 2 [] fun a h4 => ?_
 refine V.sr h4 [] 1 0 [(3, .slice none 0 0)] fun a h7 => ?_
 refine V.seq fun K8 k9 => ?_
 refine V.sr h7 [] 1 0 [(4, .int .i64 0)] fun a h12 => ?_
 refine V.block ?_
 refine V.loop3 (fun (i : Nat) (A2 : Option Addr) (c2 : Nat) a_ w_ => En 29 [] a_ [(0, .slice Al l.length cl), (3, .slice A2 (((l.take i).map fewD).length) c2), (4, .int .i64 (i : Int))] ∧ OwR enR (fun k => k < m) w_ w.heap.size 55 (.slice A2 (((l.take i).map fewD).length) c2) ((l.take i).map fewD) ∧ Fr [] w w_ ∧ SlR enR (fun k => k < m) w_ (.slice Al l.length cl) l ∧ (i ≤ l.length ∧ i ≤ 20)) (fun (i : Nat) (A2 : Option Addr) (c2 : Nat) => l.length - i) 0 none 0 ?_ ?_
 ·
  refine ⟨((h12.eq 3 (v := (.slice none 0 0)) (u := (.slice none (((l.take 0).map fewD).length) 0)) (rfl)).eq 4 (v := (.int .i64 0)) (u := (.int .i64 (0 : Int))) (V.int_eq (by omega))).only _, (OwR.nil ..), hF, hSl, (by omega)⟩
 ·
  rintro i A2 c2 a13 w14 ⟨h15, hO_16, hF_17, hSl_18, hi⟩
  have hfs19 := hF_17.size
  have hfl : ((l.take i).map fewD).length = i := by rw [List.length_map, List.length_take]; omega
  refine V.seq fun K20 k21 => ?_
  refine V.sg fun K22 k23 => ?_
  refine V.run h15 [] 5 6 9 [(10, .bool (decide ((i : Int) < ((l.length : Nat) : Int))))] fun a h24 => ?_
  by_cases hg25 : (i : Int) < ((l.length : Nat) : Int)
  ·
   have h26 := h24.kt 10 hg25
   refine V.re h26 [] 11 12 [(13, .bool (decide ((i : Int) < 20)))] fun a h27 => k23 _ _ ?_
   refine V.cp h27 ((i : Int) < 20) (fun ht28 => ?_) (fun ht28 => ?_)
   ·
    refine V.skip ?_
    refine V.then_n (k21 _ _ ?_)
    refine V.seq fun K29 k30 => ?_
    refine V.block ?_
    obtain ⟨g33, o34, hA35, hA35l, hA35z⟩ := hSl_18.addr (by omega)
    obtain ⟨cs36, hok37, hE38⟩ := hSl_18.els hA35 (i : Int) (by omega) (by omega)
    obtain ⟨Al39, cl40, Az41, cz42, Ah43, ch44, rfl, hS45, hS46, hS47⟩ := en_open hok37
    refine V.sg fun K31 k32 => ?_
    refine V.run h27 [(2, .ix g33 o34 l.length cl .i64 (i : Int) 7 hA35), (0, .ls ⟨g33, o34 + (i : Int).toNat * 7, none⟩ [.string ((at_ enR l (i : Int)).key), .int .i64 ((at_ enR l (i : Int)).k), .string ((at_ enR l (i : Int)).s), .slice Al39 ((at_ enR l (i : Int)).l.length) cl40, .slice Az41 ((at_ enR l (i : Int)).z.length) cz42, .slice Ah43 ((at_ enR l (i : Int)).h.length) ch44, .int .i64 ((at_ enR l (i : Int)).till)] (hE38.cells 0 _ rfl))] 4 16 18 [(19, .agg #[.string ((at_ enR l (i : Int)).key), .int .i64 ((at_ enR l (i : Int)).k), .string ((at_ enR l (i : Int)).s), .slice Al39 ((at_ enR l (i : Int)).l.length) cl40, .slice Az41 ((at_ enR l (i : Int)).z.length) cz42, .slice Ah43 ((at_ enR l (i : Int)).h.length) ch44, .int .i64 ((at_ enR l (i : Int)).till)])] fun a h52 => ?_
    refine V.go (V.mk [] trivial (by kernel_rfl) [.string ⟨#[]⟩, .int .i64 0, .string ⟨#[]⟩, .slice none 0 0, .slice none 0 0, .slice none 0 0, .int .i64 0] 55 (fun b => .pointer (some ⟨b, 0, none⟩)) (by kernel_rfl) ?_)
    intro w49 b48 heb48 hB50 hF51 hsb48
    have hO_53 := hO_16.fr0 hF51
    have hF_54 := hF_17.new hF51
    have hSl_55 := hSl_18.fr0 hF51
    have hS45_56 := hS45.fr0 hF51
    have hS46_57 := hS46.fr0 hF51
    have hS47_58 := hS47.fr0 hF51
    refine V.pt h52 fun a h60 => ?_
    refine V.go (V.stn b48 0 (.agg #[.string ((at_ enR l (i : Int)).key), .int .i64 ((at_ enR l (i : Int)).k), .string ((at_ enR l (i : Int)).s), .slice Al39 ((at_ enR l (i : Int)).l.length) cl40, .slice Az41 ((at_ enR l (i : Int)).z.length) cz42, .slice Ah43 ((at_ enR l (i : Int)).h.length) ch44, .int .i64 ((at_ enR l (i : Int)).till)]) [.string ((at_ enR l (i : Int)).key), .int .i64 ((at_ enR l (i : Int)).k), .string ((at_ enR l (i : Int)).s), .slice Al39 ((at_ enR l (i : Int)).l.length) cl40, .slice Az41 ((at_ enR l (i : Int)).z.length) cz42, .slice Ah43 ((at_ enR l (i : Int)).h.length) ch44, .int .i64 ((at_ enR l (i : Int)).till)] h60.e h60.e rfl rfl (by kernel_rfl) hB50 (by simp) [.string ((at_ enR l (i : Int)).key), .int .i64 ((at_ enR l (i : Int)).k), .string ((at_ enR l (i : Int)).s), .slice Al39 ((at_ enR l (i : Int)).l.length) cl40, .slice Az41 ((at_ enR l (i : Int)).z.length) cz42, .slice Ah43 ((at_ enR l (i : Int)).h.length) ch44, .int .i64 ((at_ enR l (i : Int)).till)] rfl ?_)
    intro w61 hB62 hF63 hsw61
    have hO_64 := hO_53.frn hF63 (by simp <;> omega) (by first | exact own_ne hO_53 (by omega) | exact own_ne2 hO_16 (by omega))
    have hF_65 := hF_54.own hF63 (by simp <;> omega)
    have hSl_66 := hSl_55.fr hF63 (by simp <;> omega)
    have hS45_67 := hS45_56.fr hF63 (by simp <;> omega)
    have hS46_68 := hS46_57.fr hF63 (by simp <;> omega)
    have hS47_69 := hS47_58.fr hF63 (by simp <;> omega)
    refine V.nt (k32 _ _ ?_)
    refine V.sg fun K71 k72 => ?_
    refine V.run h60 [(1, .bs hB62 1 [.int .i64 ((at_ enR l (i : Int)).k), .string ((at_ enR l (i : Int)).s), .slice Al39 ((at_ enR l (i : Int)).l.length) cl40, .slice Az41 ((at_ enR l (i : Int)).z.length) cz42, .slice Ah43 ((at_ enR l (i : Int)).h.length) ch44])] 2 20 20 [(21, .agg #[.int .i64 ((at_ enR l (i : Int)).k), .string ((at_ enR l (i : Int)).s), .slice Al39 ((at_ enR l (i : Int)).l.length) cl40, .slice Az41 ((at_ enR l (i : Int)).z.length) cz42, .slice Ah43 ((at_ enR l (i : Int)).h.length) ch44])] fun a h73 => ?_
    refine V.cl h73 (Go.Proofs.enters_of Tryz.func17 (by kernel_rfl) rfl) (few_any w61 ((at_ enR l (i : Int)).k) ((at_ enR l (i : Int)).s) Al39 cl40 ((at_ enR l (i : Int)).l) hS45_67.old Az41 cz42 ((at_ enR l (i : Int)).z) hS46_68.old Ah43 ch44 ((at_ enR l (i : Int)).h) hS47_69.old) ?_
    rintro _ w78 ⟨rfl, hF74⟩
    refine ⟨_, rfl, fun a h79 => ?_⟩
    have hsw78 := hF74.size
    have hO_80 := hO_64.fr0 hF74
    have hF_81 := hF_65.new hF74
    have hSl_82 := hSl_66.fr0 hF74
    have hB62_87 := hB62.fr0 hF74
    have hS75o := hS45_67.fr0 hF74
    have hS75 := hS75o.tke 40
    have hS76o := hS46_68.fr0 hF74
    have hS76 := hS76o.tke 40
    have hS77o := hS47_69.fr0 hF74
    have hS77 := hS77o.tke 40
    refine V.run h79 [] 1 1 0 [(23, .pointer (some ⟨b48, 1, none⟩))] fun a h91 => ?_
    refine V.go (V.stn b48 1 (.agg #[.int .i64 ((at_ enR l (i : Int)).k), .string ((at_ enR l (i : Int)).s), .slice Al39 ((((at_ enR l (i : Int)).l).take 40).length) cl40, .slice Az41 ((((at_ enR l (i : Int)).z).take 40).length) cz42, .slice Ah43 ((((at_ enR l (i : Int)).h).take 40).length) ch44]) [.int .i64 ((at_ enR l (i : Int)).k), .string ((at_ enR l (i : Int)).s), .slice Al39 ((((at_ enR l (i : Int)).l).take 40).length) cl40, .slice Az41 ((((at_ enR l (i : Int)).z).take 40).length) cz42, .slice Ah43 ((((at_ enR l (i : Int)).h).take 40).length) ch44] h91.e h91.e rfl rfl (by kernel_rfl) hB62_87 (by simp) [.string ((at_ enR l (i : Int)).key), .int .i64 ((at_ enR l (i : Int)).k), .string ((at_ enR l (i : Int)).s), .slice Al39 ((((at_ enR l (i : Int)).l).take 40).length) cl40, .slice Az41 ((((at_ enR l (i : Int)).z).take 40).length) cz42, .slice Ah43 ((((at_ enR l (i : Int)).h).take 40).length) ch44, .int .i64 ((at_ enR l (i : Int)).till)] rfl ?_)
    intro w88 hB89 hF90 hsw88
    have hO_92 := hO_80.frn hF90 (by simp <;> omega) (by first | exact own_ne hO_80 (by omega) | exact own_ne2 hO_16 (by omega))
    have hF_93 := hF_81.own hF90 (by simp <;> omega)
    have hSl_94 := hSl_82.fr hF90 (by simp <;> omega)
    have hS75_99 := hS75.fr hF90 (by simp <;> omega)
    have hS76_100 := hS76.fr hF90 (by simp <;> omega)
    have hS77_101 := hS77.fr hF90 (by simp <;> omega)
    refine V.nt (k72 _ _ ?_)
    refine V.rg ?_
    refine V.run h91 [(1, .bs hB89 0 [.string ((at_ enR l (i : Int)).key), .int .i64 ((at_ enR l (i : Int)).k), .string ((at_ enR l (i : Int)).s), .slice Al39 ((((at_ enR l (i : Int)).l).take 40).length) cl40, .slice Az41 ((((at_ enR l (i : Int)).z).take 40).length) cz42, .slice Ah43 ((((at_ enR l (i : Int)).h).take 40).length) ch44, .int .i64 ((at_ enR l (i : Int)).till)])] 2 1 0 [(24, .slice A2 (((l.take i).map fewD).length) c2), (25, .agg #[.string ((at_ enR l (i : Int)).key), .int .i64 ((at_ enR l (i : Int)).k), .string ((at_ enR l (i : Int)).s), .slice Al39 ((((at_ enR l (i : Int)).l).take 40).length) cl40, .slice Az41 ((((at_ enR l (i : Int)).z).take 40).length) cz42, .slice Ah43 ((((at_ enR l (i : Int)).h).take 40).length) ch44, .int .i64 ((at_ enR l (i : Int)).till)])] fun a h102 => ?_
    refine V.go (V.mk [(25, .agg #[.string ((at_ enR l (i : Int)).key), .int .i64 ((at_ enR l (i : Int)).k), .string ((at_ enR l (i : Int)).s), .slice Al39 ((((at_ enR l (i : Int)).l).take 40).length) cl40, .slice Az41 ((((at_ enR l (i : Int)).z).take 40).length) cz42, .slice Ah43 ((((at_ enR l (i : Int)).h).take 40).length) ch44, .int .i64 ((at_ enR l (i : Int)).till)])] ⟨h102.e, trivial⟩ (by kernel_rfl) [.string ((at_ enR l (i : Int)).key), .int .i64 ((at_ enR l (i : Int)).k), .string ((at_ enR l (i : Int)).s), .slice Al39 ((((at_ enR l (i : Int)).l).take 40).length) cl40, .slice Az41 ((((at_ enR l (i : Int)).z).take 40).length) cz42, .slice Ah43 ((((at_ enR l (i : Int)).h).take 40).length) ch44, .int .i64 ((at_ enR l (i : Int)).till)] 55 (fun b => .slice (some ⟨b, 0, none⟩) 1 1) (by kernel_rfl) ?_)
    intro w104 b103 heb103 hB105 hF106 hsb103
    have hO_107 := hO_92.fr0 hF106
    have hF_108 := hF_93.new hF106
    have hSl_109 := hSl_94.fr0 hF106
    have hS75_114 := hS75_99.fr0 hF106
    have hS76_115 := hS76_100.fr0 hF106
    have hS77_116 := hS77_101.fr0 hF106
    refine V.pt h102 fun a h118 => ?_
    refine V.go (V.app (R := enR) (ys := ([fewD ((at_ enR l (i : Int)))])) (news := [(.string ((at_ enR l (i : Int)).key)), (.int .i64 ((at_ enR l (i : Int)).k)), (.string ((at_ enR l (i : Int)).s)), (.slice Al39 ((((at_ enR l (i : Int)).l).take 40).length) cl40), (.slice Az41 ((((at_ enR l (i : Int)).z).take 40).length) cz42), (.slice Ah43 ((((at_ enR l (i : Int)).h).take 40).length) ch44), (.int .i64 ((at_ enR l (i : Int)).till))]) (h118.e (v := (.slice A2 (((l.take i).map fewD).length) c2))) ⟨b103, 0, none⟩ 1 1 (h118.e (v := (.slice (some ⟨b103, 0, none⟩) 1 1))) (by kernel_rfl) (info55) (by kernel_rfl) (by decide) hO_107 rfl ⟨_, [], rfl, (⟨_, _, _, rfl, hS75_114, hS76_115, hS77_116⟩ : enR.ok _ _ (fewD ((at_ enR l (i : Int)))) _), rfl⟩ (blk_cells hB105 0 _ rfl) (by first | omega | (simp; omega)) (by decide) (by omega) ?_)
    intro A119 c120 w121 hO122z hF123 hatw121
    have hsw121 := hF123.size
    have hF_124 := hF_108.own hF123 (own_ge hO_107 (by omega))
    have hSl_125 := hSl_109.fr hF123 (by intro b hb hz; have := own_ge hO_107 (Nat.le_refl _) b hb; (try dsimp only at hz); omega)
    have hO122 := hO122z.zone (Z' := (fun k => k < m)) (fun _ _ q => q.1) (fun b hb hz => by have := (hO122z.lt b hb).1; (try dsimp only at hz); omega)
    refine V.pt h118 fun a h134 => ?_
    refine V.re h134 [] 1 0 [(3, .slice A119 ((((l.take i).map fewD).length) + 1) c120)] fun a h135 => ?_
    refine V.blk_n ?_
    refine V.then_n (k30 _ _ ?_)
    refine V.rr h135 [(1, .i ((i : Int) + 1))] 14 15 [(4, .int .i64 ((i : Int) + 1))] fun a h136 => ?_
    refine V.then_n ?_
    have hqs := fewM_next (show i < l.length by omega)
    refine ⟨i + 1, A119, c120, by omega, ?_⟩
    refine ⟨((h136.eq 3 (v := (.slice A119 ((((l.take i).map fewD).length) + 1) c120)) (u := (.slice A119 (((l.take (i + 1)).map fewD).length) c120)) (V.sl_eq (by rw [hqs]; simp))).eq 4 (v := (.int .i64 ((i : Int) + 1))) (u := (.int .i64 ((i + 1) : Int))) (V.int_eq (by omega))).only _, (by rw [hqs]; simpa using hO122), hF_124, hSl_125, (by omega)⟩
   ·
    refine V.exit (V.then_e (V.then_e (V.blk_hit ?_)))
    refine V.then_n (k9 _ _ ?_)
    refine V.sr h27 [] 28 28 [(2, .slice A2 (((l.take i).map fewD).length) c2)] fun a h139 => ?_
    refine V.ret ?_
    refine V.r1 h139 (.slice A2 (((l.take i).map fewD).length) c2) ?_
    have hce : (l.take i).map fewD = cutD l := by unfold cutD; rw [show l.take i = l.take 20 from by first | (rw [show i = 20 by omega]) | (rw [List.take_of_length_le (by omega), List.take_of_length_le (by omega)])]
    rw [hce] at hO_16
    rw [hce]
    exact ⟨_, _, rfl, hO_16, hF_17⟩
  ·
   have h140 := h24.kf 10 hg25
   refine V.re h140 [] 11 12 [(13, .bool false)] fun a h141 => k23 _ _ ?_
   refine V.cf h141 ?_
   refine V.exit (V.then_e (V.then_e (V.blk_hit ?_)))
   refine V.then_n (k9 _ _ ?_)
   refine V.sr h141 [] 28 28 [(2, .slice A2 (((l.take i).map fewD).length) c2)] fun a h144 => ?_
   refine V.ret ?_
   refine V.r1 h144 (.slice A2 (((l.take i).map fewD).length) c2) ?_
   have hce : (l.take i).map fewD = cutD l := by unfold cutD; rw [show l.take i = l.take 20 from by first | (rw [show i = 20 by omega]) | (rw [List.take_of_length_le (by omega), List.take_of_length_le (by omega)])]
   rw [hce] at hO_16
   rw [hce]
   exact ⟨_, _, rfl, hO_16, hF_17⟩
section
variable {k : Int} {s : ByteArray} {l : List ByteArray} {z : List (ByteArray × Int)} {h : List (ByteArray × ByteArray)}
end
theorem cutS_any (w : World) (m : Nat) (hm : m ≤ w.heap.size) (Al : Option Addr) (cl : Nat) (l : List EnD) (hSl : SlR enR (fun k => k < m) w (.slice Al l.length cl) l) : Calls Tryz.prog 8 #[.slice Al l.length cl] w fun e w' => ∃ A' c', e = .returned (.slice A' (cutD l).length c') ∧ SlR enR (fun k => k < m ∨ (w.heap.size ≤ k ∧ k < w'.heap.size)) w' (.slice A' (cutD l).length c') (cutD l) ∧ Fr [] w w' :=
  (cutz_any w m hm Al cl l hSl).mono fun e w' ⟨A', c', h1, h2, h3⟩ => ⟨A', c', h1, h2.read (fun b _ hb => .inl hb) (fun b hb hb2 => .inr ⟨hb, hb2⟩), h3⟩
theorem put_any (w : World) (Ar : Option Addr) (cr : Nat) (r : List EnD) (hSr : SlR enR (fun k => k < w.heap.size) w (.slice Ar r.length cr) r) (hsm : ∀ x ∈ r, smE x) (hbn : ∀ x ∈ r, bndE x) (hrl : r.length ≤ 20) (key : ByteArray) (k : Int) (s : ByteArray) (Al : Option Addr) (cl : Nat) (l : List ByteArray) (hSl : SlR Rp.str (fun k => k < w.heap.size) w (.slice Al l.length cl) l) (Az : Option Addr) (cz : Nat) (z : List (ByteArray × Int)) (hSz : SlR scR (fun k => k < w.heap.size) w (.slice Az z.length cz) z) (Ah : Option Addr) (ch : Nat) (h : List (ByteArray × ByteArray)) (hSh : SlR fdR (fun k => k < w.heap.size) w (.slice Ah h.length ch) h) (at' : Int) (hll : l.length ≤ 1099511627776) (hlz : z.length ≤ 1099511627776) (hlh : h.length ≤ 1099511627776) (hz : ∀ x ∈ z, x.1.size ≤ maxLen) : Calls Tryz.prog 25 #[.slice Ar r.length cr, .agg #[.string key, .int .i64 k, .string s, .slice Al l.length cl, .slice Az z.length cz, .slice Ah h.length ch, .int .i64 at']] w (fun e w' => ∃ A' c', e = .returned (.tuple #[.slice A' (putL r ⟨key, k, s, l, z, h, at'⟩).length c', .int .i64 (putN r ⟨key, k, s, l, z, h, at'⟩)]) ∧ SlR enR (fun k => k < w'.heap.size) w' (.slice A' (putL r ⟨key, k, s, l, z, h, at'⟩).length c') (putL r ⟨key, k, s, l, z, h, at'⟩) ∧ Fr [] w w') := by
 have hF := Fr.refl [] w
 refine V.en 44 Tryz.func25 fun a h1 => ?_
 refine V.sg fun K2 k3 => ?_
 refine V.go (V.mk [(1, .agg #[.string key, .int .i64 k, .string s, .slice Al l.length cl, .slice Az z.length cz, .slice Ah h.length ch, .int .i64 at'])] ⟨h1.e, trivial⟩ (by kernel_rfl) [.string key, .int .i64 k, .string s, .slice Al l.length cl, .slice Az z.length cz, .slice Ah h.length ch, .int .i64 at'] 55 (fun b => .pointer (some ⟨b, 0, none⟩)) (by kernel_rfl) ?_)
 intro w5 b4 heb4 hB6 hF7 hsb4
 have hF_8 := hF.new hF7
 have hSr_9 := hSr.fr0 hF7
 have hSl_10 := hSl.fr0 hF7
 have hSz_11 := hSz.fr0 hF7
 have hSh_12 := hSh.fr0 hF7
 refine V.pt h1 fun a h13 => ?_
 refine V.re h13 [] 4 5 [] fun a h14 => k3 _ _ ?_
 refine V.seq fun K15 k16 => ?_
 refine V.sg fun K17 k18 => ?_
 refine V.run h14 [] 1 1 0 [(10, .slice Ar r.length cr)] fun a h19 => ?_
 refine V.cl h19 (Go.Proofs.enters_of Tryz.func20 (by kernel_rfl) rfl) (check_any w5 Ar cr r hSr_9.old hbn) ?_
 rintro _ w21 ⟨rfl, hF20⟩
 refine ⟨_, rfl, fun a h22 => ?_⟩
 have hsw21 := hF20.size
 have hF_23 := hF_8.new hF20
 have hSr_24 := hSr_9.fr0 hF20
 have hSl_25 := hSl_10.fr0 hF20
 have hSz_26 := hSz_11.fr0 hF20
 have hSh_27 := hSh_12.fr0 hF20
 have hB6_28 := hB6.fr0 hF20
 refine V.re h22 [] 1 0 [(6, .int .i64 (imgN r))] fun a h29 => k18 _ _ ?_
 refine V.sr h29 [(1, .ne (imgN r) 0)] 12 12 [(13, .bool (decide (¬ (imgN r) = 0)))] fun a h32 => ?_
 refine V.cp h32 (¬ (imgN r) = 0) (fun ht33 => ?_) (fun ht33 => ?_)
 ·
  refine V.sr h32 [] 14 14 [(4, .slice none 0 0), (5, .int .i64 (imgN r))] fun a h36 => ?_
  refine V.ret (V.then_r ?_)
  refine V.r2 h36 (.slice none 0 0) (.int .i64 (imgN r)) ?_
  have hq := put_bad (x := (⟨key, k, s, l, z, h, at'⟩ : EnD)) (show ¬ imgN r = 0 by assumption)
  exact ⟨none, 0, by rw [hq.1, hq.2]; rfl, by rw [hq.2]; exact SlR.nil _ _ _, hF_23⟩
 ·
  refine V.skip ?_
  refine V.then_n (k16 _ _ ?_)
  refine V.seq fun K37 k38 => ?_
  refine V.sg fun K39 k40 => ?_
  refine V.run h32 [(0, .bs hB6_28 0 [.string key, .int .i64 k, .string s, .slice Al l.length cl, .slice Az z.length cz, .slice Ah h.length ch, .int .i64 at'])] 1 1 0 [(15, .agg #[.string key, .int .i64 k, .string s, .slice Al l.length cl, .slice Az z.length cz, .slice Ah h.length ch, .int .i64 at'])] fun a h41 => ?_
  refine V.cl h41 (Go.Proofs.enters_of Tryz.func54 (by kernel_rfl) rfl) (entry_any w21 key k s Al cl l hSl_25.old Az cz z hSz_26.old Ah ch h hSh_27.old at' (by omega) (by omega) (by omega) hz) ?_
  rintro _ w43 ⟨rfl, hF42⟩
  refine ⟨_, rfl, fun a h44 => ?_⟩
  have hsw43 := hF42.size
  have hF_45 := hF_23.new hF42
  have hSr_46 := hSr_24.fr0 hF42
  have hSl_47 := hSl_25.fr0 hF42
  have hSz_48 := hSz_26.fr0 hF42
  have hSh_49 := hSh_27.fr0 hF42
  have hB6_50 := hB6_28.fr0 hF42
  refine V.re h44 [] 1 0 [(17, .bool (!(bP (okE key at' (okV k s l z h)))))] fun a h51 => k40 _ _ ?_
  refine V.cb h51 (!(bP (okE key at' (okV k s l z h)))) (fun ht52 => ?_) (fun ht52 => ?_)
  ·
   refine V.sr h51 [] 1 0 [(4, .slice none 0 0), (5, .int .i64 90)] fun a h55 => ?_
   refine V.ret (V.then_r ?_)
   refine V.r2 h55 (.slice none 0 0) (.int .i64 90) ?_
   have hq := put_no (x := (⟨key, k, s, l, z, h, at'⟩ : EnD)) (show imgN r = 0 by first | assumption | exact Decidable.of_not_not (by assumption)) (fun q => nb_no (by assumption) (show okE key at' (okV k s l z h) from q))
   exact ⟨none, 0, by rw [hq.1, hq.2]; rfl, by rw [hq.2]; exact SlR.nil _ _ _, hF_45⟩
  ·
   refine V.skip ?_
   refine V.then_n (k38 _ _ ?_)
   refine V.sg fun K56 k57 => ?_
   refine V.run h51 [] 1 1 0 [(18, .slice Ar r.length cr)] fun a h58 => ?_
   refine V.cl h58 (Go.Proofs.enters_of Tryz.func62 (by kernel_rfl) rfl) (owned_any w43 Ar cr r.length r (by first | rfl | (simp only [List.length_take, List.length_drop]; omega)) hSr_46.old (by omega) hsm) ?_
   rintro _ w69 ⟨A59, c60, qs61, rfl, hd62, hO63, hP64, hF65⟩
   refine ⟨_, rfl, fun a h70 => ?_⟩
   have hsw69 := hF65.size
   have hF_71 := hF_45.new hF65
   have hSl_73 := hSl_47.fr0 hF65
   have hSz_74 := hSz_48.fr0 hF65
   have hSh_75 := hSh_49.fr0 hF65
   have hB6_76 := hB6_50.fr0 hF65
   have hql67 : qs61.length = r.length := by rw [← datE_len, hd62]
   have hS66 := hO63.read (Z' := fun k => w43.heap.size ≤ k) (fun _ _ h => h.elim) (fun _ h _ => h)
   have hol68 := hO63.lt
   refine V.re h70 [] 1 0 [(7, .slice A59 qs61.length c60)] fun a h77 => k57 _ _ ?_
   refine V.sg fun K78 k79 => ?_
   refine V.run h77 [(1, .bs hB6_76 1 [.int .i64 k, .string s, .slice Al l.length cl, .slice Az z.length cz, .slice Ah h.length ch])] 2 20 20 [(21, .agg #[.int .i64 k, .string s, .slice Al l.length cl, .slice Az z.length cz, .slice Ah h.length ch])] fun a h80 => ?_
   refine V.cl h80 (Go.Proofs.enters_of Tryz.func63 (by kernel_rfl) rfl) (own_any w69 k s Al cl l hSl_73.old Az cz z hSz_74.old Ah ch h hSh_75.old (by omega) (by omega) (by omega)) ?_
   rintro _ w95 ⟨Al81, cl82, Az83, cz84, Ah85, ch86, rfl, hO88, hO89, hO90, hd91, hF87⟩
   refine ⟨_, rfl, fun a h96 => ?_⟩
   have hsw95 := hF87.size
   have hF_97 := hF_71.new hF87
   have hB6_102 := hB6_76.fr0 hF87
   have hO63_103 := hO63.fr0 hF87
   have hP64_104 := hP64.fr0 hF87
   have hS66_105 := hS66.fr0 hF87
   have hS92 := hO88.read (Z' := fun k => w69.heap.size ≤ k ∧ k < w95.heap.size) (fun _ _ q => q.elim) (fun _ q q2 => ⟨q, q2⟩)
   have hS93 := hO89.read (Z' := fun k => w69.heap.size ≤ k ∧ k < w95.heap.size) (fun _ _ q => q.elim) (fun _ q q2 => ⟨q, q2⟩)
   have hS94 := hO90.read (Z' := fun k => w69.heap.size ≤ k ∧ k < w95.heap.size) (fun _ _ q => q.elim) (fun _ q q2 => ⟨q, q2⟩)
   refine V.run h96 [] 1 1 0 [(23, .pointer (some ⟨b4, 1, none⟩))] fun a h109 => ?_
   refine V.go (V.stn b4 1 (.agg #[.int .i64 k, .string s, .slice Al81 ((l).length) cl82, .slice Az83 ((z).length) cz84, .slice Ah85 ((h).length) ch86]) [.int .i64 k, .string s, .slice Al81 ((l).length) cl82, .slice Az83 ((z).length) cz84, .slice Ah85 ((h).length) ch86] h109.e h109.e rfl rfl (by kernel_rfl) hB6_102 (by simp) [.string key, .int .i64 k, .string s, .slice Al81 ((l).length) cl82, .slice Az83 ((z).length) cz84, .slice Ah85 ((h).length) ch86, .int .i64 at'] rfl ?_)
   intro w106 hB107 hF108 hsw106
   have hF_110 := hF_97.own hF108 (by simp <;> omega)
   have hO63_115 := hO63_103.frn hF108 (fun h => h) (by first | exact own_ne hO63_103 (by omega))
   have hP64_116 := hP64_104.fr hF108 (by intro k hk hz; simp only [List.mem_singleton] at hk; subst hk; have := hz.1; have := hz.2.1; first | omega | exact hz.2.2 rfl)
   have hS66_117 := hS66_105.fr hF108 (by simp <;> omega)
   have hS92_118 := hS92.fr hF108 (by simp <;> omega)
   have hS93_119 := hS93.fr hF108 (by simp <;> omega)
   have hS94_120 := hS94.fr hF108 (by simp <;> omega)
   refine V.nt (k79 _ _ ?_)
   refine V.sg fun K121 k122 => ?_
   refine V.run h109 [(1, .bs hB107 0 [.string key, .int .i64 k, .string s, .slice Al81 ((l).length) cl82, .slice Az83 ((z).length) cz84, .slice Ah85 ((h).length) ch86, .int .i64 at'])] 2 1 0 [(25, .slice A59 qs61.length c60), (26, .agg #[.string key, .int .i64 k, .string s, .slice Al81 ((l).length) cl82, .slice Az83 ((z).length) cz84, .slice Ah85 ((h).length) ch86, .int .i64 at'])] fun a h123 => ?_
   refine V.cl h123 (Go.Proofs.enters_of Tryz.func64 (by kernel_rfl) rfl) (bsfQ_any w106 w43.heap.size c60 A59 _ qs61 r hd62 hO63_115 hP64_116 (srt_img (by first | assumption | exact Decidable.of_not_not (by assumption))) (by omega) key k at' s Al81 Az83 Ah85 ((l).length) cl82 ((z).length) cz84 ((h).length) ch86 ) ?_
   rintro _ w125 ⟨rfl, hF124⟩
   refine ⟨_, rfl, fun a h126 => ?_⟩
   have hsw125 := hF124.size
   have hF_127 := hF_110.new hF124
   have hO63_132 := hO63_115.fr0 hF124
   have hP64_133 := hP64_116.fr0 hF124
   have hS66_134 := hS66_117.fr0 hF124
   have hS92_135 := hS92_118.fr0 hF124
   have hS93_136 := hS93_119.fr0 hF124
   have hS94_137 := hS94_120.fr0 hF124
   have hB107_138 := hB107.fr0 hF124
   refine V.re h126 [] 24 29 [(8, .int .i64 ((lbN r key : Nat) : Int)), (9, .bool (decide (thR r key)))] fun a h139 => k122 _ _ ?_
   refine V.seq fun K140 k141 => ?_
   refine V.sr h139 [] 1 0 [(30, .bool (decide (thR r key)))] fun a h144 => ?_
   refine V.cp h144 (thR r key) (fun ht145 => ?_) (fun ht145 => ?_)
   ·
    refine V.seq fun K146 k147 => ?_
    have hlt : lbN r key < qs61.length := by have := (show thR r key by assumption).1; omega
    obtain ⟨g148, o149, hA150, hA150l, hA150z⟩ := hS66_134.addr (by omega)
    try dsimp only at hA150z
    refine V.rg ?_
    refine V.run h144 [(2, .bs hB107_138 0 [.string key, .int .i64 k, .string s, .slice Al81 ((l).length) cl82, .slice Az83 ((z).length) cz84, .slice Ah85 ((h).length) ch86, .int .i64 at']), (0, .ix g148 o149 qs61.length c60 .i64 ((lbN r key : Nat) : Int) 7 hA150)] 4 31 32 [(33, .agg #[.string key, .int .i64 k, .string s, .slice Al81 ((l).length) cl82, .slice Az83 ((z).length) cz84, .slice Ah85 ((h).length) ch86, .int .i64 at']), (34, .pointer (some ⟨g148, o149 + ((lbN r key : Nat) : Int).toNat * 7, none⟩))] fun a h153 => ?_
    have hp151 : EnR (Zi w43.heap.size w125.heap.size (.slice A59 qs61.length c60)) w125 (rawE (⟨key, k, s, l, z, h, at'⟩ : EnD) Al81 cl82 Az83 cz84 Ah85 ch86, (⟨key, k, s, l, z, h, at'⟩ : EnD)) := ⟨_, _, _, rfl, hS92_135.zone (fun k _ hz => ⟨by omega, by omega, fun e => by have := (hol68 _ e).2; omega⟩), hS93_136.zone (fun k _ hz => ⟨by omega, by omega, fun e => by have := (hol68 _ e).2; omega⟩), hS94_137.zone (fun k _ hz => ⟨by omega, by omega, fun e => by have := (hol68 _ e).2; omega⟩)⟩
    have hN152 := (hP64_133.raise (M := w125.heap.size) (by omega)).app (PsOk.one hp151)
    refine V.go (V.stoWa (dβ := enR.dflt) (lbN r key) (rawE (⟨key, k, s, l, z, h, at'⟩ : EnD) Al81 cl82 Az83 cz84 Ah85 ch86, (⟨key, k, s, l, z, h, at'⟩ : EnD)) hO63_132 (by omega) hA150 (h153.e (v := (.pointer (some ⟨g148, o149 + ((lbN r key : Nat) : Int).toNat * 7, none⟩)))) (h153.e (v := (.agg #[.string key, .int .i64 k, .string s, .slice Al81 ((l).length) cl82, .slice Az83 ((z).length) cz84, .slice Ah85 ((h).length) ch86, .int .i64 at']))) rfl (by kernel_rfl) ?_)
    intro w154 hO155 hF156 hsw154
    have hF_157 := hF_127.own hF156 (own_ge hO63_132 (by omega))
    have hN152_163 := hN152.own hF156 (by intro k hk; simpa using hk)
    refine V.nt (k147 _ _ ?_)
    refine V.sr h153 [] 35 35 [(4, .slice A59 qs61.length c60), (5, .int .i64 0)] fun a h166 => ?_
    refine V.ret (V.then_r ?_)
    refine V.r2 h166 (.slice A59 qs61.length c60) (.int .i64 0) ?_
    have hq := put_yes (x := (⟨key, k, s, l, z, h, at'⟩ : EnD)) (show imgN r = 0 by first | assumption | exact Decidable.of_not_not (by assumption)) (show okE key at' (okV k s l z h) from nb_yes (by assumption))
    have hdq := dat_put (x := (⟨key, k, s, l, z, h, at'⟩ : EnD)) (p := (rawE (⟨key, k, s, l, z, h, at'⟩ : EnD) Al81 cl82 Az83 cz84 Ah85 ch86, (⟨key, k, s, l, z, h, at'⟩ : EnD))) hd62 rfl ht145
    have hlq := putD_len2 (x := (⟨key, k, s, l, z, h, at'⟩ : EnD)) ht145
    have hSq := OwR.dat hO155 (hN152_163.sub fun q hq => mem_setP hq)
    rw [hdq] at hSq
    have hn9 : qs61.length = (putD r (⟨key, k, s, l, z, h, at'⟩ : EnD)).length := by rw [hlq]; omega
    rw [hn9] at hSq
    exact ⟨_, _, by rw [hq.1, hq.2, hn9], by rw [hq.2]; exact hSq, hF_157⟩
   ·
    refine V.skip ?_
    refine V.then_n (k141 _ _ ?_)
    refine V.seq fun K167 k168 => ?_
    refine V.sr h144 [(2, .eq ((r.length : Nat) : Int) 65536)] 36 37 [(38, .bool (decide (((r.length : Nat) : Int) = 65536)))] fun a h171 => ?_
    refine V.cp h171 (((r.length : Nat) : Int) = 65536) (fun ht172 => ?_) (fun ht172 => ?_)
    · exact absurd ht172 (by omega)
    ·
     refine V.skip ?_
     refine V.then_n (k168 _ _ ?_)
     refine V.sg fun K173 k174 => ?_
     refine V.run h171 [(2, .bs hB107_138 0 [.string key, .int .i64 k, .string s, .slice Al81 ((l).length) cl82, .slice Az83 ((z).length) cz84, .slice Ah85 ((h).length) ch86, .int .i64 at'])] 3 1 0 [(39, .slice A59 qs61.length c60), (40, .int .i64 ((lbN r key : Nat) : Int)), (41, .agg #[.string key, .int .i64 k, .string s, .slice Al81 ((l).length) cl82, .slice Az83 ((z).length) cz84, .slice Ah85 ((h).length) ch86, .int .i64 at'])] fun a h175 => ?_
     refine V.go (V.mk [(41, .agg #[.string key, .int .i64 k, .string s, .slice Al81 ((l).length) cl82, .slice Az83 ((z).length) cz84, .slice Ah85 ((h).length) ch86, .int .i64 at'])] ⟨h175.e, trivial⟩ (by kernel_rfl) [.string key, .int .i64 k, .string s, .slice Al81 ((l).length) cl82, .slice Az83 ((z).length) cz84, .slice Ah85 ((h).length) ch86, .int .i64 at'] 55 (fun b => .slice (some ⟨b, 0, none⟩) 1 1) (by kernel_rfl) ?_)
     intro w177 b176 heb176 hB178 hF179 hsb176
     have hF_180 := hF_127.new hF179
     have hO63_185 := hO63_132.fr0 hF179
     have hP64_186 := hP64_133.fr0 hF179
     have hS92_188 := hS92_135.fr0 hF179
     have hS93_189 := hS93_136.fr0 hF179
     have hS94_190 := hS94_137.fr0 hF179
     refine V.pt h175 fun a h192 => ?_
     have hp193 : EnR (Zi w43.heap.size w177.heap.size (.slice A59 qs61.length c60)) w177 (rawE (⟨key, k, s, l, z, h, at'⟩ : EnD) Al81 cl82 Az83 cz84 Ah85 ch86, (⟨key, k, s, l, z, h, at'⟩ : EnD)) := ⟨_, _, _, rfl, hS92_188.zone (fun k _ hz => ⟨by omega, by omega, fun e => by have := (hol68 _ e).2; omega⟩), hS93_189.zone (fun k _ hz => ⟨by omega, by omega, fun e => by have := (hol68 _ e).2; omega⟩), hS94_190.zone (fun k _ hz => ⟨by omega, by omega, fun e => by have := (hol68 _ e).2; omega⟩)⟩
     have hN194 := (hP64_186.raise (M := w177.heap.size) (by omega)).app (PsOk.one hp193)
     refine V.cl h192 (Go.Proofs.enters_of Tryz.func65 (by kernel_rfl) rfl) (ins_any w177 w43.heap.size b176 c60 (lbN r key) A59 qs61 (rawE (⟨key, k, s, l, z, h, at'⟩ : EnD) Al81 cl82 Az83 cz84 Ah85 ch86, (⟨key, k, s, l, z, h, at'⟩ : EnD)) hO63_185 (by omega) hB178 (fun e => by have := (hol68 _ e).2; omega) (by have := lb_le (l := r) (key := key); omega) (by omega)) ?_
     rintro _ w199 ⟨A195, c196, rfl, hO197, hF198⟩
     refine ⟨_, rfl, fun a h200 => ?_⟩
     have hsw199 := hF198.size
     have hF_201 := hF_180.own hF198 (own_ge hO63_185 (by omega))
     have hN194_207 := hN194.own hF198 (by intro k hk; simpa using hk)
     refine V.re h200 [] 1 0 [(4, .slice A195 (qs61.length + 1) c196), (5, .int .i64 0)] fun a h208 => k174 _ _ ?_
     refine V.ret ?_
     refine V.r2 h208 (.slice A195 (qs61.length + 1) c196) (.int .i64 0) ?_
     have hq := put_yes (x := (⟨key, k, s, l, z, h, at'⟩ : EnD)) (show imgN r = 0 by first | assumption | exact Decidable.of_not_not (by assumption)) (show okE key at' (okV k s l z h) from nb_yes (by assumption))
     have hdq := dat_ins (x := (⟨key, k, s, l, z, h, at'⟩ : EnD)) (p := (rawE (⟨key, k, s, l, z, h, at'⟩ : EnD) Al81 cl82 Az83 cz84 Ah85 ch86, (⟨key, k, s, l, z, h, at'⟩ : EnD))) hd62 rfl ht145
     have hlq := putD_len (x := (⟨key, k, s, l, z, h, at'⟩ : EnD)) ht145
     have hSq := OwR.dat hO197 (hN194_207.sub fun q hq => mem_insP hq)
     rw [hdq] at hSq
     have hn9 : qs61.length + 1 = (putD r (⟨key, k, s, l, z, h, at'⟩ : EnD)).length := by rw [hlq]; omega
     rw [hn9] at hSq
     exact ⟨_, _, by rw [hq.1, hq.2, hn9], by rw [hq.2]; exact hSq, hF_201⟩
end Go.Proofs.YtdebkbfnngkdlaaGreatDoor
end
section
namespace Go.V
end Go.V
end
section
namespace Go.V
open Go.Base Go.RowKit
set_option linter.unusedVariables false
set_option linter.unusedSimpArgs false
abbrev idV : Value → Value := fun v => v
abbrev nilS : Value := .slice none 0 0
/-- What turned lies among P's blocks, or is new. -/
structure FrP (P : Nat → Prop) (w w' : World) : Prop where
  os : w'.os = w.os
  tape : w'.tape = w.tape
  output : w'.output = w.output
  size : w.heap.size ≤ w'.heap.size
  block : ∀ k, k < w.heap.size → ¬ P k → w'.heap[k]? = w.heap[k]?
section
variable {P P' : Nat → Prop} {w w1 w2 : World} {l : List Nat}
theorem FrP.refl (P : Nat → Prop) (w : World) : FrP P w w := ⟨rfl, rfl, rfl, Nat.le_refl _, fun _ _ _ => rfl⟩
theorem FrP.of (f : Fr l w w1) : FrP (fun k => k ∈ l) w w1 := ⟨f.os, f.tape, f.output, f.size, fun k hk hn => f.block k hk hn⟩
theorem FrP.mono (h : FrP P w w1) (hs : ∀ k, P k → P' k) : FrP P' w w1 := ⟨h.os, h.tape, h.output, h.size, fun k hk hn => h.block k hk fun hp => hn (hs k hp)⟩
theorem FrP.fr (h : FrP P w w1) (hn : ∀ k, P k → w.heap.size ≤ k) : Fr [] w w1 := ⟨h.os, h.tape, h.output, h.size, fun k hk _ => h.block k hk fun hp => by have := hn k hp; omega⟩
theorem _root_.Go.Base.Blk.frP {b t : Nat} {cs : List Value} (h : Blk w b cs t) (f : FrP P w w1) (hb : ¬ P b) : Blk w1 b cs t := h.same (f.block b h.lt hb)
theorem SlR.frP {α : Type} {R : Rp α} {Z : Nat → Prop} {v : Value} {xs : List α} (h : SlR R Z w v xs) (f : FrP P w w1) (hz : ∀ k, Z k → ¬ P k) : SlR R Z w1 v xs :=
  h.mono (fun b hb hZ => ⟨hZ, f.block b hb (hz b hZ)⟩) f.size
theorem OwR.frP {α : Type} {R : Rp α} {base : Nat} {e : TypeId} {v : Value} {xs : List α} (h : OwR R NoZ w base e v xs) (f : FrP P w w1) (hv : ∀ b, v.ownBlock = some b → ¬ P b) : OwR R NoZ w1 base e v xs := by
  obtain ⟨cs, h1, h2, h3⟩ := h
  refine ⟨cs, ?_, h2.mono (fun b hb hz => hz.elim) f.size, h3⟩
  rcases h1.2 with ⟨rfl, hn⟩ | ⟨g, cap, cur, rfl, hg, hh, hr⟩
  · exact ⟨h1.1, .inl ⟨rfl, hn⟩⟩
  · exact ⟨h1.1, .inr ⟨g, cap, cur, rfl, hg, (f.block g (lt_of_block hh) (hv g rfl)).trans hh, hr⟩⟩
end
structure Bks {α : Type} (R : Rp α) (w : World) (e : TypeId) (H : Nat → Prop) (av : List Nat) (vs : List Value) (xs : List (List α)) : Prop where
  len : vs.length = xs.length
  own : ∀ (i : Nat) (v : Value), vs[i]? = some v → OwR R NoZ w 0 e v (xs.getD i [])
  nd : ∀ (i j : Nat) (u v : Value) (k : Nat), vs[i]? = some u → vs[j]? = some v → u.ownBlock = some k → v.ownBlock = some k → i = j
  hom : ∀ (i : Nat) (v : Value) (k : Nat), vs[i]? = some v → v.ownBlock = some k → k ∉ av ∧ H k
  avl : ∀ k ∈ av, k < w.heap.size
section
variable {α : Type} {R : Rp α} {w w1 : World} {e : TypeId} {H H' : Nat → Prop} {av av' : List Nat} {vs us : List Value} {xs ys : List (List α)} {l : List Nat} {i : Nat}
theorem Bks.frP {P : Nat → Prop} (h : Bks R w e H av vs xs) (f : FrP P w w1) (hl : ∀ k, P k → k ∈ av ∨ ¬ H k) : Bks R w1 e H av vs xs :=
  ⟨h.len, fun i v hv => (h.own i v hv).frP f fun b hb hp => (hl b hp).elim (h.hom i v b hv hb).1 fun hn => hn (h.hom i v b hv hb).2, h.nd, h.hom, fun k hk => Nat.lt_of_lt_of_le (h.avl k hk) f.size⟩
theorem Bks.fr (h : Bks R w e H av vs xs) (f : Fr l w w1) (hl : ∀ k ∈ l, k ∈ av) : Bks R w1 e H av vs xs := h.frP (FrP.of f) fun k hk => .inl (hl k hk)
theorem Bks.fr0 (h : Bks R w e H av vs xs) (f : Fr [] w w1) : Bks R w1 e H av vs xs := h.fr f fun k hk => by cases hk
theorem Bks.lt (h : Bks R w e H av vs xs) {v : Value} (hv : vs[i]? = some v) {k : Nat} (hk : v.ownBlock = some k) : k < w.heap.size := ((h.own i v hv).lt k hk).2
/-- A new block of another's is avoided. -/
theorem Bks.alloc (h : Bks R w e H av vs xs) (f : Fr [] w w1) {b : Nat} (hb : b = w.heap.size) (hlt : b < w1.heap.size) : Bks R w1 e H (b :: av) vs xs := by
  have h1 := h.fr0 f
  refine ⟨h1.len, h1.own, h1.nd, fun i v k hv hk => ⟨fun hm => ?_, (h1.hom i v k hv hk).2⟩, fun k hk => ?_⟩
  · rcases List.mem_cons.1 hm with rfl | hm
    · have := h.lt hv hk; omega
    · exact (h1.hom i v k hv hk).1 hm
  · rcases List.mem_cons.1 hk with rfl | hk
    · exact hlt
    · exact h1.avl k hk
theorem Bks.sub (h : Bks R w e H av vs xs) (hs : ∀ k ∈ av', k ∈ av) (hH : ∀ k, k < w.heap.size → k ∉ av → H k → H' k) : Bks R w e H' av' vs xs :=
  ⟨h.len, h.own, h.nd, fun i v k hv hk => ⟨fun hm => (h.hom i v k hv hk).1 (hs k hm), hH k (h.lt hv hk) (h.hom i v k hv hk).1 (h.hom i v k hv hk).2⟩, fun k hk => h.avl k (hs k hk)⟩
theorem Bks.get (h : Bks R w e H av vs xs) (hi : i < xs.length) (d : Value) : ∃ A c, vs.getD i d = .slice A (xs.getD i []).length c := by
  have hv : vs[i]? = some (vs.getD i d) := by
    rw [List.getD_eq_getElem?_getD, List.getElem?_eq_getElem (by rw [h.len]; exact hi)]; rfl
  exact (h.own i _ hv).slice
theorem Bks.get' (h : Bks R w e H av vs xs) (hi : i < xs.length) (d : Value) : vs[i]? = some (vs.getD i d) := by
  rw [List.getD_eq_getElem?_getD, List.getElem?_eq_getElem (by rw [h.len]; exact hi)]; rfl
/-- A slice of the row, read. -/
theorem Bks.sl (h : Bks R w e H av vs xs) (hi : i < xs.length) {d : Value} {v : Value} (hv : vs.getD i d = v) : SlR R (fun _ => True) w v (xs.getD i []) := by
  subst hv
  exact (h.own i _ (h.get' hi d)).read (fun _ _ h => h.elim) (fun _ _ _ => trivial)
theorem Bks.nil (R : Rp α) (w : World) (e : TypeId) (H : Nat → Prop) {av : List Nat} (hav : ∀ k ∈ av, k < w.heap.size) (n : Nat) : Bks R w e H av (List.replicate n nilS) (List.replicate n []) := by
  have hn : ∀ (i : Nat) (v : Value), (List.replicate n nilS)[i]? = some v → v = nilS := fun i v hv => List.eq_of_mem_replicate (List.mem_of_getElem? hv)
  refine ⟨by simp, fun i v hv => ?_, fun i j u v k hu hv hk => ?_, fun i v k hv hk => ?_, hav⟩
  · rw [hn i v hv]
    have : (List.replicate n ([] : List α)).getD i [] = [] := by
      rw [List.getD_eq_getElem?_getD, List.getElem?_replicate]; split <;> rfl
    rw [this]; exact OwR.nil _ _ _ _ _
  · rw [hn i u hu] at hk; cases hk
  · rw [hn i v hv] at hk; cases hk
theorem getD_set_self {β : Type} {l : List β} (hi : i < l.length) (v d : β) : (l.set i v).getD i d = v := by
  rw [List.getD_eq_getElem?_getD, List.getElem?_set_self hi]; rfl
theorem getD_set_ne {β : Type} {l : List β} {j : Nat} (h : i ≠ j) (v d : β) : (l.set i v).getD j d = l.getD j d := by
  rw [List.getD_eq_getElem?_getD, List.getElem?_set_ne h, ← List.getD_eq_getElem?_getD]
/-- One slice turned. -/
theorem Bks.upd (h : Bks R w e H av vs xs) (hi : i < xs.length) {v v' : Value} {x' : List α} (hv : vs[i]? = some v) (f : Fr v.ownBlock.toList w w1) (ho : OwR R NoZ w1 0 e v' x') (hat : v'.ownBlock = v.ownBlock ∨ v'.ownBlock = some w.heap.size ∨ v'.ownBlock = none) (hH : H w.heap.size) :
    Bks R w1 e H av (vs.set i v') (xs.set i x') := by
  have hil : i < vs.length := by rw [h.len]; exact hi
  have hset : ∀ (j : Nat) (u : Value), (vs.set i v')[j]? = some u → (j = i ∧ u = v') ∨ (j ≠ i ∧ vs[j]? = some u) := fun j u hu => by
    by_cases hj : j = i
    · subst hj; rw [List.getElem?_set_self hil] at hu; injection hu with hu; exact .inl ⟨rfl, hu.symm⟩
    · rw [List.getElem?_set_ne (fun e => hj e.symm)] at hu; exact .inr ⟨hj, hu⟩
  have hat' : ∀ k, v'.ownBlock = some k → v.ownBlock = some k ∨ k = w.heap.size := fun k hk => by
    rcases hat with h1 | h1 | h1
    · exact .inl (h1 ▸ hk)
    · rw [h1] at hk; injection hk with hk; exact .inr hk.symm
    · rw [h1] at hk; cases hk
  refine ⟨by simp [h.len], fun j u hu => ?_, fun j j' u u' k hu hu' hk hk' => ?_, fun j u k hu hk => ?_, fun k hk => Nat.lt_of_lt_of_le (h.avl k hk) f.size⟩
  · rcases hset j u hu with ⟨rfl, rfl⟩ | ⟨hj, hu⟩
    · rw [getD_set_self hi]; exact ho
    · rw [getD_set_ne (fun e => hj e.symm)]
      exact (h.own j u hu).fr f (fun b _ hz => hz.elim) fun b hb hm => by
        cases hv' : v.ownBlock with
        | none => rw [hv'] at hm; simp at hm
        | some q => rw [hv'] at hm; simp at hm; subst hm; exact hj (h.nd j i u v b hu hv hb hv')
  · rcases hset j u hu with ⟨rfl, rfl⟩ | ⟨hj, hu1⟩ <;> rcases hset j' u' hu' with ⟨rfl, rfl⟩ | ⟨hj', hu2⟩
    · rfl
    · exfalso
      rcases hat' k hk with h1 | rfl
      · exact hj' (h.nd j' j u' v k hu2 hv hk' h1)
      · exact Nat.lt_irrefl _ (h.lt hu2 hk')
    · exfalso
      rcases hat' k hk' with h1 | rfl
      · exact hj (h.nd j j' u v k hu1 hv hk h1)
      · exact Nat.lt_irrefl _ (h.lt hu1 hk)
    · exact h.nd j j' u u' k hu1 hu2 hk hk'
  · rcases hset j u hu with ⟨rfl, rfl⟩ | ⟨hj, hu⟩
    · rcases hat' k hk with h1 | rfl
      · exact h.hom j v k hv h1
      · exact ⟨fun hm => Nat.lt_irrefl _ (h.avl _ hm), hH⟩
    · exact h.hom j u k hu hk
/-- One slice is taken out: its block is avoided from now on. -/
theorem Bks.take (h : Bks R w e H av vs xs) (hi : i < xs.length) {v : Value} (hv : vs[i]? = some v) : Bks R w e H (v.ownBlock.toList ++ av) (vs.set i nilS) (xs.set i []) := by
  have hil : i < vs.length := by rw [h.len]; exact hi
  have hset : ∀ (j : Nat) (u : Value), (vs.set i nilS)[j]? = some u → (j = i ∧ u = nilS) ∨ (j ≠ i ∧ vs[j]? = some u) := fun j u hu => by
    by_cases hj : j = i
    · subst hj; rw [List.getElem?_set_self hil] at hu; injection hu with hu; exact .inl ⟨rfl, hu.symm⟩
    · rw [List.getElem?_set_ne (fun e => hj e.symm)] at hu; exact .inr ⟨hj, hu⟩
  refine ⟨by simp [h.len], fun j u hu => ?_, fun j j' u u' k hu hu' hk hk' => ?_, fun j u k hu hk => ?_, fun k hk => ?_⟩
  · rcases hset j u hu with ⟨rfl, rfl⟩ | ⟨hj, hu⟩
    · rw [getD_set_self hi]; exact OwR.nil _ _ _ _ _
    · rw [getD_set_ne (fun e => hj e.symm)]; exact h.own j u hu
  · rcases hset j u hu with ⟨rfl, rfl⟩ | ⟨hj, hu⟩
    · cases hk
    · rcases hset j' u' hu' with ⟨rfl, rfl⟩ | ⟨hj', hu'⟩
      · cases hk'
      · exact h.nd j j' u u' k hu hu' hk hk'
  · rcases hset j u hu with ⟨rfl, rfl⟩ | ⟨hj, hu⟩
    · cases hk
    · refine ⟨fun hm => ?_, (h.hom j u k hu hk).2⟩
      rcases List.mem_append.1 hm with hm | hm
      · cases hv' : v.ownBlock with
        | none => rw [hv'] at hm; simp at hm
        | some q => rw [hv'] at hm; simp at hm; subst hm; exact hj (h.nd j i u v k hu hv hk hv')
      · exact (h.hom j u k hu hk).1 hm
  · rcases List.mem_append.1 hk with hk | hk
    · cases hv' : v.ownBlock with
      | none => rw [hv'] at hk; simp at hk
      | some q => rw [hv'] at hk; simp at hk; subst hk; exact h.lt hv hv'
    · exact h.avl k hk
end
section
variable {α : Type} {R : Rp α} {w w1 : World} {e : TypeId} {H : Nat → Prop} {av : List Nat} {vs : List Value} {xs : List (List α)} {i : Nat}
variable {ro : Option Nat} {P : Program} {Q : Exit → Act → World → Prop} {a : Act} {ops : Array Oper} {rest : List Oper} {d : Option Tmp} {ty : TypeId} {pos : String} {aft : Array Edge} {g : Option (Nat × Bool)}
end
end Go.V
end
section
namespace Go.V
open Go.Base Go.RowKit
set_option linter.unusedVariables false
section
variable {ro : Option Nat} {P : Program} {Q : Exit → Act → World → Prop} {a : Act} {w : World} {ops : Array Oper} {rest : List Oper} {d : Option Tmp} {ty : TypeId} {pos : String} {aft : Array Edge} {g : Option (Nat × Bool)}
end
/-- A key's hash. -/
def hstep (h c : Nat) : Nat := (h ^^^ c) * 1099511628211 % 18446744073709551616
end Go.V
end
section
namespace Go.V
open Go.Base Go.RowKit
set_option linter.unusedVariables false
set_option linter.unusedSimpArgs false
/-! ### As data -/
structure Tb (α : Type) where
  seed : Nat
  a : List (List (ByteArray × α))
  b : List (List (ByteArray × α))
  moved : Nat
  n : Nat
section
variable {α : Type}
end
/-! ### In memory -/
section
variable {α : Type}
/-- What is in a row of buckets at rest. -/
structure TabN (tt te e : TypeId) (R : Rp (ByteArray × α)) (w : World) (H : Nat → Prop) (av : List Nat) (t gA : Nat) (vsA : List Value) (T : Tb α) : Prop where
  blk : Blk w t [.int .u64 (T.seed : Int), .slice (some ⟨gA, 0, none⟩) T.a.length T.a.length, .slice none 0 0, .int .i64 (T.moved : Int), .int .i64 (T.n : Int)] tt
  ra : Row idV w gA vsA te
  la : vsA.length = T.a.length
  bk : Bks R w e H (t :: gA :: av) (vsA ++ []) (T.a ++ [])
  ne : t ≠ gA
  pt : H t ∧ t ∉ av
  pg : H gA ∧ gA ∉ av
structure TabM (tt te e : TypeId) (R : Rp (ByteArray × α)) (w : World) (H : Nat → Prop) (av : List Nat) (t gA gB : Nat) (vsA vsB : List Value) (T : Tb α) : Prop where
  blk : Blk w t [.int .u64 (T.seed : Int), .slice (some ⟨gA, 0, none⟩) T.a.length T.a.length, .slice (some ⟨gB, 0, none⟩) T.b.length T.b.length, .int .i64 (T.moved : Int), .int .i64 (T.n : Int)] tt
  ra : Row idV w gA vsA te
  rb : Row idV w gB vsB te
  la : vsA.length = T.a.length
  lb : vsB.length = T.b.length
  bk : Bks R w e H (t :: gA :: gB :: av) (vsA ++ vsB) (T.a ++ T.b)
  ne : t ≠ gA
  ne2 : t ≠ gB
  ne3 : gA ≠ gB
  pt : H t ∧ t ∉ av
  pg : H gA ∧ gA ∉ av
  ph : H gB ∧ gB ∉ av
/-- What holds of every table that was made. -/
structure Tb.Ok (T : Tb α) : Prop where
  sd : T.seed < 18446744073709551616
  pa : 0 < T.a.length
  la : T.a.length ≤ 4398046511104
  lb : T.b.length ≤ 4398046511104
  mv : T.b.length ≠ 0 → T.moved < T.a.length
  mz : T.b.length = 0 → T.moved = 0
  nn : T.n ≤ 1099511627776
  cn : (T.a ++ T.b).flatten.length = T.n
  ks : (∀ (i : Nat), ∀ x ∈ T.a.getD i [], x.1.size ≤ 9223372036854775807) ∧ (∀ (i : Nat), ∀ x ∈ T.b.getD i [], x.1.size ≤ 9223372036854775807)
def TabX (tt te e : TypeId) (R : Rp (ByteArray × α)) (w : World) (H : Nat → Prop) (av : List Nat) (t : Nat) (T : Tb α) : Prop :=
  T.Ok ∧ ((T.b = [] ∧ ∃ gA vsA, TabN tt te e R w H av t gA vsA T) ∨ (T.b ≠ [] ∧ ∃ gA gB vsA vsB, TabM tt te e R w H av t gA gB vsA vsB T))
variable {tt te e : TypeId} {R : Rp (ByteArray × α)} {w w1 : World} {H H' P : Nat → Prop} {av av' : List Nat} {t gA gB : Nat} {vsA vsB : List Value} {T : Tb α}
theorem Row.frP {w w1 : World} {b tt : Nat} {xs : List Value} (h : Row idV w b xs tt) (f : FrP P w w1) (hb : ¬ P b) : Row idV w1 b xs tt := ⟨h.blk.frP f hb⟩
theorem TabN.frP (h : TabN tt te e R w H av t gA vsA T) (f : FrP P w w1) (hl : ∀ k, P k → k ∈ av ∨ ¬ H k) : TabN tt te e R w1 H av t gA vsA T := by
  have hn : ∀ b, H b ∧ b ∉ av → ¬ P b := fun b hb hp => (hl b hp).elim hb.2 fun q => q hb.1
  exact ⟨h.blk.frP f (hn _ h.pt), h.ra.frP f (hn _ h.pg), h.la, h.bk.frP f fun k hk => (hl k hk).imp (by intro q; simp [q]) id, h.ne, h.pt, h.pg⟩
theorem TabM.frP (h : TabM tt te e R w H av t gA gB vsA vsB T) (f : FrP P w w1) (hl : ∀ k, P k → k ∈ av ∨ ¬ H k) : TabM tt te e R w1 H av t gA gB vsA vsB T := by
  have hn : ∀ b, H b ∧ b ∉ av → ¬ P b := fun b hb hp => (hl b hp).elim hb.2 fun q => q hb.1
  exact ⟨h.blk.frP f (hn _ h.pt), h.ra.frP f (hn _ h.pg), h.rb.frP f (hn _ h.ph), h.la, h.lb, h.bk.frP f fun k hk => (hl k hk).imp (by intro q; simp [q]) id, h.ne, h.ne2, h.ne3, h.pt, h.pg, h.ph⟩
theorem TabX.frP (h : TabX tt te e R w H av t T) (f : FrP P w w1) (hl : ∀ k, P k → k ∈ av ∨ ¬ H k) : TabX tt te e R w1 H av t T :=
  ⟨h.1, h.2.imp (fun ⟨hb, gA, vsA, h⟩ => ⟨hb, gA, vsA, h.frP f hl⟩) fun ⟨hb, gA, gB, vsA, vsB, h⟩ => ⟨hb, gA, gB, vsA, vsB, h.frP f hl⟩⟩
theorem TabX.fr (h : TabX tt te e R w H av t T) {l : List Nat} (f : Fr l w w1) (hl : ∀ k ∈ l, k ∈ av ∨ ¬ H k) : TabX tt te e R w1 H av t T := h.frP (FrP.of f) hl
theorem TabX.fr0 (h : TabX tt te e R w H av t T) (f : Fr [] w w1) : TabX tt te e R w1 H av t T := h.fr f fun k hk => by cases hk
theorem TabX.alloc (h : TabX tt te e R w H av t T) (f : Fr [] w w1) {b : Nat} (hb : b = w.heap.size) (hlt : b < w1.heap.size) : TabX tt te e R w1 H (b :: av) t T := by
  have hne : ∀ x, x < w.heap.size → ¬ x = b := fun x hx e => by omega
  have hperm : ∀ {x y : Nat} {l : List Nat}, ∀ k ∈ x :: y :: b :: l, k ∈ b :: x :: y :: l := by intro x y l k hk; simp at hk ⊢; rcases hk with h | h | h | h <;> simp [h]
  refine ⟨h.1, h.2.imp (fun ⟨he, gA, vsA, h⟩ => ⟨he, gA, vsA, ?_⟩) fun ⟨he, gA, gB, vsA, vsB, h⟩ => ⟨he, gA, gB, vsA, vsB, ?_⟩⟩
  · have ht := h.blk.lt
    have hg := h.ra.lt
    exact ⟨h.blk.fr0 f, h.ra.fr0 f, h.la, (h.bk.alloc f hb hlt).sub hperm (fun k _ _ q => q), h.ne, ⟨h.pt.1, by simp [hne t ht, h.pt.2]⟩, ⟨h.pg.1, by simp [hne gA hg, h.pg.2]⟩⟩
  · have ht := h.blk.lt
    have hg := h.ra.lt
    have hg2 := h.rb.lt
    refine ⟨h.blk.fr0 f, h.ra.fr0 f, h.rb.fr0 f, h.la, h.lb, (h.bk.alloc f hb hlt).sub (fun k hk => ?_) (fun k _ _ q => q), h.ne, h.ne2, h.ne3, ⟨h.pt.1, by simp [hne t ht, h.pt.2]⟩, ⟨h.pg.1, by simp [hne gA hg, h.pg.2]⟩, ⟨h.ph.1, by simp [hne gB hg2, h.ph.2]⟩⟩
    simp at hk ⊢
    rcases hk with h | h | h | h | h <;> simp [h]
theorem TabX.sub (h : TabX tt te e R w H av t T) (hs : ∀ k ∈ av', k ∈ av) (hH : ∀ k, k < w.heap.size → H k → H' k) : TabX tt te e R w H' av' t T := by
  refine ⟨h.1, h.2.imp (fun ⟨he, gA, vsA, h⟩ => ⟨he, gA, vsA, ?_⟩) fun ⟨he, gA, gB, vsA, vsB, h⟩ => ⟨he, gA, gB, vsA, vsB, ?_⟩⟩
  · exact ⟨h.blk, h.ra, h.la, h.bk.sub (fun k hk => by simp at hk ⊢; exact hk.imp id (Or.imp id (hs k))) (fun k hk _ q => hH k hk q), h.ne, ⟨hH _ h.blk.lt h.pt.1, fun hm => h.pt.2 (hs _ hm)⟩, ⟨hH _ h.ra.lt h.pg.1, fun hm => h.pg.2 (hs _ hm)⟩⟩
  · exact ⟨h.blk, h.ra, h.rb, h.la, h.lb, h.bk.sub (fun k hk => by simp at hk ⊢; exact hk.imp id (Or.imp id (Or.imp id (hs k)))) (fun k hk _ q => hH k hk q), h.ne, h.ne2, h.ne3, ⟨hH _ h.blk.lt h.pt.1, fun hm => h.pt.2 (hs _ hm)⟩, ⟨hH _ h.ra.lt h.pg.1, fun hm => h.pg.2 (hs _ hm)⟩, ⟨hH _ h.rb.lt h.ph.1, fun hm => h.ph.2 (hs _ hm)⟩⟩
theorem TabX.lt (h : TabX tt te e R w H av t T) : t < w.heap.size := by
  rcases h.2 with ⟨_, gA, vsA, h⟩ | ⟨_, gA, gB, vsA, vsB, h⟩
  · exact h.blk.lt
  · exact h.blk.lt
theorem TabX.pt (h : TabX tt te e R w H av t T) : H t ∧ t ∉ av := by
  rcases h.2 with ⟨_, gA, vsA, h⟩ | ⟨_, gA, gB, vsA, vsB, h⟩
  · exact h.pt
  · exact h.pt
end
/-! ### Two rows' slices in one -/
section
variable {α : Type} {R : Rp α} {w w1 : World} {e : TypeId} {H : Nat → Prop} {av : List Nat} {vsA vsB : List Value} {xa xb : List (List α)} {i : Nat} {d v : Value}
variable {ro : Option Nat} {P : Program} {Q : Exit → Act → World → Prop} {a : Act} {ops : Array Oper} {rest : List Oper} {d' : Option Tmp} {ty : TypeId} {pos : String} {aft : Array Edge} {g : Option (Nat × Bool)}
end
end Go.V
end
section
namespace Go.V
open Go.Base Go.RowKit
set_option linter.unusedVariables false
section
variable {α : Type} {R : Rp α} {w w1 : World}
end
section
variable {α : Type} {R : Rp α} {w : World} {e : TypeId} {H : Nat → Prop} {av : List Nat} {vs vsA vsB : List Value} {xs xa xb : List (List α)} {i j f : Nat} {d v : Value}
variable {ro : Option Nat} {P : Program} {Q : Exit → Act → World → Prop} {a : Act} {ops : Array Oper} {rest : List Oper} {ty : TypeId} {pos : String} {aft : Array Edge} {g : Option (Nat × Bool)}
end
end Go.V
end
section
namespace Go.V
open Go.Base Go.RowKit
set_option linter.unusedVariables false
set_option linter.unusedSimpArgs false
theorem over_take : ∀ (vs cs : List Value) (off n : Nat), n ≤ off → (over cs off vs).take n = cs.take n
  | [], cs, off, n, h => rfl
  | v :: vs, cs, off, n, h => by
    show (over (cs.set off v) (off + 1) vs).take n = cs.take n
    rw [over_take vs _ _ _ (by omega)]
    apply List.ext_getElem?
    intro i
    rw [List.getElem?_take, List.getElem?_take]
    split
    · rw [List.getElem?_set_ne (by omega)]
    · rfl
theorem zero1 (z : Array Value) : (Builtin.zeroCells z 1).toList = z.toList := by
  unfold Builtin.zeroCells
  apply List.ext_getElem
  · simp
  · intro i h1 h2
    simp at h1
    simp [Nat.mod_eq_of_lt h1, h1]
section
variable {ro : Option Nat} {P : Program} {Q : Exit → Act → World → Prop} {a : Act} {w : World} {ops : Array Oper} {rest : List Oper} {d : Option Tmp} {ty : TypeId} {pos : String} {aft : Array Edge} {gd : Option (Nat × Bool)}
theorem slc {t e : TypeId} {x : Operand} {lo hi mx : Option Operand} {sz : Nat} (g o n c l h m : Nat) (hx : a.eval x = .slice (some ⟨g, o, none⟩) n c)
    (hl : match lo with | some q => ∃ k, a.eval q = .int k (l : Int) | none => l = 0) (hh : match hi with | some q => ∃ k, a.eval q = .int k (h : Int) | none => h = n ∧ mx = none) (hm : match mx with | some q => ∃ k, a.eval q = .int k (m : Int) | none => m = c)
    (h1 : l ≤ h) (h2 : h ≤ m) (h3 : m ≤ c) (ht : P.underlying t = some (.slice e)) (hs : (P.info? e).map (·.size) = some sz)
    (k : ∀ ad : Addr, (m ≠ l → ad = ⟨g, o + l * sz, none⟩) → (l = 0 → ad = ⟨g, o, none⟩) → L ro P ops Q rest (a.put d (.slice (some ad) (h - l) (m - l))) w) : St ro P ops Q rest ⟨d, .slice t x lo hi mx, ty, pos, aft, gd⟩ a w := by
  obtain ⟨i, hi', hsz⟩ := Option.map_eq_some_iff.1 hs
  have hb : (Instr.sliceBounds true n c (lo.map a.eval) (hi.map a.eval) (mx.map a.eval)).run P w = .ok (l, h, m) w := by
    unfold Instr.sliceBounds
    cases mx with
    | none =>
      subst hm
      cases hi with
      | none =>
        obtain ⟨rfl, _⟩ := hh
        cases lo with
        | none => subst hl; simp [Sem.run_bind]
        | some q =>
          obtain ⟨kk, hq⟩ := hl
          simp [Sem.run_bind, hq, Instr.sliceBound, asIntOf, h1]
      | some p =>
        obtain ⟨kp, hp⟩ := hh
        cases lo with
        | none => subst hl; simp [Sem.run_bind, hp, Instr.sliceBound, asIntOf, h2]
        | some q =>
          obtain ⟨kk, hq⟩ := hl
          simp [Sem.run_bind, hp, hq, Instr.sliceBound, asIntOf, h1, h2]
    | some r =>
      obtain ⟨kr, hr⟩ := hm
      cases hi with
      | none => cases hh.2
      | some p =>
        obtain ⟨kp, hp⟩ := hh
        cases lo with
        | none => subst hl; simp [Sem.run_bind, hp, hr, Instr.sliceBound, asIntOf, h2, h3]
        | some q =>
          obtain ⟨kk, hq⟩ := hl
          simp [Sem.run_bind, hp, hq, hr, Instr.sliceBound, asIntOf, h1, h2, h3]
  have hadd : (⟨g, o, none⟩ : Addr).add (l * sz) = ⟨g, o + l * sz, none⟩ := by unfold Addr.add; split <;> simp_all
  refine St.val (v := .slice (some (if m = l then ⟨g, o, none⟩ else ⟨g, o + l * sz, none⟩)) (h - l) (m - l)) (w' := w) ?_ (k _ (fun hne => by rw [if_neg hne]) (fun h0 => by subst h0; split <;> simp))
  simp only [execOp, hx]
  unfold Instr.sliceAt
  simp only [Sem.run_bind, run_underlying ht, Result.andThen_ok]
  unfold Instr.slice
  simp only [Sem.run_bind, run_underlying ht, Result.andThen_ok]
  rw [hb]
  simp only [Result.andThen_ok, sizeOf, typeInfo, run_program, Sem.run_bind, hi', hsz, Sem.run_pure]
  split <;> simp [hadd]
theorem appIn {α : Type} {R : Rp α} {base : Nat} {e t : TypeId} {s x : Operand} {xs : List α} {g n c i m c2 : Nat} (hO : OwR R NoZ w base e (.slice (some ⟨g, 0, none⟩) n c) xs) (hn : n = xs.length) (hin : i < n) (hm : m = n - (i + 1)) (ad : Addr) (had : m ≠ 0 → ad = ⟨g, (i + 1) * R.sz, none⟩)
    (hs : a.eval s = .slice (some ⟨g, 0, none⟩) i c) (hx : a.eval x = .slice (some ad) m c2) (ht : P.underlying t = some (.slice e)) (hinfo : (P.info? e).map (·.size) = some R.sz)
    (k : ∀ w1 cur, OwR R NoZ w1 base e (.slice (some ⟨g, 0, none⟩) (i + m) c) (xs.eraseIdx i) → Fr [g] w w1 → Blk w1 g cur e → cur.length = c * R.sz → L ro P ops Q rest (a.put d (.slice (some ⟨g, 0, none⟩) (i + m) c)) w1) : St ro P ops Q rest ⟨d, .call ⟨.builtin .append, #[s, x], #[t, t]⟩, ty, pos, aft, gd⟩ a w := by
  subst hn
  obtain ⟨cs, h1, h2, h3⟩ := hO
  obtain ⟨inf, hi, hsz⟩ := Option.map_eq_some_iff.1 hinfo
  have hcl := h2.length
  rcases h1.2 with ⟨h, _⟩ | ⟨g', cap, cur, he, hb, hh, hnc, hcm, hcs, htk⟩
  · cases h
  injection he with e1 e2 e3
  injection e1 with e1
  injection e1 with e1
  subst e1; subst e3
  have hil : i * R.sz ≤ cs.length := by rw [hcl]; exact Nat.mul_le_mul_right _ (by omega)
  have hil1 : (i + 1) * R.sz ≤ cs.length := by rw [hcl]; exact Nat.mul_le_mul_right _ (by omega)
  have hpre : w.ownsRow base e R.sz (.slice (some ⟨g, 0, none⟩) i c) i (cs.take (i * R.sz)) := by
    refine ⟨by rw [List.length_take]; omega, .inr ⟨g, c, cur, rfl, hb, hh, by omega, hcm, hcs, ?_⟩⟩
    rw [← htk, List.take_take]; congr 1
    have : i * R.sz ≤ xs.length * R.sz := Nat.mul_le_mul_right _ (by omega)
    omega
  have hnl : (cs.drop ((i + 1) * R.sz)).length = m * R.sz := by
    rw [List.length_drop, hcl, hm, Nat.sub_mul]
  have hcell : ∀ j u, (cs.drop ((i + 1) * R.sz))[j]? = some u → w.cell? (ad.add j) = some u := by
    intro j u hj
    have hlt : j < (cs.drop ((i + 1) * R.sz)).length := (List.getElem?_eq_some_iff.1 hj).1
    have hm0 : m ≠ 0 := by intro h0; rw [hnl, h0, Nat.zero_mul] at hlt; omega
    rw [had hm0, show (⟨g, (i + 1) * R.sz, none⟩ : Addr).add j = ⟨g, (i + 1) * R.sz + j, none⟩ by unfold Addr.add; split <;> simp_all]
    rw [List.getElem?_drop] at hj
    have := h1.cells (g := g) rfl ((i + 1) * R.sz + j) u hj
    rwa [Base.add_plain] at this
  have hone : ∀ u ∈ cs.drop ((i + 1) * R.sz), u.oneCell' = true := fun u hu => h2.one u (List.mem_of_mem_drop hu)
  obtain ⟨w1, hr, ho, hg⟩ := run_append_own_spare (P := P) w base t ty e inf R.sz ht hi hsz g i c (cs.take (i * R.sz)) hpre ad m c2 (cs.drop ((i + 1) * R.sz)) hnl hcell hone (by omega)
  have hf : Fr [g] w w1 := Fr.of_grown hg (fun k hk => by injection hk with hk; subst hk; simp)
  have hlen : (xs.eraseIdx i).length = i + m := by rw [List.length_eraseIdx_of_lt hin]; omega
  have herase : ∀ {xs : List α} {cs : List Value} {i : Nat}, Cells R NoZ w xs cs → i < xs.length → Cells R NoZ w (xs.eraseIdx i) (cs.take (i * R.sz) ++ cs.drop ((i + 1) * R.sz)) := by
    intro xs
    induction xs with
    | nil => intro cs i _ h; simp at h
    | cons y ys ih =>
      rintro cs i ⟨c', r, rfl, hok, hr⟩ hi
      have hl' := R.len hok
      cases i with
      | zero =>
        rw [List.eraseIdx_cons_zero, Nat.zero_mul, List.take_zero, List.nil_append, Nat.zero_add, Nat.one_mul, List.drop_append_of_le_length (by omega), List.drop_of_length_le (by omega), List.nil_append]
        exact hr
      | succ i =>
        rw [List.eraseIdx_cons_succ]
        refine ⟨c', r.take (i * R.sz) ++ r.drop ((i + 1) * R.sz), ?_, hok, ih hr (by simpa using hi)⟩
        rw [show (i + 1) * R.sz = c'.length + i * R.sz by rw [hl', Nat.add_mul]; omega, List.take_length_add_append]
        rw [show (i + 1 + 1) * R.sz = c'.length + (i + 1) * R.sz by rw [hl', Nat.add_mul (i + 1)]; omega, List.drop_length_add_append, List.append_assoc]
        congr 3
        rw [hl', Nat.add_mul]; omega
  have hOw : OwR R NoZ w1 base e (.slice (some ⟨g, 0, none⟩) (i + m) c) (xs.eraseIdx i) := ⟨_, by rw [hlen]; exact ho, (herase h2 hin).mono (fun b hb hz => hz.elim) hf.size, fun b hb hz => hz.elim⟩
  have hB1 : ∃ cur' : List Value, Blk w1 g cur' e ∧ cur'.length = c * R.sz := by
    rcases ho.2 with ⟨h, _⟩ | ⟨g', cap', cur', he', _, hh', _, _, hcs', _⟩
    · cases h
    · injection he' with e1 e2 e3
      injection e1 with e1
      injection e1 with e1
      subst e1; subst e3
      exact ⟨cur'.toList, by unfold Blk; rw [hh'], by rw [Array.length_toList, hcs']⟩
  obtain ⟨cur', hB1, hcl1⟩ := hB1
  have hrun : (execOp a.eval ⟨d, .call ⟨.builtin .append, #[s, x], #[t, t]⟩, ty, pos, aft, gd⟩).run P w = .ok (.value (.slice (some ⟨g, 0, none⟩) (i + m) c)) w1 := by
    simp only [execOp, resolve, invoke, builtin, Sem.run_bind, Sem.run_pure, Result.andThen_ok, List.map_toArray, List.map_cons, List.map_nil, hs, hx, hr]
  exact St.val hrun (k w1 cur' hOw hf hB1 hcl1)
/-- clear of the last element's cells, behind the slice. -/
theorem clr1 {α : Type} {R : Rp α} {base : Nat} {e t : TypeId} {x : Operand} {xs : List α} {g n c c2 : Nat} {z : Value} (hO : OwR R NoZ w base e (.slice (some ⟨g, 0, none⟩) n c) xs) (hn : n = xs.length) {cur : List Value} (hB : Blk w g cur e) (hcl : cur.length = c * R.sz) (hnc : n + 1 ≤ c)
    (hx : a.eval x = .slice (some ⟨g, 0 + n * R.sz, none⟩) 1 c2) (ht : P.underlying t = some (.slice e)) (hinfo : (P.info? e).map (fun i => (i.zero, i.size)) = some (some z, R.sz)) (hz : z.cells.toList.length = R.sz) (h1 : z.cells.toList.all Value.oneCell' = true)
    (k : ∀ w1, OwR R NoZ w1 base e (.slice (some ⟨g, 0, none⟩) n c) xs → Fr [g] w w1 → w1.heap.size = w.heap.size → L ro P ops Q rest a w1) : St ro P ops Q rest ⟨none, .call ⟨.builtin .clear, #[x], #[t]⟩, ty, pos, aft, gd⟩ a w := by
  subst hn
  obtain ⟨inf, hi, hzz⟩ := Option.map_eq_some_iff.1 hinfo
  simp only [Prod.mk.injEq] at hzz
  have hle : 0 + xs.length * R.sz + z.cells.toList.length ≤ cur.length := by rw [hcl, hz, Nat.zero_add, ← Nat.succ_mul]; exact Nat.mul_le_mul_right _ hnc
  obtain ⟨w1, hst, hB1, hF, hsz⟩ := run_storeCells (P := P) g e (0 + xs.length * R.sz) z.cells.toList 0 w cur (fun u hu => List.all_eq_true.1 h1 u hu) hB (by simpa using hle)
  have hO' := hO
  obtain ⟨cs, ho1, ho2, ho3⟩ := hO
  have hown : OwR R NoZ w1 base e (.slice (some ⟨g, 0, none⟩) xs.length c) xs := by
    refine ⟨cs, ⟨ho1.1, ?_⟩, ho2.mono (fun b hb hz => hz.elim) hF.size, fun b hb hz => hz.elim⟩
    rcases ho1.2 with ⟨h, _⟩ | ⟨g', cap, cur0, he, hb, hh, hnc', hcm, hcs, htk⟩
    · cases h
    injection he with e1 e2 e3
    injection e1 with e1
    injection e1 with e1
    subst e1; subst e3
    have hcur : cur0 = cur.toArray := by
      have hB' : w.heap[g]? = some (.cells cur.toArray e (0, 0)) := hB
      rw [hh] at hB'
      injection hB' with hB'
      injection hB' with hB'
    refine .inr ⟨g, c, _, rfl, hb, hB1, hnc', hcm, ?_, ?_⟩
    · rw [← hcs, hcur]; simp [over_length]
    · rw [List.toList_toArray, ← htk, hcur]
      rw [List.toList_toArray]
      have hadd0 : xs.length * R.sz + 0 = xs.length * R.sz := Nat.add_zero _
      rw [show 0 + xs.length * R.sz + 0 = xs.length * R.sz by omega] 
      exact over_take _ _ _ _ (Nat.le_refl _)
  have hzc := zero1 z.cells
  have hrun : (execOp a.eval ⟨none, .call ⟨.builtin .clear, #[x], #[t]⟩, ty, pos, aft, gd⟩).run P w = .ok (.value (.tuple #[])) w1 := by
    have hzv : ∀ w, (zeroValue e).run P w = .ok z w := fun w => by simp [zeroValue, typeInfo, hi, hzz.1, Sem.run_bind]
    simp only [execOp, resolve, invoke, builtin, Sem.run_bind, Sem.run_pure, Result.andThen_ok, List.map_toArray, List.map_cons, List.map_nil, hx, Builtin.clear_, run_underlying ht, hzv, hzc]
    simp only [List.getElem?_toArray, List.getElem?_cons_zero, Sem.run_bind, run_underlying ht, Result.andThen_ok, hzv, hzc, hst, Sem.run_pure]
  exact St.val hrun (k w1 hown hF hsz)
end
end Go.V
end
section
namespace Go.Proofs.YtdebkbfnngkdlaaGreatDoor
open Go.V Go.Base
open Go.RowKit (Below)
attribute [local irreducible] Act.put Act.eval
set_option linter.unusedVariables false
set_option linter.unusedSimpArgs false
set_option maxHeartbeats 4000000
set_option maxRecDepth 20000
/-! ### Delete -/
theorem info55c : (Tryz.prog.info? 55).map (fun i => (i.zero, i.size)) = some (some (.agg #[.string ⟨#[]⟩, .int .i64 0, .string ⟨#[]⟩, .slice none 0 0, .slice none 0 0, .slice none 0 0, .int .i64 0]), prE.sz) := by kernel_rfl
theorem placeQ_any (w : World) (base c : Nat) (A : Option Addr) (Z : Nat → Prop) (qs : List EnQ) (l : List EnD) (hd : datE qs = l) (hO : OwR prE NoZ w base 55 (.slice A qs.length c) qs) (hP : PsOk Z w qs) (key : ByteArray) :
    Calls Tryz.prog 66 #[.slice A qs.length c, .string key] w fun e w' => e = .returned (.int .i64 (plN l key)) ∧ Fr [] w w' := by
  subst hd
  have h := place_any w A c (datE qs) (by rw [datE_len]; exact OwR.dat hO hP) key
  rw [datE_len] at h
  exact h
def delL (l : List EnD) (key : ByteArray) : List EnD := if plN l key < 0 then l else l.eraseIdx (plN l key).toNat
theorem del_no {l : List EnD} {key : ByteArray} (h : plN l key < 0) : delL l key = l := if_pos h
theorem del_at {l : List EnD} {key : ByteArray} {i : Nat} (h : plN l key = i) : delL l key = l.eraseIdx i := by unfold delL; rw [if_neg (by omega), h, Int.toNat_natCast]
theorem dat_erase (qs : List EnQ) (i : Nat) : datE (qs.eraseIdx i) = (datE qs).eraseIdx i := by unfold datE; rw [List.eraseIdx_eq_take_drop_succ, List.eraseIdx_eq_take_drop_succ, List.map_append, List.map_take, List.map_drop]
theorem delg_any (w : World) (base g c i : Nat) (xs : List EnQ) (hO : OwR prE NoZ w base 55 (.slice (some ⟨g, 0, none⟩) xs.length c) xs) (hi : i < xs.length) (hc : xs.length ≤ c) (hl : xs.length ≤ 1099511627776) : Calls Tryz.prog 68 #[.slice (some ⟨g, 0, none⟩) xs.length c, .int .i64 (i : Int), .int .i64 ((i : Int) + 1)] w (fun e w' => e = .returned (.slice (some ⟨g, 0, none⟩) (xs.length - 1) c) ∧ OwR prE NoZ w' base 55 (.slice (some ⟨g, 0, none⟩) (xs.length - 1) c) (xs.eraseIdx i) ∧ Fr [g] w w') := by
 have hF := Fr.refl [g] w
 have herl : i + (xs.length - (i + 1)) = (xs.eraseIdx i).length := by rw [List.length_eraseIdx_of_lt hi]; omega
 refine V.en 33 Tryz.func68 fun a h1 => ?_
 refine V.sr h1 [] 6 6 [] fun a h4 => ?_
 refine V.sg fun K5 k6 => ?_
 refine V.run h4 [] 5 11 11 [(8, .slice (some ⟨g, 0, none⟩) xs.length c), (9, .int .i64 (i : Int)), (10, .int .i64 ((i : Int) + 1)), (12, .int .i64 ((xs.length : Nat) : Int))] fun a h7 => ?_
 refine V.go (V.slc (e := 55) (sz := 7) g 0 xs.length c i (i + 1) xs.length (h7.e (v := (.slice (some ⟨g, 0, none⟩) xs.length c))) ⟨_, ((h7.e (v := (.int .i64 (i : Int))))).trans (V.int_eq (by omega))⟩ ⟨_, ((h7.e (v := (.int .i64 ((i : Int) + 1))))).trans (V.int_eq (by omega))⟩ ⟨_, ((h7.e (v := (.int .i64 ((xs.length : Nat) : Int))))).trans (V.int_eq (by omega))⟩ (by omega) (by omega) (by omega) (by kernel_rfl) (by kernel_rfl) ?_)
 intro ad8 had9 hae10
 refine V.pt h7 fun a h11 => ?_
 refine V.nt (k6 _ _ ?_)
 refine V.seq fun K12 k13 => ?_
 refine V.sr h11 [(2, .eq (i : Int) ((i : Int) + 1))] 14 15 [(16, .bool (decide ((i : Int) = ((i : Int) + 1))))] fun a h16 => ?_
 refine V.cp h16 ((i : Int) = ((i : Int) + 1)) (fun ht17 => ?_) (fun ht17 => ?_)
 ·
  refine V.sr h16 [] 17 17 [(6, .slice (some ⟨g, 0, none⟩) xs.length c)] fun a h20 => ?_
  refine V.ret (V.then_r ?_)
  refine V.r1 h20 (.slice (some ⟨g, 0, none⟩) xs.length c) ?_
  exact absurd ht17 (by omega)
 ·
  refine V.skip ?_
  refine V.then_n (k13 _ _ ?_)
  refine V.sr h16 [] 18 19 [(7, .int .i64 ((xs.length : Nat) : Int))] fun a h23 => ?_
  refine V.seq fun K24 k25 => ?_
  refine V.pl [([0,1,2,3,4,5],some (6,[])),([7],none)] fun w26 hF27 hsw26 => ?_
  have hF_28 := hF.trans hF27 (by simp <;> omega)
  have hO_29 := hO.fr0 hF27
  refine V.pe0 ?_
  refine V.run h23 [] 2 1 0 [(20, .slice (some ⟨g, 0, none⟩) xs.length c), (21, .int .i64 (i : Int))] fun a h30 => ?_
  refine V.go (V.slc (e := 55) (sz := 7) g 0 xs.length c 0 i c (h30.e (v := (.slice (some ⟨g, 0, none⟩) xs.length c))) rfl ⟨_, ((h30.e (v := (.int .i64 (i : Int))))).trans (V.int_eq (by omega))⟩ rfl (by omega) (by omega) (by omega) (by kernel_rfl) (by kernel_rfl) ?_)
  intro ad31 had32 hae33
  obtain rfl := hae33 rfl
  refine V.pt h30 fun a h34 => ?_
  refine V.run h34 [] 2 1 0 [(23, .slice (some ⟨g, 0, none⟩) xs.length c), (24, .int .i64 ((i : Int) + 1))] fun a h35 => ?_
  refine V.go (V.slc (e := 55) (sz := 7) g 0 xs.length c (i + 1) xs.length c (h35.e (v := (.slice (some ⟨g, 0, none⟩) xs.length c))) ⟨_, ((h35.e (v := (.int .i64 ((i : Int) + 1))))).trans (V.int_eq (by omega))⟩ ⟨rfl, rfl⟩ rfl (by omega) (by omega) (by omega) (by kernel_rfl) (by kernel_rfl) ?_)
  intro ad36 had37 hae38
  refine V.pt h35 fun a h39 => ?_
  refine V.se h39 [] 1 0 [] fun a h40 => ?_
  refine V.go (V.appIn (R := prE) (i := i) (m := xs.length - (i + 1)) hO_29 rfl hi rfl ad36 (fun hq => by rw [had37 (by omega)]; exact congrArg (fun o => (⟨g, o, none⟩ : Addr)) (Nat.zero_add _)) (h40.e (v := (.slice (some ⟨g, 0, none⟩) (i - 0) (c - 0)))) (h40.e (v := (.slice (some ad36) (xs.length - (i + 1)) (c - (i + 1))))) (by kernel_rfl) (by kernel_rfl) ?_)
  intro w41 cur46 hO42 hF43 hB44 hcl45
  have hsw41 := hF43.size
  have hF_47 := hF_28.trans hF43 (by simp <;> omega)
  refine V.pt h40 fun a h48 => ?_
  refine V.eh trivial ?_
  refine V.pz h48 [] 1 0 [(0, .slice (some ⟨g, 0, none⟩) (i + (xs.length - (i + 1))) c)] fun a h49 => k25 _ _ ?_
  refine V.sg fun K50 k51 => ?_
  refine V.run h49 [] 4 28 28 [(27, .slice (some ⟨g, 0, none⟩) (i + (xs.length - (i + 1))) c), (29, .int .i64 (((i + (xs.length - (i + 1))) : Nat) : Int)), (30, .int .i64 ((xs.length : Nat) : Int))] fun a h52 => ?_
  refine V.go (V.slc (e := 55) (sz := 7) g 0 (i + (xs.length - (i + 1))) c (i + (xs.length - (i + 1))) xs.length c (h52.e (v := (.slice (some ⟨g, 0, none⟩) (i + (xs.length - (i + 1))) c))) ⟨_, ((h52.e (v := (.int .i64 (((i + (xs.length - (i + 1))) : Nat) : Int))))).trans (V.int_eq (by omega))⟩ ⟨_, ((h52.e (v := (.int .i64 ((xs.length : Nat) : Int))))).trans (V.int_eq (by omega))⟩ rfl (by omega) (by omega) (by omega) (by kernel_rfl) (by kernel_rfl) ?_)
  intro ad53 had54 hae55
  obtain rfl := had54 (by omega)
  refine V.pt h52 fun a h56 => ?_
  refine V.go (V.clr1 (R := prE) (n := i + (xs.length - (i + 1))) hO42 herl hB44 hcl45 (by omega) ((h56.e (v := (.slice (some ⟨g, 0 + (i + (xs.length - (i + 1))) * 7, none⟩) (xs.length - (i + (xs.length - (i + 1)))) (c - (i + (xs.length - (i + 1))))))).trans (V.sl_eq (by omega))) (by kernel_rfl) (info55c) rfl rfl ?_)
  intro w57 hO58 hF59 hsw57
  have hF_60 := hF_47.trans hF59 (by simp <;> omega)
  refine V.nt (k51 _ _ ?_)
  refine V.sr h56 [] 32 32 [(6, .slice (some ⟨g, 0, none⟩) (i + (xs.length - (i + 1))) c)] fun a h63 => ?_
  refine V.ret ?_
  refine V.r1 h63 (.slice (some ⟨g, 0, none⟩) (i + (xs.length - (i + 1))) c) ?_
  have hq1 : i + (xs.length - (i + 1)) = xs.length - 1 := by omega
  rw [hq1] at hO58 ⊢
  exact ⟨rfl, hO58, hF_60⟩
theorem del_any (w : World) (base c i : Nat) (A : Option Addr) (xs : List EnQ) (hO : OwR prE NoZ w base 55 (.slice A xs.length c) xs) (hi : i < xs.length) (hl : xs.length ≤ 1099511627776) :
    Calls Tryz.prog 68 #[.slice A xs.length c, .int .i64 (i : Int), .int .i64 ((i : Int) + 1)] w (fun e w' => e = .returned (.slice A (xs.length - 1) c) ∧ OwR prE NoZ w' base 55 (.slice A (xs.length - 1) c) (xs.eraseIdx i) ∧ Fr ((Value.slice A xs.length c).ownBlock.toList) w w') := by
  rcases hO.caseE with ⟨_, h0⟩ | ⟨g, c', he⟩
  · rw [h0] at hi; simp at hi
  · injection he with e1 e2 e3
    subst e1; subst e3
    exact (delg_any w base g c i xs hO hi hO.cap hl)
theorem dele_any (w : World) (Al : Option Addr) (cl : Nat) (l : List EnD) (hSl : SlR enR (fun k => k < w.heap.size) w (.slice Al l.length cl) l) (key2 : ByteArray) (hsm : ∀ x ∈ l, smE x) (hl : l.length ≤ 1099511627776) : Calls Tryz.prog 28 #[.slice Al l.length cl, .string key2] w (fun e w' => ∃ A' c', e = .returned (.tuple #[.slice A' (delL l key2).length c', .bool (decide (¬ plN l key2 < 0))]) ∧ SlR enR (fun k => k < w'.heap.size) w' (.slice A' (delL l key2).length c') (delL l key2) ∧ Fr [] w w') := by
 have hF := Fr.refl [] w
 have hlen0 := hSl.len_le
 refine V.en 21 Tryz.func28 fun a h1 => ?_
 refine V.sr h1 [] 4 5 [] fun a h4 => ?_
 refine V.sg fun K5 k6 => ?_
 refine V.run h4 [] 1 1 0 [(8, .slice Al l.length cl)] fun a h7 => ?_
 refine V.cl h7 (Go.Proofs.enters_of Tryz.func62 (by kernel_rfl) rfl) (owned_any w Al cl l.length l (by first | rfl | (simp only [List.length_take, List.length_drop]; omega)) hSl.old (by omega) hsm) ?_
 rintro _ w17 ⟨A8, c9, qs10, rfl, hd11, hO12, hP13, hF14⟩
 refine ⟨_, rfl, fun a h18 => ?_⟩
 have hsw17 := hF14.size
 have hF_19 := hF.new hF14
 have hql16 : qs10.length = l.length := by rw [← datE_len, hd11]
 have hS15 := hO12.read (Z' := fun k => w.heap.size ≤ k) (fun _ _ h => h.elim) (fun _ h _ => h)
 refine V.re h18 [] 1 0 [(6, .slice A8 qs10.length c9)] fun a h21 => k6 _ _ ?_
 refine V.sg fun K22 k23 => ?_
 refine V.run h21 [] 2 1 0 [(10, .slice A8 qs10.length c9), (11, .string key2)] fun a h24 => ?_
 refine V.cl h24 (Go.Proofs.enters_of Tryz.func66 (by kernel_rfl) rfl) (placeQ_any w17 w.heap.size c9 A8 _ qs10 l hd11 hO12 hP13 key2) ?_
 rintro _ w26 ⟨rfl, hF25⟩
 refine ⟨_, rfl, fun a h27 => ?_⟩
 have hsw26 := hF25.size
 have hF_28 := hF_19.new hF25
 have hO12_30 := hO12.fr0 hF25
 have hP13_31 := hP13.fr0 hF25
 refine V.re h27 [] 1 0 [(7, .int .i64 (plN l key2))] fun a h33 => k23 _ _ ?_
 refine V.seq fun K34 k35 => ?_
 refine V.sr h33 [] 13 13 [(14, .bool (decide ((plN l key2) < 0)))] fun a h38 => ?_
 refine V.cp h38 ((plN l key2) < 0) (fun ht39 => ?_) (fun ht39 => ?_)
 ·
  refine V.sr h38 [] 15 15 [(4, .slice A8 qs10.length c9), (5, .bool false)] fun a h42 => ?_
  refine V.ret (V.then_r ?_)
  refine V.r2 h42 (.slice A8 qs10.length c9) (.bool false) ?_
  have hSq := OwR.dat hO12_30 hP13_31
  have hdd := del_no (l := l) (key := key2) (by assumption)
  rw [hd11, ← hdd] at hSq
  have hn9 : qs10.length = (delL l key2).length := by rw [hdd]; omega
  rw [hn9] at hSq
  exact ⟨_, _, by rw [hn9]; exact congrArg (fun q => Ending.returned (Value.tuple #[_, Value.bool q])) (decide_eq_false (by omega)).symm, hSq, hF_28⟩
 ·
  refine V.skip ?_
  refine V.then_n (k35 _ _ ?_)
  refine V.seq fun K43 k44 => ?_
  obtain ⟨i, hpi, hil, hik⟩ := plN_lt (l := l) (key := key2) (by assumption)
  have h45 := h38.eq 7 (v := (.int .i64 (plN l key2))) (u := (.int .i64 (i : Int))) (V.int_eq (by omega))
  refine V.rg ?_
  refine V.run h45 [(3, .i ((i : Int) + 1))] 4 18 18 [(16, .slice A8 qs10.length c9), (17, .int .i64 (i : Int)), (19, .int .i64 ((i : Int) + 1))] fun a h46 => ?_
  refine V.cl h46 (Go.Proofs.enters_of Tryz.func68 (by kernel_rfl) rfl) (del_any w26 w.heap.size c9 i A8 qs10 hO12_30 (by omega) (by omega)) ?_
  rintro _ w49 ⟨rfl, hO47, hF48⟩
  refine ⟨_, rfl, fun a h50 => ?_⟩
  have hsw49 := hF48.size
  have hF_51 := hF_28.own hF48 (own_ge hO12_30 (by omega))
  have hP13_53 := hP13_31.own hF48 (by intro k hk; simpa using hk)
  refine V.re h50 [] 1 0 [(4, .slice A8 (qs10.length - 1) c9), (5, .bool true)] fun a h54 => k44 _ _ ?_
  refine V.ret ?_
  refine V.r2 h54 (.slice A8 (qs10.length - 1) c9) (.bool true) ?_
  have hSq := OwR.dat hO47 (hP13_53.sub fun q hq => List.mem_of_mem_eraseIdx hq)
  have hdd := del_at hpi
  rw [dat_erase, hd11, ← hdd] at hSq
  have hn9 : qs10.length - 1 = (delL l key2).length := by rw [hdd, List.length_eraseIdx_of_lt hil]; omega
  rw [hn9] at hSq
  exact ⟨_, _, by rw [hn9]; exact congrArg (fun q => Ending.returned (Value.tuple #[_, Value.bool q])) (decide_eq_true (by omega)).symm, hSq, hF_51⟩
/-! ### an entry put in, taken out: what is found -/
def ltK (x y : EnD) : Prop := slt x.key y.key
section
variable {l : List EnD} {x y : EnD} {key : ByteArray}
theorem srt_iff : Srt l ↔ l.Pairwise ltK := by
  rw [List.pairwise_iff_getElem]
  constructor
  · intro h i j hi hj hij
    have := h i j hij hj
    rw [at_el enR hi, at_el enR hj] at this
    exact this
  · intro h i j hij hj
    have hi : i < l.length := by omega
    rw [at_el enR hi, at_el enR hj]
    exact h i j hi hj hij
theorem img_iff : imgN l = 0 ↔ l.length ≤ 65536 ∧ (∀ y ∈ l, okD y) ∧ Srt l := by
  constructor
  · intro h
    refine ⟨?_, ?_, srt_img h⟩
    · unfold imgN at h
      split at h
      · cases h
      · omega
    · intro y hy
      unfold imgN at h
      split at h
      · cases h
      · split at h
        · rename_i hg
          obtain ⟨i, hi, rfl⟩ := List.mem_iff_getElem.1 hy
          have := (hg i hi).1
          rw [at_el enR hi] at this
          exact this
        · cases h
  · rintro ⟨h1, h2, h3⟩
    refine imgN_ok (by omega) fun i hi => ⟨by rw [at_el enR hi]; exact h2 _ (List.getElem_mem hi), fun h0 => ?_⟩
    have := h3 (i - 1) i (by omega) hi
    rw [show ((i - 1 : Nat) : Int) = (i : Int) - 1 by omega] at this
    exact this
theorem key_uniq (h : Srt l) (hx : x ∈ l) (hy : y ∈ l) (hk : x.key = y.key) : x = y := by
  obtain ⟨i, hi, rfl⟩ := List.mem_iff_getElem.1 hx
  obtain ⟨j, hj, rfl⟩ := List.mem_iff_getElem.1 hy
  rcases Nat.lt_trichotomy i j with h1 | h1 | h1
  · have := h i j h1 hj
    rw [at_el enR hi, at_el enR hj, hk] at this
    exact absurd this (slt_irr _)
  · subst h1; rfl
  · have := h j i h1 hi
    rw [at_el enR hi, at_el enR hj, hk] at this
    exact absurd this (slt_irr _)
theorem find_mem (h : Srt l) (hx : x ∈ l) : fdE l x.key = x ∧ ¬ plN l x.key < 0 := by
  rcases plN_spec l x.key with ⟨_, h2⟩ | ⟨i, h1, h2, h3, _⟩
  · exact absurd rfl (h2 x hx)
  · refine ⟨?_, by omega⟩
    rw [fd_at h1, at_el enR h2]
    exact key_uniq h (List.getElem_mem h2) hx h3
theorem find_none (h : ∀ y ∈ l, ¬ y.key = key) : plN l key < 0 ∧ fdE l key = enR.dflt := by
  rcases plN_spec l key with ⟨h1, _⟩ | ⟨i, _, h2, h3, _⟩
  · exact ⟨by omega, fd_no (by omega)⟩
  · exact absurd h3 (h _ (List.getElem_mem h2))
theorem lt_take (hy : y ∈ l.take (lbN l key)) : slt y.key key := by
  obtain ⟨i, hi, rfl⟩ := List.mem_iff_getElem.1 hy
  have hi' := hi
  rw [List.length_take] at hi'
  rw [List.getElem_take]
  have := lb_lo (l := l) (key := key) i (by omega) (by omega)
  rwa [at_el enR (by omega)] at this
theorem gt_drop (h : Srt l) (hy : y ∈ l.drop (if thR l key then lbN l key + 1 else lbN l key)) : slt key y.key := by
  obtain ⟨i, hi, rfl⟩ := List.mem_iff_getElem.1 hy
  rw [List.length_drop] at hi
  rw [List.getElem_drop]
  by_cases ht : thR l key
  · simp only [if_pos ht] at hi ⊢
    have hlt := ht.1
    have := h (lbN l key) (lbN l key + 1 + i) (by omega) (by omega)
    rw [ht.2, at_el enR (by omega)] at this
    exact this
  · simp only [if_neg ht] at hi ⊢
    have h1 := lb_hi (key := key) h (lbN l key + i) (by omega) (by omega)
    rw [at_el enR (by omega)] at h1
    rcases slt_tri l[lbN l key + i].key key with h2 | h2 | h2
    · exact absurd h2 h1
    · have hlt : lbN l key < l.length := by omega
      rcases Nat.eq_zero_or_pos i with h0 | h0
      · subst h0
        exact absurd ⟨hlt, by rw [at_el enR hlt]; exact h2⟩ ht
      · have h3 := h (lbN l key) (lbN l key + i) (by omega) (by omega)
        have h4 := lb_hi (key := key) h (lbN l key) (Nat.le_refl _) hlt
        rw [at_el enR (show lbN l key + i < l.length by omega), h2] at h3
        exact absurd h3 h4
    · exact h2
theorem mem_put (h : Srt l) : y ∈ putD l x ↔ y = x ∨ (y ∈ l ∧ ¬ y.key = x.key) := by
  unfold putD
  rw [List.mem_append, List.mem_cons]
  constructor
  · rintro (h1 | rfl | h1)
    · exact .inr ⟨List.mem_of_mem_take h1, fun e => slt_irr _ (e ▸ lt_take h1)⟩
    · exact .inl rfl
    · exact .inr ⟨List.mem_of_mem_drop h1, fun e => slt_irr _ (e ▸ gt_drop h h1)⟩
  · rintro (rfl | ⟨h1, h2⟩)
    · exact .inr (.inl rfl)
    · rw [← List.take_append_drop (lbN l x.key) l] at h1
      rcases List.mem_append.1 h1 with h3 | h3
      · exact .inl h3
      · refine .inr (.inr ?_)
        by_cases ht : thR l x.key
        · rw [if_pos ht]
          rw [List.drop_eq_getElem_cons ht.1] at h3
          rcases List.mem_cons.1 h3 with rfl | h3
          · have := ht.2; rw [at_el enR ht.1] at this; exact absurd this h2
          · exact h3
        · rw [if_neg ht]; exact h3
theorem srt_put (h : Srt l) : Srt (putD l x) := by
  rw [srt_iff] at h ⊢
  unfold putD
  refine List.pairwise_append.2 ⟨h.sublist (List.take_sublist _ _), List.pairwise_cons.2 ⟨fun y hy => gt_drop (srt_iff.2 h) hy, h.sublist (List.drop_sublist _ _)⟩, fun a ha b hb => ?_⟩
  rcases List.mem_cons.1 hb with rfl | hb
  · exact lt_take ha
  · exact slt_trans (lt_take ha) (gt_drop (srt_iff.2 h) hb)
theorem put_ok (h : putN l x = 0) : imgN l = 0 ∧ okD x ∧ putL l x = putD l x := by
  by_cases h1 : imgN l = 0
  · by_cases h2 : okD x
    · exact ⟨h1, h2, (put_yes h1 h2).2⟩
    · rw [(put_no h1 h2).1] at h; cases h
  · rw [(put_bad h1).1] at h; exact absurd h h1
theorem put_none (h : ¬ putN l x = 0) : putL l x = [] := if_neg h
theorem put_img (h : putN l x = 0) (hl : l.length < 65536) : imgN (putL l x) = 0 := by
  obtain ⟨h1, h2, h3⟩ := put_ok h
  obtain ⟨q1, q2, q3⟩ := img_iff.1 h1
  rw [h3]
  refine img_iff.2 ⟨?_, fun y hy => ?_, srt_put q3⟩
  · by_cases ht : thR l x.key
    · rw [putD_len2 ht]; omega
    · rw [putD_len ht]; omega
  · rcases (mem_put q3).1 hy with rfl | ⟨hy, _⟩
    · exact h2
    · exact q2 y hy
theorem put_find (h : putN l x = 0) : fdE (putL l x) x.key = x ∧ ¬ plN (putL l x) x.key < 0 := by
  obtain ⟨h1, h2, h3⟩ := put_ok h
  rw [h3]
  exact find_mem (srt_put (srt_img h1)) ((mem_put (srt_img h1)).2 (.inl rfl))
theorem put_other (h : putN l x = 0) (hk : ¬ key = x.key) : fdE (putL l x) key = fdE l key ∧ (plN (putL l x) key < 0 ↔ plN l key < 0) := by
  obtain ⟨h1, h2, h3⟩ := put_ok h
  have hs := srt_img h1
  rw [h3]
  by_cases he : ∃ y ∈ l, y.key = key
  · obtain ⟨y, hy, rfl⟩ := he
    have q1 := find_mem hs hy
    have q2 := find_mem (srt_put hs) ((mem_put (x := x) hs).2 (.inr ⟨hy, hk⟩))
    exact ⟨q2.1.trans q1.1.symm, ⟨fun q => absurd q q2.2, fun q => absurd q q1.2⟩⟩
  · have q1 := find_none (l := l) (key := key) fun y hy hq => he ⟨y, hy, hq⟩
    have q2 := find_none (l := putD l x) (key := key) fun y hy hq => by
      rcases (mem_put hs).1 hy with rfl | ⟨hy, _⟩
      · exact hk hq.symm
      · exact he ⟨y, hy, hq⟩
    exact ⟨q2.2.trans q1.2.symm, ⟨fun _ => q1.1, fun _ => q2.1⟩⟩
theorem del_sub : (delL l key).Sublist l := by
  unfold delL
  split
  · exact List.Sublist.refl _
  · exact List.eraseIdx_sublist _ _
theorem del_img (h : imgN l = 0) : imgN (delL l key) = 0 := by
  obtain ⟨q1, q2, q3⟩ := img_iff.1 h
  exact img_iff.2 ⟨Nat.le_trans del_sub.length_le q1, fun y hy => q2 y (del_sub.subset hy), srt_iff.2 ((srt_iff.1 q3).sublist del_sub)⟩
theorem del_gone (h : Srt l) : plN (delL l key) key < 0 := by
  refine (find_none fun y hy hk => ?_).1
  rcases plN_spec l key with ⟨h1, h2⟩ | ⟨i, h1, h2, h3, _⟩
  · exact h2 y (del_sub.subset hy) hk
  · rw [del_at h1] at hy
    have hyl := (List.eraseIdx_sublist l i).subset hy
    have e := key_uniq h hyl (List.getElem_mem h2) (hk.trans h3.symm)
    subst e
    obtain ⟨j, hj, e⟩ := List.mem_iff_getElem.1 hy
    have hp := List.pairwise_iff_getElem.1 (srt_iff.1 h)
    rw [List.getElem_eraseIdx] at e
    rw [List.length_eraseIdx_of_lt h2] at hj
    split at e
    · have := hp j i (by omega) h2 (by omega)
      rw [e] at this
      exact slt_irr _ this
    · have := hp i (j + 1) h2 (by omega) (by omega)
      rw [e] at this
      exact slt_irr _ this
end
end Go.Proofs.YtdebkbfnngkdlaaGreatDoor
end
