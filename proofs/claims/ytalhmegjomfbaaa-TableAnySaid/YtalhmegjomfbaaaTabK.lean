/- A table's keys: what is done to a table hangs on its keys alone. -/
import Derived.Test.YtalhmegjomfbaaaTabW
namespace Go.V
open Go.Base Go.RowKit
set_option linter.unusedVariables false
set_option linter.unusedSimpArgs false
section
variable {α β : Type}
def mapI (f : ByteArray → α → β) (l : List (ByteArray × α)) : List (ByteArray × β) := l.map fun x => (x.1, f x.1 x.2)
def Tb.mp (f : ByteArray → α → β) (T : Tb α) : Tb β := ⟨T.seed, T.a.map (mapI f), T.b.map (mapI f), T.moved, T.n⟩
def kI (l : List (ByteArray × α)) : List (ByteArray × Unit) := mapI (fun _ _ => ()) l
def Tb.ks (T : Tb α) : Tb Unit := T.mp fun _ _ => ()
theorem mapI_len (f : ByteArray → α → β) (l : List (ByteArray × α)) : (mapI f l).length = l.length := by simp [mapI]
theorem map_getD (f : ByteArray → α → β) (a : List (List (ByteArray × α))) (i : Nat) : (a.map (mapI f)).getD i [] = mapI f (a.getD i []) := by
  simp only [List.getD_eq_getElem?_getD, List.getElem?_map]
  cases a[i]? <;> rfl
theorem kset (a : List (List (ByteArray × α))) (i : Nat) (y : List (ByteArray × α)) : (a.set i y).map kI = (a.map kI).set i (kI y) := List.map_set ..
theorem kgetD (a : List (List (ByteArray × α))) (i : Nat) : (a.map kI).getD i [] = kI (a.getD i []) := map_getD (fun _ _ => ()) a i
theorem kapp (l m : List (ByteArray × α)) : kI (l ++ m) = kI l ++ kI m := List.map_append
theorem kputB (seed : Nat) (b : List (List (ByteArray × α))) (x : ByteArray × α) : (putB seed b x).map kI = putB seed (b.map kI) (x.1, ()) := by
  unfold putB
  rw [kset, kapp, List.length_map, kgetD]
  rfl
theorem kputBs (seed : Nat) : ∀ (l : List (ByteArray × α)) (b : List (List (ByteArray × α))), (l.foldl (putB seed) b).map kI = (kI l).foldl (putB seed) (b.map kI)
  | [], b => rfl
  | x :: l, b => by
    simp only [List.foldl_cons]
    rw [kputBs seed l, kputB]
    rfl
theorem ks_a (T : Tb α) : T.ks.a = T.a.map kI := rfl
theorem ks_b (T : Tb α) : T.ks.b = T.b.map kI := rfl
theorem ks_al (T : Tb α) : T.ks.a.length = T.a.length := by rw [ks_a, List.length_map]
theorem ks_bl (T : Tb α) : T.ks.b.length = T.b.length := by rw [ks_b, List.length_map]
theorem ks_ext {T : Tb α} {U : Tb Unit} (h1 : T.seed = U.seed) (h2 : T.a.map kI = U.a) (h3 : T.b.map kI = U.b) (h4 : T.moved = U.moved) (h5 : T.n = U.n) : T.ks = U := by
  cases U
  simp only at h1 h2 h3 h4 h5
  subst h1 h2 h3 h4 h5
  rfl
theorem ks_start (T : Tb α) (n : Nat) : (startT T n).ks = startT T.ks n := ks_ext rfl rfl (by simp [startT, kI, mapI]) rfl rfl
theorem ks_swap (T : Tb α) : (swapT T).ks = swapT T.ks := ks_ext rfl rfl rfl rfl rfl
theorem ks_moved (T : Tb α) : (movedT T).ks = movedT T.ks := ks_ext rfl (by show (T.a.set T.moved []).map kI = (T.a.map kI).set T.moved []; rw [kset]; rfl) (by
  show ((T.a.getD T.moved []).foldl (putB T.seed) T.b).map kI = ((T.a.map kI).getD T.moved []).foldl (putB T.seed) (T.b.map kI)
  rw [kputBs, kgetD]) rfl rfl
theorem ks_step (T : Tb α) : (tbStep T).ks = tbStep T.ks := by
  unfold tbStep
  rw [ks_bl, ks_al]
  split
  · rfl
  · have hm : T.ks.moved = T.moved := rfl
    rw [hm]
    split
    · exact ks_moved T
    · rw [← ks_moved, ks_bl]
      have hn : T.ks.n = T.n := rfl
      rw [hn]
      split
      · rw [ks_start, ks_swap]
      · exact ks_swap _
theorem kfind (l : List (ByteArray × α)) (k : ByteArray) : ixI (kI l) k = ixI l k := by
  have h : (kI l).findIdx (fun x => decide (x.1 = k)) = l.findIdx (fun x => decide (x.1 = k)) := by
    unfold kI mapI
    induction l with
    | nil => rfl
    | cons x l ih => simp only [List.map_cons, List.findIdx_cons, ih]
  unfold ixI
  rw [h]
  have : (kI l).length = l.length := mapI_len _ l
  rw [this]
theorem ks_find (T : Tb α) (k : ByteArray) : findT T.ks k = findT T k := by
  unfold findT
  rw [ks_al, ks_bl, ks_a, ks_b, kgetD, kgetD, kfind, kfind]
  rfl
theorem kmod (l : List (ByteArray × α)) (j : Nat) (v : α) : kI (l.modify j fun x => (x.1, v)) = (kI l).modify j fun x => (x.1, ()) := by
  induction l generalizing j with
  | nil => cases j <;> rfl
  | cons x l ih =>
    cases j with
    | zero => rfl
    | succ j =>
      show (x.1, ()) :: kI (l.modify j fun x => (x.1, v)) = (x.1, ()) :: (kI l).modify j fun x => (x.1, ())
      rw [ih]
theorem kera (l : List (ByteArray × α)) (j : Nat) : kI (l.eraseIdx j) = (kI l).eraseIdx j := by
  induction l generalizing j with
  | nil => rfl
  | cons x l ih =>
    cases j with
    | zero => rfl
    | succ j =>
      show (x.1, ()) :: kI (l.eraseIdx j) = (x.1, ()) :: (kI l).eraseIdx j
      rw [ih]
theorem ks_setV (l : List (List (ByteArray × α))) (i j : Nat) (v : α) : (setV l i j v).map kI = setV (l.map kI) i j () := by unfold setV; rw [kset, kmod, kgetD]
theorem ks_rmV (l : List (List (ByteArray × α))) (i j : Nat) : (rmV l i j).map kI = rmV (l.map kI) i j := by unfold rmV; rw [kset, kera, kgetD]
theorem ks_upd (T : Tb α) (k : ByteArray) (v : α) : (updT T k v).ks = updT T.ks k () := by
  unfold updT
  rw [ks_find]
  split
  · exact ks_ext rfl (ks_setV ..) rfl rfl rfl
  · exact ks_ext rfl rfl (ks_setV ..) rfl rfl
theorem ks_ins (T : Tb α) (k : ByteArray) (v : α) : (insT T k v).ks = insT T.ks k () := by
  have hn : T.ks.n = T.n := rfl
  unfold insT
  rw [ks_bl, ks_al, hn]
  split
  · split
    · rw [ks_start]
      exact congrArg (fun x => startT x _) (ks_ext rfl (kputB ..) rfl rfl rfl)
    · exact ks_ext rfl (kputB ..) rfl rfl rfl
  · exact ks_ext rfl rfl (kputB ..) rfl rfl
theorem ks_put (T : Tb α) (k : ByteArray) (v : α) : (putT T k v).ks = putT T.ks k () := by
  unfold putT put1T
  rw [← ks_step, ks_find]
  split
  · exact ks_upd ..
  · exact ks_ins ..
theorem ks_rm1 (T : Tb α) (k : ByteArray) : (rm1T T k).ks = rm1T T.ks k := by
  unfold rm1T
  rw [ks_find]
  split
  · exact ks_ext rfl (ks_rmV ..) rfl rfl rfl
  · exact ks_ext rfl rfl (ks_rmV ..) rfl rfl
theorem ks_shr (T : Tb α) : (shrT T).ks = shrT T.ks := by
  have hn : T.ks.n = T.n := rfl
  unfold shrT
  rw [ks_bl, ks_al, hn]
  split
  · exact ks_start ..
  · rfl
theorem ks_del (T : Tb α) (k : ByteArray) : (delT T k).ks = delT T.ks k := by
  unfold delT del1T
  rw [← ks_step, ks_find]
  split
  · rw [ks_shr, ks_rm1]
  · rfl
theorem ks_new (seed : Nat) : (newT seed : Tb α).ks = newT seed := ks_ext rfl rfl rfl rfl rfl
theorem ks_put2 {T : Tb α} {U : Tb β} (h : T.ks = U.ks) (k : ByteArray) (v : α) (u : β) : (putT T k v).ks = (putT U k u).ks := by rw [ks_put, ks_put, h]
theorem ks_del2 {T : Tb α} {U : Tb β} (h : T.ks = U.ks) (k : ByteArray) : (delT T k).ks = (delT U k).ks := by rw [ks_del, ks_del, h]
theorem ks_step2 {T : Tb α} {U : Tb β} (h : T.ks = U.ks) : (tbStep T).ks = (tbStep U).ks := by rw [ks_step, ks_step, h]
theorem ks_sizes {T : Tb α} {U : Tb β} (h : T.ks = U.ks) : T.a.length = U.a.length ∧ T.b.length = U.b.length ∧ T.moved = U.moved ∧ T.n = U.n :=
  ⟨by rw [← ks_al T, h, ks_al], by rw [← ks_bl T, h, ks_bl], congrArg Tb.moved h, congrArg Tb.n h⟩
/-- All the keys, in their order. -/
def Tb.keys (T : Tb α) : List ByteArray := (T.a ++ T.b).flatten.map (·.1)
theorem ks_keys (T : Tb α) : T.ks.keys = T.keys := by
  unfold Tb.keys
  rw [ks_a, ks_b, ← List.map_append, List.map_flatten, List.map_flatten, List.map_map]
  congr 1
  refine List.map_congr_left fun l _ => ?_
  simp [kI, mapI, Function.comp_def]
theorem keys2 {T : Tb α} {U : Tb β} (h : T.ks = U.ks) : T.keys = U.keys := by rw [← ks_keys T, h, ks_keys]
theorem mp_ks (f : ByteArray → α → β) (T : Tb α) : (T.mp f).ks = T.ks := by
  unfold Tb.ks Tb.mp
  simp only [List.map_map]
  congr 1
  · refine List.map_congr_left fun l _ => ?_
    simp [mapI, Function.comp_def]
  · refine List.map_congr_left fun l _ => ?_
    simp [mapI, Function.comp_def]
theorem keys_at {T : Tb α} {i : Nat} {x : ByteArray × α} (h : (T.a ++ T.b).flatten[i]? = some x) : T.keys[i]? = some x.1 := by unfold Tb.keys; rw [List.getElem?_map, h]; rfl
end
end Go.V
