/- slices.SortFunc at points: the kit's contract as one of the engine's. -/
import Derived.Test.YtmcmbpoebhjecaaSy
import Derived.Test.YtmcmbpoebhjecaaPs
import Derived.Test.YtmcmbpoebhjecaaEngF
import Derived.Shelf.SlSortCmp.WholeK
import Derived.Shelf.SlSortCmp.NoneTotal
namespace Go.Proofs.Ytmcmbpoebhjecaa
open Go.Sort Go.Shelf Go.Lib
set_option linter.unusedVariables false
set_option linter.unusedSimpArgs false
set_option maxRecDepth 100000
abbrev Tri := Int × Int × Int
def encT (x : Tri) : List Value := [.int .i64 x.1, .int .i64 x.2.1, .int .i64 x.2.2]
def fromT (x : Tri) : List Int := [x.1, x.2.1, x.2.2]
def toT (l : List Int) : Tri := (l.getD 0 0, l.getD 1 0, l.getD 2 0)
theorem fromT_len (x : Tri) : (fromT x).length = 3 := rfl
theorem from_to {l : List Int} (h : l.length = 3) : fromT (toT l) = l := by
  match l, h with
  | [a, b, c], _ => rfl
theorem to_from (x : Tri) : toT (fromT x) = x := rfl
theorem enc_map (x : Tri) : encT x = (fromT x).map (Value.int .i64) := rfl
def cfT (x y : Tri) : Int := lexC (fromT x) (fromT y)
theorem ltT_iff {x y : Tri} : ltOf cfT x y = true ↔ lexC (fromT x) (fromT y) < 0 := by unfold ltOf; exact decide_eq_true_iff
theorem ltT_no {x y : Tri} : ltOf cfT x y = false ↔ ¬ lexC (fromT x) (fromT y) < 0 := by unfold ltOf; exact decide_eq_false_iff_not
theorem swoT : SWO (ltOf cfT) where
  irrefl x := by rw [ltT_no, lexC_self]; omega
  trans x y z h1 h2 := by
    rw [ltT_iff] at *
    exact lexC_trans (b := fromT y) rfl rfl h1 h2
  ntrans x y z h1 h2 := by
    rw [ltT_no] at *
    intro h
    by_cases e : fromT x = fromT y
    · rw [e] at h; exact h2 h
    · have h3 := lex_total (a := fromT x) (b := fromT y) rfl e h1
      exact h2 (lexC_trans (b := fromT x) rfl rfl h3 h)
/-! ### rows of cells -/
theorem ic_size (l : List Int) : (icells l).size = l.length := by simp only [icells, List.size_toArray, List.length_map]
theorem ic_get? (l : List Int) (i : Nat) : (icells l)[i]? = l[i]?.map (Value.int .i64) := by simp only [icells, List.getElem?_toArray, List.getElem?_map]
theorem ic_get {l : List Int} {i : Nat} (h : i < l.length) : (icells l)[i]! = .int .i64 l[i] := by
  rw [getElem!_pos _ _ (by rw [ic_size]; exact h)]
  simp only [icells, List.getElem_toArray, List.getElem_map]
theorem flatK_icells {L : List (List Int)} (h : T3 L) : flatK encT 3 (L.map toT).toArray = icells L.flatten := by
  refine ext_get! (by rw [size_flatK, ic_size, flat3 h]; simp) fun t ht => ?_
  have ht' : t < L.length * 3 := by simpa using ht
  have hi : t / 3 < L.length := by omega
  rw [get_flatK _ _ _ t (by simpa using ht')]
  have e1 : (L.map toT).toArray[t / 3]! = toT (L.getD (t / 3) []) := by
    rw [getElem!_pos _ _ (by simpa using hi), List.getElem_toArray, List.getElem_map, getD_lt hi]
  have l3 := h _ (getD_mem hi)
  rw [e1, enc_map, from_to l3]
  have hf := flat_get (sp := []) h hi
  rw [List.append_nil] at hf
  have hm : t % 3 < (L.getD (t / 3) []).length := by omega
  have hfl : t < L.flatten.length := by rw [flat3 h]; exact ht'
  have e2 : (L.getD (t / 3) [])[t % 3] = L.flatten[t] := by
    have : (L.getD (t / 3) [])[t % 3]? = L.flatten[t]? := by
      rw [← hf, List.getElem?_take, if_pos (by omega), List.getElem?_drop]
      congr 1
      omega
    rw [List.getElem?_eq_getElem hm, List.getElem?_eq_getElem hfl] at this
    exact Option.some.inj this
  rw [getElem!_pos _ _ (by rw [List.length_map]; exact hm), ic_get hfl, List.getElem_map, e2]
theorem holds_row {w : World} {b : Nat} {t : TypeId} {M N : List Int} (h : w.heap[b]? = some (.cells (icells (M ++ N)) t (0, 0))) : Holds id w b 0 (icells M) := by
  intro j hj
  have hj' : j < M.length := by rwa [ic_size] at hj
  rw [Nat.zero_add]
  refine ⟨?_, frozen_of_row w b j _ t h⟩
  rw [cell_of_row w b j _ t (0, 0) h, ic_get hj', ic_get?, List.getElem?_append_left hj', List.getElem?_eq_getElem hj']
  rfl
theorem put_row {w : World} {b : Nat} {t : TypeId} {M M' N : List Int} (h : w.heap[b]? = some (.cells (icells (M ++ N)) t (0, 0))) (hl : M'.length = M.length) :
    (putRow id w b 0 (icells M')).heap[b]? = some (.cells (icells (M' ++ N)) t (0, 0)) := by
  have e : putCells id 0 (icells M') (icells (M ++ N)) = icells (M' ++ N) := by
    apply Array.ext_getElem?
    intro k
    simp only [putCells, Array.getElem?_mapIdx]
    by_cases hk : k < M'.length
    · have h1 : k < (M ++ N).length := by rw [List.length_append]; omega
      rw [ic_get?, ic_get?, List.getElem?_eq_getElem h1, Option.map_some, Option.map_some, if_pos ⟨Nat.zero_le _, by rw [ic_size]; omega⟩, Nat.sub_zero, ic_get hk, List.getElem?_append_left hk, List.getElem?_eq_getElem hk]
      rfl
    · have h2 : (icells (M ++ N))[k]? = (icells (M' ++ N))[k]? := by
        rw [ic_get?, ic_get?, List.getElem?_append_right (by omega), List.getElem?_append_right (by omega), hl]
      rw [h2]
      cases (icells (M' ++ N))[k]? with
      | none => rfl
      | some x => rw [Option.map_some, if_neg (by rw [ic_size]; omega)]
  simp only [putRow, mapBlock, Array.getElem?_modify, if_true, h, Option.map_some, onCells, e]
theorem put_other {w : World} {b q : Nat} {F : Array Value} (h : b ≠ q) : (putRow id w b 0 F).heap[q]? = w.heap[q]? := by
  simp only [putRow, mapBlock, Array.getElem?_modify, if_neg h, Option.map_id']
/-! ### what the comparison does to the world -/
theorem grown_of {W w : World} {ρ ρ' : Nat → Nat} {H : Hp} (h : Inv [] [] ρ W ρ' H w) : ∃ q os, w = grow (W.drewN q) os := by
  refine ⟨w.drawn - W.drawn, w.heap.extract W.heap.size w.heap.size, ?_⟩
  have hh : w.heap = W.heap ++ w.heap.extract W.heap.size w.heap.size := by
    apply Array.ext_getElem?
    intro i
    rcases Nat.lt_or_ge i W.heap.size with hi | hi
    · rw [Array.getElem?_append_left hi]
      exact h.old i hi (by simp)
    · rw [Array.getElem?_append_right hi, Array.getElem?_extract]
      rcases Nat.lt_or_ge i w.heap.size with hj | hj
      · rw [if_pos (by omega), show W.heap.size + (i - W.heap.size) = i by omega]
      · rw [if_neg (by omega), Array.getElem?_eq_none hj]
  have h1 := h.drw
  obtain ⟨wh, wt, wd, wo, wu⟩ := w
  obtain ⟨Wh, Wt, Wd, Wo, Wu⟩ := W
  have h2 := h.os
  have h3 := h.tape
  have h4 := h.out
  simp only at h1 h2 h3 h4 hh
  subst h2; subst h3; subst h4
  simp only [grow, World.drewN]
  congr 1
  omega
theorem cmpLaysT (blk off size : Nat) (w : World) : CmpLays Try.prog 108 #[] encT 3 cfT blk off size w := by
  intro m os dk _ x y
  have hc := compareTriples_con (fromT x) (fromT y) rfl rfl
  refine (hc.2 (fun b => b) _ ⟨fun b k hb => by simp [lkB] at hb, fun b b' k k' hb => by simp [lkB] at hb⟩ (fun z hz => by simp at hz)).mono ?_
  rintro e w' ⟨r, H', ρ', ⟨rfl, rfl⟩, rfl, _, hi⟩
  exact ⟨rfl, grown_of hi⟩
theorem perm_of {L : List (List Int)} {d' : Array Tri} (h : PermIn 0 (L.map toT).toArray.size (L.map toT).toArray d') (h3 : T3 L) : (d'.toList.map fromT).Perm L ∧ d' = ((d'.toList.map fromT).map toT).toArray := by
  obtain ⟨h1, _, h2⟩ := h
  constructor
  · have hs : d'.size = L.length := by simpa using h1
    have e1 : (d'.extract 0 (L.map toT).toArray.size).toList = d'.toList := by
      rw [show (L.map toT).toArray.size = d'.size by rw [hs]; simp]
      simp
    have e2 : ((L.map toT).toArray.extract 0 (L.map toT).toArray.size).toList = L.map toT := by
      rw [Array.toList_extract]
      simp only [List.extract, List.size_toArray, List.length_map, List.drop_zero, Nat.sub_zero]
      rw [List.take_of_length_le (by rw [List.length_map]; exact Nat.le_refl _)]
    rw [e1, e2] at h2
    have h4 := h2.map fromT
    rw [List.map_map] at h4
    have e3 : L.map (fromT ∘ toT) = L := by
      conv => rhs; rw [← List.map_id L]
      exact List.map_congr_left fun l hl => from_to (h3 l hl)
    rwa [e3] at h4
  · rw [List.map_map]
    have : (toT ∘ fromT) = id := rfl
    rw [this, List.map_id]
theorem sorted_of {d' : Array Tri} {n : Nat} (h : SortedIn (ltOf cfT) 0 n d') (hs : d'.size = n) : (d'.toList.map fromT).Pairwise fun a b => ¬ lexC b a < 0 := by
  rw [List.pairwise_iff_getElem]
  intro i j hi hj hij
  have hi' : i < d'.size := by simpa using hi
  have hj' : j < d'.size := by simpa using hj
  have := ltT_no.1 (h i j (Nat.zero_le _) hij (by omega))
  rw [getElem!_pos d' i hi', getElem!_pos d' j hj'] at this
  simpa using this
theorem sortFunc_con (T : TypeId) (L : List (List Int)) (sp : List Int) (k : Nat) (h3 : T3 L) (hn : L.length ≤ 1000000) : Con Try.prog [] 107 [.slice 0 0 L.length k, .func 108 [] []] [(0, .ints T (L.flatten ++ sp))]
    (fun r H' => ∃ S : List (List Int), S.Perm L ∧ (S.Pairwise fun a b => ¬ lexC b a < 0) ∧ r = .tuple [] ∧ H' = [(0, .ints T (S.flatten ++ sp))]) := by
  refine ⟨⟨_, Try.func107, by kernel_rfl, by kernel_rfl⟩, fun ρ w hr hg => ?_⟩
  obtain ⟨ob, ho, hb⟩ := hr.1 0 _ rfl (by simp)
  simp only [BR] at hb
  subst hb
  have hblk : ρ 0 < w.heap.size := (Array.getElem?_eq_some_iff.1 ho).1
  have hH : HoldsK encT 3 w (ρ 0) 0 (L.map toT).toArray := by
    unfold HoldsK
    rw [flatK_icells h3]
    exact holds_row ho
  have eg : ∀ args w, (callFunc 108 args).run Try.prog w = .ok (.enter 108 args) w := enters_of Try.func108 (by kernel_rfl) rfl
  have hcon := AnyQ.slices_SortFunc sortP 3 Try.isAgg49 Try.sizeOf49 encT (fun _ => rfl) (fun x v hv => by simp [encT] at hv; rcases hv with rfl | rfl | rfl <;> rfl) cfT swoT 108 #[] (ρ 0) 0 k (L.map toT).toArray w eg (cmpLaysT _ _ _ _) hH hblk (by simp; omega)
  have ea : (rvs ρ [.slice 0 0 L.length k, .func 108 [] []]).toArray = #[.slice (some ⟨ρ 0, 0, none⟩) (L.map toT).toArray.size k, .func (.func 108) #[] #[]] := by
    simp [rvs, rv]
  rw [ea]
  change Calls Try.prog 107 _ _ _ at hcon
  refine hcon.mono ?_
  rintro e w' ⟨rfl, d', n, os, hp, hs, rfl⟩
  obtain ⟨hperm, hd'⟩ := perm_of hp h3
  have hsz : d'.size = (L.map toT).toArray.size := hp.1
  have hsort := sorted_of (n := (L.map toT).toArray.size) hs hsz
  generalize hS : d'.toList.map fromT = S at *
  have hS3 : T3 S := fun x hx => h3 x (hperm.mem_iff.1 hx)
  have hlen : S.flatten.length = L.flatten.length := by rw [flat3 hS3, flat3 h3, hperm.length_eq]
  have hw : sortWorldK encT 3 w (ρ 0) 0 n d' os = grow (putRow id (Sort.ahead w n) (ρ 0) 0 (icells S.flatten)) os := by
    unfold sortWorldK putRowK
    rw [hd', flatK_icells hS3]
  rw [hw]
  have hat : (grow (putRow id (Sort.ahead w n) (ρ 0) 0 (icells S.flatten)) os).heap[ρ 0]? = some (.cells (icells (S.flatten ++ sp)) T (0, 0)) := by
    show (_ ++ os)[ρ 0]? = _
    rw [Array.getElem?_append_left (by rw [size_putRow]; exact hblk)]
    exact put_row (w := Sort.ahead w n) ho hlen
  refine ⟨.tuple [], [(0, .ints T (S.flatten ++ sp))], ρ, ⟨S, hperm, hsort, rfl, rfl⟩, rfl, ⟨fun b kk hl hd => ?_, fun b b' k1 k2 h1 h2 d1 d2 hw12 he => ?_⟩, ⟨fun _ _ => rfl, fun b kk hl hd hwk => ?_, rfl, rfl, rfl, ?_, ?_, fun i hi hd => ?_⟩⟩
  · rw [lkB_cons] at hl
    split at hl
    · rename_i e; subst e; injection hl with hl; subst hl; exact ⟨_, hat, rfl⟩
    · simp [lkB] at hl
  · rw [lkB_cons] at h1 h2
    split at h1
    · split at h2
      · omega
      · simp [lkB] at h2
    · simp [lkB] at h1
  · rw [lkB_cons] at hl
    split at hl
    · rename_i e; subst e; exact .inl ⟨0, by simp [wids, wrt], rfl⟩
    · simp [lkB] at hl
  · show w.drawn ≤ w.drawn + n
    omega
  · rw [size_grow, size_putRow]
    exact Nat.le_add_right _ _
  · have hne : ρ 0 ≠ i := hd 0 (by simp [wids, wrt])
    show (_ ++ os)[i]? = _
    rw [Array.getElem?_append_left (by rw [size_putRow]; exact hi), put_other hne]
    rfl
end Go.Proofs.Ytmcmbpoebhjecaa
