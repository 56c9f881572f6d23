/- Plain laws of lists of arrays that lie in one row of numbers. -/
import Derived.Test.YtendffbpmpobnaaDoorEngB
namespace Go.Proofs.YtendffbpmpobnaaDoor
theorem flat3 {L : List (List Int)} {sz : Nat} (h : ∀ x ∈ L, x.length = sz) : L.flatten.length = L.length * sz := by
  induction L with
  | nil => simp
  | cons a r ih =>
    rw [List.flatten_cons, List.length_append, ih (fun x hx => h x (List.mem_cons_of_mem _ hx)), h a (by simp), List.length_cons, Nat.add_mul, Nat.one_mul, Nat.add_comm]
theorem flat_snoc (L : List (List Int)) (x sp : List Int) : L.flatten ++ x ++ sp = (L ++ [x]).flatten ++ sp := by simp
theorem len_snoc (L : List (List Int)) (x : List Int) : L.length + 1 = (L ++ [x]).length := by simp
theorem putI_at : ∀ (m l pre post : List Int), l.length = m.length → putI (pre ++ (l ++ post)) pre.length m = pre ++ (m ++ post)
  | [], l, pre, post, h => by
    have : l = [] := List.eq_nil_of_length_eq_zero h
    simp [putI, this]
  | x :: m, [], pre, post, h => by simp at h
  | x :: m, y :: l, pre, post, h => by
    have ih := putI_at m l (pre ++ [x]) post (by simpa using h)
    simp only [List.length_append, List.length_cons, List.length_nil, Nat.zero_add, List.append_assoc, List.cons_append, List.nil_append] at ih
    simp only [putI]
    refine Eq.trans ?_ ih
    congr 1
    simp
theorem flat_take {L : List (List Int)} {sz : Nat} (h : ∀ x ∈ L, x.length = sz) (i : Nat) (hi : i ≤ L.length) : (L.take i).flatten.length = i * sz := by
  rw [flat3 (fun x hx => h x (List.mem_of_mem_take hx)), List.length_take, Nat.min_eq_left hi]
theorem flat_get {L : List (List Int)} {sz : Nat} {sp : List Int} (h : ∀ x ∈ L, x.length = sz) {i : Nat} (hi : i < L.length) : ((L.flatten ++ sp).drop (i * sz)).take sz = L.getD i [] := by
  have e : L.flatten = (L.take i).flatten ++ (L[i] ++ (L.drop (i + 1)).flatten) := by
    conv => lhs; rw [← List.take_append_drop i L, List.flatten_append, List.drop_eq_getElem_cons hi, List.flatten_cons]
  have hx : L[i].length = sz := h _ (List.getElem_mem hi)
  rw [e, ← flat_take h i (by omega), List.append_assoc, List.drop_left, List.append_assoc, ← hx, List.take_left]
  simp [List.getD, hi]
theorem getD_mem {L : List (List Int)} {i : Nat} (hi : i < L.length) : L.getD i [] ∈ L := by
  have : L.getD i [] = L[i] := by simp [List.getD, hi]
  rw [this]; exact List.getElem_mem hi
theorem takeL_snoc {L : List (List Int)} {i : Nat} (hi : i < L.length) : L.take (i + 1) = L.take i ++ [L.getD i []] := by
  rw [List.take_succ_eq_append_getElem hi]
  simp [List.getD, hi]
/-- the place of the first element for which something is so, or -1 -/
def idxL (g : List Int → Bool) (L : List (List Int)) : Int := match L.findIdx? g with
  | some i => (i : Int)
  | none => -1
theorem idxL_found {g : List Int → Bool} {L : List (List Int)} {i : Nat} (hi : i < L.length) (h0 : ∀ j, j < i → g (L.getD j []) = false) (h1 : g (L.getD i []) = true) : idxL g L = (i : Int) := by
  have : L.findIdx? g = some i := by
    rw [List.findIdx?_eq_some_iff_getElem]
    have key : ∀ j (hj : j < L.length), L.getD j [] = L[j] := fun j hj => by simp [List.getD, hj]
    refine ⟨hi, by rw [← key i hi]; exact h1, fun j hj => ?_⟩
    have := h0 j hj
    rw [key j (by omega)] at this
    simp [this]
  simp [idxL, this]
theorem idxL_none {g : List Int → Bool} {L : List (List Int)} (h0 : ∀ j, j < L.length → g (L.getD j []) = false) : idxL g L = -1 := by
  have : L.findIdx? g = none := by
    rw [List.findIdx?_eq_none_iff]
    intro x hx
    obtain ⟨j, hj, rfl⟩ := List.getElem_of_mem hx
    have := h0 j hj
    simpa [List.getD, hj] using this
  simp [idxL, this]
theorem idxL_cases (g : List Int → Bool) (L : List (List Int)) : (idxL g L = -1 ∧ ∀ x ∈ L, g x = false) ∨ ∃ i : Nat, idxL g L = (i : Int) ∧ i < L.length ∧ g (L.getD i []) = true ∧ ∀ x ∈ L.take i, g x = false := by
  unfold idxL
  cases h : L.findIdx? g with
  | none => left; exact ⟨rfl, by simpa using h⟩
  | some i =>
    right
    rw [List.findIdx?_eq_some_iff_getElem] at h
    obtain ⟨hi, h1, h2⟩ := h
    refine ⟨i, rfl, hi, by simpa [List.getD, hi] using h1, fun x hx => ?_⟩
    obtain ⟨j, hj, rfl⟩ := List.getElem_of_mem hx
    simp only [List.length_take] at hj
    have := h2 j (by omega)
    simpa using this
theorem idxL_any {g : List Int → Bool} {L : List (List Int)} : decide (idxL g L ≥ 0) = L.any g := by
  rcases idxL_cases g L with ⟨h, h1⟩ | ⟨i, h, h1, h2, _⟩
  · rw [h]; symm; simp only [ge_iff_le]; rw [show decide ((0 : Int) ≤ -1) = false by decide, List.any_eq_false]; intro x hx; simp [h1 x hx]
  · rw [h]; symm
    rw [show decide ((i : Int) ≥ 0) = true by simp, List.any_eq_true]
    exact ⟨_, getD_mem h1, h2⟩
theorem filter_snoc {g : List Int → Bool} {L : List (List Int)} {i : Nat} (hi : i < L.length) (h : g (L.getD i []) = true) : (L.take (i + 1)).filter g = (L.take i).filter g ++ [L.getD i []] := by
  rw [takeL_snoc hi, List.filter_append]; simp only [List.filter_cons, h, List.filter_nil, if_true]
theorem filter_skip {g : List Int → Bool} {L : List (List Int)} {i : Nat} (hi : i < L.length) (h : g (L.getD i []) = false) : (L.take (i + 1)).filter g = (L.take i).filter g := by
  rw [takeL_snoc hi, List.filter_append]; simp only [List.filter_cons, h, List.filter_nil, Bool.false_eq_true, if_false, List.append_nil]
theorem filter_len {g : List Int → Bool} {L : List (List Int)} (i : Nat) (hi : i ≤ L.length) : ((L.take i).filter g).length ≤ i := by
  have := List.length_filter_le g (L.take i)
  rw [List.length_take] at this; omega
theorem filter_three {g : List Int → Bool} {L : List (List Int)} {sz : Nat} (h : ∀ x ∈ L, x.length = sz) (i : Nat) : ∀ x ∈ (L.take i).filter g, x.length = sz := fun x hx => h x (List.mem_of_mem_take (List.mem_filter.1 hx).1)
/-- the list while elements are struck: those kept, what is no more wanted, those to come -/
def delM (sz : Nat) (g : List Int → Bool) (L : List (List Int)) (j : Nat) (junk sp : List Int) : List Int := ((L.take j).filter fun x => !g x).flatten ++ (junk ++ ((L.drop j).flatten ++ sp))
theorem delM_get {sz : Nat} {g : List Int → Bool} {L : List (List Int)} {j : Nat} {junk sp : List Int} (h : ∀ x ∈ L, x.length = sz) (hj : j < L.length) (hjunk : junk.length + ((L.take j).filter fun x => !g x).length * sz = j * sz) : ((delM sz g L j junk sp).drop (j * sz)).take sz = L.getD j [] := by
  have h1 := flat3 (filter_three (g := fun x => !g x) h j)
  have hx : L[j].length = sz := h _ (List.getElem_mem hj)
  unfold delM
  have : (((L.take j).filter fun x => !g x).flatten ++ junk).length = j * sz := by rw [List.length_append, h1]; omega
  rw [← List.append_assoc, List.drop_left' this, List.drop_eq_getElem_cons hj, List.flatten_cons, List.append_assoc, List.take_left' hx]
  simp [List.getD, hj]
theorem delM_skip {sz : Nat} {g : List Int → Bool} {L : List (List Int)} {j : Nat} {junk sp : List Int} (hj : j < L.length) (hg : g (L.getD j []) = true) : delM sz g L j junk sp = delM sz g L (j + 1) (junk ++ L.getD j []) sp := by
  have e : L.getD j [] = L[j] := by simp [List.getD, hj]
  unfold delM
  rw [filter_skip hj (by rw [hg]; rfl), List.drop_eq_getElem_cons hj, List.flatten_cons, e]
  simp
theorem delM_keep {sz : Nat} {g : List Int → Bool} {L : List (List Int)} {j : Nat} {junk sp : List Int} (h : ∀ x ∈ L, x.length = sz) (hj : j < L.length) (hg : g (L.getD j []) = false) (hjunk : junk.length + ((L.take j).filter fun x => !g x).length * sz = j * sz) :
    putI (delM sz g L j junk sp) (((L.take j).filter fun x => !g x).length * sz) (L.getD j []) = delM sz g L (j + 1) ((junk ++ L.getD j []).drop sz) sp := by
  have e : L.getD j [] = L[j] := by simp [List.getD, hj]
  have h1 := flat3 (filter_three (g := fun x => !g x) h j)
  have hx : (L.getD j []).length = sz := h _ (getD_mem hj)
  have hs : (junk ++ L.getD j []).take sz ++ (junk ++ L.getD j []).drop sz = junk ++ L.getD j [] := List.take_append_drop _ _
  unfold delM
  rw [← h1]
  have e2 : junk ++ ((L.drop j).flatten ++ sp) = (junk ++ L.getD j []).take sz ++ ((junk ++ L.getD j []).drop sz ++ ((L.drop (j + 1)).flatten ++ sp)) := by
    rw [← List.append_assoc (List.take _ _), hs, List.drop_eq_getElem_cons hj, List.flatten_cons, e]; simp
  rw [e2, putI_at _ _ _ _ (by rw [List.length_take, List.length_append, hx]; omega), filter_snoc hj (by rw [hg]; rfl), List.flatten_append]
  simp
theorem delM_len {sz : Nat} {g : List Int → Bool} {L : List (List Int)} {j : Nat} {junk sp : List Int} (h : ∀ x ∈ L, x.length = sz) (hj : j ≤ L.length) (hjunk : junk.length + ((L.take j).filter fun x => !g x).length * sz = j * sz) : (delM sz g L j junk sp).length = L.length * sz + sp.length := by
  have h1 := flat3 (filter_three (g := fun x => !g x) h j)
  have h2 : (L.drop j).flatten.length = (L.length - j) * sz := by rw [flat3 (fun x hx => h x (List.mem_of_mem_drop hx)), List.length_drop]
  unfold delM
  rw [List.length_append, List.length_append, List.length_append, h1, h2, Nat.sub_mul]
  have : j * sz ≤ L.length * sz := Nat.mul_le_mul_right sz hj
  omega
theorem delM_end {sz : Nat} {g : List Int → Bool} {L : List (List Int)} {junk sp : List Int} (h : ∀ x ∈ L, x.length = sz) (hjunk : junk.length + ((L.take L.length).filter fun x => !g x).length * sz = L.length * sz) :
    putI (delM sz g L L.length junk sp) (((L.take L.length).filter fun x => !g x).length * sz) (List.replicate ((L.length - ((L.take L.length).filter fun x => !g x).length) * sz) 0) = (L.filter fun x => !g x).flatten ++ (List.replicate ((L.length - (L.filter fun x => !g x).length) * sz) 0 ++ sp) := by
  have h1 := flat3 (filter_three (g := fun x => !g x) h L.length)
  unfold delM
  rw [← h1]
  rw [putI_at _ _ _ _ (by rw [List.length_replicate, Nat.sub_mul]; omega)]
  simp
end Go.Proofs.YtendffbpmpobnaaDoor
