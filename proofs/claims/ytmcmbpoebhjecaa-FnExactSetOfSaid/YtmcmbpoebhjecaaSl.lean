/- Slices held against nil; parts of lists as slices. -/
import Derived.Test.YtmcmbpoebhjecaaPq
import Derived.Test.YtmcmbpoebhjecaaEngJ
namespace Go.Proofs.Ytmcmbpoebhjecaa
set_option linter.unusedVariables false
theorem run_eqSlNil {P : Program} {t e : TypeId} (hu : P.underlying t = some (.slice e)) (d : Nat) (a : Addr) (n k : Nat) (w : World) : (Op.equalIn (d + 1) t (.slice (some a) n k) (.slice none 0 0)).run P w = .ok false w := by
  simp [Op.equalIn, run_underlying hu]
theorem guard_sl {P : Program} (op : BinOp) (t : TypeId) (x y : Operand) (a b : Option Addr) (n k n' k' : Nat) (w : World) : (eqGuard op t x y (.slice a n k) (.slice b n' k')).run P w = .ok () w := by
  cases op <;> rfl
theorem Q_eqnil {c : Cx} {s : S} {dst : Option Tmp} {ty : TypeId} {pos : String} {af : Array Edge} {gd : Option (Nat × Bool)} {x y : Operand} {t t' e : TypeId} {b o n k : Nat} {i : TI} (ht : lkT c.T t = some i) (hd : i.d = .slice e) (hx : ev c s.F x = some (.slice b o n k)) (hy : ev c s.F y = some .nilsl) :
    QOp c ⟨dst, .binOp .eql t x y t', ty, pos, af, gd⟩ s (.bool false) := by
  intro ρ0 w0 hg ρ a hf hfix w hw
  refine quiet_val ?_
  have ex := ev_rv hg hfix hf hx (by simp)
  have ey := ev_rv hg hfix hf hy (by simp)
  have hu := (c.tok t i ht).1
  rw [hd] at hu
  simp only [execOp, ex, ey, rv, guard_sl, binOp, Op.equal, Op.maxDepth, Sem.run_bind, Sem.run_pure, Result.andThen_ok, run_eqSlNil hu 9999]
  try rfl
theorem Q_eqnilT {c : Cx} {s : S} {dst : Option Tmp} {ty : TypeId} {pos : String} {af : Array Edge} {gd : Option (Nat × Bool)} {x y : Operand} {t t' e : TypeId} {i : TI} (ht : lkT c.T t = some i) (hd : i.d = .slice e) (hx : ev c s.F x = some .nilsl) (hy : ev c s.F y = some .nilsl) :
    QOp c ⟨dst, .binOp .eql t x y t', ty, pos, af, gd⟩ s (.bool true) := by
  intro ρ0 w0 hg ρ a hf hfix w hw
  refine quiet_val ?_
  have ex := ev_rv hg hfix hf hx (by simp)
  have ey := ev_rv hg hfix hf hy (by simp)
  have hu := (c.tok t i ht).1
  rw [hd] at hu
  have key : ∀ (dd : Nat) (w : World), (Op.equalIn (dd + 1) t (.slice none 0 0) (.slice none 0 0)).run c.P w = .ok true w := fun dd w => by
    simp [Op.equalIn, run_underlying hu]
  simp only [execOp, ex, ey, rv, guard_sl, binOp, Op.equal, Op.maxDepth, Sem.run_bind, Sem.run_pure, Result.andThen_ok, key 9999]
  try rfl
theorem isSl_flat {H : Hp} {b k : Nat} {t : TypeId} {L : List (List Int)} {sp : List Int} (hb : lkB H b = some (.ints t (L.flatten ++ sp))) (h3 : ∀ x ∈ L, x.length = 3) : IsSl H 3 (.slice b 0 L.length k) L.length L.flatten := by
  have hf := flat3 h3
  have := IsSl.mk (sz := 3) (o := 0) (n := L.length) (k := k) hb (by rw [List.length_append, hf]; omega)
  rwa [List.drop_zero, ← hf, List.take_left] at this
theorem isSl_sub {H : Hp} {b k i m : Nat} {t : TypeId} {L : List (List Int)} {sp : List Int} (hb : lkB H b = some (.ints t (L.flatten ++ sp))) (h3 : ∀ x ∈ L, x.length = 3) (h : i + m = L.length) : IsSl H 3 (.slice b (i * 3) m k) m (L.drop i).flatten := by
  have hf := flat3 h3
  have h1 : (L.take i).flatten.length = i * 3 := by rw [flat3 (fun x hx => h3 x (List.mem_of_mem_take hx)), List.length_take]; congr 1; omega
  have h2 : (L.drop i).flatten.length = m * 3 := by rw [flat3 (fun x hx => h3 x (List.mem_of_mem_drop hx)), List.length_drop]; congr 1; omega
  have e : L.flatten = (L.take i).flatten ++ (L.drop i).flatten := by rw [← List.flatten_append, List.take_append_drop]
  have := IsSl.mk (sz := 3) (o := i * 3) (n := m) (k := k) hb (by rw [List.length_append, hf]; omega)
  rwa [e, List.append_assoc, ← h1, List.drop_left, ← h2, List.take_left, h1] at this
theorem isSl_pre {H : Hp} {b k q : Nat} {t : TypeId} {L : List (List Int)} {sp : List Int} (hb : lkB H b = some (.ints t (L.flatten ++ sp))) (h3 : ∀ x ∈ L, x.length = 3) (h : q ≤ L.length) : IsSl H 3 (.slice b 0 q k) q (L.take q).flatten := by
  have hf := flat3 h3
  have h1 : (L.take q).flatten.length = q * 3 := by rw [flat3 (fun x hx => h3 x (List.mem_of_mem_take hx)), List.length_take]; congr 1; omega
  have e : L.flatten = (L.take q).flatten ++ (L.drop q).flatten := by rw [← List.flatten_append, List.take_append_drop]
  have := IsSl.mk (sz := 3) (o := 0) (n := q) (k := k) hb (by rw [List.length_append, hf]; omega)
  rwa [List.drop_zero, e, List.append_assoc, ← h1, List.take_left] at this
end Go.Proofs.Ytmcmbpoebhjecaa
