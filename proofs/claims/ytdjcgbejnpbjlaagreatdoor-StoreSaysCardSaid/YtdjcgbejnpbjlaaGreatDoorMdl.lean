/- Maps of the call's own: delete, clear. No program in it. -/
import Derived.Test.YtdjcgbejnpbjlaaGreatDoorMrg
namespace Go.Eng
open Go.RowKit (Below)
set_option linter.unusedVariables false
def delK {κ V : Type} [BEq κ] (k : κ) : List (κ × V) → List (κ × V)
 | [] => []
 | x :: l => if (k == x.1) = true then l else x :: delK k l
theorem findNow_del {d : TypeDesc} {g : Ghost} {vt : Ty} {row : Bool} {κ : Type} [BEq κ] {kt : κ → Value} (hL : KeyLaw d kt) {k : κ} : ∀ {es : List MapEntry} {l : List (κ × vt.den)} (n : Nat), RepMap g vt row kt es l →
  (delK k l = l ∧ Instr.findNow d (kt k) es n = some none) ∨ ∃ i v, i < es.length ∧ Instr.findNow d (kt k) es n = some (some (n + i, v)) ∧ RepMap g vt row kt (es.eraseIdx i) (delK k l)
 | [], [], _, _ => .inl ⟨rfl, rfl⟩
 | [], _ :: _, _, h => h.elim
 | _ :: _, [], _, h => h.elim
 | e :: es, x :: l, n, ⟨h1, h2, h3⟩ => by
  by_cases hk : (k == x.1) = true
  ·refine .inr ⟨0, e.val, Nat.zero_lt_succ _, ?_, ?_⟩
   ·simp only [Instr.findNow, h1, hL.same, hk]; rfl
   ·simp only [delK, hk, if_true, List.eraseIdx_cons_zero]; exact h3
  ·have hk2 : (k == x.1) = false := by simpa using hk
   rcases findNow_del hL (k := k) (n + 1) h3 with ⟨a1, a2⟩ | ⟨i, v, a1, a2, a3⟩
   ·exact .inl ⟨by simp only [delK, hk2, Bool.false_eq_true, if_false, a1], by simp only [Instr.findNow, h1, hL.same, hk2]; exact a2⟩
   ·refine .inr ⟨i + 1, v, by simp only [List.length_cons]; omega, ?_, ?_⟩
    ·simp only [Instr.findNow, h1, hL.same, hk2]
     rw [a2]; congr 3; omega
    ·simp only [delK, hk2, Bool.false_eq_true, if_false, List.eraseIdx_cons_succ]
     exact ⟨h1, h2, a3⟩
theorem Apart.erase {es : List MapEntry} {ck : Nat} (h : Apart es ck) (i : Nat) : Apart (es.eraseIdx i) ck := by
 refine ⟨?_, fun x hx => h.2 x (List.mem_of_mem_eraseIdx hx)⟩
 exact h.1.sublist ((List.eraseIdx_sublist es i).map _)
section
variable {P : Program} {n : Fsz} {w0 : Base} {m : Env} {H : List Ent} {g : Ghost} {R : Act → World → Prop} {Q : Exit → Act → World → Prop} {ops : Array Oper}
theorem OpOk.deleteA {K : Act → World → Prop} {T E KT U ty : TypeId} {x ix : Operand} {pos : String} {after : Array Edge} {gd : Option (Nat × Bool)} {vt : Ty} {row : Bool} {b clock : Nat} {es : Array MapEntry} {κ : Type} [BEq κ] {kt : κ → Value} {l : List (κ × vt.den)} {k : κ} {kd : TypeDesc}
  (hL : KeyLaw kd kt) (i : Nat) (hi : H[i]? = some (.blk b (.map es clock))) (hM : RepMapA g vt row kt es clock l) (hx : val m x = some (.map (some b))) (hk : val m ix = some (kt k)) (hu : P.underlying T = some (.map KT E)) (hku : P.underlying KT = some kd)
  (h : ∀ es' clock', RepMapA g vt row kt es' clock' (delK k l) → Ok n w0 m (H.set i (.blk b (.map es' clock'))) g K) :
  OpOk P K Q ⟨none, .call { callee := .builtin .delete, args := #[x, ix], argTypes := #[T, U] }, ty, pos, after, gd⟩ n w0 m H g := fun ac W hA hW => by
 have hb := hW.at hi
 show Oper.upon P _ ac _ Q (Sem.run P (execOp ac.eval _) W)
 have key : ∃ es', (Builtin.delete_ #[T, U] ty #[.map (some b), kt k]).run P W = .ok (.tuple #[]) { W with heap := W.heap.setIfInBounds b (.map es' clock) } ∧ RepMapA g vt row kt es' clock (delK k l) := by
  rcases findNow_del hL (k := k) 0 hM.1 with ⟨a0, a1⟩ | ⟨j, v, a0, a1, a2⟩
  ·have hf := MapKept.run_findKey (P := P) (w := W) hku a1
   refine ⟨es, ?_, by rw [a0]; exact hM⟩
   simp [Builtin.delete_, run_underlying hu, getObj, Sem.run, hb, MapKept.run_checkKey (P := P) (w := W) (k := kt k) hku (hL.isKey k), hf, Sem.run_bind, Result.andThen, MapKept.run_setObj_map _ hb, go_sem]
  ·have hf := MapKept.run_findKey (P := P) (w := W) hku a1
   rw [Nat.zero_add] at hf
   refine ⟨es.eraseIdxIfInBounds j, ?_, ?_⟩
   ·simp [Builtin.delete_, run_underlying hu, getObj, Sem.run, hb, MapKept.run_checkKey (P := P) (w := W) (k := kt k) hku (hL.isKey k), hf, Sem.run_bind, Result.andThen, MapKept.run_setObj_map _ hb, go_sem]
   ·have e1 : (es.eraseIdxIfInBounds j).toList = es.toList.eraseIdx j := by
     rw [Array.toList_eraseIdxIfInBounds]
    exact ⟨by rw [e1]; exact a2, by rw [e1]; exact Apart.erase hM.2 j⟩
 obtain ⟨es', hr, hM'⟩ := key
 have e1 : (execOp ac.eval ⟨none, .call { callee := .builtin .delete, args := #[x, ix], argTypes := #[T, U] }, ty, pos, after, gd⟩).run P W = .ok (.value (.tuple #[])) { W with heap := W.heap.setIfInBounds b (.map es' clock) } := by
  simp only [execOp, resolve, invoke, builtin, List.map_toArray, List.map_cons, List.map_nil, hA.eval hx, hA.eval hk, Sem.run_bind, Sem.run_pure, Result.andThen_ok, hr]
 rw [e1, Oper.upon_value]
 refine h es' clock hM' _ _ (hA.skip none (fun d hd => by cases hd) _) (hW.grown (e' := .blk b (.map es' clock)) hi (grownBy_setObj hb) (MapKept.heap_set hb).1 (.inl rfl))
theorem OpOk.clearA {K : Act → World → Prop} {T E KT ty : TypeId} {x : Operand} {pos : String} {after : Array Edge} {gd : Option (Nat × Bool)} {vt : Ty} {row : Bool} {b clock : Nat} {es : Array MapEntry} {κ : Type} {kt : κ → Value} {l : List (κ × vt.den)}
  (i : Nat) (hi : H[i]? = some (.blk b (.map es clock))) (hM : RepMapA g vt row kt es clock l) (hx : val m x = some (.map (some b))) (hu : P.underlying T = some (.map KT E))
  (h : ∀ es' clock', RepMapA g vt row kt es' clock' ([] : List (κ × vt.den)) → Ok n w0 m (H.set i (.blk b (.map es' clock'))) g K) :
  OpOk P K Q ⟨none, .call { callee := .builtin .clear, args := #[x], argTypes := #[T] }, ty, pos, after, gd⟩ n w0 m H g := fun ac W hA hW => by
 have hb := hW.at hi
 show Oper.upon P _ ac _ Q (Sem.run P (execOp ac.eval _) W)
 have hr : (Builtin.clear_ #[T] ty #[.map (some b)]).run P W = .ok (.tuple #[]) { W with heap := W.heap.setIfInBounds b (.map #[] clock) } := by
  simp [Builtin.clear_, run_underlying hu, getObj, Sem.run, hb, Sem.run_bind, Result.andThen, MapKept.run_setObj_map _ hb, go_sem]
 have e1 : (execOp ac.eval ⟨none, .call { callee := .builtin .clear, args := #[x], argTypes := #[T] }, ty, pos, after, gd⟩).run P W = .ok (.value (.tuple #[])) { W with heap := W.heap.setIfInBounds b (.map #[] clock) } := by
  simp only [execOp, resolve, invoke, builtin, List.map_toArray, List.map_cons, List.map_nil, hA.eval hx, Sem.run_bind, Sem.run_pure, Result.andThen_ok, hr]
 rw [e1, Oper.upon_value]
 refine h #[] clock ⟨trivial, Apart.nil clock⟩ _ _ (hA.skip none (fun d hd => by cases hd) _) (hW.grown (e' := .blk b (.map #[] clock)) hi (grownBy_setObj hb) (MapKept.heap_set hb).1 (.inl rfl))
end
end Go.Eng
