/-
 A call that makes memory reads what is owned: the owned is frozen for the call alone.
-/
import Derived.Test.YtdjcgbejnpbjlaaGreatDoorOwn
namespace Go.Eng
open Go
section
variable {P : Program} {n : Fsz} {w0 : Base} {m : Env} {H : List Ent} {g : Ghost} {R : Act → World → Prop} {Q : Exit → Act → World → Prop} {ops : Array Oper}
theorem Rep.any {g g' : Ghost} : ∀ {e : Ty} {cs : List Value} {x : e.den}, e.flat = true → Rep g e cs x → Rep g' e cs x := fun {e cs x} hf h => by
 have := Rep.flatEq hf h rfl
 subst this; exact Rep.put e x hf
theorem RepL.any {g g' : Ghost} {e : Ty} (hf : e.flat = true) : ∀ {l : List e.den} {xs : List Value}, RepL g e xs l → RepL g' e xs l
 | [], _, h => h
 | _ :: _, _, ⟨c, r, h1, h2, h3⟩ => ⟨c, r, h1, Rep.any hf h2, RepL.any hf h3⟩
theorem StW.backSee {W W' : World} {H' : List Ent} {g1 g2 : Ghost} (h : StW w0 H g W) (hle : Gle g g1) (hx : Gext ⟨W, []⟩ g1 g2) (hW' : StW ⟨W, []⟩ H' g2 W') : ∃ g', Gext w0 g g' ∧ StW w0 (H' ++ H) g' W' := by
 have hlt : ∀ b o, g b = some o → b < W.heap.size := fun b o hb => by
  have := h.ghost b o hb
  exact (Array.getElem?_eq_some_iff.1 this).1
 let g' : Ghost := fun b => if b < W.heap.size then g b else g2 b
 have e1 : ∀ b, b < W.heap.size → g' b = g b := fun b hb => if_pos hb
 have e2 : ∀ b, ¬ b < W.heap.size → g' b = g2 b := fun b hb => if_neg hb
 have hm : ∀ e ∈ H', ∀ b, e.block = some b → ¬ b < W.heap.size := fun e he b hb => by
  rcases hW'.mine e he b hb with h1 | h1
  ·exact Nat.not_lt.2 h1
  ·cases h1
 have hG : Gext ⟨W, blocksOf []⟩ g g' := ⟨fun b o hb => by rw [e1 b (hlt b o hb)]; exact hb, fun b o hb => by
  by_cases hbl : b < W.heap.size
  ·rw [e1 b hbl] at hb; exact .inl hb
  ·exact .inr (.inl (Nat.not_lt.1 hbl))⟩
 have hS : StW ⟨W, blocksOf []⟩ H' g' W' := ⟨hW'.ents, hW'.nodup, fun b o hb => by
  by_cases hbl : b < W.heap.size
  ·rw [e1 b hbl] at hb; exact hW'.ghost b o (hx.1 b o (hle b o hb))
  ·rw [e2 b hbl] at hb; exact hW'.ghost b o hb, fun e he b hb => by rw [e2 b (hm e he b hb)]; exact hW'.apart e he b hb, hW'.mine, hW'.below⟩
 have h0 : StW w0 ([] ++ H) g W := h
 obtain ⟨h1, h2⟩ := h0.backH hG hS
 exact ⟨g', h2, h1⟩
/-- a maker that reads the owned -/
theorem OpOk.callSee {o : Oper} {K : Act → World → Prop} {f : FuncId} {args : Array Value} {V : Ghost → List Ent → Value → Prop} (hk : ∀ a W, StA n m a → (execOp a.eval o).run P W = .ok (.enter f args) W)
  (hc : ∀ W, StW w0 H g W → CallsH P f args (ghostOf W) [] V) (hn : dstB n o.dst = true)
  (h : ∀ g' g2 H' v, Gext w0 g g' → V g2 H' v → Ok n w0 (dstE o.dst v m) (H' ++ H) g' K) : OpOk P K Q o n w0 m H g := fun a W hA hW => by
 show Oper.upon P o a _ Q (Sem.run P (execOp a.eval o) W)
 rw [hk a W hA, Oper.upon_enter]
 refine (hc W hW W (StW.start W _ fun b o hb => hb)).mono fun e W' ⟨v, g2, H', he, hV, hx, hW'⟩ => ?_
 subst he
 obtain ⟨g', h1, h2⟩ := hW.backSee hW.sees hx hW'
 exact h g' g2 H' v h1 hV _ W' (hA.putD hn v) h2
end
end Go.Eng
