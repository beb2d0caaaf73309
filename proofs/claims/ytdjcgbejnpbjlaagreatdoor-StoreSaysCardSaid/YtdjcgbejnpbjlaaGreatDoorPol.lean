/- A map of pointers of the call's own: what they point to lies behind all else. No program in it. -/
import Derived.Test.YtdjcgbejnpbjlaaGreatDoorMdl
import Derived.Laws.Pointers
namespace Go.Eng
open Go.RowKit (Below)
set_option linter.unusedVariables false
section
variable {κ δ : Type} {kt : κ → Value} {DI : Ghost → Nat → δ → List Ent → Prop}
/-- the entries of a map, and behind each its own memory -/
def PoolIs (DI : Ghost → Nat → δ → List Ent → Prop) (kt : κ → Value) (g : Ghost) : List MapEntry → List (κ × δ) → List Ent → Prop
 | [], [], F => F = []
 | e :: es, x :: D, F => e.key = kt x.1 ∧ ∃ b X F', e.val = .pointer (some ⟨b, 0, none⟩) ∧ DI g b x.2 X ∧ F = X ++ F' ∧ PoolIs DI kt g es D F'
 | _, _, _ => False
/-- what is told of memory stays told -/
def Mon (DI : Ghost → Nat → δ → List Ent → Prop) : Prop := ∀ g g' b d X, Gle g g' → DI g b d X → DI g' b d X
theorem PoolIs.mono (hD : Mon DI) {g g' : Ghost} (h : Gle g g') : ∀ {es : List MapEntry} {D : List (κ × δ)} {F : List Ent}, PoolIs DI kt g es D F → PoolIs DI kt g' es D F
 | [], [], _, hP => hP
 | _ :: _, _ :: _, _, ⟨h1, b, X, F', h2, h3, h4, h5⟩ => ⟨h1, b, X, F', h2, hD _ _ _ _ _ h h3, h4, PoolIs.mono hD h h5⟩
 | [], _ :: _, _, hP => hP.elim
 | _ :: _, [], _, hP => hP.elim
variable [BEq κ]
/-- one of them is at work -/
def PoolOpen (DI : Ghost → Nat → δ → List Ent → Prop) (kt : κ → Value) (g : Ghost) (es : List MapEntry) (D : List (κ × δ)) (k : κ) (b : Nat) (A B : List Ent) : Prop :=
 ∀ g' X' d', Gle g g' → DI g' b d' X' → PoolIs DI kt g' es (putK k d' D) (A ++ (X' ++ B))
theorem PoolOpen.mono {g g' : Ghost} (h : Gle g g') {es : List MapEntry} {D : List (κ × δ)} {k : κ} {b : Nat} {A B : List Ent} (hP : PoolOpen DI kt g es D k b A B) : PoolOpen DI kt g' es D k b A B := fun g2 X' d' h2 h3 => hP g2 X' d' (h.trans h2) h3
theorem PoolIs.look {kd : TypeDesc} (hL : KeyLaw kd kt) (hD : Mon DI) {g : Ghost} {k : κ} : ∀ {es : List MapEntry} {D : List (κ × δ)} {F : List Ent} (n : Nat), PoolIs DI kt g es D F →
  (assocK k D = none ∧ Instr.findNow kd (kt k) es n = some none) ∨
  ∃ i d b X A B, Instr.findNow kd (kt k) es n = some (some (i, .pointer (some ⟨b, 0, none⟩))) ∧ assocK k D = some d ∧ F = A ++ (X ++ B) ∧ DI g b d X ∧ PoolOpen DI kt g es D k b A B
 | [], [], _, _, _ => .inl ⟨rfl, rfl⟩
 | [], _ :: _, _, _, h => h.elim
 | _ :: _, [], _, _, h => h.elim
 | e :: es, x :: D, F, n, ⟨h1, b, X, F', h2, h3, h4, h5⟩ => by
  by_cases hk : (k == x.1) = true
  ·have hk' := hL.eq _ _ hk
   refine .inr ⟨n, x.2, b, X, [], F', ?_, by simp [assocK, hk], h4, h3, fun g' X' d' hg hd => ?_⟩
   ·simp only [Instr.findNow, h1, hL.same, hk, ← h2]
   ·simp only [putK, hk, if_true]
    exact ⟨by rw [h1, hk'], b, X', F', h2, hd, rfl, h5.mono hD hg⟩
  ·have hk2 : (k == x.1) = false := by simpa using hk
   rcases PoolIs.look hL hD (k := k) (n + 1) h5 with ⟨a1, a2⟩ | ⟨i, d, b2, X2, A, B, a1, a2, a3, a4, a5⟩
   ·exact .inl ⟨by simp [assocK, hk2, a1], by simp only [Instr.findNow, h1, hL.same, hk2]; exact a2⟩
   ·refine .inr ⟨i, d, b2, X2, X ++ A, B, by simp only [Instr.findNow, h1, hL.same, hk2]; exact a1, by simp [assocK, hk2, a2], by rw [h4, a3, List.append_assoc], a4, fun g' X' d' hg hd => ?_⟩
    simp only [putK, hk2, Bool.false_eq_true, if_false]
    exact ⟨h1, b, X, _, h2, hD _ _ _ _ _ hg h3, by rw [List.append_assoc], a5 g' X' d' hg hd⟩
theorem PoolIs.push (hD : Mon DI) {g : Ghost} {k : κ} {b : Nat} {e : MapEntry} (he : e.key = kt k) (hv : e.val = .pointer (some ⟨b, 0, none⟩)) : ∀ {es : List MapEntry} {D : List (κ × δ)} {F : List Ent}, PoolIs DI kt g es D F → assocK k D = none → PoolOpen DI kt g (es ++ [e]) D k b F []
 | [], [], F, hP, _ => fun g' X' d' hg hd => by
  have hP : F = [] := hP
  subst hP
  exact ⟨he, b, X', [], hv, hd, rfl, rfl⟩
 | [], _ :: _, _, h, _ => h.elim
 | _ :: _, [], _, h, _ => h.elim
 | e' :: es, x :: D, F, ⟨h1, b2, X, F', h2, h3, h4, h5⟩, hn => fun g' X' d' hg hd => by
  unfold assocK at hn
  split at hn
  ·cases hn
  ·rename_i hx
   have hx : (k == x.1) = false := by simpa using hx
   simp only [putK, hx, Bool.false_eq_true, if_false]
   refine ⟨h1, b2, X, F' ++ (X' ++ []), h2, hD _ _ _ _ _ hg h3, by rw [h4, List.append_assoc], PoolIs.push hD he hv h5 hn g' X' d' hg hd⟩
end
section
variable {P : Program} {n : Fsz} {w0 : Base} {m : Env} {H : List Ent} {g : Ghost} {R : Act → World → Prop} {Q : Exit → Act → World → Prop} {ops : Array Oper}
theorem Yields.eqPtrNil {dst : Option Nat} {T T2 ty : TypeId} {x y : Operand} {pos : String} {after : Array Edge} {gd : Option (Nat × Bool)} {a : Option Addr} {b : Bool}
  (hx : val m x = some (.pointer a)) (hy : val m y = some (.pointer none)) (hu : P.underlying T = some (.pointer (P.pointee T))) (hg : P.eqGuardType P.depth T = false) (hb : a.isNone = b) :
  Yields P n w0 m H g ⟨dst, .binOp .eql T x y T2, ty, pos, after, gd⟩ (.bool b) := fun ac W hA hW => by
 subst hb
 simp only [execOp, hA.eval hx, hA.eval hy]
 have h := run_eql_pointer_nil (P := P) W T a hu
 simp [eqGuard, hg, h]
theorem StW.perm {W : World} {H' : List Ent} (h : StW w0 H g W) (hp : H.Perm H') : StW w0 H' g W :=
 ⟨fun e he => h.ents e (hp.mem_iff.2 he), (hp.filterMap Ent.block).nodup_iff.1 h.nodup, h.ghost, fun e he => h.apart e (hp.mem_iff.2 he), fun e he => h.mine e (hp.mem_iff.2 he), h.below⟩
theorem Ok.poolTake {Q0 X A B F : List Ent} (hF : F = A ++ (X ++ B)) (h : Ok n w0 m (X ++ (Q0 ++ (A ++ B))) g R) : Ok n w0 m (Q0 ++ F) g R := fun a W hA hW => h a W hA (hW.perm (by
 subst hF
 rw [← List.append_assoc, ← List.append_assoc]
 refine List.Perm.trans (List.Perm.append_right B List.perm_append_comm) ?_
 rw [List.append_assoc, List.append_assoc, ← List.append_assoc Q0 A B]))
theorem Ok.poolShut {Q0 X A B F : List Ent} (hF : F = A ++ (X ++ B)) (h : Ok n w0 m (Q0 ++ F) g R) : Ok n w0 m (X ++ (Q0 ++ (A ++ B))) g R := fun a W hA hW => h a W hA (hW.perm (by
 subst hF
 refine List.Perm.symm ?_
 rw [← List.append_assoc, ← List.append_assoc]
 refine List.Perm.trans (List.Perm.append_right B List.perm_append_comm) ?_
 rw [List.append_assoc, List.append_assoc, ← List.append_assoc Q0 A B]))
theorem Ok.tailNil (H1 : List Ent) (hH : H1 = H) (h : Ok n w0 m (H1 ++ []) g R) : Ok n w0 m H g R := by rw [List.append_nil, hH] at h; exact h
theorem Ok.tailSnoc {F : List Ent} (H1 : List Ent) (h : Ok n w0 m (H1 ++ (F ++ [])) g R) : Ok n w0 m (H1 ++ F) g R := by rwa [List.append_nil] at h
variable {κ δ : Type} [BEq κ] {kt : κ → Value} {DI : Ghost → Nat → δ → List Ent → Prop}
theorem OpOk.poolNone {K : Act → World → Prop} {d : Nat} {T E KT ty : TypeId} {x ix : Operand} {pos : String} {after : Array Edge} {gd : Option (Nat × Bool)} {b clock : Nat} {es : Array MapEntry} {k : κ} {kd : TypeDesc}
  (hL : KeyLaw kd kt) (i : Nat) (hi : H[i]? = some (.blk b (.map es clock))) (hf : Instr.findNow kd (kt k) es.toList 0 = some none) (hx : val m x = some (.map (some b))) (hk : val m ix = some (kt k)) (hu : P.underlying T = some (.map KT E)) (hku : P.underlying KT = some kd) (hz : (P.info? E).bind (·.zero) = some (.pointer none))
  (hn : Nat.ble (d + 1) n = true) (h : Ok n w0 ((d, .pointer none) :: m) H g K) : OpOk P K Q ⟨some d, .lookup T x ix false, ty, pos, after, gd⟩ n w0 m H g := by
 refine OpOk.step (fun ac W hA hW => ?_) rfl hn h
 have hb := hW.at hi
 simp only [execOp, hA.eval hx, hA.eval hk]
 have hc := MapKept.run_checkKey (P := P) (w := W) (k := kt k) hku (hL.isKey k) es.isEmpty 9999
 have hf := MapKept.run_findKey (P := P) (w := W) hku hf
 obtain ⟨inf, h1, h2⟩ := Option.bind_eq_some_iff.1 hz
 simp [Instr.lookup, run_underlying hu, getObj, Sem.run, hb, hc, hf, Sem.run_bind, Result.andThen, zeroValue, typeInfo, h1, h2, go_sem]
theorem OpOk.poolSome {K : Act → World → Prop} {d : Nat} {T E KT ty : TypeId} {x ix : Operand} {pos : String} {after : Array Edge} {gd : Option (Nat × Bool)} {b b2 clock q : Nat} {es : Array MapEntry} {k : κ} {kd : TypeDesc}
  (hL : KeyLaw kd kt) (i : Nat) (hi : H[i]? = some (.blk b (.map es clock))) (hf : Instr.findNow kd (kt k) es.toList 0 = some (some (q, .pointer (some ⟨b2, 0, none⟩)))) (hx : val m x = some (.map (some b))) (hk : val m ix = some (kt k)) (hu : P.underlying T = some (.map KT E)) (hku : P.underlying KT = some kd)
  (hn : Nat.ble (d + 1) n = true) (h : Ok n w0 ((d, .pointer (some ⟨b2, 0, none⟩)) :: m) H g K) : OpOk P K Q ⟨some d, .lookup T x ix false, ty, pos, after, gd⟩ n w0 m H g := by
 refine OpOk.step (fun ac W hA hW => ?_) rfl hn h
 have hb := hW.at hi
 simp only [execOp, hA.eval hx, hA.eval hk]
 have hc := MapKept.run_checkKey (P := P) (w := W) (k := kt k) hku (hL.isKey k) es.isEmpty 9999
 have hf := MapKept.run_findKey (P := P) (w := W) hku hf
 simp [Instr.lookup, run_underlying hu, getObj, Sem.run, hb, hc, hf, Sem.run_bind, Result.andThen, go_sem]
theorem OpOk.poolPut {K : Act → World → Prop} {T E KT ty : TypeId} {x ix vx : Operand} {pos : String} {after : Array Edge} {gd : Option (Nat × Bool)} {b b2 clock : Nat} {es : Array MapEntry} {k : κ} {kd : TypeDesc} {D : List (κ × δ)} {F : List Ent}
  (hL : KeyLaw kd kt) (hD : Mon DI) (i : Nat) (hi : H[i]? = some (.blk b (.map es clock))) (hP : PoolIs DI kt g es.toList D F) (hn : assocK k D = none) (hf : Instr.findNow kd (kt k) es.toList 0 = some none) (hx : val m x = some (.map (some b))) (hk : val m ix = some (kt k)) (hv : val m vx = some (.pointer (some ⟨b2, 0, none⟩))) (hu : P.underlying T = some (.map KT E)) (hku : P.underlying KT = some kd)
  (h : ∀ es' clock', PoolOpen DI kt g (es' : Array MapEntry).toList D k b2 F [] → Ok n w0 m (H.set i (.blk b (.map es' clock'))) g K) :
  OpOk P K Q ⟨none, .mapUpdate T x ix vx, ty, pos, after, gd⟩ n w0 m H g := fun ac W hA hW => by
 have hb := hW.at hi
 show Oper.upon P _ ac _ Q (Sem.run P (execOp ac.eval _) W)
 have hc := MapKept.run_checkKey (P := P) (w := W) (k := kt k) hku (hL.isKey k) false 9999
 have hf := MapKept.run_findKey (P := P) (w := W) hku hf
 have hr : (Instr.mapUpdate T (.map (some b)) (kt k) (.pointer (some ⟨b2, 0, none⟩))).run P W = .ok () { W with heap := W.heap.setIfInBounds b (.map (es.push { key := kt k, val := .pointer (some ⟨b2, 0, none⟩), born := clock }) (clock + 1)) } := by
  simp [Instr.mapUpdate, run_underlying hu, getObj, Sem.run, hb, hc, hf, Sem.run_bind, Result.andThen, MapKept.run_setObj_map _ hb, go_sem]
 have e1 : (execOp ac.eval ⟨none, .mapUpdate T x ix vx, ty, pos, after, gd⟩).run P W = .ok .skip { W with heap := W.heap.setIfInBounds b (.map (es.push { key := kt k, val := .pointer (some ⟨b2, 0, none⟩), born := clock }) (clock + 1)) } := by
  simp only [execOp, hA.eval hx, hA.eval hk, hA.eval hv, Sem.run_bind, hr, Result.andThen]; rfl
 rw [e1, Oper.upon_skip]
 refine h _ _ ?_ _ _ (hA.skip none (fun d hd => by cases hd) undef) (hW.grown (e' := .blk b (.map (es.push { key := kt k, val := .pointer (some ⟨b2, 0, none⟩), born := clock }) (clock + 1))) hi (grownBy_setObj hb) (MapKept.heap_set hb).1 (.inl rfl))
 rw [Array.toList_push]
 exact PoolIs.push (kt := kt) hD rfl rfl hP hn
end
end Go.Eng
