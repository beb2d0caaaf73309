/- strings.Builder: the contracts of its methods, as the walks use them. -/
import Derived.Test.YtdjcgbejnpbjlaaGreatDoorBld
namespace Go.Proofs.YtdjcgbejnpbjlaaGreatDoor.Bld
open Go Go.Eng Go.RowKit Go.Shelf Go.Proofs
set_option linter.unusedVariables false
theorem StW.bld {w0 : Base} {g : Ghost} {W W' : World} {b : Nat} {T E : TypeId} {v v' : Value} {n n' : Nat} {xs xs' : List Value} (h : StW w0 [.bhd b T v, .own v E 1 n xs] g W)
  (hb' : ∃ p, (p = .pointer none ∨ p = .pointer (some ⟨b, 0, none⟩)) ∧ W'.heap[b]? = some (.cells #[p, v'] T)) (hown' : W'.ownsRow 0 E 1 v' n' xs') (hTE : T ≠ E)
  (hblk : v'.ownBlock = v.ownBlock ∨ ∃ k, v'.ownBlock = some k ∧ W.heap.size ≤ k) (hF : Fr b v.ownBlock W W') : StW w0 [.bhd b T v', .own v' E 1 n' xs'] g W' := by
 have hmb := h.mine (.bhd b T v) (by simp) b rfl
 have hgb : g b = none := h.apart (.bhd b T v) (by simp) b rfl
 have hnew : ∀ k, W.heap.size ≤ k → g k = none := fun k hk => by
  cases hc : g k with
  | none => rfl
  | some o => exact absurd (lt_of_heap (h.ghost _ _ hc)) (by omega)
 have hv' : ∀ k, v'.ownBlock = some k → g k = none ∧ (w0.w.heap.size ≤ k ∨ k ∈ w0.lent) := fun k hk => by
  rcases hblk with e | ⟨j, e, hj⟩
  ·exact ⟨h.apart (.own v E 1 n xs) (by simp) k (e.symm.trans hk), h.mine (.own v E 1 n xs) (by simp) k (e.symm.trans hk)⟩
  ·rw [e] at hk
   injection hk with hk
   subst hk
   exact ⟨hnew _ hj, .inl (Nat.le_trans h.below.size hj)⟩
 have hne' : v'.ownBlock ≠ some b := by
  obtain ⟨p, _, hb⟩ := hb'
  exact Lib.ownBlock_ne hown' hb hTE
 refine ⟨fun e he => ?_, ?_, fun k o hk => ?_, fun e he k hk => ?_, fun e he k hk => ?_, ?_⟩
 ·simp at he
  rcases he with rfl | rfl
  ·exact hb'
  ·exact hown'
 ·cases hc : v'.ownBlock with
  | none => simp [Ent.block, hc]
  | some k => simp only [List.filterMap_cons, Ent.block, hc, List.filterMap_nil, List.nodup_cons, List.mem_singleton, List.not_mem_nil, not_false_eq_true, List.nodup_nil, and_true]; exact fun e => hne' (by rw [hc, e])
 ·have h1 := h.ghost k o hk
  rw [hF.block k (lt_of_heap h1) (fun e => by rw [e, hgb] at hk; cases hk) (fun e => by rw [h.apart (.own v E 1 n xs) (by simp) k e.symm] at hk; cases hk)]
  exact h1
 ·simp at he
  rcases he with rfl | rfl
  ·simp only [Ent.block, Option.some.injEq] at hk; subst hk; exact hgb
  ·exact (hv' k hk).1
 ·simp at he
  rcases he with rfl | rfl
  ·simp only [Ent.block, Option.some.injEq] at hk; subst hk; exact hmb
  ·exact (hv' k hk).2
 ·have hk0 := h.below
  refine ⟨hF.os.trans hk0.os, hF.tape.trans hk0.tape, hF.output.trans hk0.output, Nat.le_trans hk0.size hF.size, fun k hk hl => ?_⟩
  rw [hF.block k (Nat.lt_of_lt_of_le hk hk0.size) ?_ ?_, hk0.block k hk hl]
  ·intro e; subst e; exact hmb.elim (fun h => absurd hk (Nat.not_lt.2 h)) hl
  ·intro e; exact (h.mine (.own v E 1 n xs) (by simp) k e.symm).elim (fun h => absurd hk (Nat.not_lt.2 h)) hl

theorem StW.bldGone {w0 : Base} {g : Ghost} {W W' : World} {b : Nat} {T E : TypeId} {v : Value} {n : Nat} {xs : List Value} (h : StW w0 [.bhd b T v, .own v E 1 n xs] g W) (hg : W.grownBy W' v.ownBlock) : StW w0 [] g W' := by
 refine ⟨fun e he => (by cases he), List.nodup_nil, fun k o hk => ?_, fun e he => (by cases he), fun e he => (by cases he), ?_⟩
 ·have h1 := h.ghost k o hk
  rw [hg.block k (lt_of_heap h1) (fun e => by rw [h.apart (.own v E 1 n xs) (by simp) k e.symm] at hk; cases hk)]
  exact h1
 ·exact h.below.grown hg fun k hk => h.mine (.own v E 1 n xs) (by simp) k hk

theorem ints_cells (s : List UInt8) : Lib.strCells ⟨⟨s⟩⟩ = (intsOf s).map (Value.int .u8) := by
 simp [Lib.strCells, intsOf, Function.comp_def]
theorem ints_bytes (s : List UInt8) : Lib.byteCells s = (intsOf s).map (Value.int .u8) := by
 simp [Lib.byteCells, intsOf, Function.comp_def]
theorem rep_ints {g : Ghost} : ∀ (l : List Int), RepL g (.int .u8) (l.map (Value.int .u8)) l
 | [] => rfl
 | x :: l => ⟨[.int .u8 x], l.map (Value.int .u8), rfl, rfl, rep_ints l⟩

def wbS (l : List Int) (x : Int) : Unit × List Int := ((), l ++ [x])
def wbP (l : List Int) (x : Int) : Prop := l.length + 1 ≤ 140737488355328
theorem wb_c {g : Ghost} {b : Nat} {a : Option Addr} {c : Nat} {xs : List Value} (l : List Int) (x : Int) (hL : RepL g (.int .u8) xs l) (hp : wbP l x) :
  CallsH Tryz.prog 93 #[.pointer (some ⟨b, 0, none⟩), .int .u8 x] g [.bhd b 122 (.slice a l.length c), .own (.slice a l.length c) 5 1 l.length xs]
   (fun g' H' r => ∃ (a' : Option Addr) (c' : Nat) (xs' : List Value), r = .nilIface ∧ RepL g' (.int .u8) xs' (wbS l x).2 ∧ H' = [.bhd b 122 (.slice a' (wbS l x).2.length c'), .own (.slice a' (wbS l x).2.length c') 5 1 (wbS l x).2.length xs']) := fun W hW => by
 obtain ⟨p, hp0, hbk⟩ := hW.ents (.bhd b 122 (.slice a l.length c)) (by simp)
 have hown := hW.ents (.own (.slice a l.length c) 5 1 l.length xs) (by simp)
 refine (wb b (.slice a l.length c) p l.length xs x W hp0 hbk hown hp).mono fun e W' ⟨he, v', hb', hown', hblk, hF⟩ => ?_
 obtain ⟨a', c', rfl⟩ := own_shape hown'
 have hl : (wbS l x).2.length = l.length + 1 := by simp [wbS]
 refine ⟨_, g, _, he, ⟨a', c', xs ++ [.int .u8 x], rfl, hL.append (rep_ints [x]), rfl⟩, Gext.refl _ g, ?_⟩
 rw [hl]
 exact StW.bld hW ⟨_, .inr rfl, hb'⟩ hown' (by decide) hblk hF
def wsS (l : List Int) (s : List UInt8) : Int × Unit × List Int := ((s.length : Int), (), l ++ intsOf s)
def wsP (l : List Int) (s : List UInt8) : Prop := l.length + s.length ≤ 140737488355328
theorem ws_c {g : Ghost} {b : Nat} {a : Option Addr} {c : Nat} {xs : List Value} (l : List Int) (s : List UInt8) (hL : RepL g (.int .u8) xs l) (hp : wsP l s) :
  CallsH Tryz.prog 94 #[.pointer (some ⟨b, 0, none⟩), .string ⟨⟨s⟩⟩] g [.bhd b 122 (.slice a l.length c), .own (.slice a l.length c) 5 1 l.length xs]
   (fun g' H' r => ∃ (a' : Option Addr) (c' : Nat) (xs' : List Value), r = .tuple #[.int .i64 (wsS l s).1, .nilIface] ∧ RepL g' (.int .u8) xs' (wsS l s).2.2 ∧ H' = [.bhd b 122 (.slice a' (wsS l s).2.2.length c'), .own (.slice a' (wsS l s).2.2.length c') 5 1 (wsS l s).2.2.length xs']) := fun W hW => by
 obtain ⟨p, hp0, hbk⟩ := hW.ents (.bhd b 122 (.slice a l.length c)) (by simp)
 have hown := hW.ents (.own (.slice a l.length c) 5 1 l.length xs) (by simp)
 refine (ws b (.slice a l.length c) p l.length xs ⟨⟨s⟩⟩ W hp0 hbk hown hp).mono fun e W' ⟨he, v', hb', hown', hblk, hF⟩ => ?_
 obtain ⟨a', c', rfl⟩ := own_shape hown'
 have hl : (wsS l s).2.2.length = l.length + s.length := by simp [wsS, intsOf_length]
 refine ⟨_, g, _, he, ⟨a', c', xs ++ Lib.strCells ⟨⟨s⟩⟩, rfl, hL.append (by rw [ints_cells]; exact rep_ints _), rfl⟩, Gext.refl _ g, ?_⟩
 rw [hl]
 exact StW.bld hW ⟨_, .inr rfl, hb'⟩ hown' (by decide) hblk hF
def stP (l : List Int) : Prop := intsOf (bytesOf l) = l
theorem st_c {g : Ghost} {b : Nat} {a : Option Addr} {c : Nat} {xs : List Value} (l : List Int) (hL : RepL g (.int .u8) xs l) (hp : stP l) :
  CallsH Tryz.prog 96 #[.pointer (some ⟨b, 0, none⟩)] g [.bhd b 122 (.slice a l.length c), .own (.slice a l.length c) 5 1 l.length xs]
   (fun g' H' r => r = .string ⟨⟨bytesOf l⟩⟩ ∧ H' = []) := fun W hW => by
 obtain ⟨p, hp0, hbk⟩ := hW.ents (.bhd b 122 (.slice a l.length c)) (by simp)
 have hown : W.ownsRow 0 _ 1 (.slice a l.length c) l.length xs := hW.ents (.own (.slice a l.length c) 5 1 l.length xs) (by simp)
 have hl : (bytesOf l).length = l.length := by simp [bytesOf]
 have hxs : xs = Lib.byteCells (bytesOf l) := by rw [ints_bytes, hp]; exact repL_ints hL
 refine (st b (.slice a l.length c) p (bytesOf l) W hbk (by rw [hl, ← hxs]; exact hown)).mono fun e W' ⟨he, hg⟩ => ?_
 exact ⟨_, g, [], he, ⟨rfl, rfl⟩, Gext.refl _ g, StW.bldGone hW hg⟩
end Go.Proofs.YtdjcgbejnpbjlaaGreatDoor.Bld
