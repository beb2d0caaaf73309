/- strings.Builder: Write of bytes that are only read. -/
import Derived.Test.YtcnhdkhkadiohaaGreatDoorBlc
namespace Go.Proofs.YtcnhdkhkadiohaaGreatDoor.Bld
open Go Go.Eng Go.RowKit Go.Shelf Go.Proofs
set_option linter.unusedVariables false
set_option maxHeartbeats 2000000 in
set_option maxRecDepth 100000 in
theorem wr (b : Nat) (v p : Value) (n : Nat) (bs src : List Value) (sa : Addr) (k c2 : Nat) (w : World) (hp : p = .pointer none ∨ p = .pointer (some ⟨b, 0, none⟩)) (hbk : w.heap[b]? = some (.cells #[p, v] (ren.t 72) (0, 0)))
  (hown : w.ownsRow 0 (ren.t 5) 1 v n bs) (hk : src.length = k) (h0 : 0 < k) (hs : ∀ j u, src[j]? = some u → w.cell? (sa.add j) = some u) (hsb : (sa.add 0).block ≠ b) (hadd : ∀ j, (sa.add j).block = (sa.add 0).block) (hone : ∀ u ∈ src, u.oneCell' = true) (hlen : n + k ≤ 140737488355328) :
  Calls Tryz.prog 37 #[.pointer (some ⟨b, 0, none⟩), .slice (some sa) k c2] w fun e w' => e = .returned (.tuple #[.int .i64 (k : Int), .nilIface]) ∧ ∃ v', w'.heap[b]? = some (.cells #[.pointer (some ⟨b, 0, none⟩), v'] (ren.t 72) (0, 0)) ∧
   w'.ownsRow 0 (ren.t 5) 1 v' (n + k) (bs ++ src) ∧ (v'.ownBlock = v.ownBlock ∨ ∃ k, v'.ownBlock = some k ∧ w.heap.size ≤ k) ∧ Fr b v.ownBlock w w' := by
 have L := l167
 obtain ⟨i0, hi, hz0, hz1, hz2⟩ := info_parts X.infoByte
 have hcc : Calls Tryz.prog 53 #[.pointer (some ⟨b, 0, none⟩)] w (fun e w' => e = .returned (.tuple #[]) ∧ w'.heap[b]? = some (.cells #[.pointer (some ⟨b, 0, none⟩), v] (ren.t 72) (0, 0)) ∧ w.grownBy w' (some b)) := cc b v p w hp hbk
 have hne : v.ownBlock ≠ some b := Lib.ownBlock_ne hown hbk X.neB5
 go_enter Tryz.func37, Tryz.ntmps37
 go_wp2_with (go_at_call 53; refine hcc.mono ?_)
 rintro e w1 ⟨rfl, hbk1, hg1⟩
 have hown1 := hown.kept hg1 (Or.inr hne)
 have c0 : w1.cell? ⟨b, 0, none⟩ = some (.pointer (some ⟨b, 0, none⟩)) := by rw [Lib.cell_of_heap hbk1]; rfl
 have c1 : w1.cell? ⟨b, 1, none⟩ = some v := by rw [Lib.cell_of_heap hbk1]; rfl
 have hlt := lt_of_heap hbk1
 have hs1 : ∀ j u, src[j]? = some u → w1.cell? (sa.add j) = some u := fun j u hj => by
  have h1 := hs j u hj
  have hlt0 : (sa.add j).block < w.heap.size := by
   unfold World.cell? at h1
   split at h1
   ·rename_i hh; exact (Array.getElem?_eq_some_iff.1 hh).1
   cases h1
  have e1 : w1.heap[(sa.add j).block]? = w.heap[(sa.add j).block]? := hg1.block _ hlt0 (fun e => hsb (by rw [← hadd j]; exact Option.some.inj e))
  unfold World.cell? at h1 ⊢
  rw [e1]; exact h1
 go_wp2_with (at_builtin; refine wpList_append_own_at _ rfl _ _ 23 rfl 0 5 i0 (.int .u8 0) 1 1 Tryz.underlying23 hi hz0 hz1 hz2 rfl dc _ _ _ rfl hown1 sa k c2 src rfl om ?c1 ?c2 ?c3 ?c4 ?c5 ?_)
 case c1 => exact hs1
 case c2 => exact hone
 case c3 => unfold maxLen; omega
 case c4 => omega
 case c5 => exact Nat.zero_le _
 intro v' w2 hown' hgrow _ hblk
 have hb2 : w2.heap[b]? = some (.cells #[.pointer (some ⟨b, 0, none⟩), v] (ren.t 72) (0, 0)) := by
  rw [hgrow.block b hlt (fun e => hne e.symm)]
  exact hbk1
 have d0 : w2.cell? ⟨b, 0, none⟩ = some (.pointer (some ⟨b, 0, none⟩)) := by rw [Lib.cell_of_heap hb2]; rfl
 have d1 : w2.cell? ⟨b, 1, none⟩ = some v := by rw [Lib.cell_of_heap hb2]; rfl
 have f1 : w2.frozen? ⟨b, 1, none⟩ = false := Lib.frozen_of_heap hb2 1
 have hne' : v'.ownBlock ≠ some b := Lib.ownBlock_ne hown' hb2 X.neB5
 obtain ⟨g, cap, hv⟩ : ∃ g cap, v' = .slice (some ⟨g, 0, none⟩) (n + k) cap := by
  rcases hown'.2 with ⟨_, h0⟩ | ⟨g, cap, cur, hv, _⟩
  ·omega
  exact ⟨g, cap, hv⟩
 subst hv
 go_wp2
 go_ret2
 refine ⟨rfl, _, by simp [World.setCell, Array.getElem?_modify, hb2], hown'.kept (set_grown w2 b 1 _) (Or.inr hne'), ?_, ?_⟩
 ·rcases hblk with h | h
  ·exact .inl h
  refine .inr ⟨_, h, ?_⟩
  have := hg1.size
  omega
 refine ⟨?_, ?_, ?_, ?_, fun k hk hkb hkr => ?_⟩
 ·exact hgrow.os.trans hg1.os
 ·exact hgrow.tape.trans hg1.tape
 ·exact hgrow.output.trans hg1.output
 ·have h1 := hg1.size
  have h2 := hgrow.size
  simp [World.setCell] at h2 ⊢
  omega
 have h1 := hg1.size
 rw [Below.heap_setCell _ _ _ _ (show k ≠ b from hkb), hgrow.block k om hkr, hg1.block k hk (by simpa using hkb)]
def wrS (l q : List Int) : Int × Unit × List Int := ((q.length : Int), (), l ++ q)
def wrP (l q : List Int) : Prop := q ≠ [] ∧ l.length + q.length ≤ 140737488355328
theorem wr_c {g : Ghost} {b : Nat} {a a2 : Option Addr} {c c2 : Nat} {xs : List Value} (l q : List Int) (hL : RepL g (.int .u8) xs l) (hq : Rep g (.slice (.int .u8)) [.slice a2 q.length c2] q) (hp : wrP l q) :
  CallsH Tryz.prog 37 #[.pointer (some ⟨b, 0, none⟩), .slice a2 q.length c2] g [.bhd b 68 (.slice a l.length c), .own (.slice a l.length c) 5 1 l.length xs]
   (fun g' H' r => ∃ (a' : Option Addr) (c' : Nat) (xs' : List Value), r = .tuple #[.int .i64 (wrS l q).1, .nilIface] ∧ RepL g' (.int .u8) xs' (wrS l q).2.2 ∧ H' = [.bhd b 68 (.slice a' (wrS l q).2.2.length c'), .own (.slice a' (wrS l q).2.2.length c') 5 1 (wrS l q).2.2.length xs']) := fun W hW => by
 obtain ⟨p, hp0, hbk⟩ := hW.ents (.bhd b 68 (.slice a l.length c)) (by simp)
 have hown := hW.ents (.own (.slice a l.length c) 5 1 l.length xs) (by simp)
 have hgb : g b = none := hW.apart (.bhd b 68 (.slice a l.length c)) (by simp) b rfl
 obtain ⟨a1, c1, hcs, -, hel⟩ := hq
 simp only [List.cons.injEq, Value.slice.injEq, and_true] at hcs
 obtain ⟨rfl, -, rfl⟩ := hcs
 obtain ⟨y, q', rfl⟩ : ∃ y q', q = y :: q' := by
  cases q with
  | nil => exact absurd rfl hp.1
  | cons y q' => exact ⟨y, q', rfl⟩
 obtain ⟨sb, so, hb, _⟩ := hel 0 y rfl
 subst hb
 obtain ⟨ys, h1, h2⟩ := rep_cells (e := .int .u8) (g := g) (b := sb) (off := so) (y :: q') 0 fun i x hx => by
  obtain ⟨b', off', hb', ecs, hl, hat, hr⟩ := hel i x hx
  injection hb' with hb'
  simp only [Addr.mk.injEq, and_true] at hb'
  obtain ⟨rfl, rfl⟩ := hb'
  exact ⟨ecs, hl, by rw [Nat.zero_add]; exact hat, hr⟩
 have hys : ys.length = (y :: q').length := by have h4 := RepL.size (e := .int .u8) (l := y :: q') h1; rw [show (Ty.int IntKind.u8).size = 1 from rfl, Nat.mul_one] at h4; exact h4
 have hcell : ∀ j u, ys[j]? = some u → gcell g ⟨sb, so + j, none⟩ = some u := fun j u hj => by
  have := h2 j u hj
  rwa [Nat.zero_mul, Nat.add_zero] at this
 have hsb : sb ≠ b := fun e => by
  subst e
  obtain ⟨u, hu⟩ : ∃ u, ys[0]? = some u := ⟨ys[0]'(by rw [hys]; simp), List.getElem?_eq_getElem _⟩
  have := hcell 0 u hu
  unfold gcell at this
  rw [show g (⟨sb, so + 0, none⟩ : Addr).block = none from hgb] at this
  cases this
 refine (wr b (.slice a l.length c) p l.length xs ys ⟨sb, so, none⟩ (y :: q').length _ W hp0 hbk hown hys (by simp) (fun j u hj => by rw [Addr.add_plain]; exact gcell_cell hW.ghost (hcell j u hj)) (by rw [Addr.add_plain]; exact hsb) (fun j => by rw [Addr.add_plain, Addr.add_plain]) (RepL.ones (e := .int .u8) (l := y :: q') h1) hp.2).mono fun e W' ⟨he, v', hb', hown', hblk, hF⟩ => ?_
 obtain ⟨a', c', rfl⟩ := own_shape hown'
 have hl : (wrS l (y :: q')).2.2.length = l.length + (y :: q').length := by simp [wrS]
 refine ⟨_, g, _, he, ⟨a', c', xs ++ ys, rfl, RepL.append (e := .int .u8) (l' := y :: q') hL h1, rfl⟩, Gext.r _ g, ?_⟩
 rw [hl]
 exact StW.bld hW ⟨_, .inr rfl, hb'⟩ hown' dc hblk hF
end Go.Proofs.YtcnhdkhkadiohaaGreatDoor.Bld
