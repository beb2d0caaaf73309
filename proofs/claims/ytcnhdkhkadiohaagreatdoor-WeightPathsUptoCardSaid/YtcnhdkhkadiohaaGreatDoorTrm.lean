/- strings.TrimLeft at a cutset of ASCII signs. -/
import Derived.Test.YtcnhdkhkadiohaaGreatDoorBlc
import Derived.Test.YtcnhdkhkadiohaaGreatDoorShelf
import Derived.WalkKit
import Derived.WalkSpells
import Derived.WalkLawsBesides
namespace Go.Proofs.YtcnhdkhkadiohaaGreatDoor.Trm
open Go Go.Eng Go.RowKit
set_option linter.unusedVariables false
/-- a block that holds of each byte whether it is in a set -/
def SetAt (g : Ghost) (b : Nat) (f : UInt8 → Bool) : Prop := ∃ cs T fz, g b = some (.cells cs T fz) ∧ ∀ x : UInt8, cs[x.toNat]? = some (.bool (f x))
theorem SetAt.mono {g g' : Ghost} {b : Nat} {f : UInt8 → Bool} (h : SetAt g b f) (hg : Gle g g') : SetAt g' b f := by
  obtain ⟨cs, T, fz, h1, h2⟩ := h
  exact ⟨cs, T, fz, hg _ _ h1, h2⟩
def inS (f : UInt8 → Bool) (x : Int) : Bool := f (UInt8.ofNat x.toNat)
def inP (f : UInt8 → Bool) (x : Int) : Prop := 0 ≤ x ∧ x ≤ 255
theorem con_c {g : Ghost} {b : Nat} (f : UInt8 → Bool) (x : Int) (hO : SetAt g b f) (hp : inP f x) : CallsG Tryz.prog 109 #[.pointer (some ⟨b, 0, none⟩), .int .u8 x] g (.bool (inS f x)) := fun W hW => by
  obtain ⟨cs, T, fz, h1, h2⟩ := hO
  have hb := hW _ _ h1
  have hx : ((UInt8.ofNat x.toNat).toNat : Int) = x := by
    have : x.toNat < 256 := by have := hp.1; have := hp.2; omega
    rw [UInt8.toNat_ofNat', Nat.mod_eq_of_lt (by simpa using this)]
    have := hp.1
    omega
  have := Tryz.asciiSet_contains b (UInt8.ofNat x.toNat) (inS f x) W (by rw [Lib.cell_of_heap hb]; exact h2 _)
  rw [hx] at this
  exact this.mono fun e W' ⟨he, hw⟩ => ⟨he, by subst hw; exact Below.refl _ _⟩
def tlaj3 (K : (List UInt8) → Prop) (x0j3 : List UInt8) : Prop :=
  K x0j3
def tlal5b (xas : UInt8 → Bool) (K : (List UInt8) → Prop) (x0l5 : List UInt8) (C5 : (List UInt8) → Prop) : Prop :=
  ((decide ((x0l5.length : Int) > 0)) = true → (0 : Int) ≤ 0 ∧ Int.toNat 0 < x0l5.length ∧ inP xas ((x0l5.getD (Int.toNat 0) 0).toNat : Int) ∧ ((!(inS xas ((x0l5.getD (Int.toNat 0) 0).toNat : Int))) = true → tlaj3 K x0l5) ∧ ((!(inS xas ((x0l5.getD (Int.toNat 0) 0).toNat : Int))) = false → (0 : Int) ≤ 1 ∧ (1 : Int) ≤ (x0l5.length : Int) ∧ (x0l5.length : Int) ≤ (x0l5.length : Int) ∧ C5 (x0l5.drop (Int.toNat 1)))) ∧ ((decide ((x0l5.length : Int) > 0)) = false → tlaj3 K x0l5)
def tlal5 (xas : UInt8 → Bool) (K : (List UInt8) → Prop) : Nat → (List UInt8) → Prop
  | 0, _ => False
  | k + 1, x0l5 => tlal5b xas K x0l5 (tlal5 xas K k)
def tlaF (xs : List UInt8) (xas : UInt8 → Bool) (K : (List UInt8) → Prop) : Prop :=
  ∃ k, tlal5 xas K k xs
set_option maxHeartbeats 4000000 in
set_option maxRecDepth 100000 in
set_option linter.unusedVariables false in
theorem tla_ok {g : Ghost} (xs : List UInt8) {bxas : Nat} (xas : UInt8 → Bool) (hOxas : SetAt g bxas xas) (K : (List UInt8) → Prop)
    (hF : tlaF xs xas K) : CallsH Tryz.prog 90 #[.string ⟨⟨xs⟩⟩, .pointer (some ⟨bxas, 0, none⟩)] g [] (fun g' H' v => ∃ (r0 : List UInt8), v = .string ⟨⟨r0⟩⟩ ∧ H' = [] ∧ K r0) := by
  refine CallsH.enter 16 [(0, .string ⟨⟨xs⟩⟩), (1, .pointer (some ⟨bxas, 0, none⟩))] Tryz.func90 rfl (by kernel_rfl) (by kernel_rfl) (by kernel_rfl) fun w0 => ?_
  refine Ok.seq ?_
  refine Ok.region ?_
  refine Ok.batch 1 [(0, .string ⟨⟨xs⟩⟩), (1, .pointer (some ⟨bxas, 0, none⟩))] (by kernel_rfl) ?_
  refine Ok.nil ?_
  refine Ok.thenN ?_
  refine Ok.cut (fun a W => ∃ (x0j3 : List UInt8), StA 16 [(0, .string ⟨⟨x0j3⟩⟩)] a ∧ StW w0 [] g W ∧ tlaj3 K x0j3) ?_ ?_
  ·
    refine Ok.block ?_
    obtain ⟨k, hF⟩ := hF
    refine Ok.loop (fun k a W => ∃ (x0l5 : List UInt8), StA 16 [(0, .string ⟨⟨x0l5⟩⟩), (1, .pointer (some ⟨bxas, 0, none⟩))] a ∧ StW w0 [] g W ∧ tlal5 xas K k x0l5) k ?_ ?_
    ·
      exact fun a W hA hW => ⟨xs, hA.sub (by kernel_rfl), hW, hF⟩
    ·
      clear hF
      rintro k5 a W ⟨x0l5, hA, hW, hF⟩
      cases k5 with
      | zero => exact (hF : False).elim
      | succ k5 =>
        refine (?_ : Ok _ _ _ _ _ _) a W hA hW
        clear hA hW
        refine Ok.seq ?_
        refine Ok.seq ?_
        refine Ok.region ?_
        refine Ok.batch 3 [(0, .string ⟨⟨x0l5⟩⟩), (1, .pointer (some ⟨bxas, 0, none⟩)), (7, .bool (decide ((x0l5.length : Int) > 0)))] (by kernel_rfl) ?_
        refine Ok.nil ?_
        refine Ok.thenN ?_
        refine Ok.cond (b := decide ((x0l5.length : Int) > 0)) rfl (fun hc1 => ?_) (fun hc1 => ?_)
        · replace hF := hF.1 hc1
          refine Ok.skip ?_
          refine Ok.thenN ?_
          refine Ok.block ?_
          refine Ok.seq ?_
          refine Ok.seq ?_
          refine Ok.region ?_
          refine Ok.batch 2 [(0, .string ⟨⟨x0l5⟩⟩), (1, .pointer (some ⟨bxas, 0, none⟩)), (8, .pointer (some ⟨bxas, 0, none⟩)), (9, .string ⟨⟨x0l5⟩⟩)] (by kernel_rfl) ?_
          obtain ⟨h02, h12, hF⟩ := hF
          have he2 := get_of (l := x0l5) (0 : UInt8) h12
          generalize hg2 : (x0l5.getD (Int.toNat 0) 0) = e2 at he2 hF ⊢
          refine Ok.op rfl (OpOk.step (v := .int .u8 (e2.toNat : Int)) (Yields.indexStr (k := .i64) (i := 0) (s := x0l5) (b := e2) (by kernel_rfl) (by kernel_rfl) Tryz.underlying9 h02 he2) rfl rfl ?_)
          obtain ⟨hp3, hF⟩ := hF
          refine Ok.op rfl (OpOk.callG (v := .bool (inS xas (e2.toNat : Int))) (enters (by kernel_rfl) (fun _ => by kernel_rfl)) (fun W hW => con_c xas (e2.toNat : Int) (hOxas.mono hW.sees) hp3) rfl ?_)
          refine Ok.batch 1 [(0, .string ⟨⟨x0l5⟩⟩), (1, .pointer (some ⟨bxas, 0, none⟩)), (12, .bool (!(inS xas (e2.toNat : Int))))] (by kernel_rfl) ?_
          refine Ok.nil ?_
          refine Ok.thenN ?_
          refine Ok.cond (b := !(inS xas (e2.toNat : Int))) rfl (fun hc4 => ?_) (fun hc4 => ?_)
          · replace hF := hF.1 hc4
            refine Ok.exit ?_
            refine Ok.thenE ?_
            refine Ok.blockMiss rfl ?_
            refine Ok.thenE ?_
            refine Ok.blockHit ?_
            refine Ok.thenN ?_
            subst hg2
            exact fun a W hA hW => ⟨x0l5, hA.sub (by kernel_rfl), hW, hF⟩
          · replace hF := hF.2 hc4
            refine Ok.skip ?_
            refine Ok.thenN ?_
            refine Ok.region ?_
            refine Ok.batch 1 [(1, .pointer (some ⟨bxas, 0, none⟩)), (13, .string ⟨⟨x0l5⟩⟩)] (by kernel_rfl) ?_
            obtain ⟨h05, h15, h25, hF⟩ := hF
            refine Ok.op rfl (OpOk.step (v := .string ⟨⟨x0l5.drop (Int.toNat 1)⟩⟩) (Yields.sliceStr (s := x0l5) (l := 1) (h := (x0l5.length : Int)) (by kernel_rfl) Tryz.underlying9 (.inl ⟨_, _, rfl, rfl⟩) (.inr ⟨rfl, rfl⟩) h05 h15 h25 (x0l5.drop (Int.toNat 1)) (by rw [show ((x0l5.length : Int)).toNat = x0l5.length from Int.toNat_natCast _, List.take_length])) rfl rfl ?_)
            refine Ok.batch 1 [(0, .string ⟨⟨x0l5.drop (Int.toNat 1)⟩⟩), (1, .pointer (some ⟨bxas, 0, none⟩))] (by kernel_rfl) ?_
            refine Ok.nil ?_
            refine Ok.blockN ?_
            refine Ok.thenN ?_
            subst hg2
            exact fun a W hA hW => ⟨k5, Nat.lt_succ_self _, x0l5.drop (Int.toNat 1), hA.sub (by kernel_rfl), hW, hF⟩
        · replace hF := hF.2 hc1
          refine Ok.exit ?_
          refine Ok.thenE ?_
          refine Ok.thenE ?_
          refine Ok.blockHit ?_
          refine Ok.thenN ?_
          exact fun a W hA hW => ⟨x0l5, hA.sub (by kernel_rfl), hW, hF⟩
  ·
    clear hF
    rintro a W ⟨x0j3, hA, hW, hF⟩
    refine (?_ : Ok _ _ _ _ _ _) a W hA hW
    clear hA hW
    refine Ok.seq ?_
    refine Ok.region ?_
    refine Ok.batch 2 [(4, .string ⟨⟨x0j3⟩⟩)] (by kernel_rfl) ?_
    refine Ok.nil ?_
    refine Ok.thenN ?_
    refine Ok.ret ?_
    exact Ok.resH (vs := [.string ⟨⟨x0j3⟩⟩]) (.inl rfl) rfl (.cons (.tmp rfl) .nil) (Gext.refl w0 g) ⟨x0j3, rfl, rfl, hF⟩
def tlaS (s : List UInt8) (f : UInt8 → Bool) : List UInt8 := s.dropWhile f
theorem inS_at (f : UInt8 → Bool) (x : UInt8) : inS f (x.toNat : Int) = f x := by
  unfold inS
  rw [Int.toNat_natCast, UInt8.ofNat_toNat]
theorem tla_loop (f : UInt8 → Bool) (K : List UInt8 → Prop) : ∀ (s : List UInt8), K (s.dropWhile f) → tlal5 f K (s.length + 1) s
  | [], hK => ⟨fun h => by simp at h, fun _ => hK⟩
  | c :: s, hK => by
    refine ⟨fun _ => ?_, fun h => by simp at h⟩
    have e0 : (c :: s).getD (Int.toNat 0) 0 = c := rfl
    rw [e0, inS_at]
    have hc := UInt8.toNat_lt c
    refine ⟨by omega, by simp, ⟨by omega, by omega⟩, fun h => ?_, fun h => ?_⟩
    · rw [List.dropWhile_cons_of_neg (by simpa using h)] at hK
      exact hK
    · rw [List.dropWhile_cons_of_pos (by simpa using h)] at hK
      exact ⟨by omega, by simp only [List.length_cons]; omega, by omega, tla_loop f K s hK⟩
theorem tla_F (s : List UInt8) (f : UInt8 → Bool) : tlaF s f (fun r => r = tlaS s f) := ⟨_, tla_loop f _ s rfl⟩
set_option linter.unusedVariables false in
theorem tla_c {g : Ghost} (xs : List UInt8) {bxas : Nat} (xas : UInt8 → Bool) (hOxas : SetAt g bxas xas)  : CallsG Tryz.prog 90 #[.string ⟨⟨xs⟩⟩, .pointer (some ⟨bxas, 0, none⟩)] g (.string ⟨⟨(tlaS xs xas)⟩⟩) :=
  (tla_ok xs xas hOxas _ (tla_F xs xas)).gives (by rintro g' H' v _ ⟨r0, rfl, rfl, hK⟩; subst hK; rfl)
set_option maxRecDepth 100000 in
theorem zz : ∀ w, (zeroValue 108).run Tryz.prog w = .ok (.agg (Array.replicate 256 (.bool false))) w := fun w => by rw [Tryz.zeroValue108]; exact congrArg (fun c => Result.ok (Value.agg c) w) (by kernel_rfl)
theorem two_alloc {P : Program} (W : World) (o : Obj) (arr cs : Array Value) (T : TypeId) (hs : cs.size = arr.size) (hc : ∀ v ∈ cs.toList, v.oneCell' = true) :
    (storeCells ⟨W.heap.size + 1, 0, none⟩ cs.toList).run P ((W.alloc o).alloc (.cells arr T)) = .ok () (((W.alloc o).alloc (.cells arr T)).setRow (W.heap.size + 1) cs) ∧
    (((W.alloc o).alloc (.cells arr T)).setRow (W.heap.size + 1) cs).heap[W.heap.size + 1]? = some (.cells cs T (0, 0)) ∧
    Below W.heap.size W (((W.alloc o).alloc (.cells arr T)).setRow (W.heap.size + 1) cs) := by
  have hsz : (W.alloc o).heap.size = W.heap.size + 1 := by show (W.heap.push o).size = _; simp
  have hh : ((W.alloc o).alloc (.cells arr T)).heap[W.heap.size + 1]? = some (.cells arr T (0, 0)) := by
    rw [← hsz]; exact heap_alloc_new _ _
  refine ⟨?_, setRow_heap _ _ arr _ T (0, 0) hh, ?_⟩
  · have h1 := run_storeCells_at (P := P) (W.heap.size + 1) 0 T cs.toList 0 arr _ hh (by simp; omega) hc
    rw [h1]
    have e : (List.take (0 + 0) arr.toList ++ cs.toList ++ List.drop (0 + 0 + cs.toList.length) arr.toList).toArray = cs := by
      rw [List.drop_of_length_le (by simp; omega)]
      simp
    rw [e]
  · refine ((((Below.refl W.heap.size W).alloc (Nat.le_refl _) o).alloc (by rw [hsz]; omega) _)).trans ⟨rfl, rfl, rfl, by simp [World.setRow], fun k hk => setRow_other _ _ _ _ (by omega)⟩
set_option maxHeartbeats 1000000 in
theorem tl_w (s cut : List UInt8) (r : List UInt8) (W : World) (h2 : 2 ≤ cut.length) (hs : cut.length < 4294967281) (hascii : ∀ (j : Nat) b, cut[j]? = some b → b.toNat < 128) (hne : s ≠ [])
   (trimA : ∀ w b, W.heap.size ≤ b → w.heap[b]? = some (.cells (Lib.setCells cut) 108 (0, 0)) → Calls Tryz.prog 90 #[.string ⟨⟨s⟩⟩, .pointer (some ⟨b, 0, none⟩)] w fun e w' => e = .returned (.string ⟨⟨r⟩⟩) ∧ Below w.heap.size w w') :
    Calls Tryz.prog 61 #[.string ⟨⟨s⟩⟩, .string ⟨⟨cut⟩⟩] W fun e w' => e = .returned (.string ⟨⟨r⟩⟩) ∧ Below W.heap.size W w' := by
  have e197 : ∀ args w, (callFunc 88 args).run Tryz.prog w = .ok (.enter 88 args) w := enters_of Tryz.func88 (by kernel_rfl) rfl
  have e198 : ∀ args w, (callFunc 89 args).run Tryz.prog w = .ok (.enter 89 args) w := enters_of Tryz.func89 (by kernel_rfl) rfl
  have e199 : ∀ args w, (callFunc 90 args).run Tryz.prog w = .ok (.enter 90 args) w := enters_of Tryz.func90 (by kernel_rfl) rfl
  have e200 : ∀ args w, (callFunc 91 args).run Tryz.prog w = .ok (.enter 91 args) w := enters_of Tryz.func91 (by kernel_rfl) rfl
  have c1 : s.isEmpty = false := by simpa using hne
  have c2 : cut.isEmpty = false := by cases cut <;> simp at h2 ⊢
  have c3 : ¬ ((cut.length : Int) = 1) := by omega
  have z224 := zz
  go_enter Tryz.func61, Tryz.ntmps61
  go_wp2_with (go_at_fn 89; refine (Tryz.strings_makeASCIISet zz ⟨⟨cut⟩⟩ _ hs hascii).mono ?_)
  rotate_left
  · exact absurd (Lib.setCells_size cut) (by assumption)
  obtain ⟨hst, hb2, hbl⟩ := two_alloc (P := Tryz.prog) W (.cells (Lib.setCells cut) 108) (Array.replicate 256 (.bool false)) (Lib.setCells cut) 108 (by rw [Lib.setCells_size, Array.size_replicate]) (fun v hv => by
    have := Lib.setCells_one cut
    rw [Array.all_eq_true_iff_forall_mem] at this
    exact this v (Array.mem_toList_iff.1 hv))
  rw [hst]
  simp only [Result.andThen]
  rw [Oper.upon_skip]
  generalize (((W.alloc (.cells (Lib.setCells cut) 108)).alloc (.cells (Array.replicate 256 (.bool false)) 108)).setRow (W.heap.size + 1) (Lib.setCells cut)) = W2 at hb2 hbl ⊢
  go_wp2_with (go_at_fn 90; refine (trimA _ _ (Nat.le_succ _) hb2).mono ?_)
  rintro e w3 ⟨rfl, hw3⟩
  go_wp2
  go_ret
  exact ⟨rfl, hbl.trans (hw3.mono hbl.size)⟩

set_option maxHeartbeats 1000000 in
theorem tl_nil (cut : List UInt8) (W : World) : Calls Tryz.prog 61 #[.string ⟨⟨[]⟩⟩, .string ⟨⟨cut⟩⟩] W fun e w' => e = .returned (.string ⟨⟨[]⟩⟩) ∧ w' = W := by
  go_enter Tryz.func61, Tryz.ntmps61
  go_wp2
  go_ret
  exact ⟨rfl, rfl⟩
def tlS (s cut : List UInt8) : List UInt8 := s.dropWhile fun x => cut.contains x
def tlP (s cut : List UInt8) : Prop := 2 ≤ cut.length ∧ cut.length < 4294967281 ∧ cut.all (fun x => decide (x.toNat < 128)) = true
theorem tl_c {g : Ghost} (s cut : List UInt8) (hp : tlP s cut) : CallsG Tryz.prog 61 #[.string ⟨⟨s⟩⟩, .string ⟨⟨cut⟩⟩] g (.string ⟨⟨tlS s cut⟩⟩) := fun W hW => by
  obtain ⟨h2, h3, h4⟩ := hp
  by_cases hs : s = []
  · subst hs
    exact (tl_nil cut W).mono fun e w' ⟨he, hw⟩ => ⟨he, by subst hw; exact Below.refl _ _⟩
  · refine tl_w s cut (tlS s cut) W h2 h3 (fun j b hj => ?_) hs fun w b _ hb => ?_
    · have := List.all_eq_true.1 h4 b (List.mem_of_getElem? hj)
      simpa using this
    · exact tla_c (g := ghostOf w) s (fun x => cut.contains x) ⟨_, _, _, hb, fun x => Lib.setCells_at cut x⟩ w (gh_ghostOf w)
end Go.Proofs.YtcnhdkhkadiohaaGreatDoor.Trm
