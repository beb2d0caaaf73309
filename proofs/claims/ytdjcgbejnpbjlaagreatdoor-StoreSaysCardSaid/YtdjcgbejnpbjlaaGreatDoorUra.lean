/- Addresses: strings.IndexAny, strings.Cut, and small (strings.Map with a function). -/
import Derived.Test.YtdjcgbejnpbjlaaGreatDoorUrd
import Derived.Test.YtdjcgbejnpbjlaaGreatDoorIxr
import Derived.Shelf.Strings.IndexAnyAll
import Derived.Shelf.Strings.MapAny
namespace Go.Proofs.YtdjcgbejnpbjlaaGreatDoor.Ua
open Go Go.Eng Go.RowKit Go.Shelf Go.Proofs Bld Sp Ti Uc
set_option linter.unusedVariables false
def DFirst : List (Int) := [240, 240, 240, 240, 240, 240, 240, 240, 240, 240, 240, 240, 240, 240, 240, 240, 240, 240, 240, 240, 240, 240, 240, 240, 240, 240, 240, 240, 240, 240, 240, 240, 240, 240, 240, 240, 240, 240, 240, 240, 240, 240, 240, 240, 240, 240, 240, 240, 240, 240, 240, 240, 240, 240, 240, 240, 240, 240, 240, 240, 240, 240, 240, 240, 240, 240, 240, 240, 240, 240, 240, 240, 240, 240, 240, 240, 240, 240, 240, 240, 240, 240, 240, 240, 240, 240, 240, 240, 240, 240, 240, 240, 240, 240, 240, 240, 240, 240, 240, 240, 240, 240, 240, 240, 240, 240, 240, 240, 240, 240, 240, 240, 240, 240, 240, 240, 240, 240, 240, 240, 240, 240, 240, 240, 240, 240, 240, 240, 241, 241, 241, 241, 241, 241, 241, 241, 241, 241, 241, 241, 241, 241, 241, 241, 241, 241, 241, 241, 241, 241, 241, 241, 241, 241, 241, 241, 241, 241, 241, 241, 241, 241, 241, 241, 241, 241, 241, 241, 241, 241, 241, 241, 241, 241, 241, 241, 241, 241, 241, 241, 241, 241, 241, 241, 241, 241, 241, 241, 241, 241, 241, 241, 241, 241, 2, 2, 2, 2, 2, 2, 2, 2, 2, 2, 2, 2, 2, 2, 2, 2, 2, 2, 2, 2, 2, 2, 2, 2, 2, 2, 2, 2, 2, 2, 19, 3, 3, 3, 3, 3, 3, 3, 3, 3, 3, 3, 3, 35, 3, 3, 52, 4, 4, 4, 68, 241, 241, 241, 241, 241, 241, 241, 241, 241, 241, 241]
def DAcc : List (Int × Int) := [(128, 191), (160, 191), (128, 159), (144, 191), (128, 143), (0, 0), (0, 0), (0, 0), (0, 0), (0, 0), (0, 0), (0, 0), (0, 0), (0, 0), (0, 0), (0, 0)]
theorem info116 : (Tryz.prog.info? (Tryz.lays153_ren.t 116)).map (fun i => (i.zero, i.size)) = some (some (.agg (Array.replicate 256 (.bool false))), 256) := by kernel_rfl
def ixaS (s cs : List UInt8) : Int := Lib.indexAny s cs
def ixaP (s cs : List UInt8) : Prop := s.length ≤ 1000000 ∧ cs = [47, 63, 35]
theorem ixa_c {g : Ghost} (s cs : List UInt8) (hp : ixaP s cs) : CallsG Tryz.prog 39 #[.string ⟨⟨s⟩⟩, .string ⟨⟨cs⟩⟩] g (.int .i64 (ixaS s cs)) := fun W hW => by
 obtain ⟨h1, rfl⟩ := hp
 have hsz : (⟨⟨s⟩⟩ : ByteArray).size = s.length := rfl
 by_cases h8 : s.length ≤ 8
 ·exact (Any.strings_IndexAny_marks_short Tryz.lays153 ⟨⟨s⟩⟩ W h8).mono fun e w' ⟨he, hw⟩ => ⟨he, hw⟩
 ·refine (Any.strings_IndexAny_long Tryz.lays153 (zero_of_info info116).1 (zero_of_info info116).2 ⟨⟨s⟩⟩ ⟨⟨[47, 63, 35]⟩⟩ W (by decide) (by rw [hsz]; omega) (by rw [hsz]; omega) (by decide) ?_).mono fun e w' ⟨he, hw⟩ => ⟨he, ?_⟩
  ·intro j b h
   have hm := List.mem_of_getElem? h
   have : ∀ b ∈ ([47, 63, 35] : List UInt8), b.toNat < 128 := by decide
   exact this b hm
  ·rw [hw]
   exact ((Below.refl _ _).alloc (Nat.le_refl _) _).alloc (by simp) _
def cutS (s sep : List UInt8) : List UInt8 × List UInt8 × Bool := Lib.cut s sep
def cutP (s _ : List UInt8) : Prop := s.length ≤ 1000000
theorem cut_c {g : Ghost} (s sep : List UInt8) (hG : SomeInt g 0) (hp : cutP s sep) : CallsG Tryz.prog 62 #[.string ⟨⟨s⟩⟩, .string ⟨⟨sep⟩⟩] g (.tuple #[.string ⟨⟨(cutS s sep).1⟩⟩, .string ⟨⟨(cutS s sep).2.1⟩⟩, .bool (cutS s sep).2.2]) := fun W hW => by
 obtain ⟨cs, T, fz, m, h1, h2⟩ := hG
 have hsz : (⟨⟨s⟩⟩ : ByteArray).size = s.length := rfl
 unfold cutP at hp
 refine (Tryz.strings_Cut ⟨⟨s⟩⟩ ⟨⟨sep⟩⟩ m W (by rw [hsz]; omega) (by rw [Lib.cell_of_heap (hW _ _ h1)]; exact h2)).mono fun e W' ⟨he, n, hw⟩ => ⟨he, ?_⟩
 subst hw
 exact below_drewN' (Below.refl _ _) n
/-! small -/
def lowF (r : Int) : Int := if 65 ≤ r ∧ r ≤ 90 then r + 32 else r
def smallS (s : List UInt8) : List UInt8 := Lib.mapD lowF s
def smallP (s : List UInt8) : Prop := s.length ≤ 1000000
theorem repL_bytes2 {g : Ghost} : ∀ {L : List (Int × Int)} {xs : List Value}, RepL g (.pair (.int .u8) (.int .u8)) xs L → xs = (L.flatMap fun p => [p.1, p.2]).map (Value.int .u8)
 | [], xs, h => h
 | p :: L, xs, ⟨ys, zs, e, ⟨a, b, e2, ha, hb⟩, h⟩ => by
  have ih := repL_bytes2 h
  subst e e2 ih
  have ha : a = [.int .u8 p.1] := ha
  have hb : b = [.int .u8 p.2] := hb
  rw [ha, hb]; rfl
theorem tabs {g : Ghost} {W : World} (hW : Gh g W) (h1 : GlobL g 4 (.int .u8) DFirst) (h2 : GlobL g 5 (.pair (.int .u8) (.int .u8)) DAcc) : Lib.Utf8Tabs 4 5 W := by
 obtain ⟨xs, T, fz, a1, a2⟩ := h1
 obtain ⟨ys, T2, fz2, b1, b2⟩ := h2
 have e1 := repL_ints a2
 have e2 := repL_bytes2 b2
 have d1 : (List.range 256).all (fun c => DFirst[c]? == some (Lib.firstT c : Int)) = true := by decide +kernel
 have d2 : (List.range 16).all (fun i => (DAcc.flatMap fun p => [p.1, p.2])[2 * i]? == some (Lib.accLo i : Int) && (DAcc.flatMap fun p => [p.1, p.2])[2 * i + 1]? == some (Lib.accHi i : Int)) = true := by decide +kernel
 subst e1 e2
 refine ⟨fun c hc => ?_, fun i hi => ⟨?_, ?_⟩⟩
 ·rw [Lib.cell_of_heap (hW _ _ a1)]
  have := List.all_eq_true.1 d1 c (List.mem_range.2 hc)
  rw [beq_iff_eq] at this
  simp [this]
 ·rw [Lib.cell_of_heap (hW _ _ b1)]
  have := List.all_eq_true.1 d2 i (List.mem_range.2 hi)
  rw [Bool.and_eq_true, beq_iff_eq, beq_iff_eq] at this
  simp [this.1]
 ·rw [Lib.cell_of_heap (hW _ _ b1)]
  have := List.all_eq_true.1 d2 i (List.mem_range.2 hi)
  rw [Bool.and_eq_true, beq_iff_eq, beq_iff_eq] at this
  simp [this.2]
theorem small_pays (w : World) : MapAtRunes Tryz.prog 77 #[] lowF w := fun W x hx hb => by
 unfold FnGives
 go_enter Tryz.func77, Tryz.ntmps77
 go_wp2
 all_goals go_ret
 ·refine ⟨?_, 0, rfl⟩
  unfold lowF
  rw [if_pos (by omega), show (x : Int) + 97 - 65 = x + 32 by omega]; rfl
 ·refine ⟨?_, 0, rfl⟩
  unfold lowF
  rw [if_neg (by omega)]; rfl
 ·refine ⟨?_, 0, rfl⟩
  unfold lowF
  rw [if_neg (by omega)]; rfl
theorem lowF_rng (x : Nat) (hx : x ≤ 1114111) : 0 ≤ lowF x ∧ lowF x ≤ 2147483647 := by
 unfold lowF; split <;> omega
theorem small_c {g : Ghost} (s : List UInt8) (h1 : GlobL g 4 (.int .u8) DFirst) (h2 : GlobL g 5 (.pair (.int .u8) (.int .u8)) DAcc) (hp : smallP s) : CallsG Tryz.prog 54 #[.string ⟨⟨s⟩⟩] g (.string ⟨⟨smallS s⟩⟩) := fun W hW => by
 have hT := tabs hW h1 h2
 have hsz : (⟨⟨s⟩⟩ : ByteArray).size = s.length := rfl
 unfold smallP at hp
 go_enter Tryz.func54, Tryz.ntmps54
 have cM := Tryz.strings_Map_runes 77 #[] (enters_of Tryz.func77 (by kernel_rfl) rfl) lowF ⟨⟨s⟩⟩ W (by rw [hsz]; omega) (small_pays W) lowF_rng hT
 go_wp2_with (go_at_call 76; refine cM.mono ?_; rintro e w' ⟨rfl, hb⟩)
 go_ret
 exact ⟨rfl, hb⟩
end Go.Proofs.YtdjcgbejnpbjlaaGreatDoor.Ua
