/- strings.NewReplacer: what its table is. -/
import Derived.Test.YtcnhdkhkadiohaaGreatDoorRnd
import Derived.Test.YtcnhdkhkadiohaaGreatDoorPl
import Derived.Test.YtcnhdkhkadiohaaGreatDoorProg
import Derived.Test.YtcnhdkhkadiohaaGreatDoorLaid
import Derived.Lib.SliceRun
namespace Go.Proofs.YtcnhdkhkadiohaaGreatDoor.Rp
open Go Go.Eng Go.RowKit
set_option maxHeartbeats 4000000
set_option maxRecDepth 100000
set_option linter.unusedSimpArgs false
set_option linter.unusedVariables false
def rcl (a b c d : Value) : List Value := let n (k : Nat) : List Value := List.replicate k (.slice none 0 0); n 10 ++ a :: (n 23 ++ b :: (n 57 ++ c :: (n 163 ++ [d])))
/-- a table is laid at b -/
def RplG (g : Ghost) (b : Nat) : Prop := ∃ (a10 a34 a92 t : Option Addr) (c10 c34 c92 ct : Nat), g b = some (.cells (rcl (.slice a10 2 c10) (.slice a34 2 c34) (.slice a92 2 c92) (.slice t 3 ct)).toArray 165) ∧
 Rep g (.slice yb) [.slice a10 2 c10] [92, 10] ∧ Rep g (.slice yb) [.slice a34 2 c34] [92, 34] ∧ Rep g (.slice yb) [.slice a92 2 c92] [92, 92] ∧ Rep g (.slice .str) [.slice t 3 ct] [[10], [34], [92]]
theorem RplG.mk {g : Ghost} {b : Nat} {a10 a34 a92 t : Option Addr} {c10 c34 c92 ct : Nat} (h : g b = some (.cells (rcl (.slice a10 2 c10) (.slice a34 2 c34) (.slice a92 2 c92) (.slice t 3 ct)).toArray 165))
  (h1 : Rep g (.slice yb) [.slice a10 2 c10] [92, 10]) (h2 : Rep g (.slice yb) [.slice a34 2 c34] [92, 34]) (h3 : Rep g (.slice yb) [.slice a92 2 c92] [92, 92]) (h4 : Rep g (.slice .str) [.slice t 3 ct] [[10], [34], [92]]) : RplG g b :=
 ⟨_, _, _, _, _, _, _, _, h, h1, h2, h3, h4⟩
theorem RplG.mono {g g' : Ghost} {b : Nat} (h : RplG g b) (hg : Gle g g') : RplG g' b := by
 obtain ⟨a10, a34, a92, t, c10, c34, c92, ct, hb, h1, h2, h3, h4⟩ := h
 exact ⟨_, _, _, _, _, _, _, _, hg _ _ hb, h1.mono hg, h2.mono hg, h3.mono hg, h4.mono hg⟩
def bonF (K : Prop) : Prop :=
 (0 : Int) ≤ 0 ∧ Int.toNat 0 < ([[92], [92, 92], [34], [92, 34], [10], [92, 10]] : List Bs).length ∧ (0 : Int) ≤ 1 ∧ Int.toNat 1 < ([[92], [92, 92], [34], [92, 34], [10], [92, 10]] : List Bs).length ∧ (0 : Int) ≤ 2 ∧ Int.toNat 2 < ([[92], [92, 92], [34], [92, 34], [10], [92, 10]] : List Bs).length ∧ (0 : Int) ≤ 3 ∧ Int.toNat 3 < ([[92], [92, 92], [34], [92, 34], [10], [92, 10]] : List Bs).length ∧ (0 : Int) ≤ 4 ∧ Int.toNat 4 < ([[92], [92, 92], [34], [92, 34], [10], [92, 10]] : List Bs).length ∧ (0 : Int) ≤ 5 ∧ Int.toNat 5 < ([[92], [92, 92], [34], [92, 34], [10], [92, 10]] : List Bs).length ∧ (0 : Int) ≤ 4 ∧ Int.toNat 4 < ([[92], [92, 92], [34], [92, 34], [10], [92, 10]] : List Bs).length ∧ (0 : Int) ≤ 5 ∧ Int.toNat 5 < ([[92], [92, 92], [34], [92, 34], [10], [92, 10]] : List Bs).length ∧ (([] : List Bs) ++ ([(bytesOf ([10] : List Int))] : List Bs)).length ≤ 8796093022208 ∧ ([92, 10] : Bs).length ≤ maxLen ∧ (0 : Int) ≤ 2 ∧ Int.toNat 2 < ([[92], [92, 92], [34], [92, 34], [10], [92, 10]] : List Bs).length ∧ (0 : Int) ≤ 3 ∧ Int.toNat 3 < ([[92], [92, 92], [34], [92, 34], [10], [92, 10]] : List Bs).length ∧ ((([] : List Bs) ++ ([(bytesOf ([10] : List Int))] : List Bs)) ++ ([(bytesOf ([34] : List Int))] : List Bs)).length ≤ 8796093022208 ∧ ([92, 34] : Bs).length ≤ maxLen ∧ (0 : Int) ≤ 0 ∧ Int.toNat 0 < ([[92], [92, 92], [34], [92, 34], [10], [92, 10]] : List Bs).length ∧ (0 : Int) ≤ 1 ∧ Int.toNat 1 < ([[92], [92, 92], [34], [92, 34], [10], [92, 10]] : List Bs).length ∧ (((([] : List Bs) ++ ([(bytesOf ([10] : List Int))] : List Bs)) ++ ([(bytesOf ([34] : List Int))] : List Bs)) ++ ([(bytesOf ([92] : List Int))] : List Bs)).length ≤ 8796093022208 ∧ ([92, 92] : Bs).length ≤ maxLen ∧ K
theorem bon_ok {g : Ghost} {b : Nat} {ao : Option Addr} {co : Nat} (hRo : Rep g (.slice (.str)) [.slice ao ([[92], [92, 92], [34], [92, 34], [10], [92, 10]] : List Bs).length co] ([[92], [92, 92], [34], [92, 34], [10], [92, 10]] : List Bs)) (K : Prop)
  (hF : bonF K) : CallsH Tryz.prog 106 #[pv b 0] g [.blk b (.cells #[.int .u32 0, .int .i32 1, .int .u32 0, .nilIface, .slice ao ([[92], [92, 92], [34], [92, 34], [10], [92, 10]] : List Bs).length co] 133)] (fun g' H' v => ∃ b2, v = .tuple #[] ∧ H' = [.blk b (.cells #[.int .u32 0, .int .i32 1, .int .u32 0, .iface 166 (pv b2 0), .slice none 0 0] 133)] ∧ RplG g' b2) := by
 refine CallsH.enter 10 [(0, pv b 0)] Tryz.func106 rfl kr kr kr fun w0 => ?_
 refine Ok.sr ((Ok.B 2 [(0, pv b 0), (2, pv b 0), (3, pv b 0)] kr (Ok.op rfl (OpOk.i (args := #[pv b 0]) 132 [(0, pv b 0)] enr Tryz.func130 rfl rfl rfl rfl (Ok.sr ((Ok.b 1 [0] [] ?_)))))))
 refine Ok.nt ((Ok.sr ((Ok.B 3 [(17, pv b 4)] kr (Ok.op rfl (OpOk.s (v := .slice ao ([[92], [92, 92], [34], [92, 34], [10], [92, 10]] : List Bs).length co) (Yields.l 0 rfl rfl Tryz.underlying38 rfl kr) rfl rfl (Ok.B 1 [(3, .slice ao ([[92], [92, 92], [34], [92, 34], [10], [92, 10]] : List Bs).length co)] kr (Ok.nt ((Ok.q (Ok.sr ((Ok.b 10 [3] [(28, .bool false)] ?_)))))))))))))
 refine Ok.nt ((Ok.c (b := false) rfl (fun h => by cases h) (fun _ => ?_)))
 refine Ok.k (Ok.t (Ok.sr ((Ok.b 1 [3] [(4, .bool true)] ?_))))
 refine Ok.nt ((Ok.q (Ok.sr ((Ok.b 1 [3, 4] [(5, iv 0)] ?_)))))
 refine Ok.nt ((Ok.block (Ok.rounds 5 (Ok.round (Ok.q (Ok.sr ((Ok.B 4 [(3, .slice ao ([[92], [92, 92], [34], [92, 34], [10], [92, 10]] : List Bs).length co), (4, .bool true), (5, iv 0), (40, .bool true)] kr (Ok.nt ((Ok.c (b := true) rfl (fun _ => ?_) (fun h => by cases h))))))))))))
 refine Ok.k (Ok.t (Ok.q (Ok.block (Ok.q (Ok.sr ((Ok.b 2 [3, 4, 5] [(43, .slice ao ([[92], [92, 92], [34], [92, 34], [10], [92, 10]] : List Bs).length co), (44, iv 0)] ?_)))))))
 obtain ⟨h02, h12, hF⟩ := hF
 have he2 : ([[92], [92, 92], [34], [92, 34], [10], [92, 10]] : List Bs)[Int.toNat 0]? = some ([92] : Bs) := get_of (l := ([[92], [92, 92], [34], [92, 34], [10], [92, 10]] : List Bs)) (default : Bs) h12
 refine Ok.op rfl (OpOk.indexRo (e := .str) (i := 0) (el := ([92] : Bs)) rfl rfl Tryz.underlying38 kr hRo h02 he2 rfl fun q1 o1 cs1 _ i0 hr1 => ?_)
 obtain rfl := hr1
 replace i0 : At g q1 o1 [sv ([92] : Bs)] := i0
 refine Ok.op rfl (OpOk.s (v := sv ([92] : Bs)) (Yields.lr 0 i0 kr Tryz.underlying9 rfl kr) rfl rfl (Ok.b 2 [3, 4, 5] [(48, .bool false)] ?_))
 refine Ok.nt ((Ok.c (b := false) rfl (fun h => by cases h) (fun _ => ?_)))
 refine Ok.k (Ok.t (Ok.sr ((Ok.b 3 [3, 4, 5] [(52, .slice ao ([[92], [92, 92], [34], [92, 34], [10], [92, 10]] : List Bs).length co), (54, iv 1)] ?_))))
 obtain ⟨h04, h14, hF⟩ := hF
 have he4 : ([[92], [92, 92], [34], [92, 34], [10], [92, 10]] : List Bs)[Int.toNat 1]? = some ([92, 92] : Bs) := get_of (l := ([[92], [92, 92], [34], [92, 34], [10], [92, 10]] : List Bs)) (default : Bs) h14
 refine Ok.op rfl (OpOk.indexRo (e := .str) (i := 1) (el := ([92, 92] : Bs)) rfl rfl Tryz.underlying38 kr hRo h04 he4 rfl fun q3 o3 cs3 _ Z0 hr3 => ?_)
 obtain rfl := hr3
 replace Z0 : At g q3 o3 [sv ([92, 92] : Bs)] := Z0
 refine Ok.op rfl (OpOk.s (v := sv ([92, 92] : Bs)) (Yields.lr 0 Z0 kr Tryz.underlying9 rfl kr) rfl rfl (Ok.b 2 [3, 4, 5] [(58, .bool true)] ?_))
 refine Ok.nt ((Ok.c (b := true) rfl (fun _ => ?_) (fun h => by cases h)))
 refine Ok.r (Ok.b 1 [3, 5] [(4, .bool false)] ?_)
 refine Ok.j (Ok.kn (Ok.t (Ok.r (Ok.b 3 [3, 4] [(5, iv 2)] ?_))))
 refine Ok.nt ((Ok.round (Ok.q (Ok.sr ((Ok.B 4 [(3, .slice ao ([[92], [92, 92], [34], [92, 34], [10], [92, 10]] : List Bs).length co), (4, .bool false), (5, iv 2), (40, .bool true)] kr (Ok.nt ((Ok.c (b := true) rfl (fun _ => ?_) (fun h => by cases h))))))))))
 refine Ok.k (Ok.t (Ok.q (Ok.block (Ok.q (Ok.sr ((Ok.b 2 [3, 4, 5] [(43, .slice ao ([[92], [92, 92], [34], [92, 34], [10], [92, 10]] : List Bs).length co), (44, iv 2)] ?_)))))))
 obtain ⟨h06, h16, hF⟩ := hF
 have he6 : ([[92], [92, 92], [34], [92, 34], [10], [92, 10]] : List Bs)[Int.toNat 2]? = some ([34] : Bs) := get_of (l := ([[92], [92, 92], [34], [92, 34], [10], [92, 10]] : List Bs)) (default : Bs) h16
 refine Ok.op rfl (OpOk.indexRo (e := .str) (i := 2) (el := ([34] : Bs)) rfl rfl Tryz.underlying38 kr hRo h06 he6 rfl fun q5 o5 cs5 _ V0 hr5 => ?_)
 obtain rfl := hr5
 replace V0 : At g q5 o5 [sv ([34] : Bs)] := V0
 refine Ok.op rfl (OpOk.s (v := sv ([34] : Bs)) (Yields.lr 0 V0 kr Tryz.underlying9 rfl kr) rfl rfl (Ok.b 2 [3, 4, 5] [(48, .bool false)] ?_))
 refine Ok.nt ((Ok.c (b := false) rfl (fun h => by cases h) (fun _ => ?_)))
 refine Ok.k (Ok.t (Ok.sr ((Ok.b 3 [3, 4, 5] [(52, .slice ao ([[92], [92, 92], [34], [92, 34], [10], [92, 10]] : List Bs).length co), (54, iv 3)] ?_))))
 obtain ⟨h08, h18, hF⟩ := hF
 have he8 : ([[92], [92, 92], [34], [92, 34], [10], [92, 10]] : List Bs)[Int.toNat 3]? = some ([92, 34] : Bs) := get_of (l := ([[92], [92, 92], [34], [92, 34], [10], [92, 10]] : List Bs)) (default : Bs) h18
 refine Ok.op rfl (OpOk.indexRo (e := .str) (i := 3) (el := ([92, 34] : Bs)) rfl rfl Tryz.underlying38 kr hRo h08 he8 rfl fun q7 o7 cs7 _ Q0 hr7 => ?_)
 obtain rfl := hr7
 replace Q0 : At g q7 o7 [sv ([92, 34] : Bs)] := Q0
 refine Ok.op rfl (OpOk.s (v := sv ([92, 34] : Bs)) (Yields.lr 0 Q0 kr Tryz.underlying9 rfl kr) rfl rfl (Ok.b 2 [3, 4, 5] [(58, .bool true)] ?_))
 refine Ok.nt ((Ok.c (b := true) rfl (fun _ => ?_) (fun h => by cases h)))
 refine Ok.r (Ok.b 1 [3, 4, 5] [] ?_)
 refine Ok.j (Ok.kn (Ok.t (Ok.r (Ok.b 3 [3, 4] [(5, iv 4)] ?_))))
 refine Ok.nt ((Ok.round (Ok.q (Ok.sr ((Ok.B 4 [(3, .slice ao ([[92], [92, 92], [34], [92, 34], [10], [92, 10]] : List Bs).length co), (4, .bool false), (5, iv 4), (40, .bool true)] kr (Ok.nt ((Ok.c (b := true) rfl (fun _ => ?_) (fun h => by cases h))))))))))
 refine Ok.k (Ok.t (Ok.q (Ok.block (Ok.q (Ok.sr ((Ok.b 2 [3, 4, 5] [(43, .slice ao ([[92], [92, 92], [34], [92, 34], [10], [92, 10]] : List Bs).length co), (44, iv 4)] ?_)))))))
 obtain ⟨h010, h110, hF⟩ := hF
 have he10 : ([[92], [92, 92], [34], [92, 34], [10], [92, 10]] : List Bs)[Int.toNat 4]? = some ([10] : Bs) := get_of (l := ([[92], [92, 92], [34], [92, 34], [10], [92, 10]] : List Bs)) (default : Bs) h110
 refine Ok.op rfl (OpOk.indexRo (e := .str) (i := 4) (el := ([10] : Bs)) rfl rfl Tryz.underlying38 kr hRo h010 he10 rfl fun q9 o9 cs9 _ K0 hr9 => ?_)
 obtain rfl := hr9
 replace K0 : At g q9 o9 [sv ([10] : Bs)] := K0
 refine Ok.op rfl (OpOk.s (v := sv ([10] : Bs)) (Yields.lr 0 K0 kr Tryz.underlying9 rfl kr) rfl rfl (Ok.b 2 [3, 4, 5] [(48, .bool false)] ?_))
 refine Ok.nt ((Ok.c (b := false) rfl (fun h => by cases h) (fun _ => ?_)))
 refine Ok.k (Ok.t (Ok.sr ((Ok.b 3 [3, 4, 5] [(52, .slice ao ([[92], [92, 92], [34], [92, 34], [10], [92, 10]] : List Bs).length co), (54, iv 5)] ?_))))
 obtain ⟨h012, h112, hF⟩ := hF
 have he12 : ([[92], [92, 92], [34], [92, 34], [10], [92, 10]] : List Bs)[Int.toNat 5]? = some ([92, 10] : Bs) := get_of (l := ([[92], [92, 92], [34], [92, 34], [10], [92, 10]] : List Bs)) (default : Bs) h112
 refine Ok.op rfl (OpOk.indexRo (e := .str) (i := 5) (el := ([92, 10] : Bs)) rfl rfl Tryz.underlying38 kr hRo h012 he12 rfl fun q11 o11 cs11 _ f0 hr11 => ?_)
 obtain rfl := hr11
 replace f0 : At g q11 o11 [sv ([92, 10] : Bs)] := f0
 refine Ok.op rfl (OpOk.s (v := sv ([92, 10] : Bs)) (Yields.lr 0 f0 kr Tryz.underlying9 rfl kr) rfl rfl (Ok.b 2 [3, 4, 5] [(58, .bool true)] ?_))
 refine Ok.nt ((Ok.c (b := true) rfl (fun _ => ?_) (fun h => by cases h)))
 refine Ok.r (Ok.b 1 [3, 4, 5] [] ?_)
 refine Ok.j (Ok.kn (Ok.t (Ok.r (Ok.b 3 [3, 4] [(5, iv 6)] ?_))))
 refine Ok.nt ((Ok.round (Ok.q (Ok.sr ((Ok.B 4 [(3, .slice ao ([[92], [92, 92], [34], [92, 34], [10], [92, 10]] : List Bs).length co), (4, .bool false), (5, iv 6), (40, .bool false)] kr (Ok.nt ((Ok.c (b := false) rfl (fun h => by cases h) (fun _ => ?_))))))))))
 refine Ok.x (Ok.thenE (Ok.thenE (Ok.blockHit (Ok.t (Ok.q (Ok.sr ((Ok.b 1 [3] [(59, .bool false)] ?_))))))))
 refine Ok.nt ((Ok.c (b := false) rfl (fun h => by cases h) (fun _ => ?_)))
 refine Ok.k (Ok.t (Ok.sr ((Ok.b 3 [3] [(93, iv 3)] ?_))))
 refine Ok.op rfl (OpOk.makeCap (e := .str) (E := 9) 16 3 rfl rfl Tryz.underlying38 kr kr rfl fun b13 => ?_)
 have hL13 : RepL g (.str) [] ([] : List Bs) := rfl
 refine Ok.b 1 [3] [(95, .agg (rcl (.slice none 0 0) (.slice none 0 0) (.slice none 0 0) (.slice (some ⟨b13, 0, none⟩) ([] : List Bs).length 3)).toArray)] ?_
 refine Ok.op rfl (OpOk.a (z := .agg (rcl (.slice none 0 0) (.slice none 0 0) (.slice none 0 0) (.slice none 0 0)).toArray) (cs := (List.toArray <| rcl (.slice none 0 0) (.slice none 0 0) (.slice none 0 0) (.slice none 0 0))) kr kr rfl fun z0 => ?_)
 refine Ok.op rfl (OpOk.sto (k := 257) (v := .agg (rcl (.slice none 0 0) (.slice none 0 0) (.slice none 0 0) (.slice (some ⟨b13, 0, none⟩) ([] : List Bs).length 3)).toArray) 0 (rcl (.slice none 0 0) (.slice none 0 0) (.slice none 0 0) (.slice (some ⟨b13, 0, none⟩) ([] : List Bs).length 3)).toArray rfl rfl rfl ?_)
 refine Ok.nt ((Ok.q (Ok.sr ((Ok.b 4 [3] [(11, pv z0 0), (12, iv 4)] ?_)))))
 refine Ok.nt ((Ok.block (Ok.rounds 5 (Ok.round (Ok.q (Ok.sr ((Ok.B 2 [(3, .slice ao ([[92], [92, 92], [34], [92, 34], [10], [92, 10]] : List Bs).length co), (11, pv z0 0), (12, iv 4), (100, .bool true)] kr (Ok.nt ((Ok.c (b := true) rfl (fun _ => ?_) (fun h => by cases h))))))))))))
 refine Ok.k (Ok.t (Ok.q (Ok.block (Ok.sr ((Ok.b 2 [3, 11, 12] [(103, .slice ao ([[92], [92, 92], [34], [92, 34], [10], [92, 10]] : List Bs).length co), (104, iv 4)] ?_))))))
 obtain ⟨h016, h116, hF⟩ := hF
 have he16 : ([[92], [92, 92], [34], [92, 34], [10], [92, 10]] : List Bs)[Int.toNat 4]? = some ([10] : Bs) := get_of (l := ([[92], [92, 92], [34], [92, 34], [10], [92, 10]] : List Bs)) (default : Bs) h116
 refine Ok.op rfl (OpOk.indexRo (e := .str) (i := 4) (el := ([10] : Bs)) rfl rfl Tryz.underlying38 kr hRo h016 he16 rfl fun q15 o15 cs15 _ g0 hr15 => ?_)
 obtain rfl := hr15
 replace g0 : At g q15 o15 [sv ([10] : Bs)] := g0
 refine Ok.op rfl (OpOk.s (v := sv ([10] : Bs)) (Yields.lr 0 g0 kr Tryz.underlying9 rfl kr) rfl rfl (Ok.b 2 [3, 11, 12] [(13, .int .u8 10)] ?_))
 refine Ok.nt ((Ok.sr ((Ok.b 3 [3, 11, 12, 13] [(108, .slice ao ([[92], [92, 92], [34], [92, 34], [10], [92, 10]] : List Bs).length co), (110, iv 5)] ?_))))
 obtain ⟨h018, h118, hF⟩ := hF
 have he18 : ([[92], [92, 92], [34], [92, 34], [10], [92, 10]] : List Bs)[Int.toNat 5]? = some ([92, 10] : Bs) := get_of (l := ([[92], [92, 92], [34], [92, 34], [10], [92, 10]] : List Bs)) (default : Bs) h118
 refine Ok.op rfl (OpOk.indexRo (e := .str) (i := 5) (el := ([92, 10] : Bs)) rfl rfl Tryz.underlying38 kr hRo h018 he18 rfl fun q17 o17 cs17 _ h0 hr17 => ?_)
 obtain rfl := hr17
 replace h0 : At g q17 o17 [sv ([92, 10] : Bs)] := h0
 refine Ok.op rfl (OpOk.s (v := sv ([92, 10] : Bs)) (Yields.lr 0 h0 kr Tryz.underlying9 rfl kr) rfl rfl (Ok.b 1 [3, 11, 12, 13] [(14, sv ([92, 10] : Bs))] ?_))
 refine Ok.nt ((Ok.q (Ok.sr ((Ok.b 3 [3, 11, 12, 13, 14] [(115, pv z0 10)] ?_)))))
 refine Ok.op rfl (OpOk.s (v := .slice none 0 0) (Yields.l 0 rfl rfl Tryz.underlying23 rfl kr) rfl rfl (Ok.b 1 [3, 11, 12, 13, 14] [(117, .bool true)] ?_))
 refine Ok.nt ((Ok.c (b := true) rfl (fun _ => ?_) (fun h => by cases h)))
 refine Ok.r (Ok.b 1 [3, 11, 12, 13, 14] [(118, pv z0 256)] ?_)
 refine Ok.op rfl (OpOk.s (v := .slice (some ⟨b13, 0, none⟩) ([] : List Bs).length 3) (Yields.l 0 rfl rfl Tryz.underlying38 rfl kr) rfl rfl (Ok.b 1 [3, 11, 12, 13, 14] [(119, .slice (some ⟨b13, 0, none⟩) ([] : List Bs).length 3), (120, .int .u8 10)] ?_))
 have v0 : RepL g yb ([.int .u8 10] : List Value) ([10] : List Int) := (RepL.consN (c := [.int .u8 10]) rfl rfl)
 refine Ok.op rfl (OpOk.lit (E := 5) yb ([10] : List Int) ([.int .u8 10] : List Value) kr kr rfl kr v0 rfl fun b19 => ?_)
 refine Ok.op rfl (OpOk.s (v := sv (bytesOf ([10] : List Int))) (Yields.strOfOwn 0 kr rfl rfl v0 Tryz.underlying23 Tryz.underlying9 Tryz.underlying5) rfl rfl ?_)
 have q0 : RepL g (.str) ([sv (bytesOf ([10] : List Int))] : List Value) ([(bytesOf ([10] : List Int))] : List Bs) := (RepL.consN (c := [sv (bytesOf ([10] : List Int))]) rfl rfl)
 refine Ok.op rfl (OpOk.lit (E := 9) (.str) ([(bytesOf ([10] : List Int))] : List Bs) ([sv (bytesOf ([10] : List Int))] : List Value) kr kr rfl kr q0 rfl fun b20 => ?_)
 obtain ⟨hb21, hF⟩ := hF
 refine Ok.op rfl (OpOk.append' (e := .str) 16 8796093022208 3 0 rfl rfl rfl rfl hL13 q0 Tryz.underlying38 kr kr kr hb21 rfl fun a21 c21 xs21 Y0 => ?_)
 refine Ok.b 1 [3, 11, 12, 13, 14] [(124, .slice a21 (([] : List Bs) ++ ([(bytesOf ([10] : List Int))] : List Bs)).length c21), (125, pv z0 256)] ?_
 refine Ok.op rfl (OpOk.sto (k := 1) (v := .slice a21 (([] : List Bs) ++ ([(bytesOf ([10] : List Int))] : List Bs)).length c21) 2 (rcl (.slice none 0 0) (.slice none 0 0) (.slice none 0 0) (.slice a21 (([] : List Bs) ++ ([(bytesOf ([10] : List Int))] : List Bs)).length c21)).toArray rfl rfl rfl ?_)
 refine Ok.nt ((Ok.r (Ok.b 2 [3, 11, 12] [(126, .int .u8 10), (127, sv ([92, 10] : Bs))] ?_)))
 obtain ⟨hm22, hF⟩ := hF
 refine Ok.op rfl (OpOk.bytesRo (s := ([92, 10] : Bs)) kr Tryz.underlying9 Tryz.underlying23 Tryz.underlying5 hm22 rfl fun g22 a22 c22 m0 s0 => ?_)
 replace hRo := hRo.mono m0.1
 replace q0 := q0.mono m0.1
 replace v0 := v0.mono m0.1
 replace Y0 := Y0.mono m0.1
 refine Ok.b 2 [3, 11, 12] [(128, .slice a22 (intsOf ([92, 10] : Bs)).length c22), (130, pv z0 10)] ?_
 refine Ok.op rfl (OpOk.sto (k := 1) (v := .slice a22 (intsOf ([92, 10] : Bs)).length c22) 2 (rcl (.slice a22 (intsOf ([92, 10] : Bs)).length c22) (.slice none 0 0) (.slice none 0 0) (.slice a21 (([] : List Bs) ++ ([(bytesOf ([10] : List Int))] : List Bs)).length c21)).toArray rfl rfl rfl ?_)
 refine Ok.j (Ok.kn (Ok.t (Ok.r (Ok.b 3 [3, 11] [(12, iv 2)] ?_))))
 refine Ok.nt ((Ok.round (Ok.q (Ok.sr ((Ok.B 2 [(3, .slice ao ([[92], [92, 92], [34], [92, 34], [10], [92, 10]] : List Bs).length co), (11, pv z0 0), (12, iv 2), (100, .bool true)] kr (Ok.nt ((Ok.c (b := true) rfl (fun _ => ?_) (fun h => by cases h))))))))))
 refine Ok.k (Ok.t (Ok.q (Ok.block (Ok.sr ((Ok.b 2 [3, 11, 12] [(103, .slice ao ([[92], [92, 92], [34], [92, 34], [10], [92, 10]] : List Bs).length co), (104, iv 2)] ?_))))))
 obtain ⟨h024, h124, hF⟩ := hF
 have he24 : ([[92], [92, 92], [34], [92, 34], [10], [92, 10]] : List Bs)[Int.toNat 2]? = some ([34] : Bs) := get_of (l := ([[92], [92, 92], [34], [92, 34], [10], [92, 10]] : List Bs)) (default : Bs) h124
 refine Ok.op rfl (OpOk.indexRo (e := .str) (i := 2) (el := ([34] : Bs)) rfl rfl Tryz.underlying38 kr hRo h024 he24 rfl fun q23 o23 cs23 _ n0 hr23 => ?_)
 obtain rfl := hr23
 replace n0 : At g22 q23 o23 [sv ([34] : Bs)] := n0
 refine Ok.op rfl (OpOk.s (v := sv ([34] : Bs)) (Yields.lr 0 n0 kr Tryz.underlying9 rfl kr) rfl rfl (Ok.b 2 [3, 11, 12] [(13, .int .u8 34)] ?_))
 refine Ok.nt ((Ok.sr ((Ok.b 3 [3, 11, 12, 13] [(108, .slice ao ([[92], [92, 92], [34], [92, 34], [10], [92, 10]] : List Bs).length co), (110, iv 3)] ?_))))
 obtain ⟨h026, h126, hF⟩ := hF
 have he26 : ([[92], [92, 92], [34], [92, 34], [10], [92, 10]] : List Bs)[Int.toNat 3]? = some ([92, 34] : Bs) := get_of (l := ([[92], [92, 92], [34], [92, 34], [10], [92, 10]] : List Bs)) (default : Bs) h126
 refine Ok.op rfl (OpOk.indexRo (e := .str) (i := 3) (el := ([92, 34] : Bs)) rfl rfl Tryz.underlying38 kr hRo h026 he26 rfl fun q25 o25 cs25 _ o0 hr25 => ?_)
 obtain rfl := hr25
 replace o0 : At g22 q25 o25 [sv ([92, 34] : Bs)] := o0
 refine Ok.op rfl (OpOk.s (v := sv ([92, 34] : Bs)) (Yields.lr 0 o0 kr Tryz.underlying9 rfl kr) rfl rfl (Ok.b 1 [3, 11, 12, 13] [(14, sv ([92, 34] : Bs))] ?_))
 refine Ok.nt ((Ok.q (Ok.sr ((Ok.b 3 [3, 11, 12, 13, 14] [(115, pv z0 34)] ?_)))))
 refine Ok.op rfl (OpOk.s (v := .slice none 0 0) (Yields.l 2 rfl rfl Tryz.underlying23 rfl kr) rfl rfl (Ok.b 1 [3, 11, 12, 13, 14] [(117, .bool true)] ?_))
 refine Ok.nt ((Ok.c (b := true) rfl (fun _ => ?_) (fun h => by cases h)))
 refine Ok.r (Ok.b 1 [3, 11, 12, 13, 14] [(118, pv z0 256)] ?_)
 refine Ok.op rfl (OpOk.s (v := .slice a21 (([] : List Bs) ++ ([(bytesOf ([10] : List Int))] : List Bs)).length c21) (Yields.l 2 rfl rfl Tryz.underlying38 rfl kr) rfl rfl (Ok.b 1 [3, 11, 12, 13, 14] [(119, .slice a21 (([] : List Bs) ++ ([(bytesOf ([10] : List Int))] : List Bs)).length c21), (120, .int .u8 34)] ?_))
 have u0 : RepL g22 yb ([.int .u8 34] : List Value) ([34] : List Int) := (RepL.consN (c := [.int .u8 34]) rfl rfl)
 refine Ok.op rfl (OpOk.lit (E := 5) yb ([34] : List Int) ([.int .u8 34] : List Value) kr kr rfl kr u0 rfl fun b27 => ?_)
 refine Ok.op rfl (OpOk.s (v := sv (bytesOf ([34] : List Int))) (Yields.strOfOwn 0 kr rfl rfl u0 Tryz.underlying23 Tryz.underlying9 Tryz.underlying5) rfl rfl ?_)
 have j0 : RepL g22 (.str) ([sv (bytesOf ([34] : List Int))] : List Value) ([(bytesOf ([34] : List Int))] : List Bs) := (RepL.consN (c := [sv (bytesOf ([34] : List Int))]) rfl rfl)
 refine Ok.op rfl (OpOk.lit (E := 9) (.str) ([(bytesOf ([34] : List Int))] : List Bs) ([sv (bytesOf ([34] : List Int))] : List Value) kr kr rfl kr j0 rfl fun b28 => ?_)
 obtain ⟨hb29, hF⟩ := hF
 refine Ok.op rfl (OpOk.append' (e := .str) 16 8796093022208 5 0 rfl rfl rfl rfl Y0 j0 Tryz.underlying38 kr kr kr hb29 rfl fun a29 c29 xs29 U0 => ?_)
 refine Ok.b 1 [3, 11, 12, 13, 14] [(124, .slice a29 ((([] : List Bs) ++ ([(bytesOf ([10] : List Int))] : List Bs)) ++ ([(bytesOf ([34] : List Int))] : List Bs)).length c29), (125, pv z0 256)] ?_
 refine Ok.op rfl (OpOk.sto (k := 1) (v := .slice a29 ((([] : List Bs) ++ ([(bytesOf ([10] : List Int))] : List Bs)) ++ ([(bytesOf ([34] : List Int))] : List Bs)).length c29) 4 (rcl (.slice a22 (intsOf ([92, 10] : Bs)).length c22) (.slice none 0 0) (.slice none 0 0) (.slice a29 ((([] : List Bs) ++ ([(bytesOf ([10] : List Int))] : List Bs)) ++ ([(bytesOf ([34] : List Int))] : List Bs)).length c29)).toArray rfl rfl rfl ?_)
 refine Ok.nt ((Ok.r (Ok.b 2 [3, 11, 12] [(126, .int .u8 34), (127, sv ([92, 34] : Bs))] ?_)))
 obtain ⟨hm30, hF⟩ := hF
 refine Ok.op rfl (OpOk.bytesRo (s := ([92, 34] : Bs)) kr Tryz.underlying9 Tryz.underlying23 Tryz.underlying5 hm30 rfl fun g30 a30 c30 b0 e0 => ?_)
 replace hRo := hRo.mono b0.1
 replace j0 := j0.mono b0.1
 replace u0 := u0.mono b0.1
 replace q0 := q0.mono b0.1
 replace v0 := v0.mono b0.1
 replace s0 := s0.mono b0.1
 replace U0 := U0.mono b0.1
 refine Ok.b 2 [3, 11, 12] [(128, .slice a30 (intsOf ([92, 34] : Bs)).length c30), (130, pv z0 34)] ?_
 refine Ok.op rfl (OpOk.sto (k := 1) (v := .slice a30 (intsOf ([92, 34] : Bs)).length c30) 4 (rcl (.slice a22 (intsOf ([92, 10] : Bs)).length c22) (.slice a30 (intsOf ([92, 34] : Bs)).length c30) (.slice none 0 0) (.slice a29 ((([] : List Bs) ++ ([(bytesOf ([10] : List Int))] : List Bs)) ++ ([(bytesOf ([34] : List Int))] : List Bs)).length c29)).toArray rfl rfl rfl ?_)
 refine Ok.j (Ok.kn (Ok.t (Ok.r (Ok.b 3 [3, 11] [(12, iv 0)] ?_))))
 refine Ok.nt ((Ok.round (Ok.q (Ok.sr ((Ok.B 2 [(3, .slice ao ([[92], [92, 92], [34], [92, 34], [10], [92, 10]] : List Bs).length co), (11, pv z0 0), (12, iv 0), (100, .bool true)] kr (Ok.nt ((Ok.c (b := true) rfl (fun _ => ?_) (fun h => by cases h))))))))))
 refine Ok.k (Ok.t (Ok.q (Ok.block (Ok.sr ((Ok.b 2 [3, 11, 12] [(103, .slice ao ([[92], [92, 92], [34], [92, 34], [10], [92, 10]] : List Bs).length co), (104, iv 0)] ?_))))))
 obtain ⟨h032, h132, hF⟩ := hF
 have he32 : ([[92], [92, 92], [34], [92, 34], [10], [92, 10]] : List Bs)[Int.toNat 0]? = some ([92] : Bs) := get_of (l := ([[92], [92, 92], [34], [92, 34], [10], [92, 10]] : List Bs)) (default : Bs) h132
 refine Ok.op rfl (OpOk.indexRo (e := .str) (i := 0) (el := ([92] : Bs)) rfl rfl Tryz.underlying38 kr hRo h032 he32 rfl fun q31 o31 cs31 _ p0 hr31 => ?_)
 obtain rfl := hr31
 replace p0 : At g30 q31 o31 [sv ([92] : Bs)] := p0
 refine Ok.op rfl (OpOk.s (v := sv ([92] : Bs)) (Yields.lr 0 p0 kr Tryz.underlying9 rfl kr) rfl rfl (Ok.b 2 [3, 11, 12] [(13, .int .u8 92)] ?_))
 refine Ok.nt ((Ok.sr ((Ok.b 3 [3, 11, 12, 13] [(108, .slice ao ([[92], [92, 92], [34], [92, 34], [10], [92, 10]] : List Bs).length co), (110, iv 1)] ?_))))
 obtain ⟨h034, h134, hF⟩ := hF
 have he34 : ([[92], [92, 92], [34], [92, 34], [10], [92, 10]] : List Bs)[Int.toNat 1]? = some ([92, 92] : Bs) := get_of (l := ([[92], [92, 92], [34], [92, 34], [10], [92, 10]] : List Bs)) (default : Bs) h134
 refine Ok.op rfl (OpOk.indexRo (e := .str) (i := 1) (el := ([92, 92] : Bs)) rfl rfl Tryz.underlying38 kr hRo h034 he34 rfl fun q33 o33 cs33 _ r0 hr33 => ?_)
 obtain rfl := hr33
 replace r0 : At g30 q33 o33 [sv ([92, 92] : Bs)] := r0
 refine Ok.op rfl (OpOk.s (v := sv ([92, 92] : Bs)) (Yields.lr 0 r0 kr Tryz.underlying9 rfl kr) rfl rfl (Ok.b 1 [3, 11, 12, 13] [(14, sv ([92, 92] : Bs))] ?_))
 refine Ok.nt ((Ok.q (Ok.sr ((Ok.b 3 [3, 11, 12, 13, 14] [(115, pv z0 92)] ?_)))))
 refine Ok.op rfl (OpOk.s (v := .slice none 0 0) (Yields.l 4 rfl rfl Tryz.underlying23 rfl kr) rfl rfl (Ok.b 1 [3, 11, 12, 13, 14] [(117, .bool true)] ?_))
 refine Ok.nt ((Ok.c (b := true) rfl (fun _ => ?_) (fun h => by cases h)))
 refine Ok.r (Ok.b 1 [3, 11, 12, 13, 14] [(118, pv z0 256)] ?_)
 refine Ok.op rfl (OpOk.s (v := .slice a29 ((([] : List Bs) ++ ([(bytesOf ([10] : List Int))] : List Bs)) ++ ([(bytesOf ([34] : List Int))] : List Bs)).length c29) (Yields.l 4 rfl rfl Tryz.underlying38 rfl kr) rfl rfl (Ok.b 1 [3, 11, 12, 13, 14] [(119, .slice a29 ((([] : List Bs) ++ ([(bytesOf ([10] : List Int))] : List Bs)) ++ ([(bytesOf ([34] : List Int))] : List Bs)).length c29), (120, .int .u8 92)] ?_))
 have c0 : RepL g30 yb ([.int .u8 92] : List Value) ([92] : List Int) := (RepL.consN (c := [.int .u8 92]) rfl rfl)
 refine Ok.op rfl (OpOk.lit (E := 5) yb ([92] : List Int) ([.int .u8 92] : List Value) kr kr rfl kr c0 rfl fun b35 => ?_)
 refine Ok.op rfl (OpOk.s (v := sv (bytesOf ([92] : List Int))) (Yields.strOfOwn 0 kr rfl rfl c0 Tryz.underlying23 Tryz.underlying9 Tryz.underlying5) rfl rfl ?_)
 have d0 : RepL g30 (.str) ([sv (bytesOf ([92] : List Int))] : List Value) ([(bytesOf ([92] : List Int))] : List Bs) := (RepL.consN (c := [sv (bytesOf ([92] : List Int))]) rfl rfl)
 refine Ok.op rfl (OpOk.lit (E := 9) (.str) ([(bytesOf ([92] : List Int))] : List Bs) ([sv (bytesOf ([92] : List Int))] : List Value) kr kr rfl kr d0 rfl fun b36 => ?_)
 obtain ⟨hb37, hF⟩ := hF
 refine Ok.op rfl (OpOk.append' (e := .str) 16 8796093022208 7 0 rfl rfl rfl rfl U0 d0 Tryz.underlying38 kr kr kr hb37 rfl fun a37 c37 xs37 J0 => ?_)
 refine Ok.b 1 [3, 11, 12, 13, 14] [(124, .slice a37 (((([] : List Bs) ++ ([(bytesOf ([10] : List Int))] : List Bs)) ++ ([(bytesOf ([34] : List Int))] : List Bs)) ++ ([(bytesOf ([92] : List Int))] : List Bs)).length c37), (125, pv z0 256)] ?_
 refine Ok.op rfl (OpOk.sto (k := 1) (v := .slice a37 (((([] : List Bs) ++ ([(bytesOf ([10] : List Int))] : List Bs)) ++ ([(bytesOf ([34] : List Int))] : List Bs)) ++ ([(bytesOf ([92] : List Int))] : List Bs)).length c37) 6 (rcl (.slice a22 (intsOf ([92, 10] : Bs)).length c22) (.slice a30 (intsOf ([92, 34] : Bs)).length c30) (.slice none 0 0) (.slice a37 (((([] : List Bs) ++ ([(bytesOf ([10] : List Int))] : List Bs)) ++ ([(bytesOf ([34] : List Int))] : List Bs)) ++ ([(bytesOf ([92] : List Int))] : List Bs)).length c37)).toArray rfl rfl rfl ?_)
 refine Ok.nt ((Ok.r (Ok.b 2 [3, 11, 12] [(126, .int .u8 92), (127, sv ([92, 92] : Bs))] ?_)))
 obtain ⟨hm38, hF⟩ := hF
 refine Ok.op rfl (OpOk.bytesRo (s := ([92, 92] : Bs)) kr Tryz.underlying9 Tryz.underlying23 Tryz.underlying5 hm38 rfl fun g38 a38 c38 k0 t0 => ?_)
 replace hRo := hRo.mono k0.1
 replace d0 := d0.mono k0.1
 replace c0 := c0.mono k0.1
 replace j0 := j0.mono k0.1
 replace u0 := u0.mono k0.1
 replace q0 := q0.mono k0.1
 replace v0 := v0.mono k0.1
 replace s0 := s0.mono k0.1
 replace e0 := e0.mono k0.1
 replace J0 := J0.mono k0.1
 refine Ok.b 2 [3, 11, 12] [(128, .slice a38 (intsOf ([92, 92] : Bs)).length c38), (130, pv z0 92)] ?_
 refine Ok.op rfl (OpOk.sto (k := 1) (v := .slice a38 (intsOf ([92, 92] : Bs)).length c38) 6 (rcl (.slice a22 (intsOf ([92, 10] : Bs)).length c22) (.slice a30 (intsOf ([92, 34] : Bs)).length c30) (.slice a38 (intsOf ([92, 92] : Bs)).length c38) (.slice a37 (((([] : List Bs) ++ ([(bytesOf ([10] : List Int))] : List Bs)) ++ ([(bytesOf ([34] : List Int))] : List Bs)) ++ ([(bytesOf ([92] : List Int))] : List Bs)).length c37)).toArray rfl rfl rfl ?_)
 refine Ok.j (Ok.kn (Ok.t (Ok.r (Ok.b 3 [3, 11] [(12, iv (-2))] ?_))))
 refine Ok.nt ((Ok.round (Ok.q (Ok.sr ((Ok.B 2 [(3, .slice ao ([[92], [92, 92], [34], [92, 34], [10], [92, 10]] : List Bs).length co), (11, pv z0 0), (12, iv (-2)), (100, .bool false)] kr (Ok.nt ((Ok.c (b := false) rfl (fun h => by cases h) (fun _ => ?_))))))))))
 refine Ok.x (Ok.thenE (Ok.thenE (Ok.blockHit (Ok.t (Ok.sr ((Ok.B 2 [(2, .iface 166 (pv z0 0))] kr (Ok.nt ((Ok.ret (Ok.back (vs := [.iface 166 (pv z0 0)]) (.inl rfl) rfl (.cons (.tmp rfl) .nil) rfl (Ok.B 2 [(0, pv b 0), (4, .iface 166 (pv z0 0)), (6, pv b 3)] kr (Ok.op rfl (OpOk.sto (k := 1) (v := .iface 166 (pv z0 0)) 8 #[.int .u32 0, .int .i32 1, .int .u32 0, .iface 166 (pv z0 0), .slice ao ([[92], [92, 92], [34], [92, 34], [10], [92, 10]] : List Bs).length co] rfl rfl rfl ?_))))))))))))))
 refine Ok.nt ((Ok.r (Ok.B 3 [(9, pv b 4)] kr (Ok.op rfl (OpOk.sto (k := 1) (v := .slice none 0 0) 8 #[.int .u32 0, .int .i32 1, .int .u32 0, .iface 166 (pv z0 0), .slice none 0 0] rfl rfl rfl ?_)))))
 refine Ok.j (Ok.frz 7 rfl J0 fun g39 x0 a0 => ?_)
 replace d0 := d0.mono x0.1
 replace c0 := c0.mono x0.1
 replace j0 := j0.mono x0.1
 replace u0 := u0.mono x0.1
 replace q0 := q0.mono x0.1
 replace v0 := v0.mono x0.1
 replace s0 := s0.mono x0.1
 replace e0 := e0.mono x0.1
 replace t0 := t0.mono x0.1
 refine Ok.frzBlk (H' := [.own (.slice (some ⟨b36, 0, none⟩) ([(bytesOf ([92] : List Int))] : List Bs).length 1) 9 1 ([(bytesOf ([92] : List Int))] : List Bs).length ([sv (bytesOf ([92] : List Int))] : List Value), .own (.slice (some ⟨b35, 0, none⟩) ([92] : List Int).length 1) 5 1 ([92] : List Int).length ([.int .u8 92] : List Value), .own (.slice (some ⟨b28, 0, none⟩) ([(bytesOf ([34] : List Int))] : List Bs).length 1) 9 1 ([(bytesOf ([34] : List Int))] : List Bs).length ([sv (bytesOf ([34] : List Int))] : List Value), .own (.slice (some ⟨b27, 0, none⟩) ([34] : List Int).length 1) 5 1 ([34] : List Int).length ([.int .u8 34] : List Value), .own (.slice (some ⟨b20, 0, none⟩) ([(bytesOf ([10] : List Int))] : List Bs).length 1) 9 1 ([(bytesOf ([10] : List Int))] : List Bs).length ([sv (bytesOf ([10] : List Int))] : List Value), .own (.slice (some ⟨b19, 0, none⟩) ([10] : List Int).length 1) 5 1 ([10] : List Int).length ([.int .u8 10] : List Value), .blk b (.cells #[.int .u32 0, .int .i32 1, .int .u32 0, .iface 166 (pv z0 0), .slice none 0 0] 133)]) 6 rfl rfl fun g40 y0 hb40 => ?_
 replace s0 := s0.mono y0.1
 replace e0 := e0.mono y0.1
 replace t0 := t0.mono y0.1
 replace a0 := a0.mono y0.1
 replace d0 := d0.mono y0.1
 replace c0 := c0.mono y0.1
 replace j0 := j0.mono y0.1
 replace u0 := u0.mono y0.1
 replace q0 := q0.mono y0.1
 replace v0 := v0.mono y0.1
 exact Ok.p (vs := []) [6] [.blk b (.cells #[.int .u32 0, .int .i32 1, .int .u32 0, .iface 166 (pv z0 0), .slice none 0 0] 133)] dc rfl (.inr rfl) rfl .nil ((((m0.trans b0).trans k0).trans x0).trans y0) ⟨z0, rfl, rfl, RplG.mk hb40 s0 e0 t0 a0⟩
end Go.Proofs.YtcnhdkhkadiohaaGreatDoor.Rp
namespace Go.Proofs.YtcnhdkhkadiohaaGreatDoor.Rp
open Go Go.Eng Go.RowKit
set_option linter.unusedVariables false
def rpL : List (List Int) := List.replicate 10 [] ++ ([92, 10] :: (List.replicate 23 [] ++ ([92, 34] :: (List.replicate 57 [] ++ ([92, 92] :: List.replicate 163 [])))))
theorem rcl_eq (a b c d : Value) : rcl a b c d = (List.replicate 10 (.slice none 0 0) ++ (a :: (List.replicate 23 (.slice none 0 0) ++ (b :: (List.replicate 57 (.slice none 0 0) ++ (c :: List.replicate 163 (.slice none 0 0))))))) ++ [d] := by kernel_rfl
theorem repl_nils {g : Ghost} {e : Ty} : ∀ k : Nat, RepL g (.slice e) (List.replicate k (.slice none 0 0)) (List.replicate k [])
 | 0 => rfl
 | k + 1 => ⟨[.slice none 0 0], _, rfl, Rep.nil, repl_nils k⟩
theorem RplG.opened {g : Ghost} {b : Nat} (h : RplG g b) : ∃ (cs : List Value) (t : Option Addr) (ct : Nat), At g b 0 cs ∧ RepL g (.slice (.int .u8)) cs rpL ∧ At g b 256 [.slice t 3 ct] ∧ Rep g (.slice .str) [.slice t 3 ct] [[10], [34], [92]] ∧
  (∀ (q : Int) (a : Option Addr) (k c : Nat), At g b (0 + Int.toNat q * 1) [.slice a k c] → k = 0 → a = none) := by
 obtain ⟨a10, a34, a92, t, c10, c34, c92, ct, hb, h1, h2, h3, h4⟩ := h
 have hc : ∀ o v, gcell g ⟨b, o, none⟩ = some v → (rcl (.slice a10 2 c10) (.slice a34 2 c34) (.slice a92 2 c92) (.slice t 3 ct))[o]? = some v := fun o v hv => by
  unfold gcell at hv
  rw [show g (⟨b, o, none⟩ : Addr).block = _ from hb] at hv
  simpa using hv
 have hc' : ∀ o v, (rcl (.slice a10 2 c10) (.slice a34 2 c34) (.slice a92 2 c92) (.slice t 3 ct))[o]? = some v → gcell g ⟨b, o, none⟩ = some v := fun o v hv => by
  unfold gcell
  rw [show g (⟨b, o, none⟩ : Addr).block = _ from hb]
  simpa using hv
 refine ⟨List.replicate 10 (.slice none 0 0) ++ ((.slice a10 2 c10) :: (List.replicate 23 (.slice none 0 0) ++ ((.slice a34 2 c34) :: (List.replicate 57 (.slice none 0 0) ++ ((.slice a92 2 c92) :: List.replicate 163 (.slice none 0 0)))))), t, ct, ?_, ?_, ?_, h4, ?_⟩
 rotate_left
 ·exact (repl_nils 10).append (RepL.consN h1 ((repl_nils 23).append (RepL.consN h2 ((repl_nils 57).append (RepL.consN h3 (repl_nils 163))))))
 ·intro j v hj
  cases j with
  | zero =>
   simp only [List.getElem?_cons_zero, Option.some.injEq] at hj
   subst hj
   exact hc' _ _ kr
  | succ j => simp at hj
 ·intro q a k c hq hk
  have h5 := hc _ _ (hq 0 _ rfl)
  have h6 := List.mem_of_getElem? h5
  rw [rcl_eq] at h6
  simp only [List.mem_append, List.mem_cons, List.mem_replicate, Value.slice.injEq, List.not_mem_nil, or_false] at h6
  rcases h6 with (h6 | h6 | h6 | h6 | h6 | h6 | h6) | h6 <;> first | exact h6.2.1 | (obtain ⟨-, rfl, -⟩ := h6; cases hk)
 intro j v hj
 rw [Nat.zero_add]
 refine hc' j v ?_
 rw [rcl_eq, List.getElem?_append_left (List.getElem?_eq_some_iff.1 hj).1]
 exact hj
end Go.Proofs.YtcnhdkhkadiohaaGreatDoor.Rp
namespace Go.Eng
open Go.RowKit (Below)
section
variable {P : Program} {n : Fsz} {w0 : Base} {m : Env} {H : List Ent} {g : Ghost}
theorem Yields.neNilX {dst : Option Nat} {T E T2 ty : TypeId} {x y : Operand} {pos : String} {after : Array Edge} {gd : Option (Nat × Bool)} {e : Ty} {a : Option Addr} {c : Nat} {l : List e.den}
  (hx : val m x = some (.slice a l.length c)) (hy : val m y = some (.slice none 0 0)) (hu : P.underlying T = some (.slice E)) (hR : Rep g (.slice e) [.slice a l.length c] l) (hn : l.length = 0 → a = none) :
  Yields P n w0 m H g ⟨dst, .binOp .neq T x y T2, ty, pos, after, gd⟩ (.bool (!((l.length : Int) == 0))) := fun ac W hA hW => by
 have hb : a.isNone = ((l.length : Int) == 0) := by
  obtain ⟨a1, c1, hcs, -, hel⟩ := hR
  simp only [List.cons.injEq, Value.slice.injEq, and_true] at hcs
  obtain ⟨rfl, -, rfl⟩ := hcs
  cases l with
  | nil => rw [hn rfl]; rfl
  | cons z r =>
   obtain ⟨b, off, rfl, -⟩ := hel 0 z rfl
   simp only [Option.isNone_some, List.length_cons]
   rw [eq_comm, beq_eq_false_iff_ne]
   omega
 simp only [execOp, hA.eval hx, hA.eval hy]
 have h := Lib.run_equalIn_slice_nil (P := P) W 9999 T E a l.length c 0 0 hu
 simp [eqGuard, binOp, Op.equal, Op.maxDepth, h, hb]
/-- copy of what is only read -/
theorem OpOk.copyRo {Q : Exit → Act → World → Prop} {K : Act → World → Prop} {d : Nat} {T E ty : TypeId} {s x : Operand} {pos : String} {after : Array Edge} {gd : Option (Nat × Bool)} {e : Ty} {a a2 : Option Addr} {l l2 L : List e.den} {c c2 p r1 : Nat} {xs : List Value}
  (i : Nat) (hs : val m s = some (vw a e.size c p r1)) (hx : val m x = some (.slice a2 l2.length c2)) (hi : H[i]? = some (.own (.slice a l.length c) E e.size l.length xs)) (hR : RepL g e xs l) (hR2 : Rep g (.slice e) [.slice a2 l2.length c2] l2) (hu : P.underlying T = some (.slice E))
  (hinf : (P.info? E).map (·.size) = some e.size) (hr1 : r1 = l.length) (hfit : p + l2.length ≤ l.length) (hL : L = l.take p ++ l2 ++ l.drop (p + l2.length)) (hn : Nat.ble (d + 1) n = true)
  (hk : ∀ xs3, RepL g e xs3 L → Ok n w0 ((d, .int .i64 (l2.length : Int)) :: m) (H.set i (.own (.slice a L.length c) E e.size L.length xs3)) g K) :
  OpOk P K Q ⟨some d, .call { callee := .builtin .copy, args := #[s, x], argTypes := #[T, T] }, ty, pos, after, gd⟩ n w0 m H g := fun ac W hA hW => by
 subst hr1
 subst hL
 obtain ⟨inf, h1, h2⟩ := Option.map_eq_some_iff.1 hinf
 have hok : W.ownsRow 0 E e.size (.slice a l.length c) l.length xs := hW.ents _ (List.mem_of_getElem? hi)
 have hlen : (l.take p ++ l2 ++ l.drop (p + l2.length)).length = l.length := by simp; omega
 show Oper.upon P _ ac _ Q (Sem.run P (execOp ac.eval _) W)
 have hmin : Nat.min l2.length (l.length - p) = l2.length := by simp only [Nat.min_def]; split <;> omega
 by_cases h0 : l2.length = 0
 ·have hy0 : l2 = [] := List.eq_nil_of_length_eq_zero h0
  subst hy0
  have e1 : (execOp ac.eval ⟨some d, .call { callee := .builtin .copy, args := #[s, x], argTypes := #[T, T] }, ty, pos, after, gd⟩).run P W = .ok (.value (.int .i64 0)) W := by
   have := run_copy0 (P := P) (W := W) (ty := ty) hu h1 (a := vwA a e.size p c) (a' := a2) (c1 := c - p) (c2 := c2) hmin
   simp only [execOp, resolve, invoke, builtin, List.map_toArray, List.map_cons, List.map_nil, hA.eval hs, hA.eval hx, vw, Sem.run_bind, Sem.run_pure, Result.andThen_ok, this]; rfl
  rw [e1, Oper.upon_value]
  have hk := hk xs (by rw [List.append_nil, List.length_nil, Nat.add_zero, List.take_append_drop]; exact hR)
  rw [hlen] at hk
  have hset : H.set i (.own (.slice a l.length c) E e.size l.length xs) = H := by
   obtain ⟨hil, he⟩ := List.getElem?_eq_some_iff.1 hi
   rw [← he, List.set_getElem_self]
  rw [hset] at hk
  exact hk _ W (hA.put (Nat.le_of_ble_eq_true hn) _) hW
 rcases own_open hok with ⟨rfl, h3, h4⟩ | ⟨b, cur, rfl, hh, hc, hmax, hsz, htake⟩
 ·omega
 have hys : ∃ b2 o2 ys, a2 = some ⟨b2, o2, none⟩ ∧ RepL g e ys l2 ∧ ∀ j v, ys[j]? = some v → gcell g ⟨b2, o2 + j, none⟩ = some v := by
  obtain ⟨a1, c1, hcs, -, hel⟩ := hR2
  simp only [List.cons.injEq, Value.slice.injEq, and_true] at hcs
  obtain ⟨rfl, -, rfl⟩ := hcs
  cases l2 with
  | nil => exact absurd rfl h0
  | cons y l' =>
   obtain ⟨b2, off, hb, _⟩ := hel 0 y rfl
   subst hb
   obtain ⟨ys, h1, h2⟩ := rep_cells (g := g) (b := b2) (off := off) (y :: l') 0 fun i x hx => by
    obtain ⟨b', off', hb', ecs, hl, hat, hr⟩ := hel i x hx
    injection hb' with hb'
    simp only [Addr.mk.injEq, and_true] at hb'
    obtain ⟨rfl, rfl⟩ := hb'
    exact ⟨ecs, hl, by rw [Nat.zero_add]; exact hat, hr⟩
   exact ⟨b2, off, ys, rfl, h1, fun j v hj => by
    have := h2 j v hj
    rwa [Nat.zero_mul, Nat.add_zero] at this⟩
 obtain ⟨b2, o2, ys, rfl, hRy, hcell⟩ := hys
 obtain ⟨o, ho, ho1⟩ := vwA_some (b := b) (size := e.size) (lo := p) (c := c)
 have := ho1 om
 subst this
 have hyl : ys.length = l2.length * e.size := hRy.len
 have hload : (loadCells ⟨b2, o2, none⟩ (l2.length * e.size)).run P W = .ok ys.toArray W := by
  rw [← hyl]
  exact run_loadCells_list W _ ys fun j u hj => by
   rw [Addr.add_plain]
   exact gcell_cell hW.ghost (hcell j u hj)
 have hxl : xs.length = l.length * e.size := hR.len
 have hm1 : p * e.size + l2.length * e.size = (p + l2.length) * e.size := (Nat.add_mul ..).symm
 have hm2 : (p + l2.length) * e.size ≤ l.length * e.size := Nat.mul_le_mul_right _ hfit
 have hm3 : l.length * e.size ≤ c * e.size := Nat.mul_le_mul_right _ hc
 have hcl : cur.toList.length = c * e.size := by rw [Array.length_toList]; exact hsz
 have hrun := run_storeCells_at (P := P) b (p * e.size) E ys 0 cur W hh (by rw [hyl, hsz]; omega) (fun u hu => hRy.ones u hu)
 simp only [Nat.add_zero] at hrun
 have hcp := run_copyK (P := P) (ty := ty) hu h1 h2 (a := ⟨b, p * e.size, none⟩) (a' := ⟨b2, o2, none⟩) (c1 := c - p) (c2 := c2) (W := W) hmin hload (fun _ => hrun) (fun h => absurd h h0)
 have e1 : (execOp ac.eval ⟨some d, .call { callee := .builtin .copy, args := #[s, x], argTypes := #[T, T] }, ty, pos, after, gd⟩).run P W = .ok (.value (.int .i64 (l2.length : Int))) (W.setRow b (cur.toList.take (p * e.size) ++ ys ++ cur.toList.drop (p * e.size + ys.length)).toArray) := by
  simp only [execOp, resolve, invoke, builtin, List.map_toArray, List.map_cons, List.map_nil, hA.eval hs, hA.eval hx, vw, ho, Sem.run_bind, Sem.run_pure, Result.andThen_ok, hcp]; rfl
 rw [e1, Oper.upon_value]
 rw [hlen] at hk
 refine hk _ ?_ _ _ (hA.put (Nat.le_of_ble_eq_true hn) _) (hW.rewr (k' := l.length) hi hh hmax _ (by simp only [List.length_append, List.length_take, hcl, hyl]; rw [List.length_drop, hcl]; omega) hc)
 rw [mid_take _ _ _ _ (by rw [hyl]; omega) (by rw [hcl]; exact hm3), htake, hyl, hm1]
 exact RepL.app (RepL.app (RepL.take _ hR) hRy) (RepL.drop _ hR)
end
end Go.Eng
