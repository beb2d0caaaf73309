/- selector: quote. -/
import Derived.Test.YtcnhdkhkadiohaaGreatDoorQub
namespace Go.Proofs.YtcnhdkhkadiohaaGreatDoor.Qu
open Go Go.RowKit Go.Eng Rp
set_option maxHeartbeats 4000000
set_option maxRecDepth 100000
set_option linter.unusedSimpArgs false
set_option linter.unusedVariables false
def quoF (xs : Bs) (K : Bs → Prop) : Prop :=
 ((((Int.tmod (([([92] : Bs), ([92, 92] : Bs), ([34] : Bs), ([92, 34] : Bs), ([10] : Bs), ([92, 10] : Bs)] : List Bs).length : Int) 2) == 1)) = true → False) ∧ ((((Int.tmod (([([92] : Bs), ([92, 92] : Bs), ([34] : Bs), ([92, 34] : Bs), ([10] : Bs), ([92, 10] : Bs)] : List Bs).length : Int) 2) == 1)) = false → (([] : List Bs) ++ ([([92] : Bs), ([92, 92] : Bs), ([34] : Bs), ([92, 34] : Bs), ([10] : Bs), ([92, 10] : Bs)] : List Bs)).length ≤ 8796093022208 ∧ quoteP xs ∧ K (quoteS xs))
theorem quo_ok {g : Ghost} (xs : Bs) (K : Bs → Prop)
  (hF : quoF xs K) : CallsH Tryz.prog 55 #[sv xs] g [] (fun g' H' v => ∃ (r0 : Bs), v = sv r0 ∧ H' = [] ∧ K r0) := by
 refine CallsH.enter 7 [(0, sv xs)] Tryz.func55 rfl kr kr kr fun w0 => ?_
 refine Ok.sr ((Ok.B 1 [(0, sv xs)] kr (Ok.nt ((Ok.q (Ok.r ?_))))))
 have hL1 : RepL g (.str) ([sv ([92] : Bs), sv ([92, 92] : Bs), sv ([34] : Bs), sv ([92, 34] : Bs), sv ([10] : Bs), sv ([92, 10] : Bs)] : List Value) ([([92] : Bs), ([92, 92] : Bs), ([34] : Bs), ([92, 34] : Bs), ([10] : Bs), ([92, 10] : Bs)] : List Bs) := (RepL.flat kr kr)
 refine Ok.op rfl (OpOk.lit (E := 9) (.str) ([([92] : Bs), ([92, 92] : Bs), ([34] : Bs), ([92, 34] : Bs), ([10] : Bs), ([92, 10] : Bs)] : List Bs) ([sv ([92] : Bs), sv ([92, 92] : Bs), sv ([34] : Bs), sv ([92, 34] : Bs), sv ([10] : Bs), sv ([92, 10] : Bs)] : List Value) kr kr rfl kr hL1 rfl fun b1 => ?_)
 refine Ok.op rfl (OpOk.i (args := #[.slice (some ⟨b1, 0, none⟩) ([([92] : Bs), ([92, 92] : Bs), ([34] : Bs), ([92, 34] : Bs), ([10] : Bs), ([92, 10] : Bs)] : List Bs).length 6]) 12 [(0, .slice (some ⟨b1, 0, none⟩) ([([92] : Bs), ([92, 92] : Bs), ([34] : Bs), ([92, 34] : Bs), ([10] : Bs), ([92, 10] : Bs)] : List Bs).length 6)] enr Tryz.func84 rfl rfl rfl rfl (Ok.sr ((Ok.B 1 [(0, .slice (some ⟨b1, 0, none⟩) ([([92] : Bs), ([92, 92] : Bs), ([34] : Bs), ([92, 34] : Bs), ([10] : Bs), ([92, 10] : Bs)] : List Bs).length 6)] kr (Ok.nt ((Ok.q (Ok.sr ((Ok.b 4 [0] [(6, .bool ((Int.tmod (([([92] : Bs), ([92, 92] : Bs), ([34] : Bs), ([92, 34] : Bs), ([10] : Bs), ([92, 10] : Bs)] : List Bs).length : Int) 2) == 1))] ?_))))))))))
 refine Ok.nt ((Ok.cn hF rfl (fun hc2 => ?_) (fun hc2 => ?_)))
 ·replace hF := hF.1 hc2
  exact False.elim hF
 replace hF := hF.2 hc2
 refine Ok.k (Ok.t (Ok.sr ((Ok.B 1 [(8, .slice (some ⟨b1, 0, none⟩) ([([92] : Bs), ([92, 92] : Bs), ([34] : Bs), ([92, 34] : Bs), ([10] : Bs), ([92, 10] : Bs)] : List Bs).length 6)] kr ?_))))
 have hL3 : RepL g (.str) [] [] := rfl
 refine Ok.ownNil 9 1 ?_
 obtain ⟨hb4, hF⟩ := hF
 refine Ok.op rfl (OpOk.append' (e := .str) 16 8796093022208 0 1 rfl rfl rfl rfl hL3 hL1 Tryz.underlying38 kr kr kr hb4 rfl fun a4 c4 xs4 hL4 => ?_)
 refine Ok.B 1 [(10, .agg #[.int .u32 0, .int .i32 0, .int .u32 0, .nilIface, .slice a4 (([] : List Bs) ++ ([([92] : Bs), ([92, 92] : Bs), ([34] : Bs), ([92, 34] : Bs), ([10] : Bs), ([92, 10] : Bs)] : List Bs)).length c4])] kr (Ok.op rfl (OpOk.box (v := .agg #[.int .u32 0, .int .i32 0, .int .u32 0, .nilIface, .slice a4 (([] : List Bs) ++ ([([92] : Bs), ([92, 92] : Bs), ([34] : Bs), ([92, 34] : Bs), ([10] : Bs), ([92, 10] : Bs)] : List Bs)).length c4]) (cs := #[.int .u32 0, .int .i32 0, .int .u32 0, .nilIface, .slice a4 (([] : List Bs) ++ ([([92] : Bs), ([92, 92] : Bs), ([34] : Bs), ([92, 34] : Bs), ([10] : Bs), ([92, 10] : Bs)] : List Bs)).length c4]) rfl kr rfl fun z0 => ?_))
 refine Ok.B 1 [(2, pv z0 0)] kr (Ok.nt ((Ok.ret (Ok.back (vs := [pv z0 0]) (.inl rfl) rfl (.cons (.tmp rfl) .nil) rfl (Ok.B 1 [(4, pv z0 0), (5, sv xs)] kr (Ok.frz 1 rfl hL4 fun g6 hx6 hRf6 => ?_))))))
 replace hL1 := hL1.mono hx6.1
 obtain ⟨hp7, hF⟩ := hF
 refine Ok.op rfl (OpOk.callH [_] _ enr rfl (replaced xs hp7 hRf6) rfl fun g7 _ _ hx7 hV7 => ?_)
 obtain ⟨rfl, rfl⟩ := hV7
 replace hL1 := hL1.mono hx7.1
 refine Ok.B 1 [(2, sv (quoteS xs))] kr (Ok.nt ((Ok.ret ?_)))
 exact Ok.p (vs := [sv (quoteS xs)]) [] [] dc rfl (.inl rfl) rfl (.cons (.tmp rfl) .nil) (hx6.trans hx7) ⟨(quoteS xs), rfl, rfl, hF⟩
theorem quo_F (s : Bs) (hp : quoteP s) : quoF s (fun r => r = quoteS s) := ⟨fun h => absurd h dc, fun _ => ⟨by decide, hp, rfl⟩⟩
theorem quo_c {g : Ghost} (xs : Bs)  (hp : quoteP xs) : CallsG Tryz.prog 55 #[sv xs] g (sv (quoteS xs)) :=
 (quo_ok xs _ (quo_F xs hp)).gives (by rintro g' H' v _ ⟨r0, rfl, rfl, hK⟩; subst hK; rfl)
end Go.Proofs.YtcnhdkhkadiohaaGreatDoor.Qu
namespace Go.Proofs.YtcnhdkhkadiohaaGreatDoor.Qu
open Go Go.RowKit Go.Eng Rp
set_option linter.unusedVariables false
def dqS (s : Bs) : Bs := 34 :: (quoteS s ++ [34])
end Go.Proofs.YtcnhdkhkadiohaaGreatDoor.Qu
