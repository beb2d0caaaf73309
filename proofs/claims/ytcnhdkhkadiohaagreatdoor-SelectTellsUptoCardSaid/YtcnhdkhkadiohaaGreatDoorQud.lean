/- selector: quote. -/
import Derived.Test.YtcnhdkhkadiohaaGreatDoorQub
namespace Go.Proofs.YtcnhdkhkadiohaaGreatDoor.Qu
open Go Go.RowKit Go.Eng Rp
set_option maxHeartbeats 4000000
set_option maxRecDepth 100000
set_option linter.unusedSimpArgs false
set_option linter.unusedVariables false
def quoF (xs : Bs) (K : Bs → Prop) : Prop :=
 ((((Int.tmod (([([92] : Bs), ([92, 92] : Bs), ([34] : Bs), ([92, 34] : Bs), ([10] : Bs), ([92, 10] : Bs)] : List Bs).length : Int) 2) == 1)) = true → False) ∧ ((((Int.tmod (([([92] : Bs), ([92, 92] : Bs), ([34] : Bs), ([92, 34] : Bs), ([10] : Bs), ([92, 10] : Bs)] : List Bs).length : Int) 2) == 1)) = false → (([] : List Bs) ++ ([([92] : Bs), ([92, 92] : Bs), ([34] : Bs), ([92, 34] : Bs), ([10] : Bs), ([92, 10] : Bs)] : List Bs)).length ≤ 8796093022208 ∧ quoteP xs ∧ K (quoteS xs))
theorem quo_ok {g : Ghost} (xs : Bs) (K : Bs → Prop)
  (hF : quoF xs K) : CallsH Tryz.prog 55 #[sv xs] g [] (fun g' H' v => ∃ (r0 : Bs), v = sv r0 ∧ H' = [] ∧ K r0) := by
 refine CallsH.enter 7 [(0, sv xs)] Tryz.func55 rfl kr kr kr fun w0 => ?_
 refine Ok.sr ((Ok.B 1 [(0, sv xs)] kr (Ok.nt ((Ok.q (Ok.r ?_))))))
 have hL1 : RepL g (.str) ([sv ([92] : Bs), sv ([92, 92] : Bs), sv ([34] : Bs), sv ([92, 34] : Bs), sv ([10] : Bs), sv ([92, 10] : Bs)] : List Value) ([([92] : Bs), ([92, 92] : Bs), ([34] : Bs), ([92, 34] : Bs), ([10] : Bs), ([92, 10] : Bs)] : List Bs) := (RepL.flat kr kr)
 refine Ok.op rfl (OpOk.lit (E := 9) (.str) ([([92] : Bs), ([92, 92] : Bs), ([34] : Bs), ([92, 34] : Bs), ([10] : Bs), ([92, 10] : Bs)] : List Bs) ([sv ([92] : Bs), sv ([92, 92] : Bs), sv ([34] : Bs), sv ([92, 34] : Bs), sv ([10] : Bs), sv ([92, 10] : Bs)] : List Value) kr kr rfl kr hL1 rfl fun b1 => ?_)
 refine Ok.op rfl (OpOk.i (args := #[.slice (some ⟨b1, 0, none⟩) ([([92] : Bs), ([92, 92] : Bs), ([34] : Bs), ([92, 34] : Bs), ([10] : Bs), ([92, 10] : Bs)] : List Bs).length 6]) 12 [(0, .slice (some ⟨b1, 0, none⟩) ([([92] : Bs), ([92, 92] : Bs), ([34] : Bs), ([92, 34] : Bs), ([10] : Bs), ([92, 10] : Bs)] : List Bs).length 6)] enr Tryz.func84 rfl rfl rfl rfl (Ok.sr ((Ok.B 1 [(0, .slice (some ⟨b1, 0, none⟩) ([([92] : Bs), ([92, 92] : Bs), ([34] : Bs), ([92, 34] : Bs), ([10] : Bs), ([92, 10] : Bs)] : List Bs).length 6)] kr (Ok.nt ((Ok.q (Ok.sr ((Ok.b 4 [0] [(6, .bool ((Int.tmod (([([92] : Bs), ([92, 92] : Bs), ([34] : Bs), ([92, 34] : Bs), ([10] : Bs), ([92, 10] : Bs)] : List Bs).length : Int) 2) == 1))] ?_))))))))))
 refine Ok.nt ((Ok.cn hF rfl (fun hc2 => ?_) (fun hc2 => ?_)))
 ·replace hF := hF.1 hc2
  exact False.elim hF
 replace hF := hF.2 hc2
 refine Ok.k (Ok.t (Ok.sr ((Ok.B 1 [(8, .slice (some ⟨b1, 0, none⟩) ([([92] : Bs), ([92, 92] : Bs), ([34] : Bs), ([92, 34] : Bs), ([10] : Bs), ([92, 10] : Bs)] : List Bs).length 6)] kr ?_))))
 have hL3 : RepL g (.str) [] [] := rfl
 refine Ok.ownNil 9 1 ?_
 obtain ⟨hb4, hF⟩ := hF
 refine Ok.op rfl (OpOk.append' (e := .str) 16 8796093022208 0 1 rfl rfl rfl rfl hL3 hL1 Tryz.underlying38 kr kr kr hb4 rfl fun a4 c4 xs4 hL4 => ?_)
 refine Ok.B 1 [(10, .agg #[.int .u32 0, .int .i32 0, .int .u32 0, .nilIface, .slice a4 (([] : List Bs) ++ ([([92] : Bs), ([92, 92] : Bs), ([34] : Bs), ([92, 34] : Bs), ([10] : Bs), ([92, 10] : Bs)] : List Bs)).length c4])] kr (Ok.op rfl (OpOk.box (v := .agg #[.int .u32 0, .int .i32 0, .int .u32 0, .nilIface, .slice a4 (([] : List Bs) ++ ([([92] : Bs), ([92, 92] : Bs), ([34] : Bs), ([92, 34] : Bs), ([10] : Bs), ([92, 10] : Bs)] : List Bs)).length c4]) (cs := #[.int .u32 0, .int .i32 0, .int .u32 0, .nilIface, .slice a4 (([] : List Bs) ++ ([([92] : Bs), ([92, 92] : Bs), ([34] : Bs), ([92, 34] : Bs), ([10] : Bs), ([92, 10] : Bs)] : List Bs)).length c4]) rfl kr rfl fun z0 => ?_))
 refine Ok.B 1 [(2, pv z0 0)] kr (Ok.nt ((Ok.ret (Ok.back (vs := [pv z0 0]) (.inl rfl) rfl (.cons (.tmp rfl) .nil) rfl (Ok.B 1 [(4, pv z0 0), (5, sv xs)] kr (Ok.frz 1 rfl hL4 fun g6 hx6 hRf6 => ?_))))))
 replace hL1 := hL1.mono hx6.1
 obtain ⟨hp7, hF⟩ := hF
 refine Ok.op rfl (OpOk.callH [_] _ enr rfl (replaced xs hp7 hRf6) rfl fun g7 _ _ hx7 hV7 => ?_)
 obtain ⟨rfl, rfl⟩ := hV7
 replace hL1 := hL1.mono hx7.1
 refine Ok.B 1 [(2, sv (quoteS xs))] kr (Ok.nt ((Ok.ret ?_)))
 exact Ok.p (vs := [sv (quoteS xs)]) [] [] dc rfl (.inl rfl) rfl (.cons (.tmp rfl) .nil) (hx6.trans hx7) ⟨(quoteS xs), rfl, rfl, hF⟩
theorem quo_F (s : Bs) (hp : quoteP s) : quoF s (fun r => r = quoteS s) := ⟨fun h => absurd h dc, fun _ => ⟨by decide, hp, rfl⟩⟩
theorem quo_c {g : Ghost} (xs : Bs)  (hp : quoteP xs) : CallsG Tryz.prog 55 #[sv xs] g (sv (quoteS xs)) :=
 (quo_ok xs _ (quo_F xs hp)).gives (by rintro g' H' v _ ⟨r0, rfl, rfl, hK⟩; subst hK; rfl)
end Go.Proofs.YtcnhdkhkadiohaaGreatDoor.Qu
namespace Go.Proofs.YtcnhdkhkadiohaaGreatDoor.Qu
open Go Go.RowKit Go.Eng Rp
set_option maxHeartbeats 4000000
set_option maxRecDepth 100000
set_option linter.unusedSimpArgs false
set_option linter.unusedVariables false
def rqdV0 (e2 : UInt8) : Bool :=
 (((e2.toNat : Int) == 34) || (((e2.toNat : Int) == 92) || ((e2.toNat : Int) == 10)))
def rqdV3 (xs : Bs) (v0 : Bs) (z0 : Int) : Bs :=
 (if (rqdV0 (xs.getD (Int.toNat z0) 0)) = true then v0 ++ (bytesOf ([92] : List Int)) else v0)
def rqdV4 (xs : Bs) (z0 : Int) : Bool :=
 ((((xs.getD (Int.toNat z0) 0).toNat : Int) == 34) || ((((xs.getD (Int.toNat z0) 0).toNat : Int) == 92) || (((xs.getD (Int.toNat z0) 0).toNat : Int) == 10)))
def rqdj18 (xs : Bs) (v0 : Bs) (z0 : Int) (C9 : Bs → Int → Prop) : Prop :=
 0 ≤ z0 ∧ (z0 : Int) ≤ (w6 (z0 + 1)) ∧ (w6 (z0 + 1)) ≤ (xs.length : Int) ∧ (rqdV3 xs v0 z0).length + ((xs.take (Int.toNat (w6 (z0 + 1)))).drop (Int.toNat z0)).length ≤ maxLen ∧ C9 ((rqdV3 xs v0 z0) ++ ((xs.take (Int.toNat (w6 (z0 + 1)))).drop (Int.toNat z0))) (w6 (z0 + 1))
def rqdj19 (xs : Bs) (v0 : Bs) (z0 : Int) (C9 : Bs → Int → Prop) : Prop :=
 (((rqdV4 xs z0)) = true → v0.length + (bytesOf ([92] : List Int)).length ≤ maxLen ∧ rqdj18 xs v0 z0 C9) ∧ (((rqdV4 xs z0)) = false → rqdj18 xs v0 z0 C9)
def rqdl9b (xs : Bs) (K : Bs → Prop) (v0 : Bs) (z0 : Int) (C9 : Bs → Int → Prop) : Prop :=
 ((decide (z0 < (xs.length : Int))) = true → 0 ≤ z0 ∧ Int.toNat z0 < xs.length ∧ (((((xs.getD (Int.toNat z0) 0).toNat : Int) == 34)) = true → rqdj19 xs v0 z0 C9) ∧ (((((xs.getD (Int.toNat z0) 0).toNat : Int) == 34)) = false → (((((xs.getD (Int.toNat z0) 0).toNat : Int) == 92)) = true → rqdj19 xs v0 z0 C9) ∧ (((((xs.getD (Int.toNat z0) 0).toNat : Int) == 92)) = false → rqdj19 xs v0 z0 C9))) ∧ ((decide (z0 < (xs.length : Int))) = false → v0.length + ([34] : Bs).length ≤ maxLen ∧ K (v0 ++ ([34] : Bs)))
def rqdl9 (xs : Bs) (K : Bs → Prop) : Nat → Bs → Int → Prop
 | 0, _, _ => False
 | k + 1, v0, z0 => rqdl9b xs K v0 z0 (rqdl9 xs K k)
def rqdF (xs : Bs) (K : Bs → Prop) : Prop :=
 ∃ k, rqdl9 xs K k ([34] : Bs) 0
theorem rqd_ok {g : Ghost} (xs : Bs) (K : Bs → Prop)
  (hF : rqdF xs K) : CallsH Tryz.prog 34 #[sv xs] g [] (fun g' H' v => ∃ (r0 : Bs), v = sv r0 ∧ H' = [] ∧ K r0) := by
 refine CallsH.enter 40 [(0, sv xs)] Tryz.func34 rfl kr kr kr fun w0 => ?_
 refine Ok.sr ((Ok.B 1 [(0, sv xs)] kr (Ok.nt ((Ok.sr ((Ok.b 1 [0] [(3, sv ([34] : Bs))] ?_)))))))
 refine Ok.nt ((Ok.q (Ok.sr ((Ok.b 1 [0, 3] [(4, iv 0)] ?_)))))
 refine Ok.nt ((Ok.block ?_))
 obtain ⟨k, hF⟩ := hF
 refine Ok.L (fun k a W => ∃ gl9 : Ghost, Gext w0 g gl9 ∧ ∃ (v0 : Bs) (z0 : Int), StA 40 [(0, sv xs), (3, sv v0), (4, iv z0)] a ∧ StW w0 [] gl9 W ∧ rqdl9 xs K k v0 z0) k ?_ ?_
 ·
  exact fun a W hA hW => ⟨g, (Gext.r w0 g), ([34] : Bs), 0, hA.sub kr, hW, hF⟩
 clear hF
 rintro k9 a W ⟨gl9, u0, v0, z0, hA, hW, hF⟩
 cases k9 with
 | zero => exact (hF : False).elim
 | succ k9 =>
  refine (?_ : Ok _ _ _ _ _ _) a W hA hW
  clear hA hW
  refine Ok.q (Ok.sr ((Ok.b 4 [0, 3, 4] [(8, .bool (decide (z0 < (xs.length : Int))))] ?_)))
  refine Ok.nt ((Ok.cn hF rfl (fun hc1 => ?_) (fun hc1 => ?_)))
  ·replace hF := hF.1 hc1
   refine Ok.k (Ok.t (Ok.q (Ok.block (Ok.cut (fun a W => ∃ k0 : Ghost, Gext w0 gl9 k0 ∧ StA 40 [(0, sv xs), (3, sv (rqdV3 xs v0 z0)), (4, iv z0)] a ∧ StW w0 [] k0 W ∧ rqdj18 xs v0 z0 (rqdl9 xs K k9)) ?_ ?_))))
   ·
    refine Ok.cut (fun a W => ∃ q0 : Ghost, Gext w0 gl9 q0 ∧ StA 40 [(0, sv xs), (3, sv v0), (4, iv z0), (26, .bool (rqdV4 xs z0))] a ∧ StW w0 [] q0 W ∧ rqdj19 xs v0 z0 (rqdl9 xs K k9)) ?_ ?_
    ·
     refine Ok.r (Ok.b 2 [0, 3, 4] [(11, sv xs), (12, iv z0)] ?_)
     obtain ⟨h05, h15, hF⟩ := hF
     have he5 := get_of (l := xs) (0 : UInt8) h15
     generalize hg5 : (xs.getD (Int.toNat z0) 0) = e5 at he5 hF ⊢
     refine Ok.op rfl (OpOk.s (v := .int .u8 (e5.toNat : Int)) (Yields.ix (k := .i64) (i := z0) (s := xs) (b := e5) kr kr Tryz.underlying9 h05 he5) rfl rfl (Ok.b 2 [0, 3, 4] [(15, .bool ((e5.toNat : Int) == 34))] ?_))
     refine Ok.a 15 (((e5.toNat : Int) == 34)) rfl (fun hc6 => ?_) (fun hc6 => ?_)
     ·replace hF := hF.1 hc6
      refine Ok.b 11 [0, 3, 4] [(26, .bool true)] ?_
      refine Ok.j (Ok.t ?_)
      subst hg5
      refine Ok.v 26 rfl (show (.bool true : Value) = .bool (rqdV4 xs z0) from congrArg (Value.bool) (mor_t hc6)) ?_
      exact fun a W hA hW => ⟨gl9, (Gext.r w0 gl9), hA.sub kr, hW, hF⟩
     replace hF := hF.2 hc6
     refine Ok.b 2 [0, 3, 4] [(15, .bool false), (16, sv xs), (17, iv z0)] ?_
     refine Ok.y (j := 4) (d := 15) (want := false) (b := false) rfl kr kr rfl (OpOk.s (v := .int .u8 (e5.toNat : Int)) (Yields.ix (k := .i64) (i := z0) (s := xs) (b := e5) kr kr Tryz.underlying9 h05 he5) rfl rfl (Ok.b 3 [0, 3, 4] [(21, .bool ((e5.toNat : Int) == 92))] ?_))
     refine Ok.a 21 (((e5.toNat : Int) == 92)) rfl (fun hc7 => ?_) (fun hc7 => ?_)
     ·replace hF := hF.1 hc7
      refine Ok.b 5 [0, 3, 4] [(26, .bool true)] ?_
      refine Ok.j (Ok.t ?_)
      subst hg5
      refine Ok.v 26 rfl (show (.bool true : Value) = .bool (rqdV4 xs z0) from congrArg (Value.bool) ((Eq.trans (mor_t hc7) (mor_f hc6)))) ?_
      exact fun a W hA hW => ⟨gl9, (Gext.r w0 gl9), hA.sub kr, hW, hF⟩
     replace hF := hF.2 hc7
     refine Ok.b 2 [0, 3, 4] [(21, .bool false), (22, sv xs), (23, iv z0)] ?_
     refine Ok.y (j := 10) (d := 21) (want := false) (b := false) rfl kr kr rfl (OpOk.s (v := .int .u8 (e5.toNat : Int)) (Yields.ix (k := .i64) (i := z0) (s := xs) (b := e5) kr kr Tryz.underlying9 h05 he5) rfl rfl (Ok.b 2 [0, 3, 4] [(26, .bool ((e5.toNat : Int) == 10))] ?_))
     refine Ok.j (Ok.t ?_)
     subst hg5
     refine Ok.v 26 rfl (show (.bool (((xs.getD (Int.toNat z0) 0).toNat : Int) == 10) : Value) = .bool (rqdV4 xs z0) from congrArg (Value.bool) ((Eq.trans (mor_f hc7) (mor_f hc6)))) ?_
     exact fun a W hA hW => ⟨gl9, (Gext.r w0 gl9), hA.sub kr, hW, hF⟩
    clear hF
    rintro a W ⟨q0, y0, hA, hW, hF⟩
    refine (?_ : Ok _ _ _ _ _ _) a W hA hW
    clear hA hW
    refine Ok.cn hF rfl (fun hc3 => ?_) (fun hc3 => ?_)
    ·replace hF := hF.1 hc3
     refine Ok.r (Ok.b 1 [0, 4] [(27, sv v0)] ?_)
     have hL4 : RepL q0 yb ([.int .u8 92] : List Value) ([92] : List Int) := (RepL.consN (c := [.int .u8 92]) rfl rfl)
     refine Ok.op rfl (OpOk.lit (E := 5) yb ([92] : List Int) ([.int .u8 92] : List Value) kr kr rfl kr hL4 rfl fun b4 => ?_)
     refine Ok.op rfl (OpOk.s (v := sv (bytesOf ([92] : List Int))) (Yields.strOfOwn 0 kr rfl rfl hL4 Tryz.underlying23 Tryz.underlying9 Tryz.underlying5) rfl rfl ?_)
     obtain ⟨hv, hF⟩ := hF
     refine Ok.op rfl (OpOk.s (v := sv (v0 ++ (bytesOf ([92] : List Int)))) (Yields.sa rfl rfl hv) rfl rfl (Ok.b 1 [0, 4] [(3, sv (v0 ++ (bytesOf ([92] : List Int))))] ?_))
     refine Ok.nt ((Ok.v 3 rfl (show (sv (v0 ++ (bytesOf ([92] : List Int))) : Value) = sv (rqdV3 xs v0 z0) from congrArg ((fun s : Bs => Value.string ⟨⟨s⟩⟩)) ((if_t hc3).symm)) ?_))
     exact fun a W hA hW => ⟨q0, y0, hA.sub kr, hW.sub (.cons _ .slnil), hF⟩
    replace hF := hF.2 hc3
    refine Ok.k (Ok.t (Ok.v 3 rfl (show (sv v0 : Value) = sv (rqdV3 xs v0 z0) from congrArg ((fun s : Bs => Value.string ⟨⟨s⟩⟩)) ((if_f hc3).symm)) ?_))
    exact fun a W hA hW => ⟨q0, y0, hA.sub kr, hW, hF⟩
   clear hF
   rintro a W ⟨k0, hxj18, hA, hW, hF⟩
   refine (?_ : Ok _ _ _ _ _ _) a W hA hW
   clear hA hW
   refine Ok.r (Ok.b 5 [0, 4] [(31, sv (rqdV3 xs v0 z0)), (32, sv xs), (33, iv z0), (35, iv (w6 (z0 + 1)))] ?_)
   obtain ⟨h02, h12, h22, hF⟩ := hF
   refine Ok.op rfl (OpOk.s (v := sv ((xs.take (Int.toNat (w6 (z0 + 1)))).drop (Int.toNat z0))) (Yields.ss (s := xs) (l := z0) (h := (w6 (z0 + 1))) kr Tryz.underlying9 (.inl ⟨_, _, rfl, rfl⟩) (.inl ⟨_, _, rfl, rfl⟩) h02 h12 h22 ((xs.take (Int.toNat (w6 (z0 + 1)))).drop (Int.toNat z0)) rfl) rfl rfl ?_)
   obtain ⟨hv, hF⟩ := hF
   refine Ok.op rfl (OpOk.s (v := sv ((rqdV3 xs v0 z0) ++ ((xs.take (Int.toNat (w6 (z0 + 1)))).drop (Int.toNat z0)))) (Yields.sa rfl rfl hv) rfl rfl (Ok.b 1 [0, 4] [(3, sv ((rqdV3 xs v0 z0) ++ ((xs.take (Int.toNat (w6 (z0 + 1)))).drop (Int.toNat z0))))] ?_))
   refine Ok.j (Ok.kn (Ok.t (Ok.r (Ok.b 3 [0, 3] [(4, iv (w6 (z0 + 1)))] ?_))))
   refine Ok.j (Ok.t ?_)
   exact fun a W hA hW => ⟨k9, Nat.lt_succ_self _, k0, (u0.trans hxj18), (rqdV3 xs v0 z0) ++ ((xs.take (Int.toNat (w6 (z0 + 1)))).drop (Int.toNat z0)), w6 (z0 + 1), hA.sub kr, hW, hF⟩
  replace hF := hF.2 hc1
  refine Ok.x (Ok.thenE (Ok.thenE (Ok.blockHit (Ok.t (Ok.sr ((Ok.B 1 [(38, sv v0)] kr ?_)))))))
  obtain ⟨hv, hF⟩ := hF
  refine Ok.op rfl (OpOk.s (v := sv (v0 ++ ([34] : Bs))) (Yields.sa rfl rfl hv) rfl rfl (Ok.B 1 [(2, sv (v0 ++ ([34] : Bs)))] kr (Ok.nt ((Ok.ret ?_)))))
  exact Ok.resH (vs := [sv (v0 ++ ([34] : Bs))]) (.inl rfl) rfl (.cons (.tmp rfl) .nil) u0 ⟨(v0 ++ ([34] : Bs)), rfl, rfl, hF⟩
def dqS (s : Bs) : Bs := 34 :: (quoteS s ++ [34])
theorem sp_eq (c : UInt8) : (((c.toNat : Int) == 34) || (((c.toNat : Int) == 92) || ((c.toNat : Int) == 10))) = spB c :=
 eq_of_beq (byte_all (p := fun c => (((c.toNat : Int) == 34) || (((c.toNat : Int) == 92) || ((c.toNat : Int) == 10))) == spB c) dk c)
theorem rqd_loop (xs : Bs) (hp : quoteP xs) : ∀ (m i : Nat), i + m = xs.length → rqdl9 xs (fun r => r = dqS xs) (m + 1) (34 :: quoteS (xs.take i)) (i : Int) := by
 have hp' : xs.length ≤ 70368744177664 := hp
 intro m
 induction m with
 | zero =>
  intro i hi
  have : xs.take i = xs := List.take_of_length_le om
  have hq := quote_len xs
  refine ⟨fun hc => absurd (of_decide_eq_true hc) om, fun _ => ⟨?_, ?_⟩⟩
  ·rw [this]; show (quoteS xs).length + 1 + 1 ≤ 9223372036854775807; omega
  rw [this]; rfl
 | succ m ih =>
  intro i hi
  have hi' : i < xs.length := by omega
  have hn := quote_len (xs.take i)
  rw [List.length_take, Nat.min_eq_left om] at hn
  have ht : quoteS (xs.take (i + 1)) = quoteS (xs.take i) ++ rp1 (xs.getD i 0) := by
   rw [take_get xs hi', quoteS_append, quoteS, quoteS, List.append_nil]
  have hd : (xs.take (Int.toNat (w6 ((i : Int) + 1)))).drop (Int.toNat (i : Int)) = [xs.getD i 0] := by
   rw [w64 om, show (i : Int) + 1 = ((i + 1 : Nat) : Int) by omega, Int.toNat_natCast, Int.toNat_natCast, take_get xs hi', List.drop_append, List.drop_of_length_le (by rw [List.length_take]; omega), List.length_take, Nat.min_eq_left om, Nat.sub_self]
   rfl
  have hV : rqdV3 xs (34 :: quoteS (xs.take i)) (i : Int) ++ [xs.getD i 0] = 34 :: quoteS (xs.take (i + 1)) := by
   unfold rqdV3 rqdV0
   rw [sp_eq, ht, rp1, Int.toNat_natCast]
   split <;> simp [bytesOf]
  have hVl : (rqdV3 xs (34 :: quoteS (xs.take i)) (i : Int)).length ≤ 2 * i + 2 := by
   unfold rqdV3
   split <;> simp [bytesOf] <;> omega
  have j18 : rqdj18 xs (34 :: quoteS (xs.take i)) (i : Int) (rqdl9 xs (fun r => r = dqS xs) (m + 1)) := by
   refine ⟨by omega, by rw [w64 om]; omega, by rw [w64 om]; omega, ?_, ?_⟩
   ·rw [hd]; show _ + 1 ≤ 9223372036854775807; omega
   rw [hd, hV, w64 om, show (i : Int) + 1 = ((i + 1 : Nat) : Int) by omega]
   exact ih (i + 1) om
  have j19 : rqdj19 xs (34 :: quoteS (xs.take i)) (i : Int) (rqdl9 xs (fun r => r = dqS xs) (m + 1)) :=
   ⟨fun _ => ⟨by show (quoteS (xs.take i)).length + 1 + 1 ≤ 9223372036854775807; omega, j18⟩, fun _ => j18⟩
  exact ⟨fun _ => ⟨by omega, by rw [Int.toNat_natCast]; exact hi', fun _ => j19, fun _ => ⟨fun _ => j19, fun _ => j19⟩⟩, fun hc => absurd (of_decide_eq_false hc) om⟩
theorem rqd_F (s : Bs) (hp : quoteP s) : rqdF s (fun r => r = dqS s) := ⟨s.length + 1, rqd_loop s hp s.length 0 om⟩
theorem rqd_c {g : Ghost} (xs : Bs)  (hp : quoteP xs) : CallsG Tryz.prog 34 #[sv xs] g (sv (dqS xs)) :=
 (rqd_ok xs _ (rqd_F xs hp)).gives (by rintro g' H' v _ ⟨r0, rfl, rfl, hK⟩; subst hK; rfl)
end Go.Proofs.YtcnhdkhkadiohaaGreatDoor.Qu
