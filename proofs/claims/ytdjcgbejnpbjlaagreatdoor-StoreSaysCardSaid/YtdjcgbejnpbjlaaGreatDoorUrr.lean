/- Addresses: the reference's small functions. -/
import Derived.Test.YtdjcgbejnpbjlaaGreatDoorUrt
import Derived.Test.YtdjcgbejnpbjlaaGreatDoorByt
namespace Go.Proofs.YtdjcgbejnpbjlaaGreatDoor.Ub
open Go Go.Eng Go.RowKit Go.Shelf Go.Proofs Bld Sp Ti Uc Ua Ui
set_option maxHeartbeats 4000000
set_option maxRecDepth 100000
set_option linter.unusedSimpArgs false
set_option linter.unusedVariables false
theorem bet_eq (a b c : Int) : rbetM a b c = (decide (b ≤ a) && decide (a ≤ c)) := rfl
/-! Cleaned -/
def rcleV0 (e5 : Int × Bool) : Bool :=
 ((!(uplainM e5.1)) && ((!e5.2) && ((decide (e5.1 < 128)) && (scontS ([33, 36, 38, 39, 40, 41, 42, 43, 44, 59, 61, 58, 64, 47, 63] : Bs) (bytesOf ([e5.1] : List (Int)))))))
def rcleV3 (xs : Bs) (x6l11 : Bs) (x17l11 : Int) : Bs :=
 (if (rcleV0 ((unitsS xs).1.getD (Int.toNat x17l11) default)) = true then x6l11 ++ (bytesOf ([((unitsS xs).1.getD (Int.toNat x17l11) default).1] : List (Int))) else x6l11 ++ (encS (bytesOf ([((unitsS xs).1.getD (Int.toNat x17l11) default).1] : List (Int)))))
def rclej18 (xs : Bs) (x6l11 : Bs) (x17l11 : Int) (C11 : Bs → Int → Prop) : Prop :=
 C11 (rcleV3 xs x6l11 x17l11) (w6 (x17l11 + 1))
def rclej24 (xs : Bs) (e5 : Int × Bool) (x6l11 : Bs) (x17l11 : Int) (C11 : Bs → Int → Prop) : Prop :=
 (((rcleV0 e5)) = true → x6l11.length + (bytesOf ([e5.1] : List (Int))).length ≤ maxLen ∧ rclej18 xs x6l11 x17l11 C11) ∧ (((rcleV0 e5)) = false → encP (bytesOf ([e5.1] : List (Int))) ∧ x6l11.length + (encS (bytesOf ([e5.1] : List (Int)))).length ≤ maxLen ∧ rclej18 xs x6l11 x17l11 C11)
def rclel11b (xs : Bs) (K : Bs → Bool → Prop) (x6l11 : Bs) (x17l11 : Int) (C11 : Bs → Int → Prop) : Prop :=
 ((decide (x17l11 < ((unitsS xs).1.length : Int))) = true → (0 : Int) ≤ x17l11 ∧ Int.toNat x17l11 < (unitsS xs).1.length ∧ byteP ((unitsS xs).1.getD (Int.toNat x17l11) default).1 ∧ ((!(uplainM ((unitsS xs).1.getD (Int.toNat x17l11) default).1)) = true → ((!((unitsS xs).1.getD (Int.toNat x17l11) default).2) = true → ((decide (((unitsS xs).1.getD (Int.toNat x17l11) default).1 < 128)) = true → scontP ([33, 36, 38, 39, 40, 41, 42, 43, 44, 59, 61, 58, 64, 47, 63] : Bs) (bytesOf ([((unitsS xs).1.getD (Int.toNat x17l11) default).1] : List (Int))) ∧ rclej24 xs ((unitsS xs).1.getD (Int.toNat x17l11) default) x6l11 x17l11 C11) ∧ ((decide (((unitsS xs).1.getD (Int.toNat x17l11) default).1 < 128)) = false → rclej24 xs ((unitsS xs).1.getD (Int.toNat x17l11) default) x6l11 x17l11 C11)) ∧ ((!((unitsS xs).1.getD (Int.toNat x17l11) default).2) = false → rclej24 xs ((unitsS xs).1.getD (Int.toNat x17l11) default) x6l11 x17l11 C11)) ∧ ((!(uplainM ((unitsS xs).1.getD (Int.toNat x17l11) default).1)) = false → rclej24 xs ((unitsS xs).1.getD (Int.toNat x17l11) default) x6l11 x17l11 C11)) ∧ ((decide (x17l11 < ((unitsS xs).1.length : Int))) = false → K x6l11 (unitsS xs).2)
def rclel11 (xs : Bs) (K : Bs → Bool → Prop) : Nat → Bs → Int → Prop
 | 0, _, _ => False
 | k + 1, x6l11, x17l11 => rclel11b xs K x6l11 x17l11 (rclel11 xs K k)
def rcleF (xs : Bs) (K : Bs → Bool → Prop) : Prop :=
 encP xs ∧ ∃ k, rclel11 xs K k ([] : Bs) 0
theorem rcle_ok {g : Ghost} (xs : Bs) (hG0 : SomeInt g 0) (K : Bs → Bool → Prop)
  (hF : rcleF xs K) : CallsH Tryz.prog 49 #[sv xs] g [] (fun g' H' v => ∃ (r0 : Bs), ∃ (r1 : Bool), v = .tuple #[sv r0, .bool r1] ∧ H' = [] ∧ K r0 r1) := by
 refine CallsH.enter 53 [(0, sv xs)] Tryz.func49 rfl (by kernel_rfl) (by kernel_rfl) (by kernel_rfl) fun w0 => ?_
 refine Ok.seq (Ok.region (Ok.batch 2 [(0, sv xs)] (by kernel_rfl) (Ok.nil (Ok.thenN (Ok.seq (Ok.region (Ok.batch 1 [(11, sv xs)] (by kernel_rfl) ?_)))))))
 obtain ⟨hp1, hF⟩ := hF
 refine Ok.op rfl (OpOk.callH [] _ enr rfl (runits_c xs hG0 hp1) rfl fun g2 _ _ hx2 hV2 => ?_)
 obtain ⟨a2_0, c2_0, rfl, hR2_0, rfl⟩ := hV2
 replace hG0 := hG0.mono hx2.1
 refine Ok.batch 5 [(4, .slice a2_0 (unitsS xs).1.length c2_0), (5, .bool (unitsS xs).2)] (by kernel_rfl) (Ok.nil (Ok.thenN (Ok.seq (Ok.region (Ok.bat 1 [4, 5] [(6, sv ([] : Bs))] ?_)))))
 refine Ok.nil (Ok.thenN (Ok.seq (Ok.seq (Ok.region (Ok.bat 3 [5, 6] [(15, .slice a2_0 (unitsS xs).1.length c2_0), (16, .int .i64 ((unitsS xs).1.length : Int)), (17, .int .i64 0)] ?_)))))
 refine Ok.nil (Ok.thenN (Ok.block ?_))
 obtain ⟨k, hF⟩ := hF
 refine Ok.loop (fun k a W => ∃ gl11 : Ghost, Gext w0 g2 gl11 ∧ ∃ (x6l11 : Bs) (x17l11 : Int), StA 53 [(5, .bool (unitsS xs).2), (6, sv x6l11), (15, .slice a2_0 (unitsS xs).1.length c2_0), (16, .int .i64 ((unitsS xs).1.length : Int)), (17, .int .i64 x17l11)] a ∧ StW w0 [] gl11 W ∧ rclel11 xs K k x6l11 x17l11) k ?_ ?_
 ·
  exact fun a W hA hW => ⟨g2, (Gext.refl w0 g2), ([] : Bs), 0, hA.sub (by kernel_rfl), hW, hF⟩
 ·
  clear hF
  rintro k11 a W ⟨gl11, hxl11, x6l11, x17l11, hA, hW, hF⟩
  cases k11 with
  | zero => exact (hF : False).elim
  | succ k11 =>
   refine (?_ : Ok _ _ _ _ _ _) a W hA hW
   clear hA hW
   replace hR2_0 := hR2_0.mono hxl11.1
   replace hG0 := hG0.mono hxl11.1
   refine Ok.seq (Ok.region (Ok.bat 1 [5, 6, 15, 16, 17] [(18, .bool (decide (x17l11 < ((unitsS xs).1.length : Int))))] ?_))
   refine Ok.nil (Ok.thenN (Ok.seq (Ok.cond (b := decide (x17l11 < ((unitsS xs).1.length : Int))) rfl (fun hc3 => ?_) (fun hc3 => ?_))))
   ·replace hF := hF.1 hc3
    refine Ok.skip (Ok.thenN (Ok.cut (fun a W => ∃ gj18 : Ghost, Gext w0 gl11 gj18 ∧ StA 53 [(5, .bool (unitsS xs).2), (6, sv (rcleV3 xs x6l11 x17l11)), (15, .slice a2_0 (unitsS xs).1.length c2_0), (16, .int .i64 ((unitsS xs).1.length : Int)), (17, .int .i64 x17l11)] a ∧ StW w0 [] gj18 W ∧ rclej18 xs x6l11 x17l11 (rclel11 xs K k11)) ?_ ?_))
    ·
     refine Ok.block (Ok.seq (Ok.region ?_))
     obtain ⟨h05, h15, hF⟩ := hF
     have he5 := get_of (l := (unitsS xs).1) (default : Int × Bool) h15
     generalize hg5 : ((unitsS xs).1.getD (Int.toNat x17l11) default) = e5 at he5 hF ⊢
     refine Ok.op rfl (OpOk.indexRo (e := .pair (.int .u8) (.bool)) (i := x17l11) (el := e5) rfl rfl Tryz.underlying103 (by kernel_rfl) hR2_0 h05 he5 rfl fun q4 o4 cs4 _ hat4 hr4 => ?_)
     obtain ⟨_, _, rfl, rfl, rfl⟩ := hr4
     replace hat4 : At gl11 q4 o4 [.int .u8 e5.1, .bool e5.2] := hat4
     refine Ok.op rfl (OpOk.step (v := .agg #[.int .u8 e5.1, .bool e5.2]) (Yields.loadAggRo 0 2 #[.int .u8 e5.1, .bool e5.2] hat4 (by kernel_rfl) Tryz.underlying107 rfl (by kernel_rfl) (by kernel_rfl) (by kernel_rfl)) rfl rfl (Ok.op rfl (OpOk.alloc (z := .agg #[.int .u8 0, .bool false]) (cs := #[.int .u8 0, .bool false]) (by kernel_rfl) (by kernel_rfl) rfl fun bs8 => ?_)))
     refine Ok.op rfl (OpOk.sto (k := 2) (v := .agg #[.int .u8 e5.1, .bool e5.2]) 0 #[.int .u8 e5.1, .bool e5.2] rfl rfl rfl ?_)
     refine Ok.nil (Ok.thenN (Ok.seq (Ok.region (Ok.bat 1 [5, 6, 15, 16, 17] [(8, pv bs8 0), (21, pv bs8 0)] ?_))))
     refine Ok.op rfl (OpOk.step (v := .int .u8 e5.1) (Yields.load 0 rfl rfl Tryz.underlying5 rfl (by kernel_rfl)) rfl rfl ?_)
     have hL7 : RepL gl11 (.int .u8) ([.int .u8 e5.1] : List Value) ([e5.1] : List (Int)) := (RepL.consN (c := [.int .u8 e5.1]) rfl rfl)
     refine Ok.op rfl (OpOk.lit (E := 5) (.int .u8) ([e5.1] : List (Int)) ([.int .u8 e5.1] : List Value) (by kernel_rfl) (by kernel_rfl) rfl (by kernel_rfl) hL7 rfl fun b7 => ?_)
     refine Ok.op rfl (OpOk.step (v := sv (bytesOf ([e5.1] : List (Int)))) (Yields.strOfOwn 0 (by kernel_rfl) rfl rfl hL7 Tryz.underlying74 Tryz.underlying9 Tryz.underlying5) rfl rfl (Ok.bat 1 [5, 6, 8, 15, 16, 17] [(9, sv (bytesOf ([e5.1] : List (Int))))] ?_))
     refine Ok.nil (Ok.thenN (Ok.cut (fun a W => ∃ gj24 : Ghost, Gext w0 gl11 gj24 ∧ StA 53 [(5, .bool (unitsS xs).2), (6, sv x6l11), (9, sv (bytesOf ([e5.1] : List (Int)))), (15, .slice a2_0 (unitsS xs).1.length c2_0), (16, .int .i64 ((unitsS xs).1.length : Int)), (17, .int .i64 x17l11), (42, .bool (rcleV0 e5))] a ∧ StW w0 [] gj24 W ∧ rclej24 xs e5 x6l11 x17l11 (rclel11 xs K k11)) ?_ ?_))
     ·
      refine Ok.region (Ok.bat 1 [5, 6, 8, 9, 15, 16, 17] [(25, pv bs8 0)] ?_)
      refine Ok.op rfl (OpOk.step (v := .int .u8 e5.1) (Yields.load 1 rfl rfl Tryz.underlying5 rfl (by kernel_rfl)) rfl rfl ?_)
      obtain ⟨hp10, hF⟩ := hF
      refine Ok.op rfl (OpOk.callG (v := .bool (uplainM e5.1)) enr (fun W hW => rplain_c e5.1 (hG0.mono hW.sees) hp10) rfl ?_)
      refine Ok.bat 2 [5, 6, 8, 9, 15, 16, 17] [(29, .bool (!(uplainM e5.1)))] ?_
      refine Ok.boolAt 29 (!(uplainM e5.1)) rfl (fun hc11 => ?_) (fun hc11 => ?_)
      ·replace hF := hF.1 hc11
       refine Ok.bat 1 [5, 6, 8, 9, 15, 16, 17] [(29, .bool true), (30, pv bs8 1)] ?_
       refine Ok.opYes (j := 4) (d := 29) (want := true) (b := true) rfl (by kernel_rfl) (by kernel_rfl) rfl (OpOk.step (v := .bool e5.2) (Yields.load 1 rfl rfl Tryz.underlying4 rfl (by kernel_rfl)) rfl rfl (Ok.bat 3 [5, 6, 8, 9, 15, 16, 17] [(34, .bool (!e5.2))] ?_))
       refine Ok.boolAt 34 (!e5.2) rfl (fun hc12 => ?_) (fun hc12 => ?_)
       ·replace hF := hF.1 hc12
        refine Ok.bat 1 [5, 6, 9, 15, 16, 17] [(34, .bool true), (35, pv bs8 0)] ?_
        refine Ok.opYes (j := 9) (d := 34) (want := true) (b := true) rfl (by kernel_rfl) (by kernel_rfl) rfl (OpOk.step (v := .int .u8 e5.1) (Yields.load 1 rfl rfl Tryz.underlying5 rfl (by kernel_rfl)) rfl rfl (Ok.bat 3 [5, 6, 9, 15, 16, 17] [(39, .bool (decide (e5.1 < 128)))] ?_))
        refine Ok.boolAt 39 (decide (e5.1 < 128)) rfl (fun hc13 => ?_) (fun hc13 => ?_)
        ·replace hF := hF.1 hc13
         refine Ok.bat 1 [5, 6, 9, 15, 16, 17] [(39, .bool true), (40, sv (bytesOf ([e5.1] : List (Int))))] ?_
         obtain ⟨hp14, hF⟩ := hF
         refine Ok.opYes (j := 14) (d := 39) (want := true) (b := true) rfl (by kernel_rfl) (by kernel_rfl) rfl (OpOk.callG (v := .bool (scontS ([33, 36, 38, 39, 40, 41, 42, 43, 44, 59, 61, 58, 64, 47, 63] : Bs) (bytesOf ([e5.1] : List (Int))))) enr (fun W hW => scont_c ([33, 36, 38, 39, 40, 41, 42, 43, 44, 59, 61, 58, 64, 47, 63] : Bs) (bytesOf ([e5.1] : List (Int))) (hG0.mono hW.sees) hp14) rfl ?_)
         refine Ok.bat 1 [5, 6, 9, 15, 16, 17] [(42, .bool (scontS ([33, 36, 38, 39, 40, 41, 42, 43, 44, 59, 61, 58, 64, 47, 63] : Bs) (bytesOf ([e5.1] : List (Int)))))] ?_
         refine Ok.nil (Ok.thenN (Ok.reval 42 rfl (show (.bool (scontS ([33, 36, 38, 39, 40, 41, 42, 43, 44, 59, 61, 58, 64, 47, 63] : Bs) (bytesOf ([e5.1] : List (Int)))) : Value) = .bool (rcleV0 e5) from congrArg (Value.bool) ((Eq.trans ((Eq.trans (mand_t hc13) (mand_t hc12))) (mand_t hc11)))) ?_))
         exact fun a W hA hW => ⟨gl11, (Gext.refl w0 gl11), hA.sub (by kernel_rfl), hW.sub (.cons _ (.cons _ .slnil)), hF⟩
        ·replace hF := hF.2 hc13
         refine Ok.bat 3 [5, 6, 9, 15, 16, 17] [(42, .bool false)] ?_
         refine Ok.nil (Ok.thenN (Ok.reval 42 rfl (show (.bool false : Value) = .bool (rcleV0 e5) from congrArg (Value.bool) ((Eq.trans ((Eq.trans (mand_f hc13) (mand_t hc12))) (mand_t hc11)))) ?_))
         exact fun a W hA hW => ⟨gl11, (Gext.refl w0 gl11), hA.sub (by kernel_rfl), hW.sub (.cons _ (.cons _ .slnil)), hF⟩
       ·replace hF := hF.2 hc12
        refine Ok.bat 8 [5, 6, 9, 15, 16, 17] [(42, .bool false)] ?_
        refine Ok.nil (Ok.thenN (Ok.reval 42 rfl (show (.bool false : Value) = .bool (rcleV0 e5) from congrArg (Value.bool) ((Eq.trans (mand_f hc12) (mand_t hc11)))) ?_))
        exact fun a W hA hW => ⟨gl11, (Gext.refl w0 gl11), hA.sub (by kernel_rfl), hW.sub (.cons _ (.cons _ .slnil)), hF⟩
      ·replace hF := hF.2 hc11
       refine Ok.bat 13 [5, 6, 9, 15, 16, 17] [(42, .bool false)] ?_
       refine Ok.nil (Ok.thenN (Ok.reval 42 rfl (show (.bool false : Value) = .bool (rcleV0 e5) from congrArg (Value.bool) (mand_f hc11)) ?_))
       exact fun a W hA hW => ⟨gl11, (Gext.refl w0 gl11), hA.sub (by kernel_rfl), hW.sub (.cons _ (.cons _ .slnil)), hF⟩
     ·
      clear hF
      rintro a W ⟨gj24, hxj24, hA, hW, hF⟩
      refine (?_ : Ok _ _ _ _ _ _) a W hA hW
      clear hA hW
      replace hR2_0 := hR2_0.mono hxj24.1
      replace hG0 := hG0.mono hxj24.1
      refine Ok.cond (b := (rcleV0 e5)) rfl (fun hc8 => ?_) (fun hc8 => ?_)
      ·replace hF := hF.1 hc8
       refine Ok.region (Ok.bat 2 [5, 15, 16, 17] [(43, sv x6l11), (44, sv (bytesOf ([e5.1] : List (Int))))] ?_)
       obtain ⟨hv, hF⟩ := hF
       refine Ok.op rfl (OpOk.step (v := sv (x6l11 ++ (bytesOf ([e5.1] : List (Int))))) (Yields.strAdd rfl rfl hv) rfl rfl (Ok.bat 1 [5, 15, 16, 17] [(6, sv (x6l11 ++ (bytesOf ([e5.1] : List (Int)))))] ?_))
       refine Ok.nil (Ok.blockN (Ok.thenN ?_))
       subst hg5
       refine Ok.reval 6 rfl (show (sv (x6l11 ++ (bytesOf ([((unitsS xs).1.getD (Int.toNat x17l11) default).1] : List (Int)))) : Value) = sv (rcleV3 xs x6l11 x17l11) from congrArg ((fun s : Bs => Value.string ⟨⟨s⟩⟩)) ((if_t hc8).symm)) ?_
       exact fun a W hA hW => ⟨gj24, hxj24, hA.sub (by kernel_rfl), hW, hF⟩
      ·replace hF := hF.2 hc8
       refine Ok.region (Ok.bat 2 [5, 15, 16, 17] [(46, sv x6l11), (47, sv (bytesOf ([e5.1] : List (Int))))] ?_)
       obtain ⟨hp9, hF⟩ := hF
       refine Ok.op rfl (OpOk.callG (v := sv (encS (bytesOf ([e5.1] : List (Int))))) enr (fun W hW => renc_c (bytesOf ([e5.1] : List (Int))) (hG0.mono hW.sees) hp9) rfl ?_)
       obtain ⟨hv, hF⟩ := hF
       refine Ok.op rfl (OpOk.step (v := sv (x6l11 ++ (encS (bytesOf ([e5.1] : List (Int)))))) (Yields.strAdd rfl rfl hv) rfl rfl (Ok.bat 1 [5, 15, 16, 17] [(6, sv (x6l11 ++ (encS (bytesOf ([e5.1] : List (Int))))))] ?_))
       refine Ok.nil (Ok.blockN (Ok.thenN ?_))
       subst hg5
       refine Ok.reval 6 rfl (show (sv (x6l11 ++ (encS (bytesOf ([((unitsS xs).1.getD (Int.toNat x17l11) default).1] : List (Int))))) : Value) = sv (rcleV3 xs x6l11 x17l11) from congrArg ((fun s : Bs => Value.string ⟨⟨s⟩⟩)) ((if_f hc8).symm)) ?_
       exact fun a W hA hW => ⟨gj24, hxj24, hA.sub (by kernel_rfl), hW, hF⟩
    ·
     clear hF
     rintro a W ⟨gj18, hxj18, hA, hW, hF⟩
     refine (?_ : Ok _ _ _ _ _ _) a W hA hW
     clear hA hW
     replace hR2_0 := hR2_0.mono hxj18.1
     replace hG0 := hG0.mono hxj18.1
     refine Ok.region (Ok.bat 2 [5, 6, 15, 16] [(17, .int .i64 (w6 (x17l11 + 1)))] ?_)
     refine Ok.nil (Ok.thenN ?_)
     exact fun a W hA hW => ⟨k11, Nat.lt_succ_self _, gj18, (hxl11.trans hxj18), (rcleV3 xs x6l11 x17l11), w6 (x17l11 + 1), hA.sub (by kernel_rfl), hW, hF⟩
   ·replace hF := hF.2 hc3
    refine Ok.exit (Ok.thenE (Ok.thenE (Ok.blockHit (Ok.thenN (Ok.seq (Ok.region (Ok.batch 4 [(2, sv x6l11), (3, .bool (unitsS xs).2)] (by kernel_rfl) (Ok.nil (Ok.thenN (Ok.ret ?_))))))))))
    exact Ok.resH (vs := [sv x6l11, .bool (unitsS xs).2]) (.inl rfl) rfl (.cons (.tmp rfl) (.cons (.tmp rfl) .nil)) (hx2.trans hxl11) ⟨x6l11, (unitsS xs).2, rfl, rfl, hF⟩
theorem unN_byte : ∀ (k : Nat) (s : Bs) (l : List (Int × Bool)), unN k s = some l → ∀ u ∈ l, byteP u.1
 | 0, s, l, h, u, hu => by simp [unN] at h; subst h; cases hu
 | k + 1, s, l, h, u, hu => by
  unfold unN at h
  split at h
  ·simp at h; subst h; cases hu
  ·split at h
   ·cases h
   ·obtain ⟨l2, h2, rfl⟩ := Option.map_eq_some_iff.1 h
    rcases List.mem_cons.1 hu with rfl | hu
    ·exact uread_byte s
    ·exact unN_byte k _ l2 h2 u hu
theorem units_byte (s : Bs) : ∀ u ∈ (unitsS s).1, byteP u.1 := by
 unfold unitsS
 cases h : unN s.length s with
 | none => intro u hu; cases hu
 | some l => intro u hu; exact unN_byte _ _ _ h u (by simpa [unO] using hu)
theorem clean_units (s : Bs) : cleanS s = ((unitsS s).1.flatMap clB, (unitsS s).2) := by
 unfold cleanS unitsS
 cases unN s.length s <;> simp [cleanO, unO]
theorem cl_one (b : UInt8) (tr : Bool) : (if rcleV0 ((b.toNat : Int), tr) = true then [b] else encB b) = clB ((b.toNat : Int), tr) := by
 have h1 := byte_all (p := fun b => decide ((if rcleV0 ((b.toNat : Int), true) = true then [b] else encB b) = clB ((b.toNat : Int), true))) (by decide +kernel) b
 have h2 := byte_all (p := fun b => decide ((if rcleV0 ((b.toNat : Int), false) = true then [b] else encB b) = clB ((b.toNat : Int), false))) (by decide +kernel) b
 cases tr
 ·exact of_decide_eq_true h2
 ·exact of_decide_eq_true h1
theorem rcle_F (s : Bs) (hp : smP s) : rcleF s (fun a b => (a, b) = cleanS s) := by
 have hpe := smP_enc hp
 unfold smP at hp
 have hul := units_len s
 have loop : ∀ (k i : Nat) (acc : Bs), i + k = (unitsS s).1.length → acc.length ≤ 3 * i → cleanS s = (acc ++ ((unitsS s).1.drop i).flatMap clB, (unitsS s).2) → rclel11 s (fun a b => (a, b) = cleanS s) (k + 1) acc (i : Int) := by
  intro k
  induction k with
  | zero =>
   intro i acc h1 h2 he
   rw [List.drop_of_length_le (by omega), List.flatMap_nil, List.append_nil] at he
   exact ⟨fun h => by have := of_decide_eq_true h; omega, fun _ => he.symm⟩
  | succ k ih =>
   intro i acc h1 h2 he
   have hi : i < (unitsS s).1.length := by omega
   rw [drop_get (l := (unitsS s).1) default hi, List.flatMap_cons] at he
   have hb := units_byte s _ (getD_mem hi)
   obtain ⟨⟨c, tr⟩, hu⟩ : ∃ u, (unitsS s).1.getD i default = u := ⟨_, rfl⟩
   rw [hu] at he hb
   obtain ⟨b, rfl⟩ : ∃ b : UInt8, c = (b.toNat : Int) := of_byte hb
   have hone := cl_one b tr
   have hcl := clB_len ((b.toNat : Int), tr)
   have henc : encS [b] = encB b := by simp [encS]
   have hel := encB_len b
   have hstep : rcleV3 s acc (i : Int) = acc ++ clB ((b.toNat : Int), tr) := by
    unfold rcleV3
    rw [Int.toNat_natCast, hu, ← hone, bytes_one, henc]
    split <;> rfl
   have j18 : rclej18 s acc (i : Int) (rclel11 s (fun a b => (a, b) = cleanS s) (k + 1)) := by
    unfold rclej18
    rw [hstep, w64 (by omega)]
    exact ih (i + 1) _ (by omega) (by rw [List.length_append]; omega) (by rw [he, List.append_assoc])
   have j24 : rclej24 s ((b.toNat : Int), tr) acc (i : Int) (rclel11 s (fun a b => (a, b) = cleanS s) (k + 1)) := by
    refine ⟨fun _ => ⟨?_, j18⟩, fun _ => ⟨?_, ?_, j18⟩⟩
    ·rw [bytes_one, maxLen_eq]; simp; omega
    ·rw [bytes_one]; unfold encP; simp
    ·rw [bytes_one, henc, maxLen_eq]; omega
   refine ⟨fun _ => ⟨by omega, by rw [Int.toNat_natCast]; omega, ?_⟩, fun h => by have := of_decide_eq_false h; omega⟩
   rw [Int.toNat_natCast, hu]
   exact ⟨hb, fun _ => ⟨fun _ => ⟨fun _ => ⟨by unfold scontP; simp, j24⟩, fun _ => j24⟩, fun _ => j24⟩, fun _ => j24⟩
 exact ⟨hpe, _, loop (unitsS s).1.length 0 [] (by omega) (by simp) (clean_units s)⟩
theorem rcle_c {g : Ghost} (xs : Bs) (hG0 : SomeInt g 0)  (hp : smP xs) : CallsG Tryz.prog 49 #[sv xs] g (.tuple #[sv ((cleanS xs).1), .bool (cleanS xs).2]) :=
 (rcle_ok xs hG0 _ (rcle_F xs hp)).gives (by rintro g' H' v _ ⟨r0, r1, rfl, rfl, hK⟩; obtain ⟨rfl, rfl⟩ : r0 = (cleanS xs).1 ∧ r1 = (cleanS xs).2 := ⟨congrArg (fun z => z.1) hK, congrArg (fun z => z.2) hK⟩; rfl)
/-! parted -/
def mk1 (m : Bs) (b : UInt8) : Bool := decide ((b.toNat : Int) < 128) && scontS m [b]
def prtS (s m : Bs) : Bs × Bs := (s.takeWhile fun b => !(mk1 m b), s.dropWhile fun b => !(mk1 m b))
def prtP (s m : Bs) : Prop := s.length ≤ 4000 ∧ m.length ≤ 100
def rprtV2 (xs : Bs) (xmarks : Bs) (x9l7 : Int) : Bool :=
 ((decide (((xs.getD (Int.toNat x9l7) 0).toNat : Int) < 128)) && (scontS xmarks ((xs.take (Int.toNat (w6 (x9l7 + 1)))).drop (Int.toNat x9l7))))
def rprtj18 (xs : Bs) (xmarks : Bs) (K : Bs → Bs → Prop) (x9l7 : Int) (C7 : Int → Prop) : Prop :=
 (((rprtV2 xs xmarks x9l7)) = true → (0 : Int) ≤ 0 ∧ (0 : Int) ≤ x9l7 ∧ x9l7 ≤ (xs.length : Int) ∧ (0 : Int) ≤ x9l7 ∧ (x9l7 : Int) ≤ (xs.length : Int) ∧ (xs.length : Int) ≤ (xs.length : Int) ∧ K (xs.take (Int.toNat x9l7)) (xs.drop (Int.toNat x9l7))) ∧ (((rprtV2 xs xmarks x9l7)) = false → C7 (w6 (x9l7 + 1)))
def rprtl7b (xs : Bs) (xmarks : Bs) (K : Bs → Bs → Prop) (x9l7 : Int) (C7 : Int → Prop) : Prop :=
 ((decide (x9l7 < (xs.length : Int))) = true → (0 : Int) ≤ x9l7 ∧ Int.toNat x9l7 < xs.length ∧ ((decide (((xs.getD (Int.toNat x9l7) 0).toNat : Int) < 128)) = true → (0 : Int) ≤ x9l7 ∧ (x9l7 : Int) ≤ (w6 (x9l7 + 1)) ∧ (w6 (x9l7 + 1)) ≤ (xs.length : Int) ∧ scontP xmarks ((xs.take (Int.toNat (w6 (x9l7 + 1)))).drop (Int.toNat x9l7)) ∧ rprtj18 xs xmarks K x9l7 C7) ∧ ((decide (((xs.getD (Int.toNat x9l7) 0).toNat : Int) < 128)) = false → rprtj18 xs xmarks K x9l7 C7)) ∧ ((decide (x9l7 < (xs.length : Int))) = false → K xs ([] : Bs))
def rprtl7 (xs : Bs) (xmarks : Bs) (K : Bs → Bs → Prop) : Nat → Int → Prop
 | 0, _ => False
 | k + 1, x9l7 => rprtl7b xs xmarks K x9l7 (rprtl7 xs xmarks K k)
def rprtF (xs : Bs) (xmarks : Bs) (K : Bs → Bs → Prop) : Prop :=
 ∃ k, rprtl7 xs xmarks K k 0
theorem rprt_ok {g : Ghost} (xs : Bs) (xmarks : Bs) (hG0 : SomeInt g 0) (K : Bs → Bs → Prop)
  (hF : rprtF xs xmarks K) : CallsH Tryz.prog 29 #[sv xs, sv xmarks] g [] (fun g' H' v => ∃ (r0 : Bs), ∃ (r1 : Bs), v = .tuple #[sv r0, sv r1] ∧ H' = [] ∧ K r0 r1) := by
 refine CallsH.enter 33 [(0, sv xs), (1, sv xmarks)] Tryz.func29 rfl (by kernel_rfl) (by kernel_rfl) (by kernel_rfl) fun w0 => ?_
 refine Ok.seq (Ok.region (Ok.batch 2 [(0, sv xs), (1, sv xmarks)] (by kernel_rfl) (Ok.nil (Ok.thenN (Ok.seq (Ok.seq (Ok.region (Ok.bat 3 [0, 1] [(8, .int .i64 (xs.length : Int)), (9, .int .i64 0)] ?_))))))))
 refine Ok.nil (Ok.thenN (Ok.block ?_))
 obtain ⟨k, hF⟩ := hF
 refine Ok.loop (fun k a W => ∃ (x9l7 : Int), StA 33 [(0, sv xs), (1, sv xmarks), (8, .int .i64 (xs.length : Int)), (9, .int .i64 x9l7)] a ∧ StW w0 [] g W ∧ rprtl7 xs xmarks K k x9l7) k ?_ ?_
 ·
  exact fun a W hA hW => ⟨0, hA.sub (by kernel_rfl), hW, hF⟩
 ·
  clear hF
  rintro k7 a W ⟨x9l7, hA, hW, hF⟩
  cases k7 with
  | zero => exact (hF : False).elim
  | succ k7 =>
   refine (?_ : Ok _ _ _ _ _ _) a W hA hW
   clear hA hW
   refine Ok.seq (Ok.region (Ok.bat 1 [0, 1, 8, 9] [(10, .bool (decide (x9l7 < (xs.length : Int))))] ?_))
   refine Ok.nil (Ok.thenN (Ok.seq (Ok.cond (b := decide (x9l7 < (xs.length : Int))) rfl (fun hc1 => ?_) (fun hc1 => ?_))))
   ·replace hF := hF.1 hc1
    refine Ok.skip (Ok.thenN (Ok.seq (Ok.block (Ok.seq (Ok.region (Ok.bat 2 [0, 1, 8, 9] [(6, .int .i64 x9l7)] ?_))))))
    refine Ok.nil (Ok.thenN (Ok.cut (fun a W => StA 33 [(0, sv xs), (1, sv xmarks), (6, .int .i64 x9l7), (8, .int .i64 (xs.length : Int)), (9, .int .i64 x9l7), (24, .bool (rprtV2 xs xmarks x9l7))] a ∧ StW w0 [] g W ∧ rprtj18 xs xmarks K x9l7 (rprtl7 xs xmarks K k7)) ?_ ?_))
    ·
     refine Ok.region (Ok.bat 2 [0, 1, 6, 8, 9] [(12, sv xs), (13, .int .i64 x9l7)] ?_)
     obtain ⟨h05, h15, hF⟩ := hF
     have he5 := get_of (l := xs) (0 : UInt8) h15
     generalize hg5 : (xs.getD (Int.toNat x9l7) 0) = e5 at he5 hF ⊢
     refine Ok.op rfl (OpOk.step (v := .int .u8 (e5.toNat : Int)) (Yields.indexStr (k := .i64) (i := x9l7) (s := xs) (b := e5) (by kernel_rfl) (by kernel_rfl) Tryz.underlying9 h05 he5) rfl rfl (Ok.bat 2 [0, 1, 6, 8, 9] [(16, .bool (decide ((e5.toNat : Int) < 128)))] ?_))
     refine Ok.boolAt 16 (decide ((e5.toNat : Int) < 128)) rfl (fun hc6 => ?_) (fun hc6 => ?_)
     ·replace hF := hF.1 hc6
      refine Ok.bat 5 [0, 1, 6, 8, 9] [(16, .bool true), (17, sv xmarks), (18, sv xs), (19, .int .i64 x9l7), (21, .int .i64 (w6 (x9l7 + 1)))] ?_
      obtain ⟨h07, h17, h27, hF⟩ := hF
      refine Ok.opYes (j := 4) (d := 16) (want := true) (b := true) rfl (by kernel_rfl) (by kernel_rfl) rfl (OpOk.step (v := sv ((xs.take (Int.toNat (w6 (x9l7 + 1)))).drop (Int.toNat x9l7))) (Yields.sliceStr (s := xs) (l := x9l7) (h := (w6 (x9l7 + 1))) (by kernel_rfl) Tryz.underlying9 (.inl ⟨_, _, rfl, rfl⟩) (.inl ⟨_, _, rfl, rfl⟩) h07 h17 h27 ((xs.take (Int.toNat (w6 (x9l7 + 1)))).drop (Int.toNat x9l7)) rfl) rfl rfl ?_)
      obtain ⟨hp8, hF⟩ := hF
      refine Ok.opYes (j := 4) (d := 16) (want := true) (b := true) rfl (by kernel_rfl) (by kernel_rfl) rfl (OpOk.callG (v := .bool (scontS xmarks ((xs.take (Int.toNat (w6 (x9l7 + 1)))).drop (Int.toNat x9l7)))) enr (fun W hW => scont_c xmarks ((xs.take (Int.toNat (w6 (x9l7 + 1)))).drop (Int.toNat x9l7)) (hG0.mono hW.sees) hp8) rfl ?_)
      refine Ok.bat 1 [0, 1, 6, 8, 9] [(24, .bool (scontS xmarks ((xs.take (Int.toNat (w6 (x9l7 + 1)))).drop (Int.toNat x9l7))))] ?_
      refine Ok.nil (Ok.thenN ?_)
      subst hg5
      refine Ok.reval 24 rfl (show (.bool (scontS xmarks ((xs.take (Int.toNat (w6 (x9l7 + 1)))).drop (Int.toNat x9l7))) : Value) = .bool (rprtV2 xs xmarks x9l7) from congrArg (Value.bool) (mand_t hc6)) ?_
      exact fun a W hA hW => ⟨hA.sub (by kernel_rfl), hW, hF⟩
     ·replace hF := hF.2 hc6
      refine Ok.bat 8 [0, 1, 6, 8, 9] [(24, .bool false)] ?_
      refine Ok.nil (Ok.thenN ?_)
      subst hg5
      refine Ok.reval 24 rfl (show (.bool false : Value) = .bool (rprtV2 xs xmarks x9l7) from congrArg (Value.bool) (mand_f hc6)) ?_
      exact fun a W hA hW => ⟨hA.sub (by kernel_rfl), hW, hF⟩
    ·
     clear hF
     rintro a W ⟨hA, hW, hF⟩
     refine (?_ : Ok _ _ _ _ _ _) a W hA hW
     clear hA hW
     refine Ok.cond (b := (rprtV2 xs xmarks x9l7)) rfl (fun hc2 => ?_) (fun hc2 => ?_)
     ·replace hF := hF.1 hc2
      refine Ok.seq (Ok.quiet' (by kernel_rfl) (by kernel_rfl) (OkQ.bat 2 [0, 6] [(25, sv xs), (26, .int .i64 x9l7)] ?_))
      obtain ⟨h03, h13, h23, hF⟩ := hF
      refine OkQ.op rfl (OpQ.step (v := sv (xs.take (Int.toNat x9l7))) (Yields.sliceStr (s := xs) (l := 0) (h := x9l7) (by kernel_rfl) Tryz.underlying9 (.inr ⟨rfl, rfl⟩) (.inl ⟨_, _, rfl, rfl⟩) h03 h13 h23 (xs.take (Int.toNat x9l7)) (by simp)) rfl rfl (OkQ.batch 2 [(27, sv (xs.take (Int.toNat x9l7))), (28, sv xs), (29, .int .i64 x9l7)] (by kernel_rfl) ?_))
      obtain ⟨h04, h14, h24, hF⟩ := hF
      refine OkQ.op rfl (OpQ.step (v := sv (xs.drop (Int.toNat x9l7))) (Yields.sliceStr (s := xs) (l := x9l7) (h := (xs.length : Int)) (by kernel_rfl) Tryz.underlying9 (.inl ⟨_, _, rfl, rfl⟩) (.inr ⟨rfl, rfl⟩) h04 h14 h24 (xs.drop (Int.toNat x9l7)) (by rw [show ((xs.length : Int)).toNat = xs.length from Int.toNat_natCast _, List.take_length])) rfl rfl (OkQ.batch 2 [(4, sv (xs.take (Int.toNat x9l7))), (5, sv (xs.drop (Int.toNat x9l7)))] (by kernel_rfl) (OkQ.nil (Ok.thenN (Ok.ret (Ok.blockR (Ok.thenR (Ok.thenR (Ok.blockR (Ok.thenR ?_))))))))))
      exact Ok.resH (vs := [sv (xs.take (Int.toNat x9l7)), sv (xs.drop (Int.toNat x9l7))]) (.inl rfl) rfl (.cons (.tmp rfl) (.cons (.tmp rfl) .nil)) (Gext.refl w0 g) ⟨(xs.take (Int.toNat x9l7)), (xs.drop (Int.toNat x9l7)), rfl, rfl, hF⟩
     ·replace hF := hF.2 hc2
      refine Ok.skip (Ok.blockN (Ok.thenN (Ok.region (Ok.bat 2 [0, 1, 8] [(9, .int .i64 (w6 (x9l7 + 1)))] ?_))))
      refine Ok.nil (Ok.thenN ?_)
      exact fun a W hA hW => ⟨k7, Nat.lt_succ_self _, w6 (x9l7 + 1), hA.sub (by kernel_rfl), hW, hF⟩
   ·replace hF := hF.2 hc1
    refine Ok.exit (Ok.thenE (Ok.thenE (Ok.blockHit (Ok.thenN (Ok.seq (Ok.region (Ok.batch 3 [(4, sv xs), (5, sv ([] : Bs))] (by kernel_rfl) (Ok.nil (Ok.thenN (Ok.ret ?_))))))))))
    exact Ok.resH (vs := [sv xs, sv ([] : Bs)]) (.inl rfl) rfl (.cons (.tmp rfl) (.cons (.tmp rfl) .nil)) (Gext.refl w0 g) ⟨xs, ([] : Bs), rfl, rfl, hF⟩
theorem prt_cons (c : UInt8) (l m : Bs) : prtS (c :: l) m = if mk1 m c = true then ([], c :: l) else (c :: (prtS l m).1, (prtS l m).2) := by
 unfold prtS
 rw [List.takeWhile_cons, List.dropWhile_cons]
 cases mk1 m c <;> rfl
theorem prt_len (s m : Bs) : (prtS s m).1.length ≤ s.length ∧ (prtS s m).2.length ≤ s.length := ⟨tw_len _ s, dw_len _ s⟩
theorem rprt_F (s m : Bs) (hp : prtP s m) : rprtF s m (fun a b => (a, b) = prtS s m) := by
 obtain ⟨hp1, hp2⟩ := hp
 have loop : ∀ (k i : Nat), i + k = s.length → prtS s m = (s.take i ++ (prtS (s.drop i) m).1, (prtS (s.drop i) m).2) → rprtl7 s m (fun a b => (a, b) = prtS s m) (k + 1) (i : Int) := by
  intro k
  induction k with
  | zero =>
   intro i h1 he
   rw [List.drop_of_length_le (by omega), List.take_of_length_le (by omega)] at he
   refine ⟨fun h => by have := of_decide_eq_true h; omega, fun _ => ?_⟩
   rw [he]; simp [prtS]
  | succ k ih =>
   intro i h1 he
   have hi : i < s.length := by omega
   have hd := drop_get (l := s) (0 : UInt8) hi
   have hV : rprtV2 s m (i : Int) = mk1 m (s.getD i 0) := by
    unfold rprtV2 mk1
    rw [Int.toNat_natCast, w64 (by omega), show ((i : Int) + 1).toNat = i + 1 by omega, take_snoc hi, List.drop_append_of_le_length (by rw [List.length_take]; omega), List.drop_of_length_le (by rw [List.length_take]; omega)]
    rfl
   have j18 : rprtj18 s m (fun a b => (a, b) = prtS s m) (i : Int) (rprtl7 s m (fun a b => (a, b) = prtS s m) (k + 1)) := by
    refine ⟨fun h => ⟨by omega, by omega, by omega, by omega, by omega, by omega, ?_⟩, fun h => ?_⟩
    ·rw [hV] at h
     rw [he, hd, prt_cons, if_t h, ← hd, Int.toNat_natCast, List.append_nil]
    ·rw [hV] at h
     rw [w64 (by omega)]
     refine ih (i + 1) (by omega) ?_
     rw [he, hd, take_snoc hi, prt_cons, if_f h, List.append_assoc]
     rfl
   refine ⟨fun _ => ⟨by omega, by rw [Int.toNat_natCast]; omega, fun _ => ⟨by omega, by rw [w64 (by omega)]; omega, by rw [w64 (by omega)]; omega, by unfold scontP; omega, j18⟩, fun _ => j18⟩, fun h => by have := of_decide_eq_false h; omega⟩
 exact ⟨_, loop s.length 0 (by omega) (by simp)⟩
theorem rprt_c {g : Ghost} (xs : Bs) (xmarks : Bs) (hG0 : SomeInt g 0)  (hp : prtP xs xmarks) : CallsG Tryz.prog 29 #[sv xs, sv xmarks] g (.tuple #[sv ((prtS xs xmarks).1), sv ((prtS xs xmarks).2)]) :=
 (rprt_ok xs xmarks hG0 _ (rprt_F xs xmarks hp)).gives (by rintro g' H' v _ ⟨r0, r1, rfl, rfl, hK⟩; obtain ⟨rfl, rfl⟩ : r0 = (prtS xs xmarks).1 ∧ r1 = (prtS xs xmarks).2 := ⟨congrArg (fun z => z.1) hK, congrArg (fun z => z.2) hK⟩; rfl)
/-! lower -/
def rlowV2 (x10l9 : Int) (yownb1_0l9 : List (Int)) : List (Int) :=
 (if (rbetM (w6 (yownb1_0l9.getD (Int.toNat x10l9) default)) 65 90) = true then (yownb1_0l9.set (Int.toNat x10l9) (IntKind.wrap .u8 ((yownb1_0l9.getD (Int.toNat x10l9) default) + 32))) else yownb1_0l9)
def rlowj16 (x10l9 : Int) (yownb1_0l9 : List (Int)) (C9 : Int → (List (Int)) → Prop) : Prop :=
 C9 (w6 (x10l9 + 1)) (rlowV2 x10l9 yownb1_0l9)
def rlowl9b (xs : Bs) (K : Bs → Prop) (x10l9 : Int) (yownb1_0l9 : List (Int)) (C9 : Int → (List (Int)) → Prop) : Prop :=
 ((decide (x10l9 < ((intsOf xs).length : Int))) = true → (0 : Int) ≤ x10l9 ∧ Int.toNat x10l9 < yownb1_0l9.length ∧ (((rbetM (w6 (yownb1_0l9.getD (Int.toNat x10l9) default)) 65 90)) = true → rlowj16 x10l9 yownb1_0l9 C9) ∧ (((rbetM (w6 (yownb1_0l9.getD (Int.toNat x10l9) default)) 65 90)) = false → rlowj16 x10l9 yownb1_0l9 C9)) ∧ ((decide (x10l9 < ((intsOf xs).length : Int))) = false → K (bytesOf yownb1_0l9))
def rlowl9 (xs : Bs) (K : Bs → Prop) : Nat → Int → (List (Int)) → Prop
 | 0, _, _ => False
 | k + 1, x10l9, yownb1_0l9 => rlowl9b xs K x10l9 yownb1_0l9 (rlowl9 xs K k)
def rlowF (xs : Bs) (K : Bs → Prop) : Prop :=
 ∃ k, rlowl9 xs K k 0 (intsOf xs)
theorem rlow_ok {g : Ghost} (xs : Bs) (K : Bs → Prop)
  (hF : rlowF xs K) : CallsH Tryz.prog 30 #[sv xs] g [] (fun g' H' v => ∃ (r0 : Bs), v = sv r0 ∧ H' = [] ∧ K r0) := by
 refine CallsH.enter 26 [(0, sv xs)] Tryz.func30 rfl (by kernel_rfl) (by kernel_rfl) (by kernel_rfl) fun w0 => ?_
 refine Ok.seq (Ok.region (Ok.batch 1 [(0, sv xs)] (by kernel_rfl) (Ok.nil (Ok.thenN (Ok.seq (Ok.region (Ok.batch 1 [(6, sv xs)] (by kernel_rfl) (Ok.op rfl (OpOk.bytesB (s := xs) (by kernel_rfl) Tryz.underlying9 Tryz.underlying74 Tryz.underlying5 rfl fun a1 c1 xs1 hL1 => ?_)))))))))
 refine Ok.batch 1 [(3, .slice a1 (intsOf xs).length c1)] (by kernel_rfl) (Ok.nil (Ok.thenN (Ok.seq (Ok.seq (Ok.region (Ok.bat 3 [3] [(8, .slice a1 (intsOf xs).length c1), (9, .int .i64 ((intsOf xs).length : Int)), (10, .int .i64 0)] ?_))))))
 refine Ok.nil (Ok.thenN (Ok.block ?_))
 obtain ⟨k, hF⟩ := hF
 refine Ok.loop (fun k a W => ∃ gl9 : Ghost, Gext w0 g gl9 ∧ ∃ (x10l9 : Int) (ayownb1_0l9 : Option Addr) (cyownb1_0l9 : Nat) (yownb1_0l9 : List (Int)) (xsyownb1_0l9 : List Value), RepL gl9 (.int .u8) xsyownb1_0l9 yownb1_0l9 ∧ StA 26 [(3, .slice ayownb1_0l9 yownb1_0l9.length cyownb1_0l9), (8, .slice ayownb1_0l9 yownb1_0l9.length cyownb1_0l9), (9, .int .i64 ((intsOf xs).length : Int)), (10, .int .i64 x10l9)] a ∧ StW w0 [.ownb (.slice ayownb1_0l9 yownb1_0l9.length cyownb1_0l9) 5 yownb1_0l9.length xsyownb1_0l9] gl9 W ∧ rlowl9 xs K k x10l9 yownb1_0l9) k ?_ ?_
 ·
  exact fun a W hA hW => ⟨g, (Gext.refl w0 g), 0, a1, c1, (intsOf xs), xs1, hL1, hA.sub (by kernel_rfl), hW, hF⟩
 ·
  clear hF
  rintro k9 a W ⟨gl9, hxl9, x10l9, ayownb1_0l9, cyownb1_0l9, yownb1_0l9, xsyownb1_0l9, hLyownb1_0l9, hA, hW, hF⟩
  cases k9 with
  | zero => exact (hF : False).elim
  | succ k9 =>
   refine (?_ : Ok _ _ _ _ _ _) a W hA hW
   clear hA hW
   refine Ok.seq (Ok.region (Ok.bat 1 [3, 8, 9, 10] [(11, .bool (decide (x10l9 < ((intsOf xs).length : Int))))] ?_))
   refine Ok.nil (Ok.thenN (Ok.seq (Ok.cond (b := decide (x10l9 < ((intsOf xs).length : Int))) rfl (fun hc2 => ?_) (fun hc2 => ?_))))
   ·replace hF := hF.1 hc2
    refine Ok.skip (Ok.thenN (Ok.cut (fun a W => ∃ gj16 : Ghost, Gext w0 gl9 gj16 ∧ ∃ (ayownb1_0j16 : Option Addr) (cyownb1_0j16 : Nat) (xsyownb1_0j16 : List Value), RepL gj16 (.int .u8) xsyownb1_0j16 (rlowV2 x10l9 yownb1_0l9) ∧ StA 26 [(3, .slice ayownb1_0j16 (rlowV2 x10l9 yownb1_0l9).length cyownb1_0j16), (8, .slice ayownb1_0j16 (rlowV2 x10l9 yownb1_0l9).length cyownb1_0j16), (9, .int .i64 ((intsOf xs).length : Int)), (10, .int .i64 x10l9)] a ∧ StW w0 [.ownb (.slice ayownb1_0j16 (rlowV2 x10l9 yownb1_0l9).length cyownb1_0j16) 5 (rlowV2 x10l9 yownb1_0l9).length xsyownb1_0j16] gj16 W ∧ rlowj16 x10l9 yownb1_0l9 (rlowl9 xs K k9)) ?_ ?_))
    ·
     refine Ok.block (Ok.seq (Ok.region (Ok.bat 1 [3, 8, 9, 10] [(12, .int .i64 x10l9)] ?_)))
     obtain ⟨h04, h14, hF⟩ := hF
     have he4 := get_of (l := yownb1_0l9) (default : Int) h14
     generalize hg4 : (yownb1_0l9.getD (Int.toNat x10l9) default) = e4 at he4 hF ⊢
     refine Ok.op rfl (OpOk.indexB (q := x10l9) (el := e4) 0 rfl hLyownb1_0l9 rfl rfl Tryz.underlying74 (by kernel_rfl) h04 he4 rfl fun hc3 => ?_)
     refine Ok.op rfl (OpOk.step (v := .int .u8 e4) (Yields.loadB 0 0 rfl hc3 rfl Tryz.underlying5 rfl (by kernel_rfl)) rfl rfl (Ok.bat 2 [3, 8, 9, 10] [(4, .int .i64 x10l9), (5, .int .u8 e4)] ?_))
     refine Ok.nil (Ok.thenN (Ok.seq (Ok.region (Ok.bat 2 [3, 4, 5, 8, 9, 10] [(16, .int .i64 (w6 e4))] ?_))))
     refine Ok.op rfl (OpOk.callG (v := .bool (rbetM (w6 e4) 65 90)) enr (fun W hW => rbet_c (w6 e4) 65 90) rfl ?_)
     refine Ok.nil (Ok.thenN (Ok.cond (b := (rbetM (w6 e4) 65 90)) rfl (fun hc5 => ?_) (fun hc5 => ?_)))
     ·replace hF := hF.1 hc5
      refine Ok.region (Ok.bat 4 [3, 8, 9, 10] [(18, .slice ayownb1_0l9 yownb1_0l9.length cyownb1_0l9), (19, .int .i64 x10l9), (21, .int .u8 (IntKind.wrap .u8 (e4 + 32)))] ?_)
      refine Ok.op rfl (OpOk.indexB (q := x10l9) (el := e4) 0 rfl hLyownb1_0l9 rfl rfl Tryz.underlying74 (by kernel_rfl) h04 he4 rfl fun hc6 => ?_)
      refine Ok.op rfl (OpOk.storeB (q := Int.toNat x10l9) (el' := IntKind.wrap .u8 (e4 + 32)) 0 rfl hLyownb1_0l9 hc6 rfl rfl (by kernel_rfl) fun xs7 hL7 => ?_)
      rw [show yownb1_0l9.length = (yownb1_0l9.set (Int.toNat x10l9) (IntKind.wrap .u8 (e4 + 32))).length from (List.length_set ..).symm]
      refine Ok.nil (Ok.blockN (Ok.thenN ?_))
      subst hg4
      refine Ok.reval 3 rfl (show (.slice ayownb1_0l9 (yownb1_0l9.set (Int.toNat x10l9) (IntKind.wrap .u8 ((yownb1_0l9.getD (Int.toNat x10l9) default) + 32))).length cyownb1_0l9 : Value) = .slice ayownb1_0l9 (rlowV2 x10l9 yownb1_0l9).length cyownb1_0l9 from congrArg (fun l : List (Int) => Value.slice ayownb1_0l9 l.length cyownb1_0l9) ((if_t hc5).symm)) ?_
      refine Ok.reval 8 rfl (show (.slice ayownb1_0l9 (yownb1_0l9.set (Int.toNat x10l9) (IntKind.wrap .u8 ((yownb1_0l9.getD (Int.toNat x10l9) default) + 32))).length cyownb1_0l9 : Value) = .slice ayownb1_0l9 (rlowV2 x10l9 yownb1_0l9).length cyownb1_0l9 from congrArg (fun l : List (Int) => Value.slice ayownb1_0l9 l.length cyownb1_0l9) ((if_t hc5).symm)) ?_
      refine Ok.heapEq (H' := [.ownb (.slice ayownb1_0l9 (rlowV2 x10l9 yownb1_0l9).length cyownb1_0l9) 5 (rlowV2 x10l9 yownb1_0l9).length xs7]) (econs (congrArg (fun l : List (Int) => Ent.ownb (.slice ayownb1_0l9 l.length cyownb1_0l9) 5  l.length xs7) ((if_t hc5).symm)) rfl) ?_
      exact fun a W hA hW => ⟨gl9, (Gext.refl w0 gl9), ayownb1_0l9, cyownb1_0l9, xs7, (Eq.mp (congrArg (fun l : List (Int) => RepL gl9 (.int .u8) xs7 l) ((if_t hc5).symm)) hL7), hA.sub (by kernel_rfl), hW, hF⟩
     ·replace hF := hF.2 hc5
      refine Ok.skip (Ok.blockN (Ok.thenN ?_))
      subst hg4
      refine Ok.reval 3 rfl (show (.slice ayownb1_0l9 yownb1_0l9.length cyownb1_0l9 : Value) = .slice ayownb1_0l9 (rlowV2 x10l9 yownb1_0l9).length cyownb1_0l9 from congrArg (fun l : List (Int) => Value.slice ayownb1_0l9 l.length cyownb1_0l9) ((if_f hc5).symm)) ?_
      refine Ok.reval 8 rfl (show (.slice ayownb1_0l9 yownb1_0l9.length cyownb1_0l9 : Value) = .slice ayownb1_0l9 (rlowV2 x10l9 yownb1_0l9).length cyownb1_0l9 from congrArg (fun l : List (Int) => Value.slice ayownb1_0l9 l.length cyownb1_0l9) ((if_f hc5).symm)) ?_
      refine Ok.heapEq (H' := [.ownb (.slice ayownb1_0l9 (rlowV2 x10l9 yownb1_0l9).length cyownb1_0l9) 5 (rlowV2 x10l9 yownb1_0l9).length xsyownb1_0l9]) (econs (congrArg (fun l : List (Int) => Ent.ownb (.slice ayownb1_0l9 l.length cyownb1_0l9) 5  l.length xsyownb1_0l9) ((if_f hc5).symm)) rfl) ?_
      exact fun a W hA hW => ⟨gl9, (Gext.refl w0 gl9), ayownb1_0l9, cyownb1_0l9, xsyownb1_0l9, (Eq.mp (congrArg (fun l : List (Int) => RepL gl9 (.int .u8) xsyownb1_0l9 l) ((if_f hc5).symm)) hLyownb1_0l9), hA.sub (by kernel_rfl), hW, hF⟩
    ·
     clear hF
     rintro a W ⟨gj16, hxj16, ayownb1_0j16, cyownb1_0j16, xsyownb1_0j16, hLyownb1_0j16, hA, hW, hF⟩
     refine (?_ : Ok _ _ _ _ _ _) a W hA hW
     clear hA hW
     refine Ok.region (Ok.bat 2 [3, 8, 9] [(10, .int .i64 (w6 (x10l9 + 1)))] ?_)
     refine Ok.nil (Ok.thenN ?_)
     exact fun a W hA hW => ⟨k9, Nat.lt_succ_self _, gj16, (hxl9.trans hxj16), w6 (x10l9 + 1), ayownb1_0j16, cyownb1_0j16, (rlowV2 x10l9 yownb1_0l9), xsyownb1_0j16, hLyownb1_0j16, hA.sub (by kernel_rfl), hW, hF⟩
   ·replace hF := hF.2 hc2
    refine Ok.exit (Ok.thenE (Ok.thenE (Ok.blockHit (Ok.thenN (Ok.seq (Ok.region (Ok.batch 1 [(24, .slice ayownb1_0l9 yownb1_0l9.length cyownb1_0l9)] (by kernel_rfl) (Ok.op rfl (OpOk.step (v := sv (bytesOf yownb1_0l9)) (Yields.strOfB 0 (by kernel_rfl) rfl rfl hLyownb1_0l9 Tryz.underlying74 Tryz.underlying9 Tryz.underlying5) rfl rfl (Ok.batch 1 [(2, sv (bytesOf yownb1_0l9))] (by kernel_rfl) (Ok.nil (Ok.thenN (Ok.ret ?_)))))))))))))
    exact Ok.resP (vs := [sv (bytesOf yownb1_0l9)]) [] [] (by decide) rfl (.inl rfl) rfl (.cons (.tmp rfl) .nil) hxl9 ⟨(bytesOf yownb1_0l9), rfl, rfl, hF⟩
theorem low_wrap (b : UInt8) : (if rbetM (w6 (b.toNat : Int)) 65 90 = true then IntKind.wrap .u8 ((b.toNat : Int) + 32) else (b.toNat : Int)) = ((lowC b).toNat : Int) := by
 have := byte_all (p := fun b => decide ((if rbetM (w6 (b.toNat : Int)) 65 90 = true then IntKind.wrap .u8 ((b.toNat : Int) + 32) else (b.toNat : Int)) = ((lowC b).toNat : Int))) (by decide +kernel) b
 exact of_decide_eq_true this
theorem rlow_F (s : Bs) (hp : smP s) : rlowF s (fun r => r = lowS s) := by
 unfold smP at hp
 have hil : (intsOf s).length = s.length := intsOf_length s
 have loop : ∀ (k i : Nat), i + k = s.length → rlowl9 s (fun r => r = lowS s) (k + 1) (i : Int) (intsOf ((s.take i).map lowC ++ s.drop i)) := by
  intro k
  induction k with
  | zero =>
   intro i h1
   refine ⟨fun h => by have := of_decide_eq_true h; omega, fun _ => ?_⟩
   rw [List.drop_of_length_le (by omega), List.take_of_length_le (by omega), List.append_nil, bytesOf_intsOf]
   rfl
  | succ k ih =>
   intro i h1
   have hi : i < s.length := by omega
   have hlm : ((s.take i).map lowC).length = i := by rw [List.length_map, List.length_take]; omega
   have hd := drop_get (l := s) (0 : UInt8) hi
   have hg : (intsOf ((s.take i).map lowC ++ s.drop i)).getD i default = ((s.getD i 0).toNat : Int) := by
    rw [ints_getD _ i (by rw [List.length_append, hlm, List.length_drop]; omega), List.getD_eq_getElem?_getD, List.getElem?_append_right (by omega), hlm, Nat.sub_self, hd]
    rfl
   have hset : ∀ x : UInt8, (intsOf ((s.take i).map lowC ++ s.drop i)).set i (x.toNat : Int) = intsOf ((s.take i).map lowC ++ x :: s.drop (i + 1)) := fun x => by
    rw [hd]
    unfold intsOf
    rw [List.map_append, List.set_append_right _ _ (by rw [List.length_map, hlm]; omega), List.length_map, hlm, Nat.sub_self, List.map_append]
    rfl
   have hstep : rlowV2 (i : Int) (intsOf ((s.take i).map lowC ++ s.drop i)) = intsOf ((s.take (i + 1)).map lowC ++ s.drop (i + 1)) := by
    have hw := low_wrap (s.getD i 0)
    have e1 : (s.take (i + 1)).map lowC ++ s.drop (i + 1) = (s.take i).map lowC ++ lowC (s.getD i 0) :: s.drop (i + 1) := by
     rw [take_snoc hi, List.map_append, List.append_assoc]; rfl
    rw [e1, ← hset]
    unfold rlowV2
    rw [Int.toNat_natCast, hg, ← hw]
    show (if rbetM (w6 ((s.getD i 0).toNat : Int)) 65 90 = true then _ else _) = _
    split
    ·rfl
    ·have := hset (s.getD i 0)
     rw [this, ← hd]
   have j16 : rlowj16 (i : Int) (intsOf ((s.take i).map lowC ++ s.drop i)) (rlowl9 s (fun r => r = lowS s) (k + 1)) := by
    unfold rlowj16
    rw [hstep, w64 (by omega)]
    exact ih (i + 1) (by omega)
   refine ⟨fun _ => ⟨by omega, ?_, fun _ => j16, fun _ => j16⟩, fun h => by have := of_decide_eq_false h; omega⟩
   rw [Int.toNat_natCast, intsOf_length, List.length_append, hlm, List.length_drop]; omega
 exact ⟨_, by have := loop s.length 0 (by omega); simpa using this⟩
theorem rlow_c {g : Ghost} (xs : Bs)  (hp : smP xs) : CallsG Tryz.prog 30 #[sv xs] g (sv (lowS xs)) :=
 (rlow_ok xs _ (rlow_F xs hp)).gives (by rintro g' H' v _ ⟨r0, rfl, rfl, hK⟩; subst hK; rfl)
end Go.Proofs.YtdjcgbejnpbjlaaGreatDoor.Ub
