/- Addresses: Encode, Decode, units. -/
import Derived.Test.YtdjcgbejnpbjlaaGreatDoorSpl
import Derived.Test.YtdjcgbejnpbjlaaGreatDoorTri
import Derived.Test.YtdjcgbejnpbjlaaGreatDoorBlc
import Derived.Test.YtdjcgbejnpbjlaaGreatDoorMor
import Derived.Test.YtdjcgbejnpbjlaaGreatDoorUp
namespace Go.Proofs.YtdjcgbejnpbjlaaGreatDoor.Uc
open Go Go.Eng Go.RowKit Bld Sp Ti
set_option maxHeartbeats 4000000
set_option maxRecDepth 100000
set_option linter.unusedSimpArgs false
set_option linter.unusedVariables false
def lowrS (s : Bs) : Bs := Lib.toLowerA s
def lowrP (s : Bs) : Prop := s.length ≤ 140737488355328 ∧ (s.all fun x => decide (x.toNat < 128)) = true
theorem lowr_c {g : Ghost} (s : Bs) (hp : lowrP s) : CallsG Tryz.prog 100 #[sv s] g (sv (lowrS s)) := fun W hW =>
 (Tryz.strings_ToLower_ascii ⟨⟨s⟩⟩ W hp.1 (fun j b h => by
  have := List.all_eq_true.1 hp.2 b (List.mem_of_getElem? h)
  simpa using this)).mono fun e W' ⟨he, hw⟩ => ⟨he, hw⟩
def uinF (xc : Int) (xset : Bs) (K : Bool → Prop) : Prop :=
 K (decide ((ibS xset xc) ≥ 0))
theorem uin_ok {g : Ghost} (xc : Int) (xset : Bs) (K : Bool → Prop)
  (hF : uinF xc xset K) : CallsH Tryz.prog 56 #[.int .u8 xc, sv xset] g [] (fun g' H' v => ∃ (r0 : Bool), v = .bool r0 ∧ H' = [] ∧ K r0) := by
 refine CallsH.enter 9 [(0, .int .u8 xc), (1, sv xset)] Tryz.func56 rfl (by kernel_rfl) (by kernel_rfl) (by kernel_rfl) fun w0 => ?_
 refine Ok.seq (Ok.region (Ok.batch 1 [(0, .int .u8 xc), (1, sv xset)] (by kernel_rfl) (Ok.nil (Ok.thenN (Ok.seq (Ok.region (Ok.batch 2 [(5, sv xset), (6, .int .u8 xc)] (by kernel_rfl) (Ok.op rfl (OpOk.callG (v := .int .i64 (ibS xset xc)) enr (fun W hW => ib_c xset xc) rfl ?_)))))))))
 refine Ok.batch 2 [(4, .bool (decide ((ibS xset xc) ≥ 0)))] (by kernel_rfl) (Ok.nil (Ok.thenN (Ok.ret ?_)))
 exact Ok.resH (vs := [.bool (decide ((ibS xset xc) ≥ 0))]) (.inl rfl) rfl (.cons (.tmp rfl) .nil) (Gext.refl w0 g) ⟨(decide ((ibS xset xc) ≥ 0)), rfl, rfl, hF⟩
def uinM (xc : Int) (xset : Bs) : Bool := (decide ((ibS xset xc) ≥ 0))
theorem uinF_A (xc : Int) (xset : Bs) (P : Bool → Prop) (h : P (uinM xc xset)) : uinF xc xset (fun k0 => P k0) := by
 unfold uinM at h
 unfold uinF
 exact h
theorem uin_F (xc : Int) (xset : Bs) : uinF xc xset (fun k0 => k0 = uinM xc xset) :=
 uinF_A xc xset (fun z => z = uinM xc xset) rfl
theorem uin_c {g : Ghost} (xc : Int) (xset : Bs)  : CallsG Tryz.prog 56 #[.int .u8 xc, sv xset] g (.bool (uinM xc xset)) :=
 (uin_ok xc xset _ (uin_F xc xset)).gives (by rintro g' H' v _ ⟨r0, rfl, rfl, hK⟩; subst hK; rfl)
def uletF (xc : Int) (K : Bool → Prop) : Prop :=
 K (((decide (xc ≥ 97)) && (decide (xc ≤ 122))) || ((decide (xc ≥ 65)) && (decide (xc ≤ 90))))
theorem ulet_ok {g : Ghost} (xc : Int) (K : Bool → Prop)
  (hF : uletF xc K) : CallsH Tryz.prog 55 #[.int .u8 xc] g [] (fun g' H' v => ∃ (r0 : Bool), v = .bool r0 ∧ H' = [] ∧ K r0) := by
 refine CallsH.enter 17 [(0, .int .u8 xc)] Tryz.func55 rfl (by kernel_rfl) (by kernel_rfl) (by kernel_rfl) fun w0 => ?_
 refine Ok.seq (Ok.region (Ok.batch 1 [(0, .int .u8 xc)] (by kernel_rfl) (Ok.nil (Ok.thenN (Ok.seq (Ok.region (Ok.bat 3 [0] [(5, .bool (decide (xc ≥ 97)))] ?_)))))))
 refine Ok.midway 3 [(0, .int .u8 xc), (8, .bool ((decide (xc ≥ 97)) && (decide (xc ≤ 122))))] (fun hR1 => ?_) ?_
 ·refine Ok.boolAt 5 (decide (xc ≥ 97)) rfl (fun hc2 => ?_) (fun hc2 => ?_)
  ·skip
   refine Ok.bat 3 [0] [(8, .bool (decide (xc ≤ 122)))] ?_
   refine Ok.reval 8 rfl (show (.bool (decide (xc ≤ 122)) : Value) = .bool ((decide (xc ≥ 97)) && (decide (xc ≤ 122))) from congrArg Value.bool (mand_t hc2)) (Ok.bat 0 [0] [(8, .bool ((decide (xc ≥ 97)) && (decide (xc ≤ 122))))] ?_)
   exact hR1
  ·skip
   refine Ok.bat 3 [0] [(8, .bool false)] ?_
   refine Ok.reval 8 rfl (show (.bool false : Value) = .bool ((decide (xc ≥ 97)) && (decide (xc ≤ 122))) from congrArg Value.bool (mand_f hc2)) (Ok.bat 0 [0] [(8, .bool ((decide (xc ≥ 97)) && (decide (xc ≤ 122))))] ?_)
   exact hR1
 refine Ok.bat 1 [0] [(9, .bool ((decide (xc ≥ 97)) && (decide (xc ≤ 122))))] ?_
 refine Ok.midway 7 [(16, .bool (((decide (xc ≥ 97)) && (decide (xc ≤ 122))) || ((decide (xc ≥ 65)) && (decide (xc ≤ 90)))))] (fun hR3 => ?_) ?_
 ·refine Ok.boolAt 9 (((decide (xc ≥ 97)) && (decide (xc ≤ 122)))) rfl (fun hc4 => ?_) (fun hc4 => ?_)
  ·skip
   refine Ok.batch 7 [(16, .bool true)] (by kernel_rfl) (Ok.reval 16 rfl (show (.bool true : Value) = .bool (((decide (xc ≥ 97)) && (decide (xc ≤ 122))) || ((decide (xc ≥ 65)) && (decide (xc ≤ 90)))) from congrArg Value.bool (mor_t hc4)) (Ok.batch 0 [(16, .bool (((decide (xc ≥ 97)) && (decide (xc ≤ 122))) || ((decide (xc ≥ 65)) && (decide (xc ≤ 90)))))] (by kernel_rfl) ?_))
   exact hR3
  ·skip
   refine Ok.bat 3 [0] [(9, .bool false), (12, .bool (decide (xc ≥ 65)))] ?_
   refine Ok.midway 3 [(9, .bool false), (15, .bool ((decide (xc ≥ 65)) && (decide (xc ≤ 90))))] (fun hR5 => ?_) ?_
   ·refine Ok.boolAt 12 (decide (xc ≥ 65)) rfl (fun hc6 => ?_) (fun hc6 => ?_)
    ·skip
     refine Ok.bat 3 [9] [(15, .bool (decide (xc ≤ 90)))] ?_
     refine Ok.reval 15 rfl (show (.bool (decide (xc ≤ 90)) : Value) = .bool ((decide (xc ≥ 65)) && (decide (xc ≤ 90))) from congrArg Value.bool (mand_t hc6)) (Ok.bat 0 [9] [(15, .bool ((decide (xc ≥ 65)) && (decide (xc ≤ 90))))] ?_)
     exact hR5
    ·skip
     refine Ok.bat 3 [9] [(15, .bool false)] ?_
     refine Ok.reval 15 rfl (show (.bool false : Value) = .bool ((decide (xc ≥ 65)) && (decide (xc ≤ 90))) from congrArg Value.bool (mand_f hc6)) (Ok.bat 0 [9] [(15, .bool ((decide (xc ≥ 65)) && (decide (xc ≤ 90))))] ?_)
     exact hR5
   refine Ok.batch 1 [(16, .bool ((decide (xc ≥ 65)) && (decide (xc ≤ 90))))] (by kernel_rfl) (Ok.reval 16 rfl (show (.bool ((decide (xc ≥ 65)) && (decide (xc ≤ 90))) : Value) = .bool (((decide (xc ≥ 97)) && (decide (xc ≤ 122))) || ((decide (xc ≥ 65)) && (decide (xc ≤ 90)))) from congrArg Value.bool (mor_f hc4)) (Ok.batch 0 [(16, .bool (((decide (xc ≥ 97)) && (decide (xc ≤ 122))) || ((decide (xc ≥ 65)) && (decide (xc ≤ 90)))))] (by kernel_rfl) ?_))
   exact hR3
 refine Ok.batch 1 [(2, .bool (((decide (xc ≥ 97)) && (decide (xc ≤ 122))) || ((decide (xc ≥ 65)) && (decide (xc ≤ 90)))))] (by kernel_rfl) (Ok.nil (Ok.thenN (Ok.ret ?_)))
 exact Ok.resH (vs := [.bool (((decide (xc ≥ 97)) && (decide (xc ≤ 122))) || ((decide (xc ≥ 65)) && (decide (xc ≤ 90))))]) (.inl rfl) rfl (.cons (.tmp rfl) .nil) (Gext.refl w0 g) ⟨(((decide (xc ≥ 97)) && (decide (xc ≤ 122))) || ((decide (xc ≥ 65)) && (decide (xc ≤ 90)))), rfl, rfl, hF⟩
def uletM (xc : Int) : Bool := (((decide (xc ≥ 97)) && (decide (xc ≤ 122))) || ((decide (xc ≥ 65)) && (decide (xc ≤ 90))))
theorem uletF_A (xc : Int) (P : Bool → Prop) (h : P (uletM xc)) : uletF xc (fun k0 => P k0) := by
 unfold uletM at h
 unfold uletF
 exact h
theorem ulet_F (xc : Int) : uletF xc (fun k0 => k0 = uletM xc) :=
 uletF_A xc (fun z => z = uletM xc) rfl
theorem ulet_c {g : Ghost} (xc : Int)  : CallsG Tryz.prog 55 #[.int .u8 xc] g (.bool (uletM xc)) :=
 (ulet_ok xc _ (ulet_F xc)).gives (by rintro g' H' v _ ⟨r0, rfl, rfl, hK⟩; subst hK; rfl)
def uplainV0 (xc : Int) : Bool :=
 ((uletM xc) || (uinM xc ([48, 49, 50, 51, 52, 53, 54, 55, 56, 57, 45, 46, 95, 126] : Bs)))
def uplainj3 (xc : Int) (K : Bool → Prop) : Prop :=
 K (uplainV0 xc)
def uplainF (xc : Int) (K : Bool → Prop) : Prop :=
 (((uletM xc)) = true → uplainj3 xc K) ∧ (((uletM xc)) = false → uplainj3 xc K)
theorem uplain_ok {g : Ghost} (xc : Int) (K : Bool → Prop)
  (hF : uplainF xc K) : CallsH Tryz.prog 92 #[.int .u8 xc] g [] (fun g' H' v => ∃ (r0 : Bool), v = .bool r0 ∧ H' = [] ∧ K r0) := by
 refine CallsH.enter 9 [(0, .int .u8 xc)] Tryz.func92 rfl (by kernel_rfl) (by kernel_rfl) (by kernel_rfl) fun w0 => ?_
 refine Ok.seq (Ok.region (Ok.batch 1 [(0, .int .u8 xc)] (by kernel_rfl) (Ok.nil (Ok.thenN (Ok.cut (fun a W => StA 9 [(2, .bool (uplainV0 xc))] a ∧ StW w0 [] g W ∧ uplainj3 xc K) ?_ ?_)))))
 ·
  refine Ok.region (Ok.bat 1 [0] [(3, .int .u8 xc)] ?_)
  refine Ok.op rfl (OpOk.callG (v := .bool (uletM xc)) enr (fun W hW => ulet_c xc) rfl ?_)
  refine Ok.bat 1 [0] [(5, .bool (uletM xc))] ?_
  refine Ok.boolAt 5 ((uletM xc)) rfl (fun hc1 => ?_) (fun hc1 => ?_)
  ·replace hF := hF.1 hc1
   refine Ok.batch 4 [(2, .bool true)] (by kernel_rfl) (Ok.nil (Ok.thenN (Ok.reval 2 rfl (show (.bool true : Value) = .bool (uplainV0 xc) from congrArg (Value.bool) (mor_t hc1)) ?_)))
   exact fun a W hA hW => ⟨hA.sub (by kernel_rfl), hW, hF⟩
  ·replace hF := hF.2 hc1
   refine Ok.batch 1 [(5, .bool false), (6, .int .u8 xc)] (by kernel_rfl) (Ok.opYes (j := 2) (d := 5) (want := false) (b := false) rfl (by kernel_rfl) (by kernel_rfl) rfl (OpOk.callG (v := .bool (uinM xc ([48, 49, 50, 51, 52, 53, 54, 55, 56, 57, 45, 46, 95, 126] : Bs))) enr (fun W hW => uin_c xc ([48, 49, 50, 51, 52, 53, 54, 55, 56, 57, 45, 46, 95, 126] : Bs)) rfl ?_))
   refine Ok.batch 2 [(2, .bool (uinM xc ([48, 49, 50, 51, 52, 53, 54, 55, 56, 57, 45, 46, 95, 126] : Bs)))] (by kernel_rfl) (Ok.nil (Ok.thenN (Ok.reval 2 rfl (show (.bool (uinM xc ([48, 49, 50, 51, 52, 53, 54, 55, 56, 57, 45, 46, 95, 126] : Bs)) : Value) = .bool (uplainV0 xc) from congrArg (Value.bool) (mor_f hc1)) ?_)))
   exact fun a W hA hW => ⟨hA.sub (by kernel_rfl), hW, hF⟩
 ·
  clear hF
  rintro a W ⟨hA, hW, hF⟩
  refine (?_ : Ok _ _ _ _ _ _) a W hA hW
  clear hA hW
  refine Ok.ret ?_
  exact Ok.resH (vs := [.bool (uplainV0 xc)]) (.inl rfl) rfl (.cons (.tmp rfl) .nil) (Gext.refl w0 g) ⟨(uplainV0 xc), rfl, rfl, hF⟩
def uplainj3M (xc : Int) : Bool := (uplainV0 xc)
theorem uplainj3_A (xc : Int) (P : Bool → Prop) (h : P (uplainj3M xc)) : uplainj3 xc (fun k0 => P k0) := by
 unfold uplainj3M at h
 unfold uplainj3
 exact h
def uplainM (xc : Int) : Bool := (uplainj3M xc)
theorem uplainF_A (xc : Int) (P : Bool → Prop) (h : P (uplainM xc)) : uplainF xc (fun k0 => P k0) := by
 unfold uplainM at h
 unfold uplainF
 refine ⟨fun hc0 => ?_, fun hc0 => ?_⟩
 ·skip
  exact uplainj3_A xc _ h
 ·skip
  exact uplainj3_A xc _ h
theorem uplain_F (xc : Int) : uplainF xc (fun k0 => k0 = uplainM xc) :=
 uplainF_A xc (fun z => z = uplainM xc) rfl
theorem uplain_c {g : Ghost} (xc : Int)  : CallsG Tryz.prog 92 #[.int .u8 xc] g (.bool (uplainM xc)) :=
 (uplain_ok xc _ (uplain_F xc)).gives (by rintro g' H' v _ ⟨r0, rfl, rfl, hK⟩; subst hK; rfl)
def byteP (c : Int) : Prop := 0 ≤ c ∧ c ≤ 255
theorem of_byte {c : Int} (h : byteP c) : ∃ b : UInt8, c = (b.toNat : Int) := by
 unfold byteP at h
 refine ⟨UInt8.ofNat c.toNat, ?_⟩
 rw [UInt8.toNat_ofNat']
 omega
theorem byte_all {p : UInt8 → Bool} (h : (List.range 256).all (fun n => p (UInt8.ofNat n)) = true) (c : UInt8) : p c = true := by
 have h1 := List.all_eq_true.1 h c.toNat (by simpa using c.toNat_lt)
 simpa using h1
def hexC (n : Nat) : UInt8 := ([48, 49, 50, 51, 52, 53, 54, 55, 56, 57, 65, 66, 67, 68, 69, 70] : Bs).getD n 0
def utripS (c : Int) : Bs := [37, hexC (c.toNat / 16), hexC (c.toNat % 16)]
def utripF (xc : Int) (K : Bs → Prop) : Prop :=
 (0 : Int) ≤ (Int.fdiv xc (2 ^ 4)) ∧ ((Int.fdiv xc (2 ^ 4)) : Int) ≤ (IntKind.wrap .u8 ((Int.fdiv xc (2 ^ 4)) + 1)) ∧ (IntKind.wrap .u8 ((Int.fdiv xc (2 ^ 4)) + 1)) ≤ (([48, 49, 50, 51, 52, 53, 54, 55, 56, 57, 65, 66, 67, 68, 69, 70] : Bs).length : Int) ∧ ([37] : Bs).length + ((([48, 49, 50, 51, 52, 53, 54, 55, 56, 57, 65, 66, 67, 68, 69, 70] : Bs).take (Int.toNat (IntKind.wrap .u8 ((Int.fdiv xc (2 ^ 4)) + 1)))).drop (Int.toNat (Int.fdiv xc (2 ^ 4)))).length ≤ maxLen ∧ (0 : Int) ≤ (bitAnd .u8 xc 15) ∧ ((bitAnd .u8 xc 15) : Int) ≤ (IntKind.wrap .u8 ((bitAnd .u8 xc 15) + 1)) ∧ (IntKind.wrap .u8 ((bitAnd .u8 xc 15) + 1)) ≤ (([48, 49, 50, 51, 52, 53, 54, 55, 56, 57, 65, 66, 67, 68, 69, 70] : Bs).length : Int) ∧ (([37] : Bs) ++ ((([48, 49, 50, 51, 52, 53, 54, 55, 56, 57, 65, 66, 67, 68, 69, 70] : Bs).take (Int.toNat (IntKind.wrap .u8 ((Int.fdiv xc (2 ^ 4)) + 1)))).drop (Int.toNat (Int.fdiv xc (2 ^ 4))))).length + ((([48, 49, 50, 51, 52, 53, 54, 55, 56, 57, 65, 66, 67, 68, 69, 70] : Bs).take (Int.toNat (IntKind.wrap .u8 ((bitAnd .u8 xc 15) + 1)))).drop (Int.toNat (bitAnd .u8 xc 15))).length ≤ maxLen ∧ K ((([37] : Bs) ++ ((([48, 49, 50, 51, 52, 53, 54, 55, 56, 57, 65, 66, 67, 68, 69, 70] : Bs).take (Int.toNat (IntKind.wrap .u8 ((Int.fdiv xc (2 ^ 4)) + 1)))).drop (Int.toNat (Int.fdiv xc (2 ^ 4))))) ++ ((([48, 49, 50, 51, 52, 53, 54, 55, 56, 57, 65, 66, 67, 68, 69, 70] : Bs).take (Int.toNat (IntKind.wrap .u8 ((bitAnd .u8 xc 15) + 1)))).drop (Int.toNat (bitAnd .u8 xc 15))))
theorem utrip_ok {g : Ghost} (xc : Int) (K : Bs → Prop)
  (hF : utripF xc K) : CallsH Tryz.prog 95 #[.int .u8 xc] g [] (fun g' H' v => ∃ (r0 : Bs), v = sv r0 ∧ H' = [] ∧ K r0) := by
 refine CallsH.enter 17 [(0, .int .u8 xc)] Tryz.func95 rfl (by kernel_rfl) (by kernel_rfl) (by kernel_rfl) fun w0 => ?_
 refine Ok.seq (Ok.region (Ok.batch 1 [(0, .int .u8 xc)] (by kernel_rfl) (Ok.nil (Ok.thenN (Ok.seq (Ok.quiet' (by kernel_rfl) (by kernel_rfl) (OkQ.bat 5 [0] [(4, .int .u8 (Int.fdiv xc (2 ^ 4))), (7, .int .u8 (IntKind.wrap .u8 ((Int.fdiv xc (2 ^ 4)) + 1)))] ?_)))))))
 obtain ⟨h01, h11, h21, hF⟩ := hF
 refine OkQ.op rfl (OpQ.step (v := sv ((([48, 49, 50, 51, 52, 53, 54, 55, 56, 57, 65, 66, 67, 68, 69, 70] : Bs).take (Int.toNat (IntKind.wrap .u8 ((Int.fdiv xc (2 ^ 4)) + 1)))).drop (Int.toNat (Int.fdiv xc (2 ^ 4))))) (Yields.sliceStr (s := ([48, 49, 50, 51, 52, 53, 54, 55, 56, 57, 65, 66, 67, 68, 69, 70] : Bs)) (l := (Int.fdiv xc (2 ^ 4))) (h := (IntKind.wrap .u8 ((Int.fdiv xc (2 ^ 4)) + 1))) (by kernel_rfl) Tryz.underlying9 (.inl ⟨_, _, rfl, rfl⟩) (.inl ⟨_, _, rfl, rfl⟩) h01 h11 h21 ((([48, 49, 50, 51, 52, 53, 54, 55, 56, 57, 65, 66, 67, 68, 69, 70] : Bs).take (Int.toNat (IntKind.wrap .u8 ((Int.fdiv xc (2 ^ 4)) + 1)))).drop (Int.toNat (Int.fdiv xc (2 ^ 4)))) rfl) rfl rfl ?_)
 obtain ⟨hv, hF⟩ := hF
 refine OkQ.op rfl (OpQ.step (v := sv (([37] : Bs) ++ ((([48, 49, 50, 51, 52, 53, 54, 55, 56, 57, 65, 66, 67, 68, 69, 70] : Bs).take (Int.toNat (IntKind.wrap .u8 ((Int.fdiv xc (2 ^ 4)) + 1)))).drop (Int.toNat (Int.fdiv xc (2 ^ 4)))))) (Yields.strAdd rfl rfl hv) rfl rfl (OkQ.batch 5 [(9, sv (([37] : Bs) ++ ((([48, 49, 50, 51, 52, 53, 54, 55, 56, 57, 65, 66, 67, 68, 69, 70] : Bs).take (Int.toNat (IntKind.wrap .u8 ((Int.fdiv xc (2 ^ 4)) + 1)))).drop (Int.toNat (Int.fdiv xc (2 ^ 4)))))), (11, .int .u8 (bitAnd .u8 xc 15)), (14, .int .u8 (IntKind.wrap .u8 ((bitAnd .u8 xc 15) + 1)))] (by kernel_rfl) ?_))
 obtain ⟨h02, h12, h22, hF⟩ := hF
 refine OkQ.op rfl (OpQ.step (v := sv ((([48, 49, 50, 51, 52, 53, 54, 55, 56, 57, 65, 66, 67, 68, 69, 70] : Bs).take (Int.toNat (IntKind.wrap .u8 ((bitAnd .u8 xc 15) + 1)))).drop (Int.toNat (bitAnd .u8 xc 15)))) (Yields.sliceStr (s := ([48, 49, 50, 51, 52, 53, 54, 55, 56, 57, 65, 66, 67, 68, 69, 70] : Bs)) (l := (bitAnd .u8 xc 15)) (h := (IntKind.wrap .u8 ((bitAnd .u8 xc 15) + 1))) (by kernel_rfl) Tryz.underlying9 (.inl ⟨_, _, rfl, rfl⟩) (.inl ⟨_, _, rfl, rfl⟩) h02 h12 h22 ((([48, 49, 50, 51, 52, 53, 54, 55, 56, 57, 65, 66, 67, 68, 69, 70] : Bs).take (Int.toNat (IntKind.wrap .u8 ((bitAnd .u8 xc 15) + 1)))).drop (Int.toNat (bitAnd .u8 xc 15))) rfl) rfl rfl ?_)
 obtain ⟨hv, hF⟩ := hF
 refine OkQ.op rfl (OpQ.step (v := sv ((([37] : Bs) ++ ((([48, 49, 50, 51, 52, 53, 54, 55, 56, 57, 65, 66, 67, 68, 69, 70] : Bs).take (Int.toNat (IntKind.wrap .u8 ((Int.fdiv xc (2 ^ 4)) + 1)))).drop (Int.toNat (Int.fdiv xc (2 ^ 4))))) ++ ((([48, 49, 50, 51, 52, 53, 54, 55, 56, 57, 65, 66, 67, 68, 69, 70] : Bs).take (Int.toNat (IntKind.wrap .u8 ((bitAnd .u8 xc 15) + 1)))).drop (Int.toNat (bitAnd .u8 xc 15))))) (Yields.strAdd rfl rfl hv) rfl rfl (OkQ.batch 1 [(2, sv ((([37] : Bs) ++ ((([48, 49, 50, 51, 52, 53, 54, 55, 56, 57, 65, 66, 67, 68, 69, 70] : Bs).take (Int.toNat (IntKind.wrap .u8 ((Int.fdiv xc (2 ^ 4)) + 1)))).drop (Int.toNat (Int.fdiv xc (2 ^ 4))))) ++ ((([48, 49, 50, 51, 52, 53, 54, 55, 56, 57, 65, 66, 67, 68, 69, 70] : Bs).take (Int.toNat (IntKind.wrap .u8 ((bitAnd .u8 xc 15) + 1)))).drop (Int.toNat (bitAnd .u8 xc 15)))))] (by kernel_rfl) (OkQ.nil (Ok.thenN (Ok.ret ?_)))))
 exact Ok.resH (vs := [sv ((([37] : Bs) ++ ((([48, 49, 50, 51, 52, 53, 54, 55, 56, 57, 65, 66, 67, 68, 69, 70] : Bs).take (Int.toNat (IntKind.wrap .u8 ((Int.fdiv xc (2 ^ 4)) + 1)))).drop (Int.toNat (Int.fdiv xc (2 ^ 4))))) ++ ((([48, 49, 50, 51, 52, 53, 54, 55, 56, 57, 65, 66, 67, 68, 69, 70] : Bs).take (Int.toNat (IntKind.wrap .u8 ((bitAnd .u8 xc 15) + 1)))).drop (Int.toNat (bitAnd .u8 xc 15))))]) (.inl rfl) rfl (.cons (.tmp rfl) .nil) (Gext.refl w0 g) ⟨((([37] : Bs) ++ ((([48, 49, 50, 51, 52, 53, 54, 55, 56, 57, 65, 66, 67, 68, 69, 70] : Bs).take (Int.toNat (IntKind.wrap .u8 ((Int.fdiv xc (2 ^ 4)) + 1)))).drop (Int.toNat (Int.fdiv xc (2 ^ 4))))) ++ ((([48, 49, 50, 51, 52, 53, 54, 55, 56, 57, 65, 66, 67, 68, 69, 70] : Bs).take (Int.toNat (IntKind.wrap .u8 ((bitAnd .u8 xc 15) + 1)))).drop (Int.toNat (bitAnd .u8 xc 15)))), rfl, rfl, hF⟩
instance (c : Int) (x : Bs) : Decidable (utripF c (fun r => r = x)) := by unfold utripF; infer_instance
theorem utrip_F (c : Int) (hp : byteP c) : utripF c (fun r => r = utripS c) := by
 obtain ⟨b, rfl⟩ := of_byte hp
 have := byte_all (p := fun b => decide (utripF (b.toNat : Int) (fun r => r = utripS (b.toNat : Int)))) (by decide +kernel) b
 exact of_decide_eq_true this
theorem utrip_c {g : Ghost} (xc : Int)  (hp : byteP xc) : CallsG Tryz.prog 95 #[.int .u8 xc] g (sv (utripS xc)) :=
 (utrip_ok xc _ (utrip_F xc hp)).gives (by rintro g' H' v _ ⟨r0, rfl, rfl, hK⟩; subst hK; rfl)
def uvalV0 (xc : Int) : Int :=
 (if ((decide (xc ≥ 97)) && (decide (xc ≤ 102))) = true then IntKind.wrap .u8 (xc - 32) else xc)
def uvalj3 (xc : Int) (K : Int → Prop) : Prop :=
 K (ibS ([48, 49, 50, 51, 52, 53, 54, 55, 56, 57, 65, 66, 67, 68, 69, 70] : Bs) (uvalV0 xc))
def uvalF (xc : Int) (K : Int → Prop) : Prop :=
 ((((decide (xc ≥ 97)) && (decide (xc ≤ 102)))) = true → uvalj3 xc K) ∧ ((((decide (xc ≥ 97)) && (decide (xc ≤ 102)))) = false → uvalj3 xc K)
theorem uval_ok {g : Ghost} (xc : Int) (K : Int → Prop)
  (hF : uvalF xc K) : CallsH Tryz.prog 119 #[.int .u8 xc] g [] (fun g' H' v => ∃ (r0 : Int), v = .int .i64 r0 ∧ H' = [] ∧ K r0) := by
 refine CallsH.enter 13 [(0, .int .u8 xc)] Tryz.func119 rfl (by kernel_rfl) (by kernel_rfl) (by kernel_rfl) fun w0 => ?_
 refine Ok.seq (Ok.region (Ok.batch 1 [(0, .int .u8 xc)] (by kernel_rfl) (Ok.nil (Ok.thenN (Ok.cut (fun a W => StA 13 [(0, .int .u8 (uvalV0 xc))] a ∧ StW w0 [] g W ∧ uvalj3 xc K) ?_ ?_)))))
 ·
  refine Ok.seq (Ok.region (Ok.bat 3 [0] [(5, .bool (decide (xc ≥ 97)))] ?_))
  refine Ok.midway 3 [(0, .int .u8 xc), (8, .bool ((decide (xc ≥ 97)) && (decide (xc ≤ 102))))] (fun hR1 => ?_) ?_
  ·refine Ok.boolAt 5 (decide (xc ≥ 97)) rfl (fun hc2 => ?_) (fun hc2 => ?_)
   ·skip
    refine Ok.bat 3 [0] [(8, .bool (decide (xc ≤ 102)))] ?_
    refine Ok.reval 8 rfl (show (.bool (decide (xc ≤ 102)) : Value) = .bool ((decide (xc ≥ 97)) && (decide (xc ≤ 102))) from congrArg Value.bool (mand_t hc2)) (Ok.bat 0 [0] [(8, .bool ((decide (xc ≥ 97)) && (decide (xc ≤ 102))))] ?_)
    exact hR1
   ·skip
    refine Ok.bat 3 [0] [(8, .bool false)] ?_
    refine Ok.reval 8 rfl (show (.bool false : Value) = .bool ((decide (xc ≥ 97)) && (decide (xc ≤ 102))) from congrArg Value.bool (mand_f hc2)) (Ok.bat 0 [0] [(8, .bool ((decide (xc ≥ 97)) && (decide (xc ≤ 102))))] ?_)
    exact hR1
  refine Ok.nil (Ok.thenN (Ok.cond (b := ((decide (xc ≥ 97)) && (decide (xc ≤ 102)))) rfl (fun hc3 => ?_) (fun hc3 => ?_)))
  ·replace hF := hF.1 hc3
   refine Ok.region (Ok.batch 3 [(0, .int .u8 (IntKind.wrap .u8 (xc - 32)))] (by kernel_rfl) (Ok.nil (Ok.thenN (Ok.reval 0 rfl (show (.int .u8 (IntKind.wrap .u8 (xc - 32)) : Value) = .int .u8 (uvalV0 xc) from congrArg (Value.int .u8) ((if_t hc3).symm)) ?_))))
   exact fun a W hA hW => ⟨hA.sub (by kernel_rfl), hW, hF⟩
  ·replace hF := hF.2 hc3
   refine Ok.skip (Ok.thenN (Ok.reval 0 rfl (show (.int .u8 xc : Value) = .int .u8 (uvalV0 xc) from congrArg (Value.int .u8) ((if_f hc3).symm)) ?_))
   exact fun a W hA hW => ⟨hA.sub (by kernel_rfl), hW, hF⟩
 ·
  clear hF
  rintro a W ⟨hA, hW, hF⟩
  refine (?_ : Ok _ _ _ _ _ _) a W hA hW
  clear hA hW
  refine Ok.seq (Ok.region (Ok.batch 1 [(11, .int .u8 (uvalV0 xc))] (by kernel_rfl) (Ok.op rfl (OpOk.callG (v := .int .i64 (ibS ([48, 49, 50, 51, 52, 53, 54, 55, 56, 57, 65, 66, 67, 68, 69, 70] : Bs) (uvalV0 xc))) enr (fun W hW => ib_c ([48, 49, 50, 51, 52, 53, 54, 55, 56, 57, 65, 66, 67, 68, 69, 70] : Bs) (uvalV0 xc)) rfl ?_))))
  refine Ok.batch 1 [(2, .int .i64 (ibS ([48, 49, 50, 51, 52, 53, 54, 55, 56, 57, 65, 66, 67, 68, 69, 70] : Bs) (uvalV0 xc)))] (by kernel_rfl) (Ok.nil (Ok.thenN (Ok.ret ?_)))
  exact Ok.resH (vs := [.int .i64 (ibS ([48, 49, 50, 51, 52, 53, 54, 55, 56, 57, 65, 66, 67, 68, 69, 70] : Bs) (uvalV0 xc))]) (.inl rfl) rfl (.cons (.tmp rfl) .nil) (Gext.refl w0 g) ⟨(ibS ([48, 49, 50, 51, 52, 53, 54, 55, 56, 57, 65, 66, 67, 68, 69, 70] : Bs) (uvalV0 xc)), rfl, rfl, hF⟩
def uvalj3M (xc : Int) : Int := (ibS ([48, 49, 50, 51, 52, 53, 54, 55, 56, 57, 65, 66, 67, 68, 69, 70] : Bs) (uvalV0 xc))
theorem uvalj3_A (xc : Int) (P : Int → Prop) (h : P (uvalj3M xc)) : uvalj3 xc (fun k0 => P k0) := by
 unfold uvalj3M at h
 unfold uvalj3
 exact h
def uvalM (xc : Int) : Int := (uvalj3M xc)
theorem uvalF_A (xc : Int) (P : Int → Prop) (h : P (uvalM xc)) : uvalF xc (fun k0 => P k0) := by
 unfold uvalM at h
 unfold uvalF
 refine ⟨fun hc0 => ?_, fun hc0 => ?_⟩
 ·skip
  have hd0 := hc0; try simp only [Bool.and_eq_true, Bool.or_eq_true, Bool.and_eq_false_iff, Bool.or_eq_false_iff, Bool.not_eq_true', Bool.not_eq_false', decide_eq_true_eq, decide_eq_false_iff_not, beq_iff_eq, beq_eq_false_iff_ne, ne_eq] at hd0
  exact uvalj3_A xc _ h
 ·skip
  have hd0 := hc0; try simp only [Bool.and_eq_true, Bool.or_eq_true, Bool.and_eq_false_iff, Bool.or_eq_false_iff, Bool.not_eq_true', Bool.not_eq_false', decide_eq_true_eq, decide_eq_false_iff_not, beq_iff_eq, beq_eq_false_iff_ne, ne_eq] at hd0
  exact uvalj3_A xc _ h
theorem uval_F (xc : Int) : uvalF xc (fun k0 => k0 = uvalM xc) :=
 uvalF_A xc (fun z => z = uvalM xc) rfl
theorem uval_c {g : Ghost} (xc : Int)  : CallsG Tryz.prog 119 #[.int .u8 xc] g (.int .i64 (uvalM xc)) :=
 (uval_ok xc _ (uval_F xc)).gives (by rintro g' H' v _ ⟨r0, rfl, rfl, hK⟩; subst hK; rfl)
def ureadV0 (xs : Bs) : Bool :=
 ((decide ((xs.length : Int) < 3)) || ((decide ((uvalM ((xs.getD (Int.toNat 1) 0).toNat : Int)) < 0)) || (decide ((uvalM ((xs.getD (Int.toNat 2) 0).toNat : Int)) < 0))))
def ureadj12 (xs : Bs) (K : Int → Int → Prop) : Prop :=
 (((ureadV0 xs)) = true → K 0 0) ∧ (((ureadV0 xs)) = false → (0 : Int) ≤ 1 ∧ Int.toNat 1 < xs.length ∧ (0 : Int) ≤ 2 ∧ Int.toNat 2 < xs.length ∧ K (IntKind.wrap .u8 (bitOr .i64 (w6 ((uvalM ((xs.getD (Int.toNat 1) 0).toNat : Int)) * 2 ^ 4)) (uvalM ((xs.getD (Int.toNat 2) 0).toNat : Int)))) 3)
def ureadF (xs : Bs) (K : Int → Int → Prop) : Prop :=
 (0 : Int) ≤ 0 ∧ Int.toNat 0 < xs.length ∧ (((((xs.getD (Int.toNat 0) 0).toNat : Int) != 37)) = true → K ((xs.getD (Int.toNat 0) 0).toNat : Int) 1) ∧ (((((xs.getD (Int.toNat 0) 0).toNat : Int) != 37)) = false → ((decide ((xs.length : Int) < 3)) = true → ureadj12 xs K) ∧ ((decide ((xs.length : Int) < 3)) = false → (0 : Int) ≤ 1 ∧ Int.toNat 1 < xs.length ∧ ((decide ((uvalM ((xs.getD (Int.toNat 1) 0).toNat : Int)) < 0)) = true → ureadj12 xs K) ∧ ((decide ((uvalM ((xs.getD (Int.toNat 1) 0).toNat : Int)) < 0)) = false → (0 : Int) ≤ 2 ∧ Int.toNat 2 < xs.length ∧ ureadj12 xs K)))
theorem uread_ok {g : Ghost} (xs : Bs) (K : Int → Int → Prop)
  (hF : ureadF xs K) : CallsH Tryz.prog 91 #[sv xs] g [] (fun g' H' v => ∃ (r0 : Int), ∃ (r1 : Int), v = .tuple #[.int .u8 r0, .int .i64 r1] ∧ H' = [] ∧ K r0 r1) := by
 refine CallsH.enter 33 [(0, sv xs)] Tryz.func91 rfl (by kernel_rfl) (by kernel_rfl) (by kernel_rfl) fun w0 => ?_
 refine Ok.seq (Ok.region (Ok.batch 2 [(0, sv xs)] (by kernel_rfl) (Ok.nil (Ok.thenN (Ok.seq (Ok.seq (Ok.region (Ok.bat 1 [0] [(4, sv xs)] ?_))))))))
 obtain ⟨h01, h11, hF⟩ := hF
 have he1 := get_of (l := xs) (0 : UInt8) h11
 generalize hg1 : (xs.getD (Int.toNat 0) 0) = e1 at he1 hF ⊢
 refine Ok.op rfl (OpOk.step (v := .int .u8 (e1.toNat : Int)) (Yields.indexStr (k := .i64) (i := 0) (s := xs) (b := e1) (by kernel_rfl) (by kernel_rfl) Tryz.underlying9 h01 he1) rfl rfl (Ok.bat 1 [0] [(6, .bool ((e1.toNat : Int) != 37))] ?_))
 refine Ok.nil (Ok.thenN (Ok.cond (b := ((e1.toNat : Int) != 37)) rfl (fun hc2 => ?_) (fun hc2 => ?_)))
 ·replace hF := hF.1 hc2
  refine Ok.seq (Ok.region (Ok.batch 1 [(7, sv xs)] (by kernel_rfl) (Ok.op rfl (OpOk.step (v := .int .u8 (e1.toNat : Int)) (Yields.indexStr (k := .i64) (i := 0) (s := xs) (b := e1) (by kernel_rfl) (by kernel_rfl) Tryz.underlying9 h01 he1) rfl rfl (Ok.batch 2 [(2, .int .u8 (e1.toNat : Int)), (3, .int .i64 1)] (by kernel_rfl) (Ok.nil (Ok.thenN (Ok.ret (Ok.thenR ?_)))))))))
  exact Ok.resH (vs := [.int .u8 (e1.toNat : Int), .int .i64 1]) (.inl rfl) rfl (.cons (.tmp rfl) (.cons (.tmp rfl) .nil)) (Gext.refl w0 g) ⟨(e1.toNat : Int), 1, rfl, rfl, hF⟩
 ·replace hF := hF.2 hc2
  refine Ok.skip (Ok.thenN (Ok.seq (Ok.cut (fun a W => ∃ gj12 : Ghost, Gext w0 g gj12 ∧ StA 33 [(0, sv xs), (23, .bool (ureadV0 xs))] a ∧ StW w0 [] gj12 W ∧ ureadj12 xs K) ?_ ?_)))
  ·
   refine Ok.region (Ok.bat 4 [0] [(12, .bool (decide ((xs.length : Int) < 3)))] ?_)
   refine Ok.boolAt 12 (decide ((xs.length : Int) < 3)) rfl (fun hc6 => ?_) (fun hc6 => ?_)
   ·replace hF := hF.1 hc6
    refine Ok.bat 11 [0] [(23, .bool true)] ?_
    refine Ok.nil (Ok.thenN (Ok.reval 23 rfl (show (.bool true : Value) = .bool (ureadV0 xs) from congrArg (Value.bool) (mor_t hc6)) ?_))
    exact fun a W hA hW => ⟨g, (Gext.refl w0 g), hA.sub (by kernel_rfl), hW, hF⟩
   ·replace hF := hF.2 hc6
    refine Ok.bat 1 [0] [(12, .bool false), (13, sv xs)] ?_
    obtain ⟨h07, h17, hF⟩ := hF
    have he7 := get_of (l := xs) (0 : UInt8) h17
    generalize hg7 : (xs.getD (Int.toNat 1) 0) = e7 at he7 hF ⊢
    refine Ok.opYes (j := 3) (d := 12) (want := false) (b := false) rfl (by kernel_rfl) (by kernel_rfl) rfl (OpOk.step (v := .int .u8 (e7.toNat : Int)) (Yields.indexStr (k := .i64) (i := 1) (s := xs) (b := e7) (by kernel_rfl) (by kernel_rfl) Tryz.underlying9 h07 he7) rfl rfl (Ok.opYes (j := 3) (d := 12) (want := false) (b := false) rfl (by kernel_rfl) (by kernel_rfl) rfl (OpOk.callG (v := .int .i64 (uvalM (e7.toNat : Int))) enr (fun W hW => uval_c (e7.toNat : Int)) rfl ?_)))
    refine Ok.bat 3 [0] [(18, .bool (decide ((uvalM (e7.toNat : Int)) < 0)))] ?_
    refine Ok.boolAt 18 (decide ((uvalM (e7.toNat : Int)) < 0)) rfl (fun hc8 => ?_) (fun hc8 => ?_)
    ·replace hF := hF.1 hc8
     refine Ok.bat 5 [0] [(23, .bool true)] ?_
     refine Ok.nil (Ok.thenN ?_)
     subst hg7
     refine Ok.reval 23 rfl (show (.bool true : Value) = .bool (ureadV0 xs) from congrArg (Value.bool) ((Eq.trans (mor_t hc8) (mor_f hc6)))) ?_
     exact fun a W hA hW => ⟨g, (Gext.refl w0 g), hA.sub (by kernel_rfl), hW, hF⟩
    ·replace hF := hF.2 hc8
     refine Ok.bat 1 [0] [(18, .bool false), (19, sv xs)] ?_
     obtain ⟨h09, h19, hF⟩ := hF
     have he9 := get_of (l := xs) (0 : UInt8) h19
     generalize hg9 : (xs.getD (Int.toNat 2) 0) = e9 at he9 hF ⊢
     refine Ok.opYes (j := 9) (d := 18) (want := false) (b := false) rfl (by kernel_rfl) (by kernel_rfl) rfl (OpOk.step (v := .int .u8 (e9.toNat : Int)) (Yields.indexStr (k := .i64) (i := 2) (s := xs) (b := e9) (by kernel_rfl) (by kernel_rfl) Tryz.underlying9 h09 he9) rfl rfl (Ok.opYes (j := 9) (d := 18) (want := false) (b := false) rfl (by kernel_rfl) (by kernel_rfl) rfl (OpOk.callG (v := .int .i64 (uvalM (e9.toNat : Int))) enr (fun W hW => uval_c (e9.toNat : Int)) rfl ?_)))
     refine Ok.bat 2 [0] [(23, .bool (decide ((uvalM (e9.toNat : Int)) < 0)))] ?_
     refine Ok.nil (Ok.thenN ?_)
     subst hg9
     subst hg7
     refine Ok.reval 23 rfl (show (.bool (decide ((uvalM ((xs.getD (Int.toNat 2) 0).toNat : Int)) < 0)) : Value) = .bool (ureadV0 xs) from congrArg (Value.bool) ((Eq.trans (mor_f hc8) (mor_f hc6)))) ?_
     exact fun a W hA hW => ⟨g, (Gext.refl w0 g), hA.sub (by kernel_rfl), hW, hF⟩
  ·
   clear hF
   rintro a W ⟨gj12, hxj12, hA, hW, hF⟩
   refine (?_ : Ok _ _ _ _ _ _) a W hA hW
   clear hA hW
   refine Ok.cond (b := (ureadV0 xs)) rfl (fun hc3 => ?_) (fun hc3 => ?_)
   ·replace hF := hF.1 hc3
    refine Ok.seq (Ok.region (Ok.batch 2 [(2, .int .u8 0), (3, .int .i64 0)] (by kernel_rfl) (Ok.nil (Ok.thenN (Ok.ret (Ok.thenR ?_))))))
    exact Ok.resH (vs := [.int .u8 0, .int .i64 0]) (.inl rfl) rfl (.cons (.tmp rfl) (.cons (.tmp rfl) .nil)) hxj12 ⟨0, 0, rfl, rfl, hF⟩
   ·replace hF := hF.2 hc3
    refine Ok.skip (Ok.thenN (Ok.seq (Ok.quiet' (by kernel_rfl) (by kernel_rfl) (OkQ.bat 1 [0] [(24, sv xs)] ?_))))
    obtain ⟨h04, h14, hF⟩ := hF
    have he4 := get_of (l := xs) (0 : UInt8) h14
    generalize hg4 : (xs.getD (Int.toNat 1) 0) = e4 at he4 hF ⊢
    refine OkQ.op rfl (OpQ.step (v := .int .u8 (e4.toNat : Int)) (Yields.indexStr (k := .i64) (i := 1) (s := xs) (b := e4) (by kernel_rfl) (by kernel_rfl) Tryz.underlying9 h04 he4) rfl rfl (OkQ.op rfl (OpQ.callG (v := .int .i64 (uvalM (e4.toNat : Int))) enr (fun W hW => uval_c (e4.toNat : Int)) rfl ?_)))
    refine OkQ.batch 2 [(27, .int .i64 (w6 ((uvalM (e4.toNat : Int)) * 2 ^ 4))), (28, sv xs)] (by kernel_rfl) ?_
    obtain ⟨h05, h15, hF⟩ := hF
    have he5 := get_of (l := xs) (0 : UInt8) h15
    generalize hg5 : (xs.getD (Int.toNat 2) 0) = e5 at he5 hF ⊢
    refine OkQ.op rfl (OpQ.step (v := .int .u8 (e5.toNat : Int)) (Yields.indexStr (k := .i64) (i := 2) (s := xs) (b := e5) (by kernel_rfl) (by kernel_rfl) Tryz.underlying9 h05 he5) rfl rfl (OkQ.op rfl (OpQ.callG (v := .int .i64 (uvalM (e5.toNat : Int))) enr (fun W hW => uval_c (e5.toNat : Int)) rfl ?_)))
    refine OkQ.batch 4 [(2, .int .u8 (IntKind.wrap .u8 (bitOr .i64 (w6 ((uvalM (e4.toNat : Int)) * 2 ^ 4)) (uvalM (e5.toNat : Int))))), (3, .int .i64 3)] (by kernel_rfl) (OkQ.nil (Ok.thenN (Ok.ret ?_)))
    exact Ok.resH (vs := [.int .u8 (IntKind.wrap .u8 (bitOr .i64 (w6 ((uvalM (e4.toNat : Int)) * 2 ^ 4)) (uvalM (e5.toNat : Int)))), .int .i64 3]) (.inl rfl) rfl (.cons (.tmp rfl) (.cons (.tmp rfl) .nil)) hxj12 ⟨(IntKind.wrap .u8 (bitOr .i64 (w6 ((uvalM (e4.toNat : Int)) * 2 ^ 4)) (uvalM (e5.toNat : Int)))), 3, rfl, rfl, hF⟩
def ureadP (s : Bs) : Prop := s ≠ []
def ureadS (s : Bs) : Int × Int :=
 if (((s.getD (Int.toNat 0) 0).toNat : Int) != 37) = true then (((s.getD (Int.toNat 0) 0).toNat : Int), 1) else if ureadV0 s = true then (0, 0) else
  (IntKind.wrap .u8 (bitOr .i64 (w6 ((uvalM ((s.getD (Int.toNat 1) 0).toNat : Int)) * 2 ^ 4)) (uvalM ((s.getD (Int.toNat 2) 0).toNat : Int))), 3)
theorem uread_F (s : Bs) (hp : ureadP s) : ureadF s (fun a b => (a, b) = ureadS s) := by
 have h0 := List.length_pos_iff.mpr hp
 have j12 : ((((s.getD (Int.toNat 0) 0).toNat : Int) != 37)) = false → ureadj12 s (fun a b => (a, b) = ureadS s) := fun hc => by
  refine ⟨fun h => ?_, fun h => ?_⟩
  ·unfold ureadS; rw [if_f hc, if_t h]
  ·have h3 : ¬ (s.length : Int) < 3 := by
    unfold ureadV0 at h
    rw [Bool.or_eq_false_iff] at h
    exact of_decide_eq_false h.1
   refine ⟨by omega, ?_, by omega, ?_, ?_⟩
   ·show 1 < s.length; omega
   ·show 2 < s.length; omega
   ·unfold ureadS; rw [if_f hc, if_f h]
 refine ⟨by omega, h0, fun hc => ?_, fun hc => ⟨fun _ => j12 hc, fun h => ?_⟩⟩
 ·unfold ureadS; rw [if_t hc]
 ·have h3 := of_decide_eq_false h
  refine ⟨by omega, ?_, fun _ => j12 hc, fun _ => ⟨by omega, ?_, j12 hc⟩⟩
  ·show 1 < s.length; omega
  ·show 2 < s.length; omega
theorem uread_c {g : Ghost} (xs : Bs)  (hp : ureadP xs) : CallsG Tryz.prog 91 #[sv xs] g (.tuple #[.int .u8 (ureadS xs).1, .int .i64 (ureadS xs).2]) :=
 (uread_ok xs _ (uread_F xs hp)).gives (by rintro g' H' v _ ⟨r0, r1, rfl, rfl, hK⟩; obtain ⟨rfl, rfl⟩ : r0 = (ureadS xs).1 ∧ r1 = (ureadS xs).2 := ⟨congrArg (fun z => z.1) hK, congrArg (fun z => z.2) hK⟩; rfl)
/-! Encode -/
def encB (b : UInt8) : Bs := if uplainM (b.toNat : Int) = true then [b] else utripS (b.toNat : Int)
def encS (s : Bs) : Bs := s.flatMap encB
def encP (s : Bs) : Prop := s.length ≤ 1048576
theorem encB_len (b : UInt8) : (encB b).length ≤ 3 := by
 unfold encB
 split
 ·simp
 ·exact Nat.le_refl 3
theorem byte_nat (b : UInt8) : byteP (b.toNat : Int) := by
 have := b.toNat_lt
 unfold byteP
 omega
/-! Decode -/
def decN : Nat → Bs → Option Bs
 | 0, _ => some []
 | k + 1, s => if s = [] then some [] else if (ureadS s).2 = 0 then none else (decN k (s.drop (ureadS s).2.toNat)).map fun l => UInt8.ofNat (ureadS s).1.toNat :: l
def decO (o : Option Bs) (acc : Bs) : Bs × Int := match o with
 | some l => (acc ++ l, 0)
 | none => ([], 3)
def decS (s : Bs) : Bs × Int := decO (decN s.length s) []
def udecl7b (K : Bs → Int → Prop) (x0l7 : Bs) (yown1_0l7 : List (Int)) (C7 : Bs → (List (Int)) → Prop) : Prop :=
 ((!(x0l7 == ([] : Bs))) = true → ureadP x0l7 ∧ ((((ureadS x0l7).2 == 0)) = true → K ([] : Bs) 3) ∧ ((((ureadS x0l7).2 == 0)) = false → (yown1_0l7 ++ ([(ureadS x0l7).1] : List (Int))).length ≤ 140737488355328 ∧ (0 : Int) ≤ (ureadS x0l7).2 ∧ ((ureadS x0l7).2 : Int) ≤ (x0l7.length : Int) ∧ (x0l7.length : Int) ≤ (x0l7.length : Int) ∧ C7 (x0l7.drop (Int.toNat (ureadS x0l7).2)) (yown1_0l7 ++ ([(ureadS x0l7).1] : List (Int))))) ∧ ((!(x0l7 == ([] : Bs))) = false → K (bytesOf yown1_0l7) 0)
def udecl7 (K : Bs → Int → Prop) : Nat → Bs → (List (Int)) → Prop
 | 0, _, _ => False
 | k + 1, x0l7, yown1_0l7 => udecl7b K x0l7 yown1_0l7 (udecl7 K k)
def udecF (xs : Bs) (K : Bs → Int → Prop) : Prop :=
 ∃ k, udecl7 K k xs ([] : List (Int))
theorem udec_ok {g : Ghost} (xs : Bs) (K : Bs → Int → Prop)
  (hF : udecF xs K) : CallsH Tryz.prog 68 #[sv xs] g [] (fun g' H' v => ∃ (r0 : Bs), ∃ (r1 : Int), v = .tuple #[sv r0, .int .i64 r1] ∧ H' = [] ∧ K r0 r1) := by
 refine CallsH.enter 25 [(0, sv xs)] Tryz.func68 rfl (by kernel_rfl) (by kernel_rfl) (by kernel_rfl) fun w0 => ?_
 refine Ok.seq (Ok.region (Ok.batch 2 [(0, sv xs)] (by kernel_rfl) (Ok.nil (Ok.thenN (Ok.seq (Ok.region (Ok.bat 1 [0] [(4, .slice none 0 0)] ?_)))))))
 have hL1 : RepL g (.int .u8) [] [] := rfl
 refine Ok.ownNil 5 1 (Ok.nil (Ok.thenN (Ok.seq (Ok.block ?_))))
 obtain ⟨k, hF⟩ := hF
 refine Ok.loop (fun k a W => ∃ gl7 : Ghost, Gext w0 g gl7 ∧ ∃ (x0l7 : Bs) (ayown1_0l7 : Option Addr) (cyown1_0l7 : Nat) (yown1_0l7 : List (Int)) (xsyown1_0l7 : List Value), RepL gl7 (.int .u8) xsyown1_0l7 yown1_0l7 ∧ StA 25 [(0, sv x0l7), (4, .slice ayown1_0l7 yown1_0l7.length cyown1_0l7)] a ∧ StW w0 [.own (.slice ayown1_0l7 yown1_0l7.length cyown1_0l7) 5 1 yown1_0l7.length xsyown1_0l7] gl7 W ∧ udecl7 K k x0l7 yown1_0l7) k ?_ ?_
 ·
  exact fun a W hA hW => ⟨g, (Gext.refl w0 g), xs, none, 0, ([] : List (Int)), [], hL1, hA.sub (by kernel_rfl), hW, hF⟩
 ·
  clear hF
  rintro k7 a W ⟨gl7, hxl7, x0l7, ayown1_0l7, cyown1_0l7, yown1_0l7, xsyown1_0l7, hLyown1_0l7, hA, hW, hF⟩
  cases k7 with
  | zero => exact (hF : False).elim
  | succ k7 =>
   refine (?_ : Ok _ _ _ _ _ _) a W hA hW
   clear hA hW
   refine Ok.seq (Ok.seq (Ok.region (Ok.bat 1 [0, 4] [(7, sv x0l7)] ?_)))
   refine Ok.op rfl (OpOk.step (v := .bool (!(x0l7 == ([] : Bs)))) (Yields.strCmp (f := .neq) (a := x0l7) (b := ([] : Bs)) (by kernel_rfl) (by kernel_rfl) rfl) rfl rfl (Ok.nil (Ok.thenN (Ok.cond (b := !(x0l7 == ([] : Bs))) rfl (fun hc2 => ?_) (fun hc2 => ?_)))))
   ·replace hF := hF.1 hc2
    refine Ok.skip (Ok.thenN (Ok.block (Ok.seq (Ok.region (Ok.bat 1 [0, 4] [(10, sv x0l7)] ?_)))))
    obtain ⟨hp3, hF⟩ := hF
    refine Ok.op rfl (OpOk.callG (v := .tuple #[.int .u8 (ureadS x0l7).1, .int .i64 (ureadS x0l7).2]) enr (fun W hW => uread_c x0l7 hp3) rfl ?_)
    refine Ok.bat 5 [0, 4] [(5, .int .u8 (ureadS x0l7).1), (6, .int .i64 (ureadS x0l7).2)] ?_
    refine Ok.nil (Ok.thenN (Ok.seq (Ok.seq (Ok.region (Ok.bat 2 [0, 4, 5, 6] [(15, .bool ((ureadS x0l7).2 == 0))] ?_)))))
    refine Ok.nil (Ok.thenN (Ok.cond (b := ((ureadS x0l7).2 == 0)) rfl (fun hc4 => ?_) (fun hc4 => ?_)))
    ·replace hF := hF.1 hc4
     refine Ok.seq (Ok.region (Ok.batch 2 [(2, sv ([] : Bs)), (3, .int .i64 3)] (by kernel_rfl) (Ok.nil (Ok.thenN (Ok.ret (Ok.thenR (Ok.blockR (Ok.thenR (Ok.blockR (Ok.thenR ?_))))))))))
     exact Ok.resP (vs := [sv ([] : Bs), .int .i64 3]) [] [] (by decide) rfl (.inl rfl) rfl (.cons (.tmp rfl) (.cons (.tmp rfl) .nil)) hxl7 ⟨([] : Bs), 3, rfl, rfl, hF⟩
    ·replace hF := hF.2 hc4
     refine Ok.skip (Ok.thenN (Ok.seq (Ok.region (Ok.bat 2 [0, 6] [(16, .slice ayown1_0l7 yown1_0l7.length cyown1_0l7), (17, .int .u8 (ureadS x0l7).1)] ?_))))
     have hL5 : RepL gl7 (.int .u8) ([.int .u8 (ureadS x0l7).1] : List Value) ([(ureadS x0l7).1] : List (Int)) := (RepL.consN (c := [.int .u8 (ureadS x0l7).1]) rfl rfl)
     refine Ok.op rfl (OpOk.lit (E := 5) (.int .u8) ([(ureadS x0l7).1] : List (Int)) ([.int .u8 (ureadS x0l7).1] : List Value) (by kernel_rfl) (by kernel_rfl) rfl (by kernel_rfl) hL5 rfl fun b5 => ?_)
     obtain ⟨hb6, hF⟩ := hF
     refine Ok.op rfl (OpOk.append' (e := .int .u8) 1 140737488355328 1 0 rfl rfl rfl rfl hLyown1_0l7 hL5 Tryz.underlying74 (by kernel_rfl) (by kernel_rfl) (by kernel_rfl) hb6 rfl fun a6 c6 xs6 hL6 => ?_)
     refine Ok.bat 1 [0, 6] [(4, .slice a6 (yown1_0l7 ++ ([(ureadS x0l7).1] : List (Int))).length c6)] ?_
     refine Ok.nil (Ok.thenN (Ok.region (Ok.bat 2 [4] [(20, sv x0l7), (21, .int .i64 (ureadS x0l7).2)] ?_)))
     obtain ⟨h07, h17, h27, hF⟩ := hF
     refine Ok.op rfl (OpOk.step (v := sv (x0l7.drop (Int.toNat (ureadS x0l7).2))) (Yields.sliceStr (s := x0l7) (l := (ureadS x0l7).2) (h := (x0l7.length : Int)) (by kernel_rfl) Tryz.underlying9 (.inl ⟨_, _, rfl, rfl⟩) (.inr ⟨rfl, rfl⟩) h07 h17 h27 (x0l7.drop (Int.toNat (ureadS x0l7).2)) (by rw [show ((x0l7.length : Int)).toNat = x0l7.length from Int.toNat_natCast _, List.take_length])) rfl rfl (Ok.bat 1 [4] [(0, sv (x0l7.drop (Int.toNat (ureadS x0l7).2)))] ?_))
     refine Ok.nil (Ok.blockN (Ok.thenN ?_))
     exact fun a W hA hW => ⟨k7, Nat.lt_succ_self _, gl7, hxl7, x0l7.drop (Int.toNat (ureadS x0l7).2), a6, c6, (yown1_0l7 ++ ([(ureadS x0l7).1] : List (Int))), xs6, hL6, hA.sub (by kernel_rfl), hW.sub (.cons _ (.cons_cons _ .slnil)), hF⟩
   ·replace hF := hF.2 hc2
    refine Ok.exit (Ok.thenE (Ok.thenE (Ok.blockHit (Ok.thenN (Ok.seq (Ok.region (Ok.batch 1 [(23, .slice ayown1_0l7 yown1_0l7.length cyown1_0l7)] (by kernel_rfl) (Ok.op rfl (OpOk.step (v := sv (bytesOf yown1_0l7)) (Yields.strOfOwn 0 (by kernel_rfl) rfl rfl hLyown1_0l7 Tryz.underlying74 Tryz.underlying9 Tryz.underlying5) rfl rfl (Ok.batch 2 [(2, sv (bytesOf yown1_0l7)), (3, .int .i64 0)] (by kernel_rfl) (Ok.nil (Ok.thenN (Ok.ret ?_)))))))))))))
    exact Ok.resP (vs := [sv (bytesOf yown1_0l7), .int .i64 0]) [] [] (by decide) rfl (.inl rfl) rfl (.cons (.tmp rfl) (.cons (.tmp rfl) .nil)) hxl7 ⟨(bytesOf yown1_0l7), 0, rfl, rfl, hF⟩
theorem uread_rng {s : Bs} (h : s ≠ []) : ((ureadS s).2 = 0 ∨ 1 ≤ (ureadS s).2 ∧ (ureadS s).2 ≤ s.length) := by
 have h0 := List.length_pos_iff.mpr h
 unfold ureadS
 split
 ·right; simp only; omega
 ·split
  ·exact .inl rfl
  ·rename_i h3
   rw [Bool.not_eq_true] at h3
   unfold ureadV0 at h3
   rw [Bool.or_eq_false_iff] at h3
   have := of_decide_eq_false h3.1
   right; simp only; omega
theorem udec_loop (K : Bs → Int → Prop) : ∀ (k : Nat) (s : Bs) (acc : List Int), s.length ≤ k → acc.length + s.length ≤ 1048576 → K (decO (decN k s) (bytesOf acc)).1 (decO (decN k s) (bytesOf acc)).2 → udecl7 K (k + 1) s acc := by
 intro k
 induction k with
 | zero =>
  intro s acc h1 h2 hK
  obtain rfl : s = [] := List.eq_nil_of_length_eq_zero (by omega)
  refine ⟨(fun h => by cases h), fun _ => ?_⟩
  simpa [decN, decO] using hK
 | succ k ih =>
  intro s acc h1 h2 hK
  by_cases hs : s = []
  ·subst hs
   refine ⟨(fun h => by cases h), fun _ => ?_⟩
   simpa [decN, decO] using hK
  ·have e : decN (k + 1) s = if (ureadS s).2 = 0 then none else (decN k (s.drop (ureadS s).2.toNat)).map fun l => UInt8.ofNat (ureadS s).1.toNat :: l := if_neg hs
   rw [e] at hK
   refine ⟨fun _ => ⟨hs, fun h => ?_, fun h => ?_⟩, fun h => absurd (by simpa using h) hs⟩
   ·rw [if_pos (by simpa using h)] at hK
    exact hK
   ·have h0 : ¬ (ureadS s).2 = 0 := by simpa using h
    rw [if_neg h0] at hK
    have hr := (uread_rng hs).resolve_left h0
    refine ⟨by simp; omega, by omega, by omega, by omega, ih _ _ (by rw [List.length_drop]; omega) (by rw [List.length_drop]; simp; omega) ?_⟩
    have e3 : ∀ o : Option Bs, decO (o.map fun l => UInt8.ofNat (ureadS s).1.toNat :: l) (bytesOf acc) = decO o (bytesOf (acc ++ [(ureadS s).1])) := fun o => by
     cases o with
     | none => rfl
     | some l => simp [decO, bytesOf]
    rw [e3] at hK
    exact hK
theorem udec_F (s : Bs) (hp : encP s) : udecF s (fun a b => (a, b) = decS s) :=
 ⟨_, udec_loop _ s.length s [] (Nat.le_refl _) (by unfold encP at hp; simpa using hp) rfl⟩
theorem udec_c {g : Ghost} (xs : Bs)  (hp : encP xs) : CallsG Tryz.prog 68 #[sv xs] g (.tuple #[sv ((decS xs).1), .int .i64 (decS xs).2]) :=
 (udec_ok xs _ (udec_F xs hp)).gives (by rintro g' H' v _ ⟨r0, r1, rfl, rfl, hK⟩; obtain ⟨rfl, rfl⟩ : r0 = (decS xs).1 ∧ r1 = (decS xs).2 := ⟨congrArg (fun z => z.1) hK, congrArg (fun z => z.2) hK⟩; rfl)
/-! the reference -/
def rplainF (xc : Int) (K : Bool → Prop) : Prop :=
 scontP ([97, 98, 99, 100, 101, 102, 103, 104, 105, 106, 107, 108, 109, 110, 111, 112, 113, 114, 115, 116, 117, 118, 119, 120, 121, 122, 65, 66, 67, 68, 69, 70, 71, 72, 73, 74, 75, 76, 77, 78, 79, 80, 81, 82, 83, 84, 85, 86, 87, 88, 89, 90, 48, 49, 50, 51, 52, 53, 54, 55, 56, 57, 45, 46, 95, 126] : Bs) (bytesOf ([xc] : List (Int))) ∧ K ((scontS ([97, 98, 99, 100, 101, 102, 103, 104, 105, 106, 107, 108, 109, 110, 111, 112, 113, 114, 115, 116, 117, 118, 119, 120, 121, 122, 65, 66, 67, 68, 69, 70, 71, 72, 73, 74, 75, 76, 77, 78, 79, 80, 81, 82, 83, 84, 85, 86, 87, 88, 89, 90, 48, 49, 50, 51, 52, 53, 54, 55, 56, 57, 45, 46, 95, 126] : Bs) (bytesOf ([xc] : List (Int)))) && (decide (xc < 128)))
theorem rplain_ok {g : Ghost} (xc : Int) (hG0 : SomeInt g 0) (K : Bool → Prop)
  (hF : rplainF xc K) : CallsH Tryz.prog 72 #[.int .u8 xc] g [] (fun g' H' v => ∃ (r0 : Bool), v = .bool r0 ∧ H' = [] ∧ K r0) := by
 refine CallsH.enter 11 [(0, .int .u8 xc)] Tryz.func72 rfl (by kernel_rfl) (by kernel_rfl) (by kernel_rfl) fun w0 => ?_
 refine Ok.seq (Ok.region (Ok.batch 1 [(0, .int .u8 xc)] (by kernel_rfl) (Ok.nil (Ok.thenN (Ok.seq (Ok.region (Ok.bat 1 [0] [(3, .int .u8 xc)] ?_)))))))
 have hL1 : RepL g (.int .u8) ([.int .u8 xc] : List Value) ([xc] : List (Int)) := (RepL.consN (c := [.int .u8 xc]) rfl rfl)
 refine Ok.op rfl (OpOk.lit (E := 5) (.int .u8) ([xc] : List (Int)) ([.int .u8 xc] : List Value) (by kernel_rfl) (by kernel_rfl) rfl (by kernel_rfl) hL1 rfl fun b1 => ?_)
 refine Ok.op rfl (OpOk.step (v := sv (bytesOf ([xc] : List (Int)))) (Yields.strOfOwn 0 (by kernel_rfl) rfl rfl hL1 Tryz.underlying74 Tryz.underlying9 Tryz.underlying5) rfl rfl ?_)
 obtain ⟨hp2, hF⟩ := hF
 refine Ok.op rfl (OpOk.callG (v := .bool (scontS ([97, 98, 99, 100, 101, 102, 103, 104, 105, 106, 107, 108, 109, 110, 111, 112, 113, 114, 115, 116, 117, 118, 119, 120, 121, 122, 65, 66, 67, 68, 69, 70, 71, 72, 73, 74, 75, 76, 77, 78, 79, 80, 81, 82, 83, 84, 85, 86, 87, 88, 89, 90, 48, 49, 50, 51, 52, 53, 54, 55, 56, 57, 45, 46, 95, 126] : Bs) (bytesOf ([xc] : List (Int))))) enr (fun W hW => scont_c ([97, 98, 99, 100, 101, 102, 103, 104, 105, 106, 107, 108, 109, 110, 111, 112, 113, 114, 115, 116, 117, 118, 119, 120, 121, 122, 65, 66, 67, 68, 69, 70, 71, 72, 73, 74, 75, 76, 77, 78, 79, 80, 81, 82, 83, 84, 85, 86, 87, 88, 89, 90, 48, 49, 50, 51, 52, 53, 54, 55, 56, 57, 45, 46, 95, 126] : Bs) (bytesOf ([xc] : List (Int))) (hG0.mono hW.sees) hp2) rfl ?_)
 refine Ok.bat 1 [0] [(7, .bool (scontS ([97, 98, 99, 100, 101, 102, 103, 104, 105, 106, 107, 108, 109, 110, 111, 112, 113, 114, 115, 116, 117, 118, 119, 120, 121, 122, 65, 66, 67, 68, 69, 70, 71, 72, 73, 74, 75, 76, 77, 78, 79, 80, 81, 82, 83, 84, 85, 86, 87, 88, 89, 90, 48, 49, 50, 51, 52, 53, 54, 55, 56, 57, 45, 46, 95, 126] : Bs) (bytesOf ([xc] : List (Int)))))] ?_
 refine Ok.midway 3 [(10, .bool ((scontS ([97, 98, 99, 100, 101, 102, 103, 104, 105, 106, 107, 108, 109, 110, 111, 112, 113, 114, 115, 116, 117, 118, 119, 120, 121, 122, 65, 66, 67, 68, 69, 70, 71, 72, 73, 74, 75, 76, 77, 78, 79, 80, 81, 82, 83, 84, 85, 86, 87, 88, 89, 90, 48, 49, 50, 51, 52, 53, 54, 55, 56, 57, 45, 46, 95, 126] : Bs) (bytesOf ([xc] : List (Int)))) && (decide (xc < 128))))] (fun hR3 => ?_) ?_
 ·refine Ok.boolAt 7 ((scontS ([97, 98, 99, 100, 101, 102, 103, 104, 105, 106, 107, 108, 109, 110, 111, 112, 113, 114, 115, 116, 117, 118, 119, 120, 121, 122, 65, 66, 67, 68, 69, 70, 71, 72, 73, 74, 75, 76, 77, 78, 79, 80, 81, 82, 83, 84, 85, 86, 87, 88, 89, 90, 48, 49, 50, 51, 52, 53, 54, 55, 56, 57, 45, 46, 95, 126] : Bs) (bytesOf ([xc] : List (Int))))) rfl (fun hc4 => ?_) (fun hc4 => ?_)
  ·skip
   refine Ok.batch 3 [(10, .bool (decide (xc < 128)))] (by kernel_rfl) (Ok.reval 10 rfl (show (.bool (decide (xc < 128)) : Value) = .bool ((scontS ([97, 98, 99, 100, 101, 102, 103, 104, 105, 106, 107, 108, 109, 110, 111, 112, 113, 114, 115, 116, 117, 118, 119, 120, 121, 122, 65, 66, 67, 68, 69, 70, 71, 72, 73, 74, 75, 76, 77, 78, 79, 80, 81, 82, 83, 84, 85, 86, 87, 88, 89, 90, 48, 49, 50, 51, 52, 53, 54, 55, 56, 57, 45, 46, 95, 126] : Bs) (bytesOf ([xc] : List (Int)))) && (decide (xc < 128))) from congrArg Value.bool (mand_t hc4)) (Ok.batch 0 [(10, .bool ((scontS ([97, 98, 99, 100, 101, 102, 103, 104, 105, 106, 107, 108, 109, 110, 111, 112, 113, 114, 115, 116, 117, 118, 119, 120, 121, 122, 65, 66, 67, 68, 69, 70, 71, 72, 73, 74, 75, 76, 77, 78, 79, 80, 81, 82, 83, 84, 85, 86, 87, 88, 89, 90, 48, 49, 50, 51, 52, 53, 54, 55, 56, 57, 45, 46, 95, 126] : Bs) (bytesOf ([xc] : List (Int)))) && (decide (xc < 128))))] (by kernel_rfl) ?_))
   exact hR3
  ·skip
   refine Ok.batch 3 [(10, .bool false)] (by kernel_rfl) (Ok.reval 10 rfl (show (.bool false : Value) = .bool ((scontS ([97, 98, 99, 100, 101, 102, 103, 104, 105, 106, 107, 108, 109, 110, 111, 112, 113, 114, 115, 116, 117, 118, 119, 120, 121, 122, 65, 66, 67, 68, 69, 70, 71, 72, 73, 74, 75, 76, 77, 78, 79, 80, 81, 82, 83, 84, 85, 86, 87, 88, 89, 90, 48, 49, 50, 51, 52, 53, 54, 55, 56, 57, 45, 46, 95, 126] : Bs) (bytesOf ([xc] : List (Int)))) && (decide (xc < 128))) from congrArg Value.bool (mand_f hc4)) (Ok.batch 0 [(10, .bool ((scontS ([97, 98, 99, 100, 101, 102, 103, 104, 105, 106, 107, 108, 109, 110, 111, 112, 113, 114, 115, 116, 117, 118, 119, 120, 121, 122, 65, 66, 67, 68, 69, 70, 71, 72, 73, 74, 75, 76, 77, 78, 79, 80, 81, 82, 83, 84, 85, 86, 87, 88, 89, 90, 48, 49, 50, 51, 52, 53, 54, 55, 56, 57, 45, 46, 95, 126] : Bs) (bytesOf ([xc] : List (Int)))) && (decide (xc < 128))))] (by kernel_rfl) ?_))
   exact hR3
 refine Ok.batch 1 [(2, .bool ((scontS ([97, 98, 99, 100, 101, 102, 103, 104, 105, 106, 107, 108, 109, 110, 111, 112, 113, 114, 115, 116, 117, 118, 119, 120, 121, 122, 65, 66, 67, 68, 69, 70, 71, 72, 73, 74, 75, 76, 77, 78, 79, 80, 81, 82, 83, 84, 85, 86, 87, 88, 89, 90, 48, 49, 50, 51, 52, 53, 54, 55, 56, 57, 45, 46, 95, 126] : Bs) (bytesOf ([xc] : List (Int)))) && (decide (xc < 128))))] (by kernel_rfl) (Ok.nil (Ok.thenN (Ok.ret ?_)))
 exact Ok.resP (vs := [.bool ((scontS ([97, 98, 99, 100, 101, 102, 103, 104, 105, 106, 107, 108, 109, 110, 111, 112, 113, 114, 115, 116, 117, 118, 119, 120, 121, 122, 65, 66, 67, 68, 69, 70, 71, 72, 73, 74, 75, 76, 77, 78, 79, 80, 81, 82, 83, 84, 85, 86, 87, 88, 89, 90, 48, 49, 50, 51, 52, 53, 54, 55, 56, 57, 45, 46, 95, 126] : Bs) (bytesOf ([xc] : List (Int)))) && (decide (xc < 128)))]) [] [] (by decide) rfl (.inl rfl) rfl (.cons (.tmp rfl) .nil) (Gext.refl w0 g) ⟨((scontS ([97, 98, 99, 100, 101, 102, 103, 104, 105, 106, 107, 108, 109, 110, 111, 112, 113, 114, 115, 116, 117, 118, 119, 120, 121, 122, 65, 66, 67, 68, 69, 70, 71, 72, 73, 74, 75, 76, 77, 78, 79, 80, 81, 82, 83, 84, 85, 86, 87, 88, 89, 90, 48, 49, 50, 51, 52, 53, 54, 55, 56, 57, 45, 46, 95, 126] : Bs) (bytesOf ([xc] : List (Int)))) && (decide (xc < 128))), rfl, rfl, hF⟩
instance (c : Int) (x : Bool) : Decidable (rplainF c (fun r => r = x)) := by unfold rplainF scontP; infer_instance
theorem rplain_F (c : Int) (hp : byteP c) : rplainF c (fun r => r = uplainM c) := by
 obtain ⟨b, rfl⟩ := of_byte hp
 have := byte_all (p := fun b => decide (rplainF (b.toNat : Int) (fun r => r = uplainM (b.toNat : Int)))) (by decide +kernel) b
 exact of_decide_eq_true this
theorem rplain_c {g : Ghost} (xc : Int) (hG0 : SomeInt g 0)  (hp : byteP xc) : CallsG Tryz.prog 72 #[.int .u8 xc] g (.bool (uplainM xc)) :=
 (rplain_ok xc hG0 _ (rplain_F xc hp)).gives (by rintro g' H' v _ ⟨r0, rfl, rfl, hK⟩; subst hK; rfl)
def rencV2 (xs : Bs) (x3l9 : Bs) (x10l9 : Int) : Bs :=
 (if (uplainM ((intsOf xs).getD (Int.toNat x10l9) default)) = true then x3l9 ++ (bytesOf ([((intsOf xs).getD (Int.toNat x10l9) default)] : List (Int))) else x3l9 ++ ((([37] : Bs) ++ ((([48, 49, 50, 51, 52, 53, 54, 55, 56, 57, 65, 66, 67, 68, 69, 70] : Bs).take (Int.toNat (IntKind.wrap .u8 ((IntKind.wrap .u8 (Int.tdiv ((intsOf xs).getD (Int.toNat x10l9) default) 16)) + 1)))).drop (Int.toNat (IntKind.wrap .u8 (Int.tdiv ((intsOf xs).getD (Int.toNat x10l9) default) 16))))) ++ ((([48, 49, 50, 51, 52, 53, 54, 55, 56, 57, 65, 66, 67, 68, 69, 70] : Bs).take (Int.toNat (IntKind.wrap .u8 ((Int.tmod ((intsOf xs).getD (Int.toNat x10l9) default) 16) + 1)))).drop (Int.toNat (Int.tmod ((intsOf xs).getD (Int.toNat x10l9) default) 16)))))
def rencj16 (xs : Bs) (x3l9 : Bs) (x10l9 : Int) (C9 : Bs → Int → Prop) : Prop :=
 C9 (rencV2 xs x3l9 x10l9) (w6 (x10l9 + 1))
def rencl9b (xs : Bs) (K : Bs → Prop) (x3l9 : Bs) (x10l9 : Int) (C9 : Bs → Int → Prop) : Prop :=
 ((decide (x10l9 < ((intsOf xs).length : Int))) = true → (0 : Int) ≤ x10l9 ∧ Int.toNat x10l9 < (intsOf xs).length ∧ byteP ((intsOf xs).getD (Int.toNat x10l9) default) ∧ (((uplainM ((intsOf xs).getD (Int.toNat x10l9) default))) = true → x3l9.length + (bytesOf ([((intsOf xs).getD (Int.toNat x10l9) default)] : List (Int))).length ≤ maxLen ∧ rencj16 xs x3l9 x10l9 C9) ∧ (((uplainM ((intsOf xs).getD (Int.toNat x10l9) default))) = false → (0 : Int) ≤ (IntKind.wrap .u8 (Int.tdiv ((intsOf xs).getD (Int.toNat x10l9) default) 16)) ∧ ((IntKind.wrap .u8 (Int.tdiv ((intsOf xs).getD (Int.toNat x10l9) default) 16)) : Int) ≤ (IntKind.wrap .u8 ((IntKind.wrap .u8 (Int.tdiv ((intsOf xs).getD (Int.toNat x10l9) default) 16)) + 1)) ∧ (IntKind.wrap .u8 ((IntKind.wrap .u8 (Int.tdiv ((intsOf xs).getD (Int.toNat x10l9) default) 16)) + 1)) ≤ (([48, 49, 50, 51, 52, 53, 54, 55, 56, 57, 65, 66, 67, 68, 69, 70] : Bs).length : Int) ∧ ([37] : Bs).length + ((([48, 49, 50, 51, 52, 53, 54, 55, 56, 57, 65, 66, 67, 68, 69, 70] : Bs).take (Int.toNat (IntKind.wrap .u8 ((IntKind.wrap .u8 (Int.tdiv ((intsOf xs).getD (Int.toNat x10l9) default) 16)) + 1)))).drop (Int.toNat (IntKind.wrap .u8 (Int.tdiv ((intsOf xs).getD (Int.toNat x10l9) default) 16)))).length ≤ maxLen ∧ (0 : Int) ≤ (Int.tmod ((intsOf xs).getD (Int.toNat x10l9) default) 16) ∧ ((Int.tmod ((intsOf xs).getD (Int.toNat x10l9) default) 16) : Int) ≤ (IntKind.wrap .u8 ((Int.tmod ((intsOf xs).getD (Int.toNat x10l9) default) 16) + 1)) ∧ (IntKind.wrap .u8 ((Int.tmod ((intsOf xs).getD (Int.toNat x10l9) default) 16) + 1)) ≤ (([48, 49, 50, 51, 52, 53, 54, 55, 56, 57, 65, 66, 67, 68, 69, 70] : Bs).length : Int) ∧ (([37] : Bs) ++ ((([48, 49, 50, 51, 52, 53, 54, 55, 56, 57, 65, 66, 67, 68, 69, 70] : Bs).take (Int.toNat (IntKind.wrap .u8 ((IntKind.wrap .u8 (Int.tdiv ((intsOf xs).getD (Int.toNat x10l9) default) 16)) + 1)))).drop (Int.toNat (IntKind.wrap .u8 (Int.tdiv ((intsOf xs).getD (Int.toNat x10l9) default) 16))))).length + ((([48, 49, 50, 51, 52, 53, 54, 55, 56, 57, 65, 66, 67, 68, 69, 70] : Bs).take (Int.toNat (IntKind.wrap .u8 ((Int.tmod ((intsOf xs).getD (Int.toNat x10l9) default) 16) + 1)))).drop (Int.toNat (Int.tmod ((intsOf xs).getD (Int.toNat x10l9) default) 16))).length ≤ maxLen ∧ x3l9.length + ((([37] : Bs) ++ ((([48, 49, 50, 51, 52, 53, 54, 55, 56, 57, 65, 66, 67, 68, 69, 70] : Bs).take (Int.toNat (IntKind.wrap .u8 ((IntKind.wrap .u8 (Int.tdiv ((intsOf xs).getD (Int.toNat x10l9) default) 16)) + 1)))).drop (Int.toNat (IntKind.wrap .u8 (Int.tdiv ((intsOf xs).getD (Int.toNat x10l9) default) 16))))) ++ ((([48, 49, 50, 51, 52, 53, 54, 55, 56, 57, 65, 66, 67, 68, 69, 70] : Bs).take (Int.toNat (IntKind.wrap .u8 ((Int.tmod ((intsOf xs).getD (Int.toNat x10l9) default) 16) + 1)))).drop (Int.toNat (Int.tmod ((intsOf xs).getD (Int.toNat x10l9) default) 16)))).length ≤ maxLen ∧ rencj16 xs x3l9 x10l9 C9)) ∧ ((decide (x10l9 < ((intsOf xs).length : Int))) = false → K x3l9)
def rencl9 (xs : Bs) (K : Bs → Prop) : Nat → Bs → Int → Prop
 | 0, _, _ => False
 | k + 1, x3l9, x10l9 => rencl9b xs K x3l9 x10l9 (rencl9 xs K k)
def rencF (xs : Bs) (K : Bs → Prop) : Prop :=
 xs.length ≤ maxLen ∧ ∃ k, rencl9 xs K k ([] : Bs) 0
theorem renc_ok {g : Ghost} (xs : Bs) (hG0 : SomeInt g 0) (K : Bs → Prop)
  (hF : rencF xs K) : CallsH Tryz.prog 73 #[sv xs] g [] (fun g' H' v => ∃ (r0 : Bs), v = sv r0 ∧ H' = [] ∧ K r0) := by
 refine CallsH.enter 41 [(0, sv xs)] Tryz.func73 rfl (by kernel_rfl) (by kernel_rfl) (by kernel_rfl) fun w0 => ?_
 refine Ok.seq (Ok.region (Ok.batch 1 [(0, sv xs)] (by kernel_rfl) (Ok.nil (Ok.thenN (Ok.seq (Ok.region (Ok.bat 1 [0] [(3, sv ([] : Bs))] ?_)))))))
 refine Ok.nil (Ok.thenN (Ok.seq (Ok.seq (Ok.region (Ok.bat 1 [3] [(7, sv xs)] ?_)))))
 obtain ⟨hm1, hF⟩ := hF
 refine Ok.op rfl (OpOk.bytesRo (s := xs) (by kernel_rfl) Tryz.underlying9 Tryz.underlying74 Tryz.underlying5 hm1 rfl fun g1 a1 c1 hx1 hR1 => ?_)
 replace hG0 := hG0.mono hx1.1
 refine Ok.bat 2 [3] [(8, .slice a1 (intsOf xs).length c1), (9, .int .i64 ((intsOf xs).length : Int)), (10, .int .i64 0)] ?_
 refine Ok.nil (Ok.thenN (Ok.block ?_))
 obtain ⟨k, hF⟩ := hF
 refine Ok.loop (fun k a W => ∃ gl9 : Ghost, Gext w0 g1 gl9 ∧ ∃ (x3l9 : Bs) (x10l9 : Int), StA 41 [(3, sv x3l9), (8, .slice a1 (intsOf xs).length c1), (9, .int .i64 ((intsOf xs).length : Int)), (10, .int .i64 x10l9)] a ∧ StW w0 [] gl9 W ∧ rencl9 xs K k x3l9 x10l9) k ?_ ?_
 ·
  exact fun a W hA hW => ⟨g1, (Gext.refl w0 g1), ([] : Bs), 0, hA.sub (by kernel_rfl), hW, hF⟩
 ·
  clear hF
  rintro k9 a W ⟨gl9, hxl9, x3l9, x10l9, hA, hW, hF⟩
  cases k9 with
  | zero => exact (hF : False).elim
  | succ k9 =>
   refine (?_ : Ok _ _ _ _ _ _) a W hA hW
   clear hA hW
   replace hR1 := hR1.mono hxl9.1
   replace hG0 := hG0.mono hxl9.1
   refine Ok.seq (Ok.region (Ok.bat 1 [3, 8, 9, 10] [(11, .bool (decide (x10l9 < ((intsOf xs).length : Int))))] ?_))
   refine Ok.nil (Ok.thenN (Ok.seq (Ok.cond (b := decide (x10l9 < ((intsOf xs).length : Int))) rfl (fun hc2 => ?_) (fun hc2 => ?_))))
   ·replace hF := hF.1 hc2
    refine Ok.skip (Ok.thenN (Ok.cut (fun a W => ∃ gj16 : Ghost, Gext w0 gl9 gj16 ∧ StA 41 [(3, sv (rencV2 xs x3l9 x10l9)), (8, .slice a1 (intsOf xs).length c1), (9, .int .i64 ((intsOf xs).length : Int)), (10, .int .i64 x10l9)] a ∧ StW w0 [] gj16 W ∧ rencj16 xs x3l9 x10l9 (rencl9 xs K k9)) ?_ ?_))
    ·
     refine Ok.block (Ok.seq (Ok.region ?_))
     obtain ⟨h04, h14, hF⟩ := hF
     have he4 := get_of (l := (intsOf xs)) (default : Int) h14
     generalize hg4 : ((intsOf xs).getD (Int.toNat x10l9) default) = e4 at he4 hF ⊢
     refine Ok.op rfl (OpOk.indexRo (e := .int .u8) (i := x10l9) (el := e4) rfl rfl Tryz.underlying74 (by kernel_rfl) hR1 h04 he4 rfl fun q3 o3 cs3 _ hat3 hr3 => ?_)
     obtain rfl := hr3
     replace hat3 : At gl9 q3 o3 [.int .u8 e4] := hat3
     refine Ok.op rfl (OpOk.step (v := .int .u8 e4) (Yields.loadRo 0 hat3 (by kernel_rfl) Tryz.underlying5 rfl (by kernel_rfl)) rfl rfl (Ok.bat 1 [3, 8, 9, 10] [(5, .int .u8 e4)] ?_))
     refine Ok.nil (Ok.thenN (Ok.seq (Ok.region (Ok.bat 1 [3, 5, 8, 9, 10] [(14, .int .u8 e4)] ?_))))
     obtain ⟨hp5, hF⟩ := hF
     refine Ok.op rfl (OpOk.callG (v := .bool (uplainM e4)) enr (fun W hW => rplain_c e4 (hG0.mono hW.sees) hp5) rfl ?_)
     refine Ok.nil (Ok.thenN (Ok.cond (b := (uplainM e4)) rfl (fun hc6 => ?_) (fun hc6 => ?_)))
     ·replace hF := hF.1 hc6
      refine Ok.region (Ok.bat 2 [8, 9, 10] [(16, sv x3l9), (17, .int .u8 e4)] ?_)
      have hL7 : RepL gl9 (.int .u8) ([.int .u8 e4] : List Value) ([e4] : List (Int)) := (RepL.consN (c := [.int .u8 e4]) rfl rfl)
      refine Ok.op rfl (OpOk.lit (E := 5) (.int .u8) ([e4] : List (Int)) ([.int .u8 e4] : List Value) (by kernel_rfl) (by kernel_rfl) rfl (by kernel_rfl) hL7 rfl fun b7 => ?_)
      refine Ok.op rfl (OpOk.step (v := sv (bytesOf ([e4] : List (Int)))) (Yields.strOfOwn 0 (by kernel_rfl) rfl rfl hL7 Tryz.underlying74 Tryz.underlying9 Tryz.underlying5) rfl rfl ?_)
      obtain ⟨hv, hF⟩ := hF
      refine Ok.op rfl (OpOk.step (v := sv (x3l9 ++ (bytesOf ([e4] : List (Int))))) (Yields.strAdd rfl rfl hv) rfl rfl (Ok.bat 1 [8, 9, 10] [(3, sv (x3l9 ++ (bytesOf ([e4] : List (Int)))))] ?_))
      refine Ok.nil (Ok.blockN (Ok.thenN ?_))
      subst hg4
      refine Ok.reval 3 rfl (show (sv (x3l9 ++ (bytesOf ([((intsOf xs).getD (Int.toNat x10l9) default)] : List (Int)))) : Value) = sv (rencV2 xs x3l9 x10l9) from congrArg ((fun s : Bs => Value.string ⟨⟨s⟩⟩)) ((if_t hc6).symm)) ?_
      exact fun a W hA hW => ⟨gl9, (Gext.refl w0 gl9), hA.sub (by kernel_rfl), hW.sub (.cons _ .slnil), hF⟩
     ·replace hF := hF.2 hc6
      refine Ok.seq (Ok.region (Ok.bat 1 [3, 5, 8, 9, 10] [(6, sv ([48, 49, 50, 51, 52, 53, 54, 55, 56, 57, 65, 66, 67, 68, 69, 70] : Bs))] ?_))
      refine Ok.nil (Ok.thenN (Ok.quiet' (by kernel_rfl) (by kernel_rfl) (OkQ.bat 7 [5, 6, 8, 9, 10] [(21, sv x3l9), (22, sv ([48, 49, 50, 51, 52, 53, 54, 55, 56, 57, 65, 66, 67, 68, 69, 70] : Bs)), (24, .int .u8 (IntKind.wrap .u8 (Int.tdiv e4 16))), (27, .int .u8 (IntKind.wrap .u8 ((IntKind.wrap .u8 (Int.tdiv e4 16)) + 1)))] ?_)))
      obtain ⟨h08, h18, h28, hF⟩ := hF
      refine OkQ.op rfl (OpQ.step (v := sv ((([48, 49, 50, 51, 52, 53, 54, 55, 56, 57, 65, 66, 67, 68, 69, 70] : Bs).take (Int.toNat (IntKind.wrap .u8 ((IntKind.wrap .u8 (Int.tdiv e4 16)) + 1)))).drop (Int.toNat (IntKind.wrap .u8 (Int.tdiv e4 16))))) (Yields.sliceStr (s := ([48, 49, 50, 51, 52, 53, 54, 55, 56, 57, 65, 66, 67, 68, 69, 70] : Bs)) (l := (IntKind.wrap .u8 (Int.tdiv e4 16))) (h := (IntKind.wrap .u8 ((IntKind.wrap .u8 (Int.tdiv e4 16)) + 1))) (by kernel_rfl) Tryz.underlying9 (.inl ⟨_, _, rfl, rfl⟩) (.inl ⟨_, _, rfl, rfl⟩) h08 h18 h28 ((([48, 49, 50, 51, 52, 53, 54, 55, 56, 57, 65, 66, 67, 68, 69, 70] : Bs).take (Int.toNat (IntKind.wrap .u8 ((IntKind.wrap .u8 (Int.tdiv e4 16)) + 1)))).drop (Int.toNat (IntKind.wrap .u8 (Int.tdiv e4 16)))) rfl) rfl rfl ?_)
      obtain ⟨hv, hF⟩ := hF
      refine OkQ.op rfl (OpQ.step (v := sv (([37] : Bs) ++ ((([48, 49, 50, 51, 52, 53, 54, 55, 56, 57, 65, 66, 67, 68, 69, 70] : Bs).take (Int.toNat (IntKind.wrap .u8 ((IntKind.wrap .u8 (Int.tdiv e4 16)) + 1)))).drop (Int.toNat (IntKind.wrap .u8 (Int.tdiv e4 16)))))) (Yields.strAdd rfl rfl hv) rfl rfl (OkQ.bat 6 [8, 9, 10, 21] [(29, sv (([37] : Bs) ++ ((([48, 49, 50, 51, 52, 53, 54, 55, 56, 57, 65, 66, 67, 68, 69, 70] : Bs).take (Int.toNat (IntKind.wrap .u8 ((IntKind.wrap .u8 (Int.tdiv e4 16)) + 1)))).drop (Int.toNat (IntKind.wrap .u8 (Int.tdiv e4 16)))))), (30, sv ([48, 49, 50, 51, 52, 53, 54, 55, 56, 57, 65, 66, 67, 68, 69, 70] : Bs)), (32, .int .u8 (Int.tmod e4 16)), (35, .int .u8 (IntKind.wrap .u8 ((Int.tmod e4 16) + 1)))] ?_))
      obtain ⟨h09, h19, h29, hF⟩ := hF
      refine OkQ.op rfl (OpQ.step (v := sv ((([48, 49, 50, 51, 52, 53, 54, 55, 56, 57, 65, 66, 67, 68, 69, 70] : Bs).take (Int.toNat (IntKind.wrap .u8 ((Int.tmod e4 16) + 1)))).drop (Int.toNat (Int.tmod e4 16)))) (Yields.sliceStr (s := ([48, 49, 50, 51, 52, 53, 54, 55, 56, 57, 65, 66, 67, 68, 69, 70] : Bs)) (l := (Int.tmod e4 16)) (h := (IntKind.wrap .u8 ((Int.tmod e4 16) + 1))) (by kernel_rfl) Tryz.underlying9 (.inl ⟨_, _, rfl, rfl⟩) (.inl ⟨_, _, rfl, rfl⟩) h09 h19 h29 ((([48, 49, 50, 51, 52, 53, 54, 55, 56, 57, 65, 66, 67, 68, 69, 70] : Bs).take (Int.toNat (IntKind.wrap .u8 ((Int.tmod e4 16) + 1)))).drop (Int.toNat (Int.tmod e4 16))) rfl) rfl rfl ?_)
      obtain ⟨hv, hF⟩ := hF
      refine OkQ.op rfl (OpQ.step (v := sv ((([37] : Bs) ++ ((([48, 49, 50, 51, 52, 53, 54, 55, 56, 57, 65, 66, 67, 68, 69, 70] : Bs).take (Int.toNat (IntKind.wrap .u8 ((IntKind.wrap .u8 (Int.tdiv e4 16)) + 1)))).drop (Int.toNat (IntKind.wrap .u8 (Int.tdiv e4 16))))) ++ ((([48, 49, 50, 51, 52, 53, 54, 55, 56, 57, 65, 66, 67, 68, 69, 70] : Bs).take (Int.toNat (IntKind.wrap .u8 ((Int.tmod e4 16) + 1)))).drop (Int.toNat (Int.tmod e4 16))))) (Yields.strAdd rfl rfl hv) rfl rfl ?_)
      obtain ⟨hv, hF⟩ := hF
      refine OkQ.op rfl (OpQ.step (v := sv (x3l9 ++ ((([37] : Bs) ++ ((([48, 49, 50, 51, 52, 53, 54, 55, 56, 57, 65, 66, 67, 68, 69, 70] : Bs).take (Int.toNat (IntKind.wrap .u8 ((IntKind.wrap .u8 (Int.tdiv e4 16)) + 1)))).drop (Int.toNat (IntKind.wrap .u8 (Int.tdiv e4 16))))) ++ ((([48, 49, 50, 51, 52, 53, 54, 55, 56, 57, 65, 66, 67, 68, 69, 70] : Bs).take (Int.toNat (IntKind.wrap .u8 ((Int.tmod e4 16) + 1)))).drop (Int.toNat (Int.tmod e4 16)))))) (Yields.strAdd rfl rfl hv) rfl rfl (OkQ.bat 1 [8, 9, 10] [(3, sv (x3l9 ++ ((([37] : Bs) ++ ((([48, 49, 50, 51, 52, 53, 54, 55, 56, 57, 65, 66, 67, 68, 69, 70] : Bs).take (Int.toNat (IntKind.wrap .u8 ((IntKind.wrap .u8 (Int.tdiv e4 16)) + 1)))).drop (Int.toNat (IntKind.wrap .u8 (Int.tdiv e4 16))))) ++ ((([48, 49, 50, 51, 52, 53, 54, 55, 56, 57, 65, 66, 67, 68, 69, 70] : Bs).take (Int.toNat (IntKind.wrap .u8 ((Int.tmod e4 16) + 1)))).drop (Int.toNat (Int.tmod e4 16))))))] ?_))
      refine OkQ.nil (Ok.blockN (Ok.thenN ?_))
      subst hg4
      refine Ok.reval 3 rfl (show (sv (x3l9 ++ ((([37] : Bs) ++ ((([48, 49, 50, 51, 52, 53, 54, 55, 56, 57, 65, 66, 67, 68, 69, 70] : Bs).take (Int.toNat (IntKind.wrap .u8 ((IntKind.wrap .u8 (Int.tdiv ((intsOf xs).getD (Int.toNat x10l9) default) 16)) + 1)))).drop (Int.toNat (IntKind.wrap .u8 (Int.tdiv ((intsOf xs).getD (Int.toNat x10l9) default) 16))))) ++ ((([48, 49, 50, 51, 52, 53, 54, 55, 56, 57, 65, 66, 67, 68, 69, 70] : Bs).take (Int.toNat (IntKind.wrap .u8 ((Int.tmod ((intsOf xs).getD (Int.toNat x10l9) default) 16) + 1)))).drop (Int.toNat (Int.tmod ((intsOf xs).getD (Int.toNat x10l9) default) 16))))) : Value) = sv (rencV2 xs x3l9 x10l9) from congrArg ((fun s : Bs => Value.string ⟨⟨s⟩⟩)) ((if_f hc6).symm)) ?_
      exact fun a W hA hW => ⟨gl9, (Gext.refl w0 gl9), hA.sub (by kernel_rfl), hW, hF⟩
    ·
     clear hF
     rintro a W ⟨gj16, hxj16, hA, hW, hF⟩
     refine (?_ : Ok _ _ _ _ _ _) a W hA hW
     clear hA hW
     replace hR1 := hR1.mono hxj16.1
     replace hG0 := hG0.mono hxj16.1
     refine Ok.region (Ok.bat 2 [3, 8, 9] [(10, .int .i64 (w6 (x10l9 + 1)))] ?_)
     refine Ok.nil (Ok.thenN ?_)
     exact fun a W hA hW => ⟨k9, Nat.lt_succ_self _, gj16, (hxl9.trans hxj16), (rencV2 xs x3l9 x10l9), w6 (x10l9 + 1), hA.sub (by kernel_rfl), hW, hF⟩
   ·replace hF := hF.2 hc2
    refine Ok.exit (Ok.thenE (Ok.thenE (Ok.blockHit (Ok.thenN (Ok.seq (Ok.region (Ok.batch 2 [(2, sv x3l9)] (by kernel_rfl) (Ok.nil (Ok.thenN (Ok.ret ?_))))))))))
    exact Ok.resH (vs := [sv x3l9]) (.inl rfl) rfl (.cons (.tmp rfl) .nil) (hx1.trans hxl9) ⟨x3l9, rfl, rfl, hF⟩
theorem trip_ref (b : UInt8) : ((0 : Int) ≤ (IntKind.wrap .u8 (Int.tdiv (b.toNat : Int) 16)) ∧ ((IntKind.wrap .u8 (Int.tdiv (b.toNat : Int) 16)) : Int) ≤ (IntKind.wrap .u8 ((IntKind.wrap .u8 (Int.tdiv (b.toNat : Int) 16)) + 1)) ∧ (IntKind.wrap .u8 ((IntKind.wrap .u8 (Int.tdiv (b.toNat : Int) 16)) + 1)) ≤ 16) ∧
  ((0 : Int) ≤ Int.tmod (b.toNat : Int) 16 ∧ (Int.tmod (b.toNat : Int) 16) ≤ (IntKind.wrap .u8 ((Int.tmod (b.toNat : Int) 16) + 1)) ∧ (IntKind.wrap .u8 ((Int.tmod (b.toNat : Int) 16) + 1)) ≤ 16) ∧
  (([37] : Bs) ++ ((([48, 49, 50, 51, 52, 53, 54, 55, 56, 57, 65, 66, 67, 68, 69, 70] : Bs).take (Int.toNat (IntKind.wrap .u8 ((IntKind.wrap .u8 (Int.tdiv (b.toNat : Int) 16)) + 1)))).drop (Int.toNat (IntKind.wrap .u8 (Int.tdiv (b.toNat : Int) 16))))) ++ ((([48, 49, 50, 51, 52, 53, 54, 55, 56, 57, 65, 66, 67, 68, 69, 70] : Bs).take (Int.toNat (IntKind.wrap .u8 ((Int.tmod (b.toNat : Int) 16) + 1)))).drop (Int.toNat (Int.tmod (b.toNat : Int) 16))) = utripS (b.toNat : Int) := by
 have := byte_all (p := fun b => decide (((0 : Int) ≤ (IntKind.wrap .u8 (Int.tdiv (b.toNat : Int) 16)) ∧ ((IntKind.wrap .u8 (Int.tdiv (b.toNat : Int) 16)) : Int) ≤ (IntKind.wrap .u8 ((IntKind.wrap .u8 (Int.tdiv (b.toNat : Int) 16)) + 1)) ∧ (IntKind.wrap .u8 ((IntKind.wrap .u8 (Int.tdiv (b.toNat : Int) 16)) + 1)) ≤ 16) ∧
  ((0 : Int) ≤ Int.tmod (b.toNat : Int) 16 ∧ (Int.tmod (b.toNat : Int) 16) ≤ (IntKind.wrap .u8 ((Int.tmod (b.toNat : Int) 16) + 1)) ∧ (IntKind.wrap .u8 ((Int.tmod (b.toNat : Int) 16) + 1)) ≤ 16) ∧
  (([37] : Bs) ++ ((([48, 49, 50, 51, 52, 53, 54, 55, 56, 57, 65, 66, 67, 68, 69, 70] : Bs).take (Int.toNat (IntKind.wrap .u8 ((IntKind.wrap .u8 (Int.tdiv (b.toNat : Int) 16)) + 1)))).drop (Int.toNat (IntKind.wrap .u8 (Int.tdiv (b.toNat : Int) 16))))) ++ ((([48, 49, 50, 51, 52, 53, 54, 55, 56, 57, 65, 66, 67, 68, 69, 70] : Bs).take (Int.toNat (IntKind.wrap .u8 ((Int.tmod (b.toNat : Int) 16) + 1)))).drop (Int.toNat (Int.tmod (b.toNat : Int) 16))) = utripS (b.toNat : Int))) (by decide +kernel) b
 exact of_decide_eq_true this
theorem take_drop_len (l : Bs) (a b : Nat) : ((l.take a).drop b).length ≤ l.length := by
 rw [List.length_drop, List.length_take]; omega
theorem ints_getD (l : Bs) (i : Nat) (h : i < l.length) : (intsOf l).getD i default = ((l.getD i 0).toNat : Int) := by
 simp [intsOf, List.getD_eq_getElem?_getD, h]
theorem bytes_one (b : UInt8) : bytesOf [(b.toNat : Int)] = [b] := by simp [bytesOf]
theorem renc_loop (s : Bs) (hP : encP s) (K : Bs → Prop) : ∀ (k i : Nat) (acc : Bs), i + k = s.length → acc.length ≤ 3 * i → K (acc ++ encS (s.drop i)) → rencl9 s K (k + 1) acc (i : Int) := by
 unfold encP at hP
 intro k
 induction k with
 | zero =>
  intro i acc h1 h2 hK
  rw [List.drop_of_length_le (by omega)] at hK
  refine ⟨fun h => by have := of_decide_eq_true h; rw [intsOf_length] at this; omega, fun _ => ?_⟩
  simpa [encS] using hK
 | succ k ih =>
  intro i acc h1 h2 hK
  have hd := drop_get (l := s) (0 : UInt8) (show i < s.length by omega)
  have e : encS (s.drop i) = encB (s.getD i 0) ++ encS (s.drop (i + 1)) := by rw [hd]; rfl
  rw [e, ← List.append_assoc] at hK
  have hl := encB_len (s.getD i 0)
  have ht := trip_ref (s.getD i 0)
  have key : rencj16 s acc (i : Int) (rencl9 s K (k + 1)) := by
   unfold rencj16 rencV2
   rw [Int.toNat_natCast, ints_getD s i (by omega), w64 (by omega), ht.2.2, bytes_one]
   have e2 : (if uplainM ((s.getD i 0).toNat : Int) = true then acc ++ [s.getD i 0] else acc ++ utripS ((s.getD i 0).toNat : Int)) = acc ++ encB (s.getD i 0) := by
    unfold encB
    split <;> rfl
   rw [e2]
   exact ih (i + 1) _ (by omega) (by rw [List.length_append]; omega) hK
  refine ⟨fun _ => ?_, fun h => by have := of_decide_eq_false h; rw [intsOf_length] at this; omega⟩
  rw [Int.toNat_natCast, ints_getD s i (by omega), intsOf_length, maxLen_eq]
  have hx := fun a b => take_drop_len ([48, 49, 50, 51, 52, 53, 54, 55, 56, 57, 65, 66, 67, 68, 69, 70] : Bs) a b
  simp only [List.length_cons, List.length_nil] at hx
  refine ⟨by omega, by omega, byte_nat _, fun _ => ⟨by rw [bytes_one]; simp; omega, key⟩, fun _ => ?_⟩
  have hx1 := hx (Int.toNat (IntKind.wrap .u8 ((IntKind.wrap .u8 (Int.tdiv ((s.getD i 0).toNat : Int) 16)) + 1))) (Int.toNat (IntKind.wrap .u8 (Int.tdiv ((s.getD i 0).toNat : Int) 16)))
  have hx2 := hx (Int.toNat (IntKind.wrap .u8 ((Int.tmod ((s.getD i 0).toNat : Int) 16) + 1))) (Int.toNat (Int.tmod ((s.getD i 0).toNat : Int) 16))
  refine ⟨ht.1.1, ht.1.2.1, ht.1.2.2, ?_, ht.2.1.1, ht.2.1.2.1, ht.2.1.2.2, ?_, ?_, key⟩
  ·simp only [List.length_cons, List.length_nil]; omega
  ·simp only [List.length_append, List.length_cons, List.length_nil]; omega
  ·rw [ht.2.2]
   show acc.length + 3 ≤ _
   omega
theorem renc_F (s : Bs) (hp : encP s) : rencF s (fun r => r = encS s) :=
 ⟨by unfold encP at hp; rw [maxLen_eq]; omega, _, renc_loop s hp _ s.length 0 [] (by omega) (by simp) (by simp)⟩
theorem renc_c {g : Ghost} (xs : Bs) (hG0 : SomeInt g 0)  (hp : encP xs) : CallsG Tryz.prog 73 #[sv xs] g (sv (encS xs)) :=
 (renc_ok xs hG0 _ (renc_F xs hp)).gives (by rintro g' H' v _ ⟨r0, rfl, rfl, hK⟩; subst hK; rfl)
def rdgF (xc : Int) (K : Int → Prop) : Prop :=
 lowrP (bytesOf ([xc] : List (Int))) ∧ idxP ([48, 49, 50, 51, 52, 53, 54, 55, 56, 57, 97, 98, 99, 100, 101, 102] : Bs) (lowrS (bytesOf ([xc] : List (Int)))) ∧ K (idxS ([48, 49, 50, 51, 52, 53, 54, 55, 56, 57, 97, 98, 99, 100, 101, 102] : Bs) (lowrS (bytesOf ([xc] : List (Int)))))
theorem rdg_ok {g : Ghost} (xc : Int) (hG0 : SomeInt g 0) (K : Int → Prop)
  (hF : rdgF xc K) : CallsH Tryz.prog 99 #[.int .u8 xc] g [] (fun g' H' v => ∃ (r0 : Int), v = .int .i64 r0 ∧ H' = [] ∧ K r0) := by
 refine CallsH.enter 8 [(0, .int .u8 xc)] Tryz.func99 rfl (by kernel_rfl) (by kernel_rfl) (by kernel_rfl) fun w0 => ?_
 refine Ok.seq (Ok.region (Ok.batch 1 [(0, .int .u8 xc)] (by kernel_rfl) (Ok.nil (Ok.thenN (Ok.seq (Ok.region (Ok.batch 1 [(3, .int .u8 xc)] (by kernel_rfl) ?_)))))))
 have hL1 : RepL g (.int .u8) ([.int .u8 xc] : List Value) ([xc] : List (Int)) := (RepL.consN (c := [.int .u8 xc]) rfl rfl)
 refine Ok.op rfl (OpOk.lit (E := 5) (.int .u8) ([xc] : List (Int)) ([.int .u8 xc] : List Value) (by kernel_rfl) (by kernel_rfl) rfl (by kernel_rfl) hL1 rfl fun b1 => ?_)
 refine Ok.op rfl (OpOk.step (v := sv (bytesOf ([xc] : List (Int)))) (Yields.strOfOwn 0 (by kernel_rfl) rfl rfl hL1 Tryz.underlying74 Tryz.underlying9 Tryz.underlying5) rfl rfl ?_)
 obtain ⟨hp2, hF⟩ := hF
 refine Ok.op rfl (OpOk.callG (v := sv (lowrS (bytesOf ([xc] : List (Int))))) enr (fun W hW => lowr_c (bytesOf ([xc] : List (Int))) hp2) rfl ?_)
 obtain ⟨hp3, hF⟩ := hF
 refine Ok.op rfl (OpOk.callG (v := .int .i64 (idxS ([48, 49, 50, 51, 52, 53, 54, 55, 56, 57, 97, 98, 99, 100, 101, 102] : Bs) (lowrS (bytesOf ([xc] : List (Int)))))) enr (fun W hW => idx_c ([48, 49, 50, 51, 52, 53, 54, 55, 56, 57, 97, 98, 99, 100, 101, 102] : Bs) (lowrS (bytesOf ([xc] : List (Int)))) (hG0.mono hW.sees) hp3) rfl ?_)
 refine Ok.batch 1 [(2, .int .i64 (idxS ([48, 49, 50, 51, 52, 53, 54, 55, 56, 57, 97, 98, 99, 100, 101, 102] : Bs) (lowrS (bytesOf ([xc] : List (Int))))))] (by kernel_rfl) (Ok.nil (Ok.thenN (Ok.ret ?_)))
 exact Ok.resP (vs := [.int .i64 (idxS ([48, 49, 50, 51, 52, 53, 54, 55, 56, 57, 97, 98, 99, 100, 101, 102] : Bs) (lowrS (bytesOf ([xc] : List (Int)))))]) [] [] (by decide) rfl (.inl rfl) rfl (.cons (.tmp rfl) .nil) (Gext.refl w0 g) ⟨(idxS ([48, 49, 50, 51, 52, 53, 54, 55, 56, 57, 97, 98, 99, 100, 101, 102] : Bs) (lowrS (bytesOf ([xc] : List (Int))))), rfl, rfl, hF⟩
def asciiP (c : Int) : Prop := 0 ≤ c ∧ c ≤ 127
def rdgS (c : Int) : Int := uvalM c
instance (c x : Int) : Decidable (rdgF c (fun r => r = x)) := by unfold rdgF lowrP idxP; infer_instance
theorem rdg_F (c : Int) (hp : asciiP c) : rdgF c (fun r => r = rdgS c) := by
 unfold asciiP at hp
 obtain ⟨b, rfl⟩ := of_byte (c := c) (by unfold byteP; omega)
 have := byte_all (p := fun b => decide (127 < b.toNat) || decide (rdgF (b.toNat : Int) (fun r => r = rdgS (b.toNat : Int)))) (by decide +kernel) b
 rw [Bool.or_eq_true] at this
 rcases this with h | h
 ·have := of_decide_eq_true h; omega
 ·exact of_decide_eq_true h
theorem rdg_c {g : Ghost} (xc : Int) (hG0 : SomeInt g 0)  (hp : asciiP xc) : CallsG Tryz.prog 99 #[.int .u8 xc] g (.int .i64 (rdgS xc)) :=
 (rdg_ok xc hG0 _ (rdg_F xc hp)).gives (by rintro g' H' v _ ⟨r0, rfl, rfl, hK⟩; subst hK; rfl)
def runitsV3 (xs : Bs) (x6l11 : Int) : Bool :=
 ((decide ((w6 (x6l11 + 2)) ≥ (xs.length : Int))) || ((decide (((xs.getD (Int.toNat (w6 (x6l11 + 1))) 0).toNat : Int) > 127)) || ((decide (((xs.getD (Int.toNat (w6 (x6l11 + 2))) 0).toNat : Int) > 127)) || ((decide ((rdgS ((xs.getD (Int.toNat (w6 (x6l11 + 1))) 0).toNat : Int)) < 0)) || (decide ((rdgS ((xs.getD (Int.toNat (w6 (x6l11 + 2))) 0).toNat : Int)) < 0))))))
def runitsV6 (xs : Bs) (x6l11 : Int) : Int :=
 (if (((xs.getD (Int.toNat x6l11) 0).toNat : Int) != 37) = true then x6l11 else w6 (x6l11 + 2))
def runitsV7 (xs : Bs) (x6l11 : Int) (yown1_0l11 : List (Int × Bool)) : List (Int × Bool) :=
 (if (((xs.getD (Int.toNat x6l11) 0).toNat : Int) != 37) = true then (yown1_0l11 ++ ([(((xs.getD (Int.toNat x6l11) 0).toNat : Int), false)] : List (Int × Bool))) else (yown1_0l11 ++ ([(IntKind.wrap .u8 (w6 ((w6 (16 * (rdgS ((xs.getD (Int.toNat (w6 (x6l11 + 1))) 0).toNat : Int)))) + (rdgS ((xs.getD (Int.toNat (w6 (x6l11 + 2))) 0).toNat : Int)))), true)] : List (Int × Bool))))
def runitsj18 (xs : Bs) (x6l11 : Int) (yown1_0l11 : List (Int × Bool)) (C11 : Int → (List (Int × Bool)) → Prop) : Prop :=
 C11 (w6 ((runitsV6 xs x6l11) + 1)) (runitsV7 xs x6l11 yown1_0l11)
def runitsj29 (xs : Bs) (K : (List (Int × Bool)) → Bool → Prop) (x6l11 : Int) (yown1_0l11 : List (Int × Bool)) (C11 : Int → (List (Int × Bool)) → Prop) : Prop :=
 (((runitsV3 xs x6l11)) = true → K ([] : List (Int × Bool)) false) ∧ (((runitsV3 xs x6l11)) = false → (0 : Int) ≤ (w6 (x6l11 + 1)) ∧ Int.toNat (w6 (x6l11 + 1)) < xs.length ∧ asciiP ((xs.getD (Int.toNat (w6 (x6l11 + 1))) 0).toNat : Int) ∧ (0 : Int) ≤ (w6 (x6l11 + 2)) ∧ Int.toNat (w6 (x6l11 + 2)) < xs.length ∧ asciiP ((xs.getD (Int.toNat (w6 (x6l11 + 2))) 0).toNat : Int) ∧ (yown1_0l11 ++ ([(IntKind.wrap .u8 (w6 ((w6 (16 * (rdgS ((xs.getD (Int.toNat (w6 (x6l11 + 1))) 0).toNat : Int)))) + (rdgS ((xs.getD (Int.toNat (w6 (x6l11 + 2))) 0).toNat : Int)))), true)] : List (Int × Bool))).length ≤ 70368744177664 ∧ runitsj18 xs x6l11 yown1_0l11 C11)
def runitsl11b (xs : Bs) (K : (List (Int × Bool)) → Bool → Prop) (x6l11 : Int) (yown1_0l11 : List (Int × Bool)) (C11 : Int → (List (Int × Bool)) → Prop) : Prop :=
 ((decide (x6l11 < (xs.length : Int))) = true → (0 : Int) ≤ x6l11 ∧ Int.toNat x6l11 < xs.length ∧ (((((xs.getD (Int.toNat x6l11) 0).toNat : Int) != 37)) = true → (yown1_0l11 ++ ([(((xs.getD (Int.toNat x6l11) 0).toNat : Int), false)] : List (Int × Bool))).length ≤ 70368744177664 ∧ runitsj18 xs x6l11 yown1_0l11 C11) ∧ (((((xs.getD (Int.toNat x6l11) 0).toNat : Int) != 37)) = false → ((decide ((w6 (x6l11 + 2)) ≥ (xs.length : Int))) = true → runitsj29 xs K x6l11 yown1_0l11 C11) ∧ ((decide ((w6 (x6l11 + 2)) ≥ (xs.length : Int))) = false → (0 : Int) ≤ (w6 (x6l11 + 1)) ∧ Int.toNat (w6 (x6l11 + 1)) < xs.length ∧ ((decide (((xs.getD (Int.toNat (w6 (x6l11 + 1))) 0).toNat : Int) > 127)) = true → runitsj29 xs K x6l11 yown1_0l11 C11) ∧ ((decide (((xs.getD (Int.toNat (w6 (x6l11 + 1))) 0).toNat : Int) > 127)) = false → (0 : Int) ≤ (w6 (x6l11 + 2)) ∧ Int.toNat (w6 (x6l11 + 2)) < xs.length ∧ ((decide (((xs.getD (Int.toNat (w6 (x6l11 + 2))) 0).toNat : Int) > 127)) = true → runitsj29 xs K x6l11 yown1_0l11 C11) ∧ ((decide (((xs.getD (Int.toNat (w6 (x6l11 + 2))) 0).toNat : Int) > 127)) = false → asciiP ((xs.getD (Int.toNat (w6 (x6l11 + 1))) 0).toNat : Int) ∧ ((decide ((rdgS ((xs.getD (Int.toNat (w6 (x6l11 + 1))) 0).toNat : Int)) < 0)) = true → runitsj29 xs K x6l11 yown1_0l11 C11) ∧ ((decide ((rdgS ((xs.getD (Int.toNat (w6 (x6l11 + 1))) 0).toNat : Int)) < 0)) = false → asciiP ((xs.getD (Int.toNat (w6 (x6l11 + 2))) 0).toNat : Int) ∧ runitsj29 xs K x6l11 yown1_0l11 C11)))))) ∧ ((decide (x6l11 < (xs.length : Int))) = false → K yown1_0l11 true)
def runitsl11 (xs : Bs) (K : (List (Int × Bool)) → Bool → Prop) : Nat → Int → (List (Int × Bool)) → Prop
 | 0, _, _ => False
 | k + 1, x6l11, yown1_0l11 => runitsl11b xs K x6l11 yown1_0l11 (runitsl11 xs K k)
def runitsF (xs : Bs) (K : (List (Int × Bool)) → Bool → Prop) : Prop :=
 ∃ k, runitsl11 xs K k 0 ([] : List (Int × Bool))
theorem runits_ok {g : Ghost} (xs : Bs) (hG0 : SomeInt g 0) (K : (List (Int × Bool)) → Bool → Prop)
  (hF : runitsF xs K) : CallsH Tryz.prog 71 #[sv xs] g [] (fun g' H' v => ∃ (r0 : List (Int × Bool)), ∃ (r1 : Bool), ∃ (ar0_0 : Option Addr) (cr0_0 : Nat), v = .tuple #[.slice ar0_0 r0.length cr0_0, .bool r1] ∧ Rep g' (.slice (.pair (.int .u8) (.bool))) [.slice ar0_0 r0.length cr0_0] r0 ∧ H' = [] ∧ K r0 r1) := by
 refine CallsH.enter 83 [(0, sv xs)] Tryz.func71 rfl (by kernel_rfl) (by kernel_rfl) (by kernel_rfl) fun w0 => ?_
 refine Ok.seq (Ok.region (Ok.batch 1 [(0, sv xs)] (by kernel_rfl) (Ok.bat 1 [0] [] ?_)))
 refine Ok.nil (Ok.thenN (Ok.seq (Ok.region (Ok.bat 1 [0] [(4, .slice none 0 0)] ?_))))
 have hL1 : RepL g (.pair (.int .u8) (.bool)) [] [] := rfl
 refine Ok.ownNil 107 2 (Ok.nil (Ok.thenN (Ok.seq (Ok.region (Ok.bat 1 [0] [(4, .slice none ([] : List (Int × Bool)).length 0), (5, .func (.func 99) #[] #[])] ?_)))))
 refine Ok.nil (Ok.thenN (Ok.seq (Ok.seq (Ok.region (Ok.bat 1 [0, 4, 5] [(6, .int .i64 0)] ?_)))))
 refine Ok.nil (Ok.thenN (Ok.block ?_))
 obtain ⟨k, hF⟩ := hF
 refine Ok.loop (fun k a W => ∃ gl11 : Ghost, Gext w0 g gl11 ∧ ∃ (x6l11 : Int) (ayown1_0l11 : Option Addr) (cyown1_0l11 : Nat) (yown1_0l11 : List (Int × Bool)) (xsyown1_0l11 : List Value), RepL gl11 (.pair (.int .u8) (.bool)) xsyown1_0l11 yown1_0l11 ∧ StA 83 [(0, sv xs), (4, .slice ayown1_0l11 yown1_0l11.length cyown1_0l11), (5, .func (.func 99) #[] #[]), (6, .int .i64 x6l11)] a ∧ StW w0 [.own (.slice ayown1_0l11 yown1_0l11.length cyown1_0l11) 107 2 yown1_0l11.length xsyown1_0l11] gl11 W ∧ runitsl11 xs K k x6l11 yown1_0l11) k ?_ ?_
 ·
  exact fun a W hA hW => ⟨g, (Gext.refl w0 g), 0, none, 0, ([] : List (Int × Bool)), [], hL1, hA.sub (by kernel_rfl), hW, hF⟩
 ·
  clear hF
  rintro k11 a W ⟨gl11, hxl11, x6l11, ayown1_0l11, cyown1_0l11, yown1_0l11, xsyown1_0l11, hLyown1_0l11, hA, hW, hF⟩
  cases k11 with
  | zero => exact (hF : False).elim
  | succ k11 =>
   refine (?_ : Ok _ _ _ _ _ _) a W hA hW
   clear hA hW
   replace hG0 := hG0.mono hxl11.1
   refine Ok.seq (Ok.seq (Ok.region (Ok.bat 4 [0, 4, 5, 6] [(10, .bool (decide (x6l11 < (xs.length : Int))))] ?_)))
   refine Ok.nil (Ok.thenN (Ok.cond (b := decide (x6l11 < (xs.length : Int))) rfl (fun hc2 => ?_) (fun hc2 => ?_)))
   ·replace hF := hF.1 hc2
    refine Ok.skip (Ok.thenN (Ok.cut (fun a W => ∃ gj18 : Ghost, Gext w0 gl11 gj18 ∧ ∃ (ayown1_0j18 : Option Addr) (cyown1_0j18 : Nat) (xsyown1_0j18 : List Value), RepL gj18 (.pair (.int .u8) (.bool)) xsyown1_0j18 (runitsV7 xs x6l11 yown1_0l11) ∧ StA 83 [(0, sv xs), (4, .slice ayown1_0j18 (runitsV7 xs x6l11 yown1_0l11).length cyown1_0j18), (5, .func (.func 99) #[] #[]), (6, .int .i64 (runitsV6 xs x6l11))] a ∧ StW w0 [.own (.slice ayown1_0j18 (runitsV7 xs x6l11 yown1_0l11).length cyown1_0j18) 107 2 (runitsV7 xs x6l11 yown1_0l11).length xsyown1_0j18] gj18 W ∧ runitsj18 xs x6l11 yown1_0l11 (runitsl11 xs K k11)) ?_ ?_))
    ·
     refine Ok.block (Ok.seq (Ok.seq (Ok.region (Ok.bat 2 [0, 4, 5, 6] [(13, sv xs), (14, .int .i64 x6l11)] ?_))))
     obtain ⟨h03, h13, hF⟩ := hF
     have he3 := get_of (l := xs) (0 : UInt8) h13
     generalize hg3 : (xs.getD (Int.toNat x6l11) 0) = e3 at he3 hF ⊢
     refine Ok.op rfl (OpOk.step (v := .int .u8 (e3.toNat : Int)) (Yields.indexStr (k := .i64) (i := x6l11) (s := xs) (b := e3) (by kernel_rfl) (by kernel_rfl) Tryz.underlying9 h03 he3) rfl rfl (Ok.bat 1 [0, 4, 5, 6] [(16, .bool ((e3.toNat : Int) != 37))] ?_))
     refine Ok.nil (Ok.thenN (Ok.cond (b := ((e3.toNat : Int) != 37)) rfl (fun hc4 => ?_) (fun hc4 => ?_)))
     ·replace hF := hF.1 hc4
      refine Ok.seq (Ok.region (Ok.bat 3 [0, 5, 6] [(17, .slice ayown1_0l11 yown1_0l11.length cyown1_0l11), (18, sv xs), (19, .int .i64 x6l11)] ?_))
      refine Ok.op rfl (OpOk.step (v := .int .u8 (e3.toNat : Int)) (Yields.indexStr (k := .i64) (i := x6l11) (s := xs) (b := e3) (by kernel_rfl) (by kernel_rfl) Tryz.underlying9 h03 he3) rfl rfl (Ok.bat 1 [0, 5, 6, 17] [(21, .agg #[.int .u8 (e3.toNat : Int), .bool false])] ?_))
      have hL5 : RepL gl11 (.pair (.int .u8) (.bool)) ([.int .u8 (e3.toNat : Int), .bool false] : List Value) ([((e3.toNat : Int), false)] : List (Int × Bool)) := (RepL.consN (c := [.int .u8 (e3.toNat : Int), .bool false]) ⟨[.int .u8 (e3.toNat : Int)], [.bool false], rfl, rfl, rfl⟩ rfl)
      refine Ok.op rfl (OpOk.lit (E := 107) (.pair (.int .u8) (.bool)) ([((e3.toNat : Int), false)] : List (Int × Bool)) ([.int .u8 (e3.toNat : Int), .bool false] : List Value) (by kernel_rfl) (by kernel_rfl) rfl (by kernel_rfl) hL5 rfl fun b5 => ?_)
      obtain ⟨hb6, hF⟩ := hF
      refine Ok.op rfl (OpOk.append' (e := .pair (.int .u8) (.bool)) 2 70368744177664 1 0 rfl rfl rfl rfl hLyown1_0l11 hL5 Tryz.underlying103 (by kernel_rfl) (by kernel_rfl) (by kernel_rfl) hb6 rfl fun a6 c6 xs6 hL6 => ?_)
      refine Ok.bat 1 [0, 5, 6] [(4, .slice a6 (yown1_0l11 ++ ([((e3.toNat : Int), false)] : List (Int × Bool))).length c6)] ?_
      refine Ok.nil (Ok.thenN (Ok.exit (Ok.thenE (Ok.blockHit (Ok.thenN ?_)))))
      subst hg3
      refine Ok.reval 4 rfl (show (.slice a6 (yown1_0l11 ++ ([(((xs.getD (Int.toNat x6l11) 0).toNat : Int), false)] : List (Int × Bool))).length c6 : Value) = .slice a6 (runitsV7 xs x6l11 yown1_0l11).length c6 from congrArg (fun l : List (Int × Bool) => Value.slice a6 l.length c6) ((if_t hc4).symm)) ?_
      refine Ok.reval 6 rfl (show (.int .i64 x6l11 : Value) = .int .i64 (runitsV6 xs x6l11) from congrArg (Value.int .i64) ((if_t hc4).symm)) (Ok.heapEq (H' := [.own (.slice (some ⟨b5, 0, none⟩) ([(((xs.getD (Int.toNat x6l11) 0).toNat : Int), false)] : List (Int × Bool)).length 1) 107 2 ([(((xs.getD (Int.toNat x6l11) 0).toNat : Int), false)] : List (Int × Bool)).length ([.int .u8 ((xs.getD (Int.toNat x6l11) 0).toNat : Int), .bool false] : List Value), .own (.slice a6 (runitsV7 xs x6l11 yown1_0l11).length c6) 107 2 (runitsV7 xs x6l11 yown1_0l11).length xs6]) (econs (rfl) (econs (congrArg (fun l : List (Int × Bool) => Ent.own (.slice a6 l.length c6) 107 2 l.length xs6) ((if_t hc4).symm)) rfl)) ?_)
      exact fun a W hA hW => ⟨gl11, (Gext.refl w0 gl11), a6, c6, xs6, (Eq.mp (congrArg (fun l : List (Int × Bool) => RepL gl11 (.pair (.int .u8) (.bool)) xs6 l) ((if_t hc4).symm)) hL6), hA.sub (by kernel_rfl), hW.sub (.cons _ (.cons_cons _ .slnil)), hF⟩
     ·replace hF := hF.2 hc4
      refine Ok.skip (Ok.thenN (Ok.seq (Ok.cut (fun a W => ∃ gj29 : Ghost, Gext w0 gl11 gj29 ∧ StA 83 [(0, sv xs), (4, .slice ayown1_0l11 yown1_0l11.length cyown1_0l11), (5, .func (.func 99) #[] #[]), (6, .int .i64 x6l11), (60, .bool (runitsV3 xs x6l11))] a ∧ StW w0 [.own (.slice ayown1_0l11 yown1_0l11.length cyown1_0l11) 107 2 yown1_0l11.length xsyown1_0l11] gj29 W ∧ runitsj29 xs K x6l11 yown1_0l11 (runitsl11 xs K k11)) ?_ ?_)))
      ·
       refine Ok.region (Ok.bat 6 [0, 4, 5, 6] [(29, .bool (decide ((w6 (x6l11 + 2)) ≥ (xs.length : Int))))] ?_)
       refine Ok.boolAt 29 (decide ((w6 (x6l11 + 2)) ≥ (xs.length : Int))) rfl (fun hc16 => ?_) (fun hc16 => ?_)
       ·replace hF := hF.1 hc16
        refine Ok.bat 31 [0, 4, 5, 6] [(60, .bool true)] ?_
        refine Ok.nil (Ok.thenN (Ok.reval 60 rfl (show (.bool true : Value) = .bool (runitsV3 xs x6l11) from congrArg (Value.bool) (mor_t hc16)) ?_))
        exact fun a W hA hW => ⟨gl11, (Gext.refl w0 gl11), hA.sub (by kernel_rfl), hW, hF⟩
       ·replace hF := hF.2 hc16
        refine Ok.bat 3 [0, 4, 5, 6] [(29, .bool false), (30, sv xs), (32, .int .i64 (w6 (x6l11 + 1)))] ?_
        obtain ⟨h017, h117, hF⟩ := hF
        have he17 := get_of (l := xs) (0 : UInt8) h117
        generalize hg17 : (xs.getD (Int.toNat (w6 (x6l11 + 1))) 0) = e17 at he17 hF ⊢
        refine Ok.opYes (j := 5) (d := 29) (want := false) (b := false) rfl (by kernel_rfl) (by kernel_rfl) rfl (OpOk.step (v := .int .u8 (e17.toNat : Int)) (Yields.indexStr (k := .i64) (i := (w6 (x6l11 + 1))) (s := xs) (b := e17) (by kernel_rfl) (by kernel_rfl) Tryz.underlying9 h017 he17) rfl rfl (Ok.bat 3 [0, 4, 5, 6] [(36, .bool (decide ((e17.toNat : Int) > 127)))] ?_))
        refine Ok.boolAt 36 (decide ((e17.toNat : Int) > 127)) rfl (fun hc18 => ?_) (fun hc18 => ?_)
        ·replace hF := hF.1 hc18
         refine Ok.bat 24 [0, 4, 5, 6] [(60, .bool true)] ?_
         refine Ok.nil (Ok.thenN ?_)
         subst hg17
         refine Ok.reval 60 rfl (show (.bool true : Value) = .bool (runitsV3 xs x6l11) from congrArg (Value.bool) ((Eq.trans (mor_t hc18) (mor_f hc16)))) ?_
         exact fun a W hA hW => ⟨gl11, (Gext.refl w0 gl11), hA.sub (by kernel_rfl), hW, hF⟩
        ·replace hF := hF.2 hc18
         refine Ok.bat 3 [0, 4, 5, 6] [(36, .bool false), (37, sv xs), (39, .int .i64 (w6 (x6l11 + 2)))] ?_
         obtain ⟨h019, h119, hF⟩ := hF
         have he19 := get_of (l := xs) (0 : UInt8) h119
         generalize hg19 : (xs.getD (Int.toNat (w6 (x6l11 + 2))) 0) = e19 at he19 hF ⊢
         refine Ok.opYes (j := 12) (d := 36) (want := false) (b := false) rfl (by kernel_rfl) (by kernel_rfl) rfl (OpOk.step (v := .int .u8 (e19.toNat : Int)) (Yields.indexStr (k := .i64) (i := (w6 (x6l11 + 2))) (s := xs) (b := e19) (by kernel_rfl) (by kernel_rfl) Tryz.underlying9 h019 he19) rfl rfl (Ok.bat 3 [0, 4, 5, 6] [(43, .bool (decide ((e19.toNat : Int) > 127)))] ?_))
         refine Ok.boolAt 43 (decide ((e19.toNat : Int) > 127)) rfl (fun hc20 => ?_) (fun hc20 => ?_)
         ·replace hF := hF.1 hc20
          refine Ok.bat 17 [0, 4, 5, 6] [(60, .bool true)] ?_
          refine Ok.nil (Ok.thenN ?_)
          subst hg19
          subst hg17
          refine Ok.reval 60 rfl (show (.bool true : Value) = .bool (runitsV3 xs x6l11) from congrArg (Value.bool) ((Eq.trans ((Eq.trans (mor_t hc20) (mor_f hc18))) (mor_f hc16)))) ?_
          exact fun a W hA hW => ⟨gl11, (Gext.refl w0 gl11), hA.sub (by kernel_rfl), hW, hF⟩
         ·replace hF := hF.2 hc20
          refine Ok.bat 4 [0, 4, 5, 6] [(43, .bool false), (44, .func (.func 99) #[] #[]), (45, sv xs), (47, .int .i64 (w6 (x6l11 + 1)))] ?_
          refine Ok.opYes (j := 19) (d := 43) (want := false) (b := false) rfl (by kernel_rfl) (by kernel_rfl) rfl (OpOk.step (v := .int .u8 (e17.toNat : Int)) (Yields.indexStr (k := .i64) (i := (w6 (x6l11 + 1))) (s := xs) (b := e17) (by kernel_rfl) (by kernel_rfl) Tryz.underlying9 h017 he17) rfl rfl ?_)
          obtain ⟨hp21, hF⟩ := hF
          refine Ok.opYes (j := 19) (d := 43) (want := false) (b := false) rfl (by kernel_rfl) (by kernel_rfl) rfl (OpOk.callG (v := .int .i64 (rdgS (e17.toNat : Int))) enr (fun W hW => rdg_c (e17.toNat : Int) (hG0.mono hW.sees) hp21) rfl ?_)
          refine Ok.bat 3 [0, 4, 5, 6] [(52, .bool (decide ((rdgS (e17.toNat : Int)) < 0)))] ?_
          refine Ok.boolAt 52 (decide ((rdgS (e17.toNat : Int)) < 0)) rfl (fun hc22 => ?_) (fun hc22 => ?_)
          ·replace hF := hF.1 hc22
           refine Ok.bat 8 [0, 4, 5, 6] [(60, .bool true)] ?_
           refine Ok.nil (Ok.thenN ?_)
           subst hg19
           subst hg17
           refine Ok.reval 60 rfl (show (.bool true : Value) = .bool (runitsV3 xs x6l11) from congrArg (Value.bool) ((Eq.trans ((Eq.trans ((Eq.trans (mor_t hc22) (mor_f hc20))) (mor_f hc18))) (mor_f hc16)))) ?_
           exact fun a W hA hW => ⟨gl11, (Gext.refl w0 gl11), hA.sub (by kernel_rfl), hW, hF⟩
          ·replace hF := hF.2 hc22
           refine Ok.bat 4 [0, 4, 5, 6] [(52, .bool false), (53, .func (.func 99) #[] #[]), (54, sv xs), (56, .int .i64 (w6 (x6l11 + 2)))] ?_
           refine Ok.opYes (j := 28) (d := 52) (want := false) (b := false) rfl (by kernel_rfl) (by kernel_rfl) rfl (OpOk.step (v := .int .u8 (e19.toNat : Int)) (Yields.indexStr (k := .i64) (i := (w6 (x6l11 + 2))) (s := xs) (b := e19) (by kernel_rfl) (by kernel_rfl) Tryz.underlying9 h019 he19) rfl rfl ?_)
           obtain ⟨hp23, hF⟩ := hF
           refine Ok.opYes (j := 28) (d := 52) (want := false) (b := false) rfl (by kernel_rfl) (by kernel_rfl) rfl (OpOk.callG (v := .int .i64 (rdgS (e19.toNat : Int))) enr (fun W hW => rdg_c (e19.toNat : Int) (hG0.mono hW.sees) hp23) rfl ?_)
           refine Ok.bat 2 [0, 4, 5, 6] [(60, .bool (decide ((rdgS (e19.toNat : Int)) < 0)))] ?_
           refine Ok.nil (Ok.thenN ?_)
           subst hg19
           subst hg17
           refine Ok.reval 60 rfl (show (.bool (decide ((rdgS ((xs.getD (Int.toNat (w6 (x6l11 + 2))) 0).toNat : Int)) < 0)) : Value) = .bool (runitsV3 xs x6l11) from congrArg (Value.bool) ((Eq.trans ((Eq.trans ((Eq.trans (mor_f hc22) (mor_f hc20))) (mor_f hc18))) (mor_f hc16)))) ?_
           exact fun a W hA hW => ⟨gl11, (Gext.refl w0 gl11), hA.sub (by kernel_rfl), hW, hF⟩
      ·
       clear hF
       rintro a W ⟨gj29, hxj29, hA, hW, hF⟩
       refine (?_ : Ok _ _ _ _ _ _) a W hA hW
       clear hA hW
       replace hLyown1_0l11 := hLyown1_0l11.mono hxj29.1
       replace hG0 := hG0.mono hxj29.1
       refine Ok.cond (b := (runitsV3 xs x6l11)) rfl (fun hc7 => ?_) (fun hc7 => ?_)
       ·replace hF := hF.1 hc7
        refine Ok.seq (Ok.region (Ok.batch 1 [(2, .slice none 0 0)] (by kernel_rfl) ?_))
        have hL8 : RepL gj29 (.pair (.int .u8) (.bool)) [] [] := rfl
        refine Ok.ownNil 107 2 (Ok.batch 1 [(2, .slice none ([] : List (Int × Bool)).length 0), (3, .bool false)] (by kernel_rfl) (Ok.nil (Ok.thenN (Ok.ret (Ok.thenR (Ok.blockR (Ok.thenR (Ok.thenR (Ok.blockR (Ok.thenR (Ok.frz 0 rfl hL8 fun g9 hx9 hRf9 => ?_)))))))))))
        replace hLyown1_0l11 := hLyown1_0l11.mono hx9.1
        replace hG0 := hG0.mono hx9.1
        exact Ok.resP (vs := [.slice none ([] : List (Int × Bool)).length 0, .bool false]) [] [] (by decide) rfl (.inl rfl) rfl (.cons (.tmp rfl) (.cons (.tmp rfl) .nil)) ((hxl11.trans hxj29).trans hx9) ⟨([] : List (Int × Bool)), false, none, 0, rfl, hRf9, rfl, hF⟩
       ·replace hF := hF.2 hc7
        refine Ok.skip (Ok.thenN (Ok.seq (Ok.mix [] [] [] [(0, true), (1, true), (2, true), (3, true), (4, true), (5, true), (6, true), (7, true), (8, true), (9, true), (10, true), (11, true), (12, true), (13, true), (14, true), (15, true), (16, true), (17, false), (18, false), (19, true)] (by kernel_rfl) (by kernel_rfl) (.cons _ .slnil) (OkM.bat 5 [0, 5, 6] [(61, .slice ayown1_0l11 yown1_0l11.length cyown1_0l11), (62, .func (.func 99) #[] #[]), (63, sv xs), (65, .int .i64 (w6 (x6l11 + 1)))] ?_))))
        obtain ⟨h010, h110, hF⟩ := hF
        have he10 := get_of (l := xs) (0 : UInt8) h110
        generalize hg10 : (xs.getD (Int.toNat (w6 (x6l11 + 1))) 0) = e10 at he10 hF ⊢
        refine OkM.head rfl rfl (show _ = [] from rfl) (OpQ.step (v := .int .u8 (e10.toNat : Int)) (Yields.indexStr (k := .i64) (i := (w6 (x6l11 + 1))) (s := xs) (b := e10) (by kernel_rfl) (by kernel_rfl) Tryz.underlying9 h010 he10) rfl rfl ?_)
        obtain ⟨hp11, hF⟩ := hF
        refine OkM.head rfl rfl (show _ = [] from rfl) (OpQ.callG (v := .int .i64 (rdgS (e10.toNat : Int))) enr (fun W hW => rdg_c (e10.toNat : Int) (hG0.mono hW.sees) hp11) rfl ?_)
        refine OkM.bat 5 [0, 5, 6, 61] [(68, .int .i64 (w6 (16 * (rdgS (e10.toNat : Int))))), (69, .func (.func 99) #[] #[]), (70, sv xs), (72, .int .i64 (w6 (x6l11 + 2)))] ?_
        obtain ⟨h012, h112, hF⟩ := hF
        have he12 := get_of (l := xs) (0 : UInt8) h112
        generalize hg12 : (xs.getD (Int.toNat (w6 (x6l11 + 2))) 0) = e12 at he12 hF ⊢
        refine OkM.head rfl rfl (show _ = [] from rfl) (OpQ.step (v := .int .u8 (e12.toNat : Int)) (Yields.indexStr (k := .i64) (i := (w6 (x6l11 + 2))) (s := xs) (b := e12) (by kernel_rfl) (by kernel_rfl) Tryz.underlying9 h012 he12) rfl rfl ?_)
        obtain ⟨hp13, hF⟩ := hF
        refine OkM.head rfl rfl (show _ = [] from rfl) (OpQ.callG (v := .int .i64 (rdgS (e12.toNat : Int))) enr (fun W hW => rdg_c (e12.toNat : Int) (hG0.mono hW.sees) hp13) rfl ?_)
        refine OkM.bat 3 [0, 5, 6, 61] [(77, .agg #[.int .u8 (IntKind.wrap .u8 (w6 ((w6 (16 * (rdgS (e10.toNat : Int)))) + (rdgS (e12.toNat : Int))))), .bool true])] ?_
        have hL14 : RepL gj29 (.pair (.int .u8) (.bool)) ([.int .u8 (IntKind.wrap .u8 (w6 ((w6 (16 * (rdgS (e10.toNat : Int)))) + (rdgS (e12.toNat : Int))))), .bool true] : List Value) ([(IntKind.wrap .u8 (w6 ((w6 (16 * (rdgS (e10.toNat : Int)))) + (rdgS (e12.toNat : Int)))), true)] : List (Int × Bool)) := (RepL.consN (c := [.int .u8 (IntKind.wrap .u8 (w6 ((w6 (16 * (rdgS (e10.toNat : Int)))) + (rdgS (e12.toNat : Int))))), .bool true]) ⟨[.int .u8 (IntKind.wrap .u8 (w6 ((w6 (16 * (rdgS (e10.toNat : Int)))) + (rdgS (e12.toNat : Int)))))], [.bool true], rfl, rfl, rfl⟩ rfl)
        refine OkM.tail rfl rfl (OpOk.lit (E := 107) (.pair (.int .u8) (.bool)) ([(IntKind.wrap .u8 (w6 ((w6 (16 * (rdgS (e10.toNat : Int)))) + (rdgS (e12.toNat : Int)))), true)] : List (Int × Bool)) ([.int .u8 (IntKind.wrap .u8 (w6 ((w6 (16 * (rdgS (e10.toNat : Int)))) + (rdgS (e12.toNat : Int))))), .bool true] : List Value) (by kernel_rfl) (by kernel_rfl) rfl (by kernel_rfl) hL14 rfl fun b14 => ?_)
        refine OkM.leaf (i := 17) (show _ = [] from rfl) (Gle.refl _) (.cons _ (.cons _ .slnil)) ?_
        obtain ⟨hb15, hF⟩ := hF
        refine OkM.tail rfl rfl (OpOk.append' (e := .pair (.int .u8) (.bool)) 2 70368744177664 1 0 rfl rfl rfl rfl hLyown1_0l11 hL14 Tryz.underlying103 (by kernel_rfl) (by kernel_rfl) (by kernel_rfl) hb15 rfl fun a15 c15 xs15 hL15 => ?_)
        refine OkM.leaf (i := 18) (show _ = [] from rfl) (Gle.refl _) (.cons _ (.cons _ .slnil)) (OkM.bat 1 [0, 5, 6] [(4, .slice a15 (yown1_0l11 ++ ([(IntKind.wrap .u8 (w6 ((w6 (16 * (rdgS (e10.toNat : Int)))) + (rdgS (e12.toNat : Int)))), true)] : List (Int × Bool))).length c15)] ?_)
        refine OkM.nil (Ok.thenN (Ok.region (Ok.bat 3 [0, 4, 5] [(6, .int .i64 (w6 (x6l11 + 2)))] ?_)))
        refine Ok.nil (Ok.blockN (Ok.thenN ?_))
        subst hg12
        subst hg10
        subst hg3
        refine Ok.reval 4 rfl (show (.slice a15 (yown1_0l11 ++ ([(IntKind.wrap .u8 (w6 ((w6 (16 * (rdgS ((xs.getD (Int.toNat (w6 (x6l11 + 1))) 0).toNat : Int)))) + (rdgS ((xs.getD (Int.toNat (w6 (x6l11 + 2))) 0).toNat : Int)))), true)] : List (Int × Bool))).length c15 : Value) = .slice a15 (runitsV7 xs x6l11 yown1_0l11).length c15 from congrArg (fun l : List (Int × Bool) => Value.slice a15 l.length c15) ((if_f hc4).symm)) ?_
        refine Ok.reval 6 rfl (show (.int .i64 (w6 (x6l11 + 2)) : Value) = .int .i64 (runitsV6 xs x6l11) from congrArg (Value.int .i64) ((if_f hc4).symm)) (Ok.heapEq (H' := [.own (.slice (some ⟨b14, 0, none⟩) ([(IntKind.wrap .u8 (w6 ((w6 (16 * (rdgS ((xs.getD (Int.toNat (w6 (x6l11 + 1))) 0).toNat : Int)))) + (rdgS ((xs.getD (Int.toNat (w6 (x6l11 + 2))) 0).toNat : Int)))), true)] : List (Int × Bool)).length 1) 107 2 ([(IntKind.wrap .u8 (w6 ((w6 (16 * (rdgS ((xs.getD (Int.toNat (w6 (x6l11 + 1))) 0).toNat : Int)))) + (rdgS ((xs.getD (Int.toNat (w6 (x6l11 + 2))) 0).toNat : Int)))), true)] : List (Int × Bool)).length ([.int .u8 (IntKind.wrap .u8 (w6 ((w6 (16 * (rdgS ((xs.getD (Int.toNat (w6 (x6l11 + 1))) 0).toNat : Int)))) + (rdgS ((xs.getD (Int.toNat (w6 (x6l11 + 2))) 0).toNat : Int))))), .bool true] : List Value), .own (.slice a15 (runitsV7 xs x6l11 yown1_0l11).length c15) 107 2 (runitsV7 xs x6l11 yown1_0l11).length xs15]) (econs (rfl) (econs (congrArg (fun l : List (Int × Bool) => Ent.own (.slice a15 l.length c15) 107 2 l.length xs15) ((if_f hc4).symm)) rfl)) ?_)
        exact fun a W hA hW => ⟨gj29, hxj29, a15, c15, xs15, (Eq.mp (congrArg (fun l : List (Int × Bool) => RepL gj29 (.pair (.int .u8) (.bool)) xs15 l) ((if_f hc4).symm)) hL15), hA.sub (by kernel_rfl), hW.sub (.cons _ (.cons_cons _ .slnil)), hF⟩
    ·
     clear hF
     rintro a W ⟨gj18, hxj18, ayown1_0j18, cyown1_0j18, xsyown1_0j18, hLyown1_0j18, hA, hW, hF⟩
     refine (?_ : Ok _ _ _ _ _ _) a W hA hW
     clear hA hW
     replace hG0 := hG0.mono hxj18.1
     refine Ok.region (Ok.bat 3 [0, 4, 5] [(6, .int .i64 (w6 ((runitsV6 xs x6l11) + 1)))] ?_)
     refine Ok.nil (Ok.thenN ?_)
     exact fun a W hA hW => ⟨k11, Nat.lt_succ_self _, gj18, (hxl11.trans hxj18), w6 ((runitsV6 xs x6l11) + 1), ayown1_0j18, cyown1_0j18, (runitsV7 xs x6l11 yown1_0l11), xsyown1_0j18, hLyown1_0j18, hA.sub (by kernel_rfl), hW, hF⟩
   ·replace hF := hF.2 hc2
    refine Ok.exit (Ok.thenE (Ok.thenE (Ok.blockHit (Ok.thenN (Ok.seq (Ok.region (Ok.batch 3 [(2, .slice ayown1_0l11 yown1_0l11.length cyown1_0l11), (3, .bool true)] (by kernel_rfl) (Ok.nil (Ok.thenN (Ok.ret (Ok.frz 0 rfl hLyown1_0l11 fun g24 hx24 hRf24 => ?_)))))))))))
    replace hG0 := hG0.mono hx24.1
    exact Ok.resH (vs := [.slice ayown1_0l11 yown1_0l11.length cyown1_0l11, .bool true]) (.inl rfl) rfl (.cons (.tmp rfl) (.cons (.tmp rfl) .nil)) (hxl11.trans hx24) ⟨yown1_0l11, true, ayown1_0l11, cyown1_0l11, rfl, hRf24, rfl, hF⟩
theorem val_high (b : UInt8) (h : 127 < b.toNat) : uvalM (b.toNat : Int) = -1 := by
 have := byte_all (p := fun b => decide (b.toNat ≤ 127) || decide (uvalM (b.toNat : Int) = -1)) (by decide +kernel) b
 rw [Bool.or_eq_true] at this
 rcases this with h2 | h2
 ·have := of_decide_eq_true h2; omega
 ·exact of_decide_eq_true h2
theorem val_le (b : UInt8) : -1 ≤ uvalM (b.toNat : Int) ∧ uvalM (b.toNat : Int) ≤ 15 := by
 have := byte_all (p := fun b => decide (-1 ≤ uvalM (b.toNat : Int) ∧ uvalM (b.toNat : Int) ≤ 15)) (by decide +kernel) b
 exact of_decide_eq_true this
theorem two_eq {a b : Int} (ha : 0 ≤ a ∧ a ≤ 15) (hb : 0 ≤ b ∧ b ≤ 15) : IntKind.wrap .u8 (w6 ((w6 (16 * a)) + b)) = IntKind.wrap .u8 (bitOr .i64 (w6 (a * 2 ^ 4)) b) := by
 have h : ((List.range 16).all fun x => (List.range 16).all fun y => decide (IntKind.wrap .u8 (w6 ((w6 (16 * (x : Int))) + (y : Int))) = IntKind.wrap .u8 (bitOr .i64 (w6 ((x : Int) * 2 ^ 4)) (y : Int)))) = true := by decide +kernel
 have h1 := List.all_eq_true.1 (List.all_eq_true.1 h a.toNat (by simp; omega)) b.toNat (by simp; omega)
 have h2 := of_decide_eq_true h1
 rwa [show ((a.toNat : Nat) : Int) = a by omega, show ((b.toNat : Nat) : Int) = b by omega] at h2
/-- the units of a text -/
def unN : Nat → Bs → Option (List (Int × Bool))
 | 0, _ => some []
 | k + 1, s => if s = [] then some [] else if (ureadS s).2 = 0 then none else (unN k (s.drop (ureadS s).2.toNat)).map fun l => ((ureadS s).1, decide ((ureadS s).2 = 3)) :: l
def unO (o : Option (List (Int × Bool))) (acc : List (Int × Bool)) : List (Int × Bool) × Bool := match o with
 | some l => (acc ++ l, true)
 | none => ([], false)
def unitsS (s : Bs) : List (Int × Bool) × Bool := unO (unN s.length s) []
theorem getD_drop (s : Bs) (i j : Nat) : (s.drop i).getD j 0 = s.getD (i + j) 0 := by
 simp [List.getD_eq_getElem?_getD, List.getElem?_drop]
theorem runits_loop (s : Bs) (hP : encP s) (K : List (Int × Bool) → Bool → Prop) : ∀ (k i : Nat) (acc : List (Int × Bool)), s.length ≤ i + k → i ≤ s.length → acc.length ≤ i → K (unO (unN k (s.drop i)) acc).1 (unO (unN k (s.drop i)) acc).2 → runitsl11 s K (k + 1) (i : Int) acc := by
 unfold encP at hP
 intro k
 induction k with
 | zero =>
  intro i acc h1 h2 h3 hK
  refine ⟨fun h => by have := of_decide_eq_true h; omega, fun _ => ?_⟩
  simpa [unN, unO] using hK
 | succ k ih =>
  intro i acc h1 h2 h3 hK
  by_cases hi : i < s.length
  ·have hd := drop_get (l := s) (0 : UInt8) hi
   have hne : s.drop i ≠ [] := by rw [hd]; simp
   have e : unN (k + 1) (s.drop i) = if (ureadS (s.drop i)).2 = 0 then none else (unN k ((s.drop i).drop (ureadS (s.drop i)).2.toNat)).map fun l => ((ureadS (s.drop i)).1, decide ((ureadS (s.drop i)).2 = 3)) :: l := if_neg hne
   rw [e] at hK
   have e3 : ∀ (o : Option (List (Int × Bool))) (x : Int × Bool), unO (o.map fun l => x :: l) acc = unO o (acc ++ [x]) := fun o x => by
    cases o with
    | none => rfl
    | some l => simp [unO]
   have g0 : (s.drop i).getD (Int.toNat 0) 0 = s.getD i 0 := getD_drop s i 0
   have g1 : (s.drop i).getD (Int.toNat 1) 0 = s.getD (i + 1) 0 := getD_drop s i 1
   have g2 : (s.drop i).getD (Int.toNat 2) 0 = s.getD (i + 2) 0 := getD_drop s i 2
   have hR : ureadS (s.drop i) = if (((s.getD i 0).toNat : Int) != 37) = true then (((s.getD i 0).toNat : Int), 1) else if ureadV0 (s.drop i) = true then (0, 0) else
     (IntKind.wrap .u8 (bitOr .i64 (w6 ((uvalM ((s.getD (i + 1) 0).toNat : Int)) * 2 ^ 4)) (uvalM ((s.getD (i + 2) 0).toNat : Int))), 3) := by
    unfold ureadS; rw [g0, g1, g2]
   have hV : ureadV0 (s.drop i) = (decide (s.length < i + 3) || (decide (uvalM ((s.getD (i + 1) 0).toNat : Int) < 0) || decide (uvalM ((s.getD (i + 2) 0).toNat : Int) < 0))) := by
    unfold ureadV0
    rw [g1, g2, List.length_drop, show decide (((s.length - i : Nat) : Int) < 3) = decide (s.length < i + 3) from decide_eq_decide.2 (by omega)]
   have hv1 := val_le (s.getD (i + 1) 0)
   have hv2 := val_le (s.getD (i + 2) 0)
   refine ⟨fun _ => ⟨by omega, by omega, fun hc => ?_, fun hc => ?_⟩, fun h => by have := of_decide_eq_false h; omega⟩
   ·rw [Int.toNat_natCast] at hc ⊢
    rw [hR, if_t hc, if_neg (show ¬ (1 : Int) = 0 by decide), e3] at hK
    refine ⟨by simp; omega, ?_⟩
    unfold runitsj18 runitsV6 runitsV7
    rw [Int.toNat_natCast, if_t hc, if_t hc, w64 (by omega)]
    refine ih (i + 1) _ (by omega) (by omega) (by simp; omega) ?_
    rw [List.drop_drop] at hK
    exact hK
   ·rw [Int.toNat_natCast] at hc
    rw [hR, if_f hc] at hK
    have j29 : runitsj29 s K (i : Int) acc (runitsl11 s K (k + 1)) := by
     unfold runitsj29 runitsV3 rdgS
     rw [w64 (x := (i : Int) + 2) (by omega), w64 (x := (i : Int) + 1) (by omega), show ((i : Int) + 1).toNat = i + 1 by omega, show ((i : Int) + 2).toNat = i + 2 by omega]
     have hVV : (decide ((i : Int) + 2 ≥ (s.length : Int)) || (decide (((s.getD (i + 1) 0).toNat : Int) > 127) || (decide (((s.getD (i + 2) 0).toNat : Int) > 127) || (decide (uvalM ((s.getD (i + 1) 0).toNat : Int) < 0) || decide (uvalM ((s.getD (i + 2) 0).toNat : Int) < 0))))) = ureadV0 (s.drop i) := by
      rw [hV, show decide ((i : Int) + 2 ≥ (s.length : Int)) = decide (s.length < i + 3) from decide_eq_decide.2 (by omega)]
      by_cases a1 : ((s.getD (i + 1) 0).toNat : Int) > 127
      ·have := val_high (s.getD (i + 1) 0) (by omega)
       rw [this, decide_eq_true a1]; simp
      ·rw [decide_eq_false a1, Bool.false_or]
       by_cases a2 : ((s.getD (i + 2) 0).toNat : Int) > 127
       ·have := val_high (s.getD (i + 2) 0) (by omega)
        rw [this, decide_eq_true a2]; simp
       ·rw [decide_eq_false a2, Bool.false_or]
     rw [hVV]
     refine ⟨fun h => ?_, fun h => ?_⟩
     ·rw [if_t h, if_pos rfl] at hK
      exact hK
     ·have h' := h
      rw [← hVV] at h'
      simp only [Bool.or_eq_false_iff, decide_eq_false_iff_not] at h'
      obtain ⟨b1, b2, b3, b4, b5⟩ := h'
      rw [if_f h, if_neg (show ¬ (3 : Int) = 0 by decide), e3] at hK
      refine ⟨by omega, by omega, ⟨by omega, by omega⟩, by omega, by omega, ⟨by omega, by omega⟩, by simp; omega, ?_⟩
      unfold runitsj18 runitsV6 runitsV7 rdgS
      rw [Int.toNat_natCast, if_f hc, if_f hc, w64 (x := (i : Int) + 2) (by omega), w64 (x := (i : Int) + 1) (by omega), show ((i : Int) + 1).toNat = i + 1 by omega, show ((i : Int) + 2).toNat = i + 2 by omega, two_eq (by omega) (by omega), w64 (by omega)]
      refine ih (i + 3) _ (by omega) (by omega) (by simp; omega) ?_
      rw [List.drop_drop] at hK
      exact hK
    refine ⟨fun _ => j29, fun h => ?_⟩
    have h := of_decide_eq_false h
    rw [w64 (by omega)] at h
    rw [w64 (x := (i : Int) + 1) (by omega), w64 (x := (i : Int) + 2) (by omega), show ((i : Int) + 1).toNat = i + 1 by omega, show ((i : Int) + 2).toNat = i + 2 by omega]
    refine ⟨by omega, by omega, fun _ => j29, fun a1 => ⟨by omega, by omega, fun _ => j29, fun a2 => ?_⟩⟩
    have a1 := of_decide_eq_false a1
    have a2 := of_decide_eq_false a2
    exact ⟨⟨by omega, by omega⟩, fun _ => j29, fun _ => ⟨⟨by omega, by omega⟩, j29⟩⟩
  ·rw [List.drop_of_length_le (by omega)] at hK
   refine ⟨fun h => by have := of_decide_eq_true h; omega, fun _ => ?_⟩
   simpa [unN, unO] using hK
theorem runits_F (s : Bs) (hp : encP s) : runitsF s (fun a b => (a, b) = unitsS s) :=
 ⟨_, runits_loop s hp _ s.length 0 [] (by omega) (by omega) (by simp) rfl⟩
theorem runits_c {g : Ghost} (xs : Bs) (hG0 : SomeInt g 0)  (hp : encP xs) : CallsH Tryz.prog 71 #[sv xs] g [] (fun g' H' v => ∃ (ar0_0 : Option Addr) (cr0_0 : Nat), v = .tuple #[.slice ar0_0 (unitsS xs).1.length cr0_0, .bool (unitsS xs).2] ∧ Rep g' (.slice (.pair (.int .u8) (.bool))) [.slice ar0_0 (unitsS xs).1.length cr0_0] (unitsS xs).1 ∧ H' = []) :=
 (runits_ok xs hG0 _ (runits_F xs hp)).mono (by rintro g' H' v _ ⟨r0, r1, ar0_0, cr0_0, rfl, hRr0_0, rfl, hK⟩; obtain ⟨rfl, rfl⟩ : r0 = (unitsS xs).1 ∧ r1 = (unitsS xs).2 := ⟨congrArg (fun z => z.1) hK, congrArg (fun z => z.2) hK⟩; exact ⟨ar0_0, cr0_0, rfl, hRr0_0, rfl⟩)
def rdecl11b (xs : Bs) (K : Bs → Bool → Prop) (x16l11 : Int) (yown3_0l11 : List (Int)) (C11 : Int → (List (Int)) → Prop) : Prop :=
 ((decide (x16l11 < ((unitsS xs).1.length : Int))) = true → (0 : Int) ≤ x16l11 ∧ Int.toNat x16l11 < (unitsS xs).1.length ∧ (yown3_0l11 ++ ([((unitsS xs).1.getD (Int.toNat x16l11) default).1] : List (Int))).length ≤ 140737488355328 ∧ C11 (w6 (x16l11 + 1)) (yown3_0l11 ++ ([((unitsS xs).1.getD (Int.toNat x16l11) default).1] : List (Int)))) ∧ ((decide (x16l11 < ((unitsS xs).1.length : Int))) = false → K (bytesOf yown3_0l11) (unitsS xs).2)
def rdecl11 (xs : Bs) (K : Bs → Bool → Prop) : Nat → Int → (List (Int)) → Prop
 | 0, _, _ => False
 | k + 1, x16l11, yown3_0l11 => rdecl11b xs K x16l11 yown3_0l11 (rdecl11 xs K k)
def rdecF (xs : Bs) (K : Bs → Bool → Prop) : Prop :=
 encP xs ∧ ∃ k, rdecl11 xs K k 0 ([] : List (Int))
theorem rdec_ok {g : Ghost} (xs : Bs) (hG0 : SomeInt g 0) (K : Bs → Bool → Prop)
  (hF : rdecF xs K) : CallsH Tryz.prog 51 #[sv xs] g [] (fun g' H' v => ∃ (r0 : Bs), ∃ (r1 : Bool), v = .tuple #[sv r0, .bool r1] ∧ H' = [] ∧ K r0 r1) := by
 refine CallsH.enter 29 [(0, sv xs)] Tryz.func51 rfl (by kernel_rfl) (by kernel_rfl) (by kernel_rfl) fun w0 => ?_
 refine Ok.seq (Ok.region (Ok.batch 2 [(0, sv xs)] (by kernel_rfl) (Ok.nil (Ok.thenN (Ok.seq (Ok.region (Ok.batch 1 [(10, sv xs)] (by kernel_rfl) ?_)))))))
 obtain ⟨hp1, hF⟩ := hF
 refine Ok.op rfl (OpOk.callH [] _ enr rfl (runits_c xs hG0 hp1) rfl fun g2 _ _ hx2 hV2 => ?_)
 obtain ⟨a2_0, c2_0, rfl, hR2_0, rfl⟩ := hV2
 replace hG0 := hG0.mono hx2.1
 refine Ok.batch 5 [(4, .slice a2_0 (unitsS xs).1.length c2_0), (5, .bool (unitsS xs).2)] (by kernel_rfl) (Ok.nil (Ok.thenN (Ok.seq (Ok.region (Ok.bat 1 [4, 5] [(6, .slice none 0 0)] ?_)))))
 have hL3 : RepL g2 (.int .u8) [] [] := rfl
 refine Ok.ownNil 5 1 (Ok.nil (Ok.thenN (Ok.seq (Ok.seq (Ok.region (Ok.bat 3 [5] [(6, .slice none ([] : List (Int)).length 0), (14, .slice a2_0 (unitsS xs).1.length c2_0), (15, .int .i64 ((unitsS xs).1.length : Int)), (16, .int .i64 0)] ?_))))))
 refine Ok.nil (Ok.thenN (Ok.block ?_))
 obtain ⟨k, hF⟩ := hF
 refine Ok.loop (fun k a W => ∃ gl11 : Ghost, Gext w0 g2 gl11 ∧ ∃ (x16l11 : Int) (ayown3_0l11 : Option Addr) (cyown3_0l11 : Nat) (yown3_0l11 : List (Int)) (xsyown3_0l11 : List Value), RepL gl11 (.int .u8) xsyown3_0l11 yown3_0l11 ∧ StA 29 [(5, .bool (unitsS xs).2), (6, .slice ayown3_0l11 yown3_0l11.length cyown3_0l11), (14, .slice a2_0 (unitsS xs).1.length c2_0), (15, .int .i64 ((unitsS xs).1.length : Int)), (16, .int .i64 x16l11)] a ∧ StW w0 [.own (.slice ayown3_0l11 yown3_0l11.length cyown3_0l11) 5 1 yown3_0l11.length xsyown3_0l11] gl11 W ∧ rdecl11 xs K k x16l11 yown3_0l11) k ?_ ?_
 ·
  exact fun a W hA hW => ⟨g2, (Gext.refl w0 g2), 0, none, 0, ([] : List (Int)), [], hL3, hA.sub (by kernel_rfl), hW, hF⟩
 ·
  clear hF
  rintro k11 a W ⟨gl11, hxl11, x16l11, ayown3_0l11, cyown3_0l11, yown3_0l11, xsyown3_0l11, hLyown3_0l11, hA, hW, hF⟩
  cases k11 with
  | zero => exact (hF : False).elim
  | succ k11 =>
   refine (?_ : Ok _ _ _ _ _ _) a W hA hW
   clear hA hW
   replace hR2_0 := hR2_0.mono hxl11.1
   replace hG0 := hG0.mono hxl11.1
   refine Ok.seq (Ok.region (Ok.bat 1 [5, 6, 14, 15, 16] [(17, .bool (decide (x16l11 < ((unitsS xs).1.length : Int))))] ?_))
   refine Ok.nil (Ok.thenN (Ok.seq (Ok.cond (b := decide (x16l11 < ((unitsS xs).1.length : Int))) rfl (fun hc4 => ?_) (fun hc4 => ?_))))
   ·replace hF := hF.1 hc4
    refine Ok.skip (Ok.thenN (Ok.seq (Ok.block (Ok.seq (Ok.region ?_)))))
    obtain ⟨h06, h16, hF⟩ := hF
    have he6 := get_of (l := (unitsS xs).1) (default : Int × Bool) h16
    generalize hg6 : ((unitsS xs).1.getD (Int.toNat x16l11) default) = e6 at he6 hF ⊢
    refine Ok.op rfl (OpOk.indexRo (e := .pair (.int .u8) (.bool)) (i := x16l11) (el := e6) rfl rfl Tryz.underlying103 (by kernel_rfl) hR2_0 h06 he6 rfl fun q5 o5 cs5 _ hat5 hr5 => ?_)
    obtain ⟨_, _, rfl, rfl, rfl⟩ := hr5
    replace hat5 : At gl11 q5 o5 [.int .u8 e6.1, .bool e6.2] := hat5
    refine Ok.op rfl (OpOk.step (v := .agg #[.int .u8 e6.1, .bool e6.2]) (Yields.loadAggRo 0 2 #[.int .u8 e6.1, .bool e6.2] hat5 (by kernel_rfl) Tryz.underlying107 rfl (by kernel_rfl) (by kernel_rfl) (by kernel_rfl)) rfl rfl (Ok.op rfl (OpOk.alloc (z := .agg #[.int .u8 0, .bool false]) (cs := #[.int .u8 0, .bool false]) (by kernel_rfl) (by kernel_rfl) rfl fun bs8 => ?_)))
    refine Ok.op rfl (OpOk.sto (k := 2) (v := .agg #[.int .u8 e6.1, .bool e6.2]) 0 #[.int .u8 e6.1, .bool e6.2] rfl rfl rfl ?_)
    refine Ok.nil (Ok.thenN (Ok.region (Ok.bat 2 [5, 14, 15, 16] [(20, .slice ayown3_0l11 yown3_0l11.length cyown3_0l11), (21, pv bs8 0)] ?_)))
    refine Ok.op rfl (OpOk.step (v := .int .u8 e6.1) (Yields.load 0 rfl rfl Tryz.underlying5 rfl (by kernel_rfl)) rfl rfl ?_)
    have hL8 : RepL gl11 (.int .u8) ([.int .u8 e6.1] : List Value) ([e6.1] : List (Int)) := (RepL.consN (c := [.int .u8 e6.1]) rfl rfl)
    refine Ok.op rfl (OpOk.lit (E := 5) (.int .u8) ([e6.1] : List (Int)) ([.int .u8 e6.1] : List Value) (by kernel_rfl) (by kernel_rfl) rfl (by kernel_rfl) hL8 rfl fun b8 => ?_)
    obtain ⟨hb9, hF⟩ := hF
    refine Ok.op rfl (OpOk.append' (e := .int .u8) 1 140737488355328 2 0 rfl rfl rfl rfl hLyown3_0l11 hL8 Tryz.underlying74 (by kernel_rfl) (by kernel_rfl) (by kernel_rfl) hb9 rfl fun a9 c9 xs9 hL9 => ?_)
    refine Ok.bat 1 [5, 14, 15, 16] [(6, .slice a9 (yown3_0l11 ++ ([e6.1] : List (Int))).length c9)] ?_
    refine Ok.nil (Ok.blockN (Ok.thenN (Ok.region (Ok.bat 2 [5, 6, 14, 15] [(16, .int .i64 (w6 (x16l11 + 1)))] ?_))))
    refine Ok.nil (Ok.thenN ?_)
    subst hg6
    exact fun a W hA hW => ⟨k11, Nat.lt_succ_self _, gl11, hxl11, w6 (x16l11 + 1), a9, c9, (yown3_0l11 ++ ([((unitsS xs).1.getD (Int.toNat x16l11) default).1] : List (Int))), xs9, hL9, hA.sub (by kernel_rfl), hW.sub (.cons _ (.cons _ (.cons_cons _ .slnil))), hF⟩
   ·replace hF := hF.2 hc4
    refine Ok.exit (Ok.thenE (Ok.thenE (Ok.blockHit (Ok.thenN (Ok.seq (Ok.region (Ok.bat 1 [5] [(26, .slice ayown3_0l11 yown3_0l11.length cyown3_0l11)] ?_)))))))
    refine Ok.op rfl (OpOk.step (v := sv (bytesOf yown3_0l11)) (Yields.strOfOwn 0 (by kernel_rfl) rfl rfl hLyown3_0l11 Tryz.underlying74 Tryz.underlying9 Tryz.underlying5) rfl rfl (Ok.batch 3 [(2, sv (bytesOf yown3_0l11)), (3, .bool (unitsS xs).2)] (by kernel_rfl) (Ok.nil (Ok.thenN (Ok.ret ?_)))))
    exact Ok.resP (vs := [sv (bytesOf yown3_0l11), .bool (unitsS xs).2]) [] [] (by decide) rfl (.inl rfl) rfl (.cons (.tmp rfl) (.cons (.tmp rfl) .nil)) (hx2.trans hxl11) ⟨(bytesOf yown3_0l11), (unitsS xs).2, rfl, rfl, hF⟩
def rdecS (s : Bs) : Bs × Bool := (bytesOf ((unitsS s).1.map (·.1)), (unitsS s).2)
theorem unN_len : ∀ (k : Nat) (s : Bs) (l : List (Int × Bool)), unN k s = some l → l.length ≤ k
 | 0, s, l, h => by simp [unN] at h; subst h; exact Nat.le_refl _
 | k + 1, s, l, h => by
  unfold unN at h
  split at h
  ·simp at h; subst h; exact Nat.zero_le _
  ·split at h
   ·cases h
   ·obtain ⟨l2, h2, rfl⟩ := Option.map_eq_some_iff.1 h
    have := unN_len k _ l2 h2
    simp only [List.length_cons]; omega
theorem units_len (s : Bs) : (unitsS s).1.length ≤ s.length := by
 unfold unitsS
 cases h : unN s.length s with
 | none => exact Nat.zero_le _
 | some l => have := unN_len _ _ _ h; simpa [unO] using this
theorem rdec_F (s : Bs) (hp : encP s) : rdecF s (fun a b => (a, b) = rdecS s) := by
 have hl := units_len s
 have hp' := hp
 unfold encP at hp'
 have loop : ∀ (k i : Nat) (acc : List Int), i + k = (unitsS s).1.length → acc.length ≤ i → acc ++ ((unitsS s).1.drop i).map (·.1) = (unitsS s).1.map (·.1) → rdecl11 s (fun a b => (a, b) = rdecS s) (k + 1) (i : Int) acc := by
  intro k
  induction k with
  | zero =>
   intro i acc h1 h2 h3
   rw [List.drop_of_length_le (by omega)] at h3
   refine ⟨fun h => by have := of_decide_eq_true h; omega, fun _ => ?_⟩
   have h4 : acc = (unitsS s).1.map (·.1) := by simpa using h3
   rw [h4]; rfl
  | succ k ih =>
   intro i acc h1 h2 h3
   rw [drop_get (l := (unitsS s).1) default (by omega)] at h3
   refine ⟨fun _ => ⟨by omega, by omega, by simp; omega, ?_⟩, fun h => by have := of_decide_eq_false h; omega⟩
   rw [w64 (by omega), Int.toNat_natCast]
   refine ih (i + 1) _ (by omega) (by simp; omega) ?_
   rw [List.append_assoc]
   exact h3
 exact ⟨hp, _, loop (unitsS s).1.length 0 [] (by omega) (by simp) (by simp)⟩
theorem rdec_c {g : Ghost} (xs : Bs) (hG0 : SomeInt g 0)  (hp : encP xs) : CallsG Tryz.prog 51 #[sv xs] g (.tuple #[sv ((rdecS xs).1), .bool (rdecS xs).2]) :=
 (rdec_ok xs hG0 _ (rdec_F xs hp)).gives (by rintro g' H' v _ ⟨r0, r1, rfl, rfl, hK⟩; obtain ⟨rfl, rfl⟩ : r0 = (rdecS xs).1 ∧ r1 = (rdecS xs).2 := ⟨congrArg (fun z => z.1) hK, congrArg (fun z => z.2) hK⟩; rfl)
theorem dec_un : ∀ (k : Nat) (s : Bs), decN k s = (unN k s).map fun l => bytesOf (l.map (·.1))
 | 0, s => rfl
 | k + 1, s => by
  unfold decN unN
  split
  ·rfl
  ·split
   ·rfl
   ·rw [dec_un k]
    cases unN k (s.drop (ureadS s).2.toNat) <;> simp [bytesOf]
theorem dec_eq (s : Bs) : decS s = if (rdecS s).2 = true then ((rdecS s).1, 0) else ([], 3) := by
 unfold decS rdecS unitsS
 rw [dec_un]
 cases unN s.length s with
 | none => rfl
 | some l => simp [decO, unO]
end Go.Proofs.YtdjcgbejnpbjlaaGreatDoor.Uc
