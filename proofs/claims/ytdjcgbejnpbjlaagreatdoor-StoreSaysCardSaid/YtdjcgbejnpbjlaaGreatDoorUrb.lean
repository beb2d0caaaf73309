/- Addresses: the program's small functions. -/
import Derived.Test.YtdjcgbejnpbjlaaGreatDoorUrq
import Derived.Test.YtdjcgbejnpbjlaaGreatDoorCuo
namespace Go.Proofs.YtdjcgbejnpbjlaaGreatDoor.Ub
open Go Go.Eng Go.RowKit Go.Shelf Go.Proofs Bld Sp Ti Uc Ua Ui
set_option maxHeartbeats 4000000
set_option maxRecDepth 100000
set_option linter.unusedSimpArgs false
set_option linter.unusedVariables false
/-! clean -/
def QM : Bs := [33, 36, 38, 39, 40, 41, 42, 43, 44, 59, 61, 58, 64, 47, 63]
def clB (u : Int × Bool) : Bs := if (uplainM u.1 || (!u.2 && uinM u.1 QM)) = true then [UInt8.ofNat u.1.toNat] else utripS u.1
def cleanO (o : Option (List (Int × Bool))) (acc : Bs) : Bs × Bool := match o with
 | some l => (acc ++ l.flatMap clB, true)
 | none => ([], false)
def cleanS (s : Bs) : Bs × Bool := cleanO (unN s.length s) []
theorem u8_rng (x : Int) : 0 ≤ IntKind.wrap .u8 x ∧ IntKind.wrap .u8 x ≤ 255 := by
 show 0 ≤ x % 256 ∧ x % 256 ≤ 255
 omega
theorem uread_byte (s : Bs) : byteP (ureadS s).1 := by
 unfold ureadS
 split
 ·exact byte_nat _
 ·split
  ·unfold byteP; simp only; omega
  ·exact u8_rng _
theorem of_nat {c : Int} (h : byteP c) : ((UInt8.ofNat c.toNat).toNat : Int) = c := by
 unfold byteP at h
 rw [UInt8.toNat_ofNat']; omega
theorem clB_len (u : Int × Bool) : (clB u).length ≤ 3 := by
 unfold clB
 split
 ·simp
 ·exact Nat.le_refl 3
def ucleanV2 (x0l7 : Bs) : Bool :=
 ((uplainM (ureadS x0l7).1) || (((ureadS x0l7).2 == 1) && (uinM (ureadS x0l7).1 ([33, 36, 38, 39, 40, 41, 42, 43, 44, 59, 61, 58, 64, 47, 63] : Bs))))
def ucleanV3 (x0l7 : Bs) (yown1_0l7 : List (Int)) : List (Int) :=
 (if (ucleanV2 x0l7) = true then (Bld.wbS yown1_0l7 (ureadS x0l7).1).2 else (Bld.wsS yown1_0l7 (utripS (ureadS x0l7).1)).2.2)
def ucleanj17 (x0l7 : Bs) (yown1_0l7 : List (Int)) (C7 : Bs → (List (Int)) → Prop) : Prop :=
 (0 : Int) ≤ (ureadS x0l7).2 ∧ ((ureadS x0l7).2 : Int) ≤ (x0l7.length : Int) ∧ (x0l7.length : Int) ≤ (x0l7.length : Int) ∧ C7 (x0l7.drop (Int.toNat (ureadS x0l7).2)) (ucleanV3 x0l7 yown1_0l7)
def ucleanj25 (x0l7 : Bs) (yown1_0l7 : List (Int)) (C7 : Bs → (List (Int)) → Prop) : Prop :=
 (((ucleanV2 x0l7)) = true → Bld.wbP yown1_0l7 (ureadS x0l7).1 ∧ ucleanj17 x0l7 yown1_0l7 C7) ∧ (((ucleanV2 x0l7)) = false → byteP (ureadS x0l7).1 ∧ Bld.wsP yown1_0l7 (utripS (ureadS x0l7).1) ∧ ucleanj17 x0l7 yown1_0l7 C7)
def ucleanl7b (K : Bs → Bool → Prop) (x0l7 : Bs) (yown1_0l7 : List (Int)) (C7 : Bs → (List (Int)) → Prop) : Prop :=
 ((!(x0l7 == ([] : Bs))) = true → ureadP x0l7 ∧ ((((ureadS x0l7).2 == 0)) = true → K ([] : Bs) false) ∧ ((((ureadS x0l7).2 == 0)) = false → (((uplainM (ureadS x0l7).1)) = true → ucleanj25 x0l7 yown1_0l7 C7) ∧ (((uplainM (ureadS x0l7).1)) = false → ((((ureadS x0l7).2 == 1)) = true → ucleanj25 x0l7 yown1_0l7 C7) ∧ ((((ureadS x0l7).2 == 1)) = false → ucleanj25 x0l7 yown1_0l7 C7)))) ∧ ((!(x0l7 == ([] : Bs))) = false → Bld.stP yown1_0l7 ∧ K (bytesOf yown1_0l7) true)
def ucleanl7 (K : Bs → Bool → Prop) : Nat → Bs → (List (Int)) → Prop
 | 0, _, _ => False
 | k + 1, x0l7, yown1_0l7 => ucleanl7b K x0l7 yown1_0l7 (ucleanl7 K k)
def ucleanF (xs : Bs) (K : Bs → Bool → Prop) : Prop :=
 ∃ k, ucleanl7 K k xs ([] : List (Int))
theorem uclean_ok {g : Ghost} (xs : Bs) (K : Bs → Bool → Prop)
  (hF : ucleanF xs K) : CallsH Tryz.prog 67 #[sv xs] g [] (fun g' H' v => ∃ (r0 : Bs), ∃ (r1 : Bool), v = .tuple #[sv r0, .bool r1] ∧ H' = [] ∧ K r0 r1) := by
 refine CallsH.enter 37 [(0, sv xs)] Tryz.func67 rfl (by kernel_rfl) (by kernel_rfl) (by kernel_rfl) fun w0 => ?_
 refine Ok.seq (Ok.region (Ok.batch 2 [(0, sv xs)] (by kernel_rfl) (Ok.nil (Ok.thenN (Ok.seq (Ok.region ?_))))))
 have hL1 : RepL g (.int .u8) [] [] := rfl
 refine Ok.ownNil 5 1 (Ok.op rfl (OpOk.alloc (z := .agg #[.pointer none, .slice none 0 0]) (cs := #[.pointer none, .slice none 0 0]) (by kernel_rfl) (by kernel_rfl) rfl fun b2 => ?_))
 refine Ok.bhd (Ok.nil (Ok.thenN (Ok.seq (Ok.block ?_))))
 obtain ⟨k, hF⟩ := hF
 refine Ok.loop (fun k a W => ∃ gl7 : Ghost, Gext w0 g gl7 ∧ ∃ (x0l7 : Bs) (ayown1_0l7 : Option Addr) (cyown1_0l7 : Nat) (yown1_0l7 : List (Int)) (xsyown1_0l7 : List Value), RepL gl7 (.int .u8) xsyown1_0l7 yown1_0l7 ∧ StA 37 [(0, sv x0l7), (4, pv b2 0)] a ∧ StW w0 [.bhd b2 122 (.slice ayown1_0l7 yown1_0l7.length cyown1_0l7), .own (.slice ayown1_0l7 yown1_0l7.length cyown1_0l7) 5 1 yown1_0l7.length xsyown1_0l7] gl7 W ∧ ucleanl7 K k x0l7 yown1_0l7) k ?_ ?_
 ·
  exact fun a W hA hW => ⟨g, (Gext.refl w0 g), xs, none, 0, ([] : List (Int)), [], hL1, hA.sub (by kernel_rfl), hW, hF⟩
 ·
  clear hF
  rintro k7 a W ⟨gl7, hxl7, x0l7, ayown1_0l7, cyown1_0l7, yown1_0l7, xsyown1_0l7, hLyown1_0l7, hA, hW, hF⟩
  cases k7 with
  | zero => exact (hF : False).elim
  | succ k7 =>
   refine (?_ : Ok _ _ _ _ _ _) a W hA hW
   clear hA hW
   refine Ok.seq (Ok.seq (Ok.region (Ok.bat 1 [0, 4] [(7, sv x0l7)] ?_)))
   refine Ok.op rfl (OpOk.step (v := .bool (!(x0l7 == ([] : Bs)))) (Yields.strCmp (f := .neq) (a := x0l7) (b := ([] : Bs)) (by kernel_rfl) (by kernel_rfl) rfl) rfl rfl (Ok.nil (Ok.thenN (Ok.cond (b := !(x0l7 == ([] : Bs))) rfl (fun hc3 => ?_) (fun hc3 => ?_)))))
   ·replace hF := hF.1 hc3
    refine Ok.skip (Ok.thenN (Ok.block (Ok.seq (Ok.region (Ok.bat 1 [0, 4] [(10, sv x0l7)] ?_)))))
    obtain ⟨hp4, hF⟩ := hF
    refine Ok.op rfl (OpOk.callG (v := .tuple #[.int .u8 (ureadS x0l7).1, .int .i64 (ureadS x0l7).2]) enr (fun W hW => uread_c x0l7 hp4) rfl ?_)
    refine Ok.bat 5 [0, 4] [(5, .int .u8 (ureadS x0l7).1), (6, .int .i64 (ureadS x0l7).2)] ?_
    refine Ok.nil (Ok.thenN (Ok.cut (fun a W => ∃ gj17 : Ghost, Gext w0 gl7 gj17 ∧ ∃ (ayown1_0j17 : Option Addr) (cyown1_0j17 : Nat) (xsyown1_0j17 : List Value), RepL gj17 (.int .u8) xsyown1_0j17 (ucleanV3 x0l7 yown1_0l7) ∧ StA 37 [(0, sv x0l7), (4, pv b2 0), (6, .int .i64 (ureadS x0l7).2)] a ∧ StW w0 [.bhd b2 122 (.slice ayown1_0j17 (ucleanV3 x0l7 yown1_0l7).length cyown1_0j17), .own (.slice ayown1_0j17 (ucleanV3 x0l7 yown1_0l7).length cyown1_0j17) 5 1 (ucleanV3 x0l7 yown1_0l7).length xsyown1_0j17] gj17 W ∧ ucleanj17 x0l7 yown1_0l7 (ucleanl7 K k7)) ?_ ?_))
    ·
     refine Ok.block (Ok.seq (Ok.region (Ok.bat 3 [0, 4, 5, 6] [(17, .bool ((ureadS x0l7).2 == 0))] ?_)))
     refine Ok.nil (Ok.thenN (Ok.cond (b := ((ureadS x0l7).2 == 0)) rfl (fun hc6 => ?_) (fun hc6 => ?_)))
     ·replace hF := hF.1 hc6
      refine Ok.seq (Ok.region (Ok.batch 2 [(2, sv ([] : Bs)), (3, .bool false)] (by kernel_rfl) (Ok.nil (Ok.thenN (Ok.ret (Ok.blockR (Ok.thenR (Ok.blockR (Ok.thenR (Ok.blockR (Ok.thenR ?_)))))))))))
      exact Ok.resP (vs := [sv ([] : Bs), .bool false]) [] [] (by decide) rfl (.inl rfl) rfl (.cons (.tmp rfl) (.cons (.tmp rfl) .nil)) hxl7 ⟨([] : Bs), false, rfl, rfl, hF⟩
     ·replace hF := hF.2 hc6
      refine Ok.cut (fun a W => ∃ gj25 : Ghost, Gext w0 gl7 gj25 ∧ StA 37 [(0, sv x0l7), (4, pv b2 0), (5, .int .u8 (ureadS x0l7).1), (6, .int .i64 (ureadS x0l7).2), (20, .bool (ucleanV2 x0l7))] a ∧ StW w0 [.bhd b2 122 (.slice ayown1_0l7 yown1_0l7.length cyown1_0l7), .own (.slice ayown1_0l7 yown1_0l7.length cyown1_0l7) 5 1 yown1_0l7.length xsyown1_0l7] gj25 W ∧ ucleanj25 x0l7 yown1_0l7 (ucleanl7 K k7)) ?_ ?_
      ·
       refine Ok.region (Ok.bat 1 [0, 4, 5, 6] [(21, .int .u8 (ureadS x0l7).1)] ?_)
       refine Ok.op rfl (OpOk.callG (v := .bool (uplainM (ureadS x0l7).1)) enr (fun W hW => uplain_c (ureadS x0l7).1) rfl ?_)
       refine Ok.bat 1 [0, 4, 5, 6] [(23, .bool (uplainM (ureadS x0l7).1))] ?_
       refine Ok.boolAt 23 ((uplainM (ureadS x0l7).1)) rfl (fun hc13 => ?_) (fun hc13 => ?_)
       ·replace hF := hF.1 hc13
        refine Ok.bat 8 [0, 4, 5, 6] [(20, .bool true)] ?_
        refine Ok.nil (Ok.thenN (Ok.reval 20 rfl (show (.bool true : Value) = .bool (ucleanV2 x0l7) from congrArg (Value.bool) (mor_t hc13)) ?_))
        exact fun a W hA hW => ⟨gl7, (Gext.refl w0 gl7), hA.sub (by kernel_rfl), hW, hF⟩
       ·replace hF := hF.2 hc13
        refine Ok.bat 3 [0, 4, 5, 6] [(23, .bool false), (26, .bool ((ureadS x0l7).2 == 1))] ?_
        refine Ok.boolAt 26 (((ureadS x0l7).2 == 1)) rfl (fun hc14 => ?_) (fun hc14 => ?_)
        ·replace hF := hF.1 hc14
         refine Ok.bat 1 [0, 4, 5, 6, 23] [(26, .bool true), (27, .int .u8 (ureadS x0l7).1)] ?_
         refine Ok.opYes (j := 5) (d := 26) (want := true) (b := true) rfl (by kernel_rfl) (by kernel_rfl) rfl (OpOk.callG (v := .bool (uinM (ureadS x0l7).1 ([33, 36, 38, 39, 40, 41, 42, 43, 44, 59, 61, 58, 64, 47, 63] : Bs))) enr (fun W hW => uin_c (ureadS x0l7).1 ([33, 36, 38, 39, 40, 41, 42, 43, 44, 59, 61, 58, 64, 47, 63] : Bs)) rfl ?_)
         refine Ok.bat 3 [0, 4, 5, 6] [(20, .bool (uinM (ureadS x0l7).1 ([33, 36, 38, 39, 40, 41, 42, 43, 44, 59, 61, 58, 64, 47, 63] : Bs)))] ?_
         refine Ok.nil (Ok.thenN (Ok.reval 20 rfl (show (.bool (uinM (ureadS x0l7).1 ([33, 36, 38, 39, 40, 41, 42, 43, 44, 59, 61, 58, 64, 47, 63] : Bs)) : Value) = .bool (ucleanV2 x0l7) from congrArg (Value.bool) ((Eq.trans (mand_t hc14) (mor_f hc13)))) ?_))
         exact fun a W hA hW => ⟨gl7, (Gext.refl w0 gl7), hA.sub (by kernel_rfl), hW, hF⟩
        ·replace hF := hF.2 hc14
         refine Ok.bat 5 [0, 4, 5, 6] [(20, .bool false)] ?_
         refine Ok.nil (Ok.thenN (Ok.reval 20 rfl (show (.bool false : Value) = .bool (ucleanV2 x0l7) from congrArg (Value.bool) ((Eq.trans (mand_f hc14) (mor_f hc13)))) ?_))
         exact fun a W hA hW => ⟨gl7, (Gext.refl w0 gl7), hA.sub (by kernel_rfl), hW, hF⟩
      ·
       clear hF
       rintro a W ⟨gj25, hxj25, hA, hW, hF⟩
       refine (?_ : Ok _ _ _ _ _ _) a W hA hW
       clear hA hW
       replace hLyown1_0l7 := hLyown1_0l7.mono hxj25.1
       refine Ok.cond (b := (ucleanV2 x0l7)) rfl (fun hc7 => ?_) (fun hc7 => ?_)
       ·replace hF := hF.1 hc7
        refine Ok.region (Ok.bat 1 [0, 4, 6] [(31, .int .u8 (ureadS x0l7).1)] ?_)
        obtain ⟨hp8, hF⟩ := hF
        refine Ok.op rfl (OpOk.callH [_, _] _ enr rfl (Bld.wb_c yown1_0l7 (ureadS x0l7).1 hLyown1_0l7 hp8) rfl fun g9 _ _ hx9 hV9 => ?_)
        obtain ⟨a9_0, c9_0, xs9_0, rfl, hL9_0, rfl⟩ := hV9
        refine Ok.nil (Ok.blockN (Ok.thenN (Ok.heapEq (H' := [.bhd b2 122 (.slice a9_0 (ucleanV3 x0l7 yown1_0l7).length c9_0), .own (.slice a9_0 (ucleanV3 x0l7 yown1_0l7).length c9_0) 5 1 (ucleanV3 x0l7 yown1_0l7).length xs9_0]) (econs (congrArg (fun l : Value => Ent.bhd b2 122 l) (congrArg (fun l : List (Int) => Value.slice a9_0 l.length c9_0) ((if_t hc7).symm))) (econs (congrArg (fun l : List (Int) => Ent.own (.slice a9_0 l.length c9_0) 5 1 l.length xs9_0) ((if_t hc7).symm)) rfl)) ?_)))
        exact fun a W hA hW => ⟨g9, (hxj25.trans hx9), a9_0, c9_0, xs9_0, (Eq.mp (congrArg (fun l : List (Int) => RepL g9 (.int .u8) xs9_0 l) ((if_t hc7).symm)) hL9_0), hA.sub (by kernel_rfl), hW, hF⟩
       ·replace hF := hF.2 hc7
        refine Ok.region (Ok.bat 1 [0, 4, 6] [(14, .int .u8 (ureadS x0l7).1)] ?_)
        obtain ⟨hp10, hF⟩ := hF
        refine Ok.op rfl (OpOk.callG (v := sv (utripS (ureadS x0l7).1)) enr (fun W hW => utrip_c (ureadS x0l7).1 hp10) rfl ?_)
        obtain ⟨hp11, hF⟩ := hF
        refine Ok.op rfl (OpOk.callH [_, _] _ enr rfl (Bld.ws_c yown1_0l7 (utripS (ureadS x0l7).1) hLyown1_0l7 hp11) rfl fun g12 _ _ hx12 hV12 => ?_)
        obtain ⟨a12_0, c12_0, xs12_0, rfl, hL12_0, rfl⟩ := hV12
        refine Ok.nil (Ok.blockN (Ok.thenN (Ok.heapEq (H' := [.bhd b2 122 (.slice a12_0 (ucleanV3 x0l7 yown1_0l7).length c12_0), .own (.slice a12_0 (ucleanV3 x0l7 yown1_0l7).length c12_0) 5 1 (ucleanV3 x0l7 yown1_0l7).length xs12_0]) (econs (congrArg (fun l : Value => Ent.bhd b2 122 l) (congrArg (fun l : List (Int) => Value.slice a12_0 l.length c12_0) ((if_f hc7).symm))) (econs (congrArg (fun l : List (Int) => Ent.own (.slice a12_0 l.length c12_0) 5 1 l.length xs12_0) ((if_f hc7).symm)) rfl)) ?_)))
        exact fun a W hA hW => ⟨g12, (hxj25.trans hx12), a12_0, c12_0, xs12_0, (Eq.mp (congrArg (fun l : List (Int) => RepL g12 (.int .u8) xs12_0 l) ((if_f hc7).symm)) hL12_0), hA.sub (by kernel_rfl), hW, hF⟩
    ·
     clear hF
     rintro a W ⟨gj17, hxj17, ayown1_0j17, cyown1_0j17, xsyown1_0j17, hLyown1_0j17, hA, hW, hF⟩
     refine (?_ : Ok _ _ _ _ _ _) a W hA hW
     clear hA hW
     refine Ok.region (Ok.bat 2 [4] [(33, sv x0l7), (34, .int .i64 (ureadS x0l7).2)] ?_)
     obtain ⟨h05, h15, h25, hF⟩ := hF
     refine Ok.op rfl (OpOk.step (v := sv (x0l7.drop (Int.toNat (ureadS x0l7).2))) (Yields.sliceStr (s := x0l7) (l := (ureadS x0l7).2) (h := (x0l7.length : Int)) (by kernel_rfl) Tryz.underlying9 (.inl ⟨_, _, rfl, rfl⟩) (.inr ⟨rfl, rfl⟩) h05 h15 h25 (x0l7.drop (Int.toNat (ureadS x0l7).2)) (by rw [show ((x0l7.length : Int)).toNat = x0l7.length from Int.toNat_natCast _, List.take_length])) rfl rfl (Ok.bat 1 [4] [(0, sv (x0l7.drop (Int.toNat (ureadS x0l7).2)))] ?_))
     refine Ok.nil (Ok.blockN (Ok.thenN ?_))
     exact fun a W hA hW => ⟨k7, Nat.lt_succ_self _, gj17, (hxl7.trans hxj17), x0l7.drop (Int.toNat (ureadS x0l7).2), ayown1_0j17, cyown1_0j17, (ucleanV3 x0l7 yown1_0l7), xsyown1_0j17, hLyown1_0j17, hA.sub (by kernel_rfl), hW, hF⟩
   ·replace hF := hF.2 hc3
    refine Ok.exit (Ok.thenE (Ok.thenE (Ok.blockHit (Ok.thenN (Ok.seq (Ok.region ?_))))))
    obtain ⟨hp15, hF⟩ := hF
    refine Ok.op rfl (OpOk.callH [_, _] _ enr rfl (Bld.st_c yown1_0l7 hLyown1_0l7 hp15) rfl fun g16 _ _ hx16 hV16 => ?_)
    obtain ⟨rfl, rfl⟩ := hV16
    refine Ok.batch 2 [(2, sv (bytesOf yown1_0l7)), (3, .bool true)] (by kernel_rfl) (Ok.nil (Ok.thenN (Ok.ret ?_)))
    exact Ok.resH (vs := [sv (bytesOf yown1_0l7), .bool true]) (.inl rfl) rfl (.cons (.tmp rfl) (.cons (.tmp rfl) .nil)) (hxl7.trans hx16) ⟨(bytesOf yown1_0l7), true, rfl, rfl, hF⟩
theorem uclean_loop (K : Bs → Bool → Prop) : ∀ (k : Nat) (s acc : Bs), s.length ≤ k → acc.length + 3 * s.length ≤ 100000 → K (cleanO (unN k s) acc).1 (cleanO (unN k s) acc).2 → ucleanl7 K (k + 1) s (intsOf acc) := by
 intro k
 induction k with
 | zero =>
  intro s acc h1 h2 hK
  obtain rfl : s = [] := List.eq_nil_of_length_eq_zero (by omega)
  refine ⟨(fun h => by cases h), fun _ => ⟨by unfold stP; rw [bytesOf_intsOf], ?_⟩⟩
  rw [bytesOf_intsOf]
  simpa [unN, cleanO] using hK
 | succ k ih =>
  intro s acc h1 h2 hK
  by_cases hs : s = []
  ·subst hs
   refine ⟨(fun h => by cases h), fun _ => ⟨by unfold stP; rw [bytesOf_intsOf], ?_⟩⟩
   rw [bytesOf_intsOf]
   simpa [unN, cleanO] using hK
  ·have e : unN (k + 1) s = if (ureadS s).2 = 0 then none else (unN k (s.drop (ureadS s).2.toNat)).map fun l => ((ureadS s).1, decide ((ureadS s).2 = 3)) :: l := if_neg hs
   rw [e] at hK
   have hby := uread_byte s
   have hr3 : (ureadS s).2 = 0 ∨ (ureadS s).2 = 1 ∨ (ureadS s).2 = 3 := by
    unfold ureadS
    split
    ·exact .inr (.inl rfl)
    ·split
     ·exact .inl rfl
     ·exact .inr (.inr rfl)
   have hr := uread_rng hs
   have h0l := List.length_pos_iff.mpr hs
   by_cases h0 : (ureadS s).2 = 0
   ·refine ⟨fun _ => ⟨hs, fun h => ?_, fun h => absurd h0 (by simpa using h)⟩, fun h => absurd (by simpa using h) hs⟩
    rw [if_pos h0] at hK
    exact hK
   ·rw [if_neg h0] at hK
    have hr := hr.resolve_left h0
    have e3 : ∀ o : Option (List (Int × Bool)), cleanO (o.map fun l => ((ureadS s).1, decide ((ureadS s).2 = 3)) :: l) acc = cleanO o (acc ++ clB ((ureadS s).1, decide ((ureadS s).2 = 3))) := fun o => by
     cases o with
     | none => rfl
     | some l => simp [cleanO]
    rw [e3] at hK
    have hcond : (uplainM (ureadS s).1 || (((ureadS s).2 == 1) && uinM (ureadS s).1 [33, 36, 38, 39, 40, 41, 42, 43, 44, 59, 61, 58, 64, 47, 63])) = (uplainM (ureadS s).1 || (!(decide ((ureadS s).2 = 3)) && uinM (ureadS s).1 QM)) := by
     rcases hr3.resolve_left h0 with h | h <;> rw [h] <;> rfl
    have hl3 := clB_len ((ureadS s).1, decide ((ureadS s).2 = 3))
    have j17 : ucleanj17 s (intsOf acc) (ucleanl7 K (k + 1)) := by
     unfold ucleanj17
     refine ⟨by omega, by omega, by omega, ?_⟩
     have e2 : ∀ b : Bool, b = (uplainM (ureadS s).1 || (!(decide ((ureadS s).2 = 3)) && uinM (ureadS s).1 QM)) → (if b = true then (wbS (intsOf acc) (ureadS s).1).2 else (wsS (intsOf acc) (utripS (ureadS s).1)).2.2) = intsOf (acc ++ clB ((ureadS s).1, decide ((ureadS s).2 = 3))) := fun b hb => by
      unfold clB
      rw [hb]
      split
      ·unfold wbS
       simp only [intsOf, List.map_append, List.map_cons, List.map_nil]
       rw [of_nat hby]
      ·unfold wsS
       simp [intsOf]
     rw [show ucleanV3 s (intsOf acc) = _ from e2 (ucleanV2 s) hcond]
     refine ih _ _ (by rw [List.length_drop]; omega) (by rw [List.length_drop, List.length_append]; omega) hK
    have j25 : ucleanj25 s (intsOf acc) (ucleanl7 K (k + 1)) := by
     unfold ucleanj25
     exact ⟨fun _ => ⟨by unfold wbP; rw [intsOf_length]; omega, j17⟩, fun _ => ⟨hby, by unfold wsP; rw [intsOf_length]; show acc.length + 3 ≤ _; omega, j17⟩⟩
    exact ⟨fun _ => ⟨hs, fun h => absurd (by simpa using h) h0, fun _ => ⟨fun _ => j25, fun _ => ⟨fun _ => j25, fun _ => j25⟩⟩⟩, fun h => absurd (by simpa using h) hs⟩
theorem uclean_F (s : Bs) (hp : smP s) : ucleanF s (fun a b => (a, b) = cleanS s) :=
 ⟨_, uclean_loop _ s.length s [] (Nat.le_refl _) (by unfold smP at hp; simp; omega) rfl⟩
theorem uclean_c {g : Ghost} (xs : Bs)  (hp : smP xs) : CallsG Tryz.prog 67 #[sv xs] g (.tuple #[sv ((cleanS xs).1), .bool (cleanS xs).2]) :=
 (uclean_ok xs _ (uclean_F xs hp)).gives (by rintro g' H' v _ ⟨r0, r1, rfl, rfl, hK⟩; obtain ⟨rfl, rfl⟩ : r0 = (cleanS xs).1 ∧ r1 = (cleanS xs).2 := ⟨congrArg (fun z => z.1) hK, congrArg (fun z => z.2) hK⟩; rfl)
/-! scheme -/
def letC (b : UInt8) : Bool := uletM (b.toNat : Int)
def schI : Bs := [48, 49, 50, 51, 52, 53, 54, 55, 56, 57, 43, 45, 46]
def schN (first : Bool) (acc : Bs) : Bs → Bs × Bs × Bool
 | [] => ([], [], false)
 | c :: l => if (((c.toNat : Int) == 58) && !first) = true then (smallS acc, l, true) else if (!(letC c) && (first || !(uinM (c.toNat : Int) schI))) = true then ([], [], false) else schN false (acc ++ [c]) l
def schS0 (s : Bs) : Bs × Bs × Bool := schN true [] s
noncomputable def schS : Bs → Bs × Bs × Bool := Classical.choose (rigid schS0)
theorem schS_eq : schS = schS0 := Classical.choose_spec (rigid schS0)
theorem take_snoc {s : Bs} {i : Nat} (h : i < s.length) : s.take (i + 1) = s.take i ++ [s.getD i 0] := by
 rw [List.take_add_one, List.getD_eq_getElem?_getD, List.getElem?_eq_getElem h]; rfl
def uschV0 (e2 : UInt8) (x9l7 : Int) : Bool :=
 ((!(uletM (e2.toNat : Int))) && ((x9l7 == 0) || (!(uinM (e2.toNat : Int) ([48, 49, 50, 51, 52, 53, 54, 55, 56, 57, 43, 45, 46] : Bs)))))
def uschj27 (K : Bs → Bs → Bool → Prop) (e2 : UInt8) (x9l7 : Int) (C7 : Int → Prop) : Prop :=
 (((uschV0 e2 x9l7)) = true → K ([] : Bs) ([] : Bs) false) ∧ (((uschV0 e2 x9l7)) = false → C7 (w6 (x9l7 + 1)))
def uschl7b (xs : Bs) (K : Bs → Bs → Bool → Prop) (x9l7 : Int) (C7 : Int → Prop) : Prop :=
 ((decide (x9l7 < (xs.length : Int))) = true → (0 : Int) ≤ x9l7 ∧ Int.toNat x9l7 < xs.length ∧ ((((((xs.getD (Int.toNat x9l7) 0).toNat : Int) == 58) && (decide (x9l7 > 0)))) = true → (0 : Int) ≤ 0 ∧ (0 : Int) ≤ x9l7 ∧ x9l7 ≤ (xs.length : Int) ∧ smallP (xs.take (Int.toNat x9l7)) ∧ (0 : Int) ≤ (w6 (x9l7 + 1)) ∧ ((w6 (x9l7 + 1)) : Int) ≤ (xs.length : Int) ∧ (xs.length : Int) ≤ (xs.length : Int) ∧ K (smallS (xs.take (Int.toNat x9l7))) (xs.drop (Int.toNat (w6 (x9l7 + 1)))) true) ∧ ((((((xs.getD (Int.toNat x9l7) 0).toNat : Int) == 58) && (decide (x9l7 > 0)))) = false → ((!(uletM ((xs.getD (Int.toNat x9l7) 0).toNat : Int))) = true → (((x9l7 == 0)) = true → uschj27 K (xs.getD (Int.toNat x9l7) 0) x9l7 C7) ∧ (((x9l7 == 0)) = false → uschj27 K (xs.getD (Int.toNat x9l7) 0) x9l7 C7)) ∧ ((!(uletM ((xs.getD (Int.toNat x9l7) 0).toNat : Int))) = false → uschj27 K (xs.getD (Int.toNat x9l7) 0) x9l7 C7))) ∧ ((decide (x9l7 < (xs.length : Int))) = false → K ([] : Bs) ([] : Bs) false)
def uschl7 (xs : Bs) (K : Bs → Bs → Bool → Prop) : Nat → Int → Prop
 | 0, _ => False
 | k + 1, x9l7 => uschl7b xs K x9l7 (uschl7 xs K k)
def uschF (xs : Bs) (K : Bs → Bs → Bool → Prop) : Prop :=
 ∃ k, uschl7 xs K k 0
theorem usch_ok {g : Ghost} (xs : Bs) (hG4 : GlobL g 4 (.int .u8) DFirst) (hG5 : GlobL g 5 (.pair (.int .u8) (.int .u8)) DAcc) (K : Bs → Bs → Bool → Prop)
  (hF : uschF xs K) : CallsH Tryz.prog 37 #[sv xs] g [] (fun g' H' v => ∃ (r0 : Bs), ∃ (r1 : Bs), ∃ (r2 : Bool), v = .tuple #[sv r0, sv r1, .bool r2] ∧ H' = [] ∧ K r0 r1 r2) := by
 refine CallsH.enter 44 [(0, sv xs)] Tryz.func37 rfl (by kernel_rfl) (by kernel_rfl) (by kernel_rfl) fun w0 => ?_
 refine Ok.seq (Ok.region (Ok.batch 3 [(0, sv xs)] (by kernel_rfl) (Ok.nil (Ok.thenN (Ok.seq (Ok.seq (Ok.region (Ok.bat 3 [0] [(8, .int .i64 (xs.length : Int)), (9, .int .i64 0)] ?_))))))))
 refine Ok.nil (Ok.thenN (Ok.block ?_))
 obtain ⟨k, hF⟩ := hF
 refine Ok.loop (fun k a W => ∃ (x9l7 : Int), StA 44 [(0, sv xs), (8, .int .i64 (xs.length : Int)), (9, .int .i64 x9l7)] a ∧ StW w0 [] g W ∧ uschl7 xs K k x9l7) k ?_ ?_
 ·
  exact fun a W hA hW => ⟨0, hA.sub (by kernel_rfl), hW, hF⟩
 ·
  clear hF
  rintro k7 a W ⟨x9l7, hA, hW, hF⟩
  cases k7 with
  | zero => exact (hF : False).elim
  | succ k7 =>
   refine (?_ : Ok _ _ _ _ _ _) a W hA hW
   clear hA hW
   refine Ok.seq (Ok.region (Ok.bat 1 [0, 8, 9] [(10, .bool (decide (x9l7 < (xs.length : Int))))] ?_))
   refine Ok.nil (Ok.thenN (Ok.seq (Ok.cond (b := decide (x9l7 < (xs.length : Int))) rfl (fun hc1 => ?_) (fun hc1 => ?_))))
   ·replace hF := hF.1 hc1
    refine Ok.skip (Ok.thenN (Ok.seq (Ok.block (Ok.seq (Ok.region (Ok.bat 2 [0, 8, 9] [(5, .int .i64 x9l7)] ?_))))))
    refine Ok.nil (Ok.thenN (Ok.seq (Ok.region (Ok.bat 2 [0, 5, 8, 9] [(12, sv xs), (13, .int .i64 x9l7)] ?_))))
    obtain ⟨h02, h12, hF⟩ := hF
    have he2 := get_of (l := xs) (0 : UInt8) h12
    generalize hg2 : (xs.getD (Int.toNat x9l7) 0) = e2 at he2 hF ⊢
    refine Ok.op rfl (OpOk.step (v := .int .u8 (e2.toNat : Int)) (Yields.indexStr (k := .i64) (i := x9l7) (s := xs) (b := e2) (by kernel_rfl) (by kernel_rfl) Tryz.underlying9 h02 he2) rfl rfl (Ok.bat 1 [0, 5, 8, 9] [(6, .int .u8 (e2.toNat : Int))] ?_))
    refine Ok.nil (Ok.thenN (Ok.block (Ok.seq (Ok.region (Ok.bat 3 [0, 5, 6, 8, 9] [(18, .bool ((e2.toNat : Int) == 58))] ?_)))))
    refine Ok.midway 3 [(0, sv xs), (5, .int .i64 x9l7), (6, .int .u8 (e2.toNat : Int)), (8, .int .i64 (xs.length : Int)), (9, .int .i64 x9l7), (21, .bool (((e2.toNat : Int) == 58) && (decide (x9l7 > 0))))] (fun hR3 => ?_) ?_
    ·refine Ok.boolAt 18 (((e2.toNat : Int) == 58)) rfl (fun hc4 => ?_) (fun hc4 => ?_)
     ·skip
      refine Ok.bat 3 [0, 5, 6, 8, 9] [(21, .bool (decide (x9l7 > 0)))] ?_
      refine Ok.reval 21 rfl (show (.bool (decide (x9l7 > 0)) : Value) = .bool (((e2.toNat : Int) == 58) && (decide (x9l7 > 0))) from congrArg Value.bool (mand_t hc4)) (Ok.bat 0 [0, 5, 6, 8, 9] [(21, .bool (((e2.toNat : Int) == 58) && (decide (x9l7 > 0))))] ?_)
      exact hR3
     ·skip
      refine Ok.bat 3 [0, 5, 6, 8, 9] [(21, .bool false)] ?_
      refine Ok.reval 21 rfl (show (.bool false : Value) = .bool (((e2.toNat : Int) == 58) && (decide (x9l7 > 0))) from congrArg Value.bool (mand_f hc4)) (Ok.bat 0 [0, 5, 6, 8, 9] [(21, .bool (((e2.toNat : Int) == 58) && (decide (x9l7 > 0))))] ?_)
      exact hR3
    refine Ok.bat 1 [0, 5, 6, 8, 9] [(15, .bool (((e2.toNat : Int) == 58) && (decide (x9l7 > 0))))] ?_
    refine Ok.nil (Ok.thenN (Ok.cond (b := (((e2.toNat : Int) == 58) && (decide (x9l7 > 0)))) rfl (fun hc5 => ?_) (fun hc5 => ?_)))
    ·replace hF := hF.1 hc5
     refine Ok.seq (Ok.quiet' (by kernel_rfl) (by kernel_rfl) (OkQ.bat 2 [0, 5] [(22, sv xs), (23, .int .i64 x9l7)] ?_))
     obtain ⟨h06, h16, h26, hF⟩ := hF
     refine OkQ.op rfl (OpQ.step (v := sv (xs.take (Int.toNat x9l7))) (Yields.sliceStr (s := xs) (l := 0) (h := x9l7) (by kernel_rfl) Tryz.underlying9 (.inr ⟨rfl, rfl⟩) (.inl ⟨_, _, rfl, rfl⟩) h06 h16 h26 (xs.take (Int.toNat x9l7)) (by simp)) rfl rfl ?_)
     obtain ⟨hp7, hF⟩ := hF
     refine OkQ.op rfl (OpQ.callG (v := sv (smallS (xs.take (Int.toNat x9l7)))) enr (fun W hW => small_c (xs.take (Int.toNat x9l7)) (hG4.mono hW.sees) (hG5.mono hW.sees) hp7) rfl ?_)
     refine OkQ.batch 3 [(25, sv (smallS (xs.take (Int.toNat x9l7)))), (26, sv xs), (28, .int .i64 (w6 (x9l7 + 1)))] (by kernel_rfl) ?_
     obtain ⟨h08, h18, h28, hF⟩ := hF
     refine OkQ.op rfl (OpQ.step (v := sv (xs.drop (Int.toNat (w6 (x9l7 + 1))))) (Yields.sliceStr (s := xs) (l := (w6 (x9l7 + 1))) (h := (xs.length : Int)) (by kernel_rfl) Tryz.underlying9 (.inl ⟨_, _, rfl, rfl⟩) (.inr ⟨rfl, rfl⟩) h08 h18 h28 (xs.drop (Int.toNat (w6 (x9l7 + 1)))) (by rw [show ((xs.length : Int)).toNat = xs.length from Int.toNat_natCast _, List.take_length])) rfl rfl (OkQ.batch 3 [(2, sv (smallS (xs.take (Int.toNat x9l7)))), (3, sv (xs.drop (Int.toNat (w6 (x9l7 + 1))))), (4, .bool true)] (by kernel_rfl) (OkQ.nil (Ok.thenN (Ok.ret (Ok.blockR (Ok.blockR (Ok.thenR (Ok.thenR (Ok.blockR (Ok.thenR ?_)))))))))))
     exact Ok.resH (vs := [sv (smallS (xs.take (Int.toNat x9l7))), sv (xs.drop (Int.toNat (w6 (x9l7 + 1)))), .bool true]) (.inl rfl) rfl (.cons (.tmp rfl) (.cons (.tmp rfl) (.cons (.tmp rfl) .nil))) (Gext.refl w0 g) ⟨(smallS (xs.take (Int.toNat x9l7))), (xs.drop (Int.toNat (w6 (x9l7 + 1)))), true, rfl, rfl, hF⟩
    ·replace hF := hF.2 hc5
     refine Ok.cut (fun a W => StA 44 [(0, sv xs), (8, .int .i64 (xs.length : Int)), (9, .int .i64 x9l7), (30, .bool (uschV0 e2 x9l7))] a ∧ StW w0 [] g W ∧ uschj27 K e2 x9l7 (uschl7 xs K k7)) ?_ ?_
     ·
      refine Ok.region (Ok.bat 1 [0, 5, 6, 8, 9] [(31, .int .u8 (e2.toNat : Int))] ?_)
      refine Ok.op rfl (OpOk.callG (v := .bool (uletM (e2.toNat : Int))) enr (fun W hW => ulet_c (e2.toNat : Int)) rfl ?_)
      refine Ok.bat 2 [0, 5, 6, 8, 9] [(34, .bool (!(uletM (e2.toNat : Int))))] ?_
      refine Ok.boolAt 34 (!(uletM (e2.toNat : Int))) rfl (fun hc10 => ?_) (fun hc10 => ?_)
      ·replace hF := hF.1 hc10
       refine Ok.bat 3 [0, 6, 8, 9] [(34, .bool true), (37, .bool (x9l7 == 0))] ?_
       refine Ok.boolAt 37 ((x9l7 == 0)) rfl (fun hc11 => ?_) (fun hc11 => ?_)
       ·replace hF := hF.1 hc11
        refine Ok.bat 6 [0, 8, 9] [(30, .bool true)] ?_
        refine Ok.nil (Ok.thenN (Ok.reval 30 rfl (show (.bool true : Value) = .bool (uschV0 e2 x9l7) from congrArg (Value.bool) ((Eq.trans (mor_t hc11) (mand_t hc10)))) ?_))
        exact fun a W hA hW => ⟨hA.sub (by kernel_rfl), hW, hF⟩
       ·replace hF := hF.2 hc11
        refine Ok.bat 1 [0, 8, 9, 34] [(37, .bool false), (38, .int .u8 (e2.toNat : Int))] ?_
        refine Ok.opYes (j := 6) (d := 37) (want := false) (b := false) rfl (by kernel_rfl) (by kernel_rfl) rfl (OpOk.callG (v := .bool (uinM (e2.toNat : Int) ([48, 49, 50, 51, 52, 53, 54, 55, 56, 57, 43, 45, 46] : Bs))) enr (fun W hW => uin_c (e2.toNat : Int) ([48, 49, 50, 51, 52, 53, 54, 55, 56, 57, 43, 45, 46] : Bs)) rfl ?_)
        refine Ok.bat 4 [0, 8, 9] [(30, .bool (!(uinM (e2.toNat : Int) ([48, 49, 50, 51, 52, 53, 54, 55, 56, 57, 43, 45, 46] : Bs))))] ?_
        refine Ok.nil (Ok.thenN (Ok.reval 30 rfl (show (.bool (!(uinM (e2.toNat : Int) ([48, 49, 50, 51, 52, 53, 54, 55, 56, 57, 43, 45, 46] : Bs))) : Value) = .bool (uschV0 e2 x9l7) from congrArg (Value.bool) ((Eq.trans (mor_f hc11) (mand_t hc10)))) ?_))
        exact fun a W hA hW => ⟨hA.sub (by kernel_rfl), hW, hF⟩
      ·replace hF := hF.2 hc10
       refine Ok.bat 9 [0, 8, 9] [(30, .bool false)] ?_
       refine Ok.nil (Ok.thenN (Ok.reval 30 rfl (show (.bool false : Value) = .bool (uschV0 e2 x9l7) from congrArg (Value.bool) (mand_f hc10)) ?_))
       exact fun a W hA hW => ⟨hA.sub (by kernel_rfl), hW, hF⟩
     ·
      clear hF
      rintro a W ⟨hA, hW, hF⟩
      refine (?_ : Ok _ _ _ _ _ _) a W hA hW
      clear hA hW
      refine Ok.cond (b := (uschV0 e2 x9l7)) rfl (fun hc9 => ?_) (fun hc9 => ?_)
      ·replace hF := hF.1 hc9
       refine Ok.seq (Ok.region (Ok.batch 3 [(2, sv ([] : Bs)), (3, sv ([] : Bs)), (4, .bool false)] (by kernel_rfl) (Ok.nil (Ok.thenN (Ok.ret (Ok.blockR (Ok.blockR (Ok.thenR (Ok.thenR (Ok.blockR (Ok.thenR ?_)))))))))))
       exact Ok.resH (vs := [sv ([] : Bs), sv ([] : Bs), .bool false]) (.inl rfl) rfl (.cons (.tmp rfl) (.cons (.tmp rfl) (.cons (.tmp rfl) .nil))) (Gext.refl w0 g) ⟨([] : Bs), ([] : Bs), false, rfl, rfl, hF⟩
      ·replace hF := hF.2 hc9
       refine Ok.skip (Ok.blockN (Ok.blockN (Ok.thenN (Ok.region (Ok.bat 2 [0, 8] [(9, .int .i64 (w6 (x9l7 + 1)))] ?_)))))
       refine Ok.nil (Ok.thenN ?_)
       subst hg2
       exact fun a W hA hW => ⟨k7, Nat.lt_succ_self _, w6 (x9l7 + 1), hA.sub (by kernel_rfl), hW, hF⟩
   ·replace hF := hF.2 hc1
    refine Ok.exit (Ok.thenE (Ok.thenE (Ok.blockHit (Ok.thenN (Ok.seq (Ok.region (Ok.batch 3 [(2, sv ([] : Bs)), (3, sv ([] : Bs)), (4, .bool false)] (by kernel_rfl) (Ok.nil (Ok.thenN (Ok.ret ?_))))))))))
    exact Ok.resH (vs := [sv ([] : Bs), sv ([] : Bs), .bool false]) (.inl rfl) rfl (.cons (.tmp rfl) (.cons (.tmp rfl) (.cons (.tmp rfl) .nil))) (Gext.refl w0 g) ⟨([] : Bs), ([] : Bs), false, rfl, rfl, hF⟩
theorem usch_loop (s : Bs) (hp : smP s) (K : Bs → Bs → Bool → Prop) : ∀ (k i : Nat), i + k = s.length → K (schN (i == 0) (s.take i) (s.drop i)).1 (schN (i == 0) (s.take i) (s.drop i)).2.1 (schN (i == 0) (s.take i) (s.drop i)).2.2 → uschl7 s K (k + 1) (i : Int) := by
 unfold smP at hp
 intro k
 induction k with
 | zero =>
  intro i h1 hK
  rw [List.drop_of_length_le (by omega)] at hK
  exact ⟨fun h => by have := of_decide_eq_true h; omega, fun _ => hK⟩
 | succ k ih =>
  intro i h1 hK
  have hi : i < s.length := by omega
  rw [drop_get (l := s) (0 : UInt8) hi, schN] at hK
  have hb : ((i : Int) == 0) = (i == 0) := by
   rw [Bool.eq_iff_iff, beq_iff_eq, beq_iff_eq]; omega
  have hgt : decide ((i : Int) > 0) = !(i == 0) := by
   rw [Bool.eq_iff_iff, decide_eq_true_eq, Bool.not_eq_true', beq_eq_false_iff_ne]; omega
  have hsm : smallP (s.take i) := by unfold smallP; rw [List.length_take]; omega
  have j27 : ((((s.getD i 0).toNat : Int) == 58) && !(i == 0)) = false → uschj27 K (s.getD i 0) (i : Int) (uschl7 s K (k + 1)) := fun hc => by
   rw [if_f hc] at hK
   have hv : uschV0 (s.getD i 0) (i : Int) = (!(letC (s.getD i 0)) && ((i == 0) || !(uinM ((s.getD i 0).toNat : Int) schI))) := by
    unfold uschV0; rw [hb]; rfl
   refine ⟨fun h => ?_, fun h => ?_⟩
   ·rw [hv] at h
    rw [if_t h] at hK
    exact hK
   ·rw [hv] at h
    rw [if_f h] at hK
    rw [w64 (by omega)]
    refine ih (i + 1) (by omega) ?_
    rw [take_snoc hi, show (i + 1 == 0) = false from rfl]
    exact hK
  refine ⟨fun _ => ⟨by omega, by rw [Int.toNat_natCast]; omega, ?_⟩, fun h => by have := of_decide_eq_false h; omega⟩
  rw [Int.toNat_natCast, hgt]
  refine ⟨fun h => ?_, fun h => ⟨fun _ => ⟨fun _ => j27 h, fun _ => j27 h⟩, fun _ => j27 h⟩⟩
  rw [if_t h] at hK
  rw [w64 (by omega)]
  refine ⟨by omega, by omega, by omega, hsm, by omega, by omega, by omega, ?_⟩
  rw [show ((i : Int) + 1).toNat = i + 1 by omega]
  exact hK
theorem usch_F (s : Bs) (hp : smP s) : uschF s (fun a b c => (a, b, c) = schS s) := by
 rw [schS_eq]
 exact ⟨_, usch_loop s hp _ s.length 0 (by omega) rfl⟩
theorem usch_c {g : Ghost} (xs : Bs) (hG4 : GlobL g 4 (.int .u8) DFirst) (hG5 : GlobL g 5 (.pair (.int .u8) (.int .u8)) DAcc)  (hp : smP xs) : CallsG Tryz.prog 37 #[sv xs] g (.tuple #[sv ((schS xs).1), sv ((schS xs).2.1), .bool (schS xs).2.2]) :=
 (usch_ok xs hG4 hG5 _ (usch_F xs hp)).gives (by rintro g' H' v _ ⟨r0, r1, r2, rfl, rfl, hK⟩; obtain ⟨rfl, rfl, rfl⟩ : r0 = (schS xs).1 ∧ r1 = (schS xs).2.1 ∧ r2 = (schS xs).2.2 := ⟨congrArg (fun z => z.1) hK, congrArg (fun z => z.2.1) hK, congrArg (fun z => z.2.2) hK⟩; rfl)
/-! host -/
def HSL : Bs := [97, 98, 99, 100, 101, 102, 103, 104, 105, 106, 107, 108, 109, 110, 111, 112, 113, 114, 115, 116, 117, 118, 119, 120, 121, 122, 48, 49, 50, 51, 52, 53, 54, 55, 56, 57, 45]
def hostPc (w : Bs) : Bool := !((w == []) || !(trimS w HSL == []))
def hostS (s : Bs) : Bool := if decide ((s.length : Int) > 100) = true then false else (splS s [46]).all hostPc
def uhostV0 (e6 : Bs) : Bool :=
 ((e6 == ([] : Bs)) || (!((trimS e6 ([97, 98, 99, 100, 101, 102, 103, 104, 105, 106, 107, 108, 109, 110, 111, 112, 113, 114, 115, 116, 117, 118, 119, 120, 121, 122, 48, 49, 50, 51, 52, 53, 54, 55, 56, 57, 45] : Bs)) == ([] : Bs))))
def uhostj26 (K : Bool → Prop) (e6 : Bs) (x11l15 : Int) (C15 : Int → Prop) : Prop :=
 (((uhostV0 e6)) = true → K false) ∧ (((uhostV0 e6)) = false → C15 (w6 (x11l15 + 1)))
def uhostl15b (xs : Bs) (K : Bool → Prop) (x11l15 : Int) (C15 : Int → Prop) : Prop :=
 ((decide (x11l15 < ((splS xs ([46] : Bs)).length : Int))) = true → (0 : Int) ≤ x11l15 ∧ Int.toNat x11l15 < (splS xs ([46] : Bs)).length ∧ (((((splS xs ([46] : Bs)).getD (Int.toNat x11l15) default) == ([] : Bs))) = true → uhostj26 K ((splS xs ([46] : Bs)).getD (Int.toNat x11l15) default) x11l15 C15) ∧ (((((splS xs ([46] : Bs)).getD (Int.toNat x11l15) default) == ([] : Bs))) = false → trimP ((splS xs ([46] : Bs)).getD (Int.toNat x11l15) default) ([97, 98, 99, 100, 101, 102, 103, 104, 105, 106, 107, 108, 109, 110, 111, 112, 113, 114, 115, 116, 117, 118, 119, 120, 121, 122, 48, 49, 50, 51, 52, 53, 54, 55, 56, 57, 45] : Bs) ∧ uhostj26 K ((splS xs ([46] : Bs)).getD (Int.toNat x11l15) default) x11l15 C15)) ∧ ((decide (x11l15 < ((splS xs ([46] : Bs)).length : Int))) = false → K true)
def uhostl15 (xs : Bs) (K : Bool → Prop) : Nat → Int → Prop
 | 0, _ => False
 | k + 1, x11l15 => uhostl15b xs K x11l15 (uhostl15 xs K k)
def uhostF (xs : Bs) (K : Bool → Prop) : Prop :=
 ((decide ((xs.length : Int) > 100)) = true → K false) ∧ ((decide ((xs.length : Int) > 100)) = false → splP xs ([46] : Bs) ∧ ∃ k, uhostl15 xs K k 0)
theorem uhost_ok {g : Ghost} (xs : Bs) (hG0 : SomeInt g 0) (K : Bool → Prop)
  (hF : uhostF xs K) : CallsH Tryz.prog 63 #[sv xs] g [] (fun g' H' v => ∃ (r0 : Bool), v = .bool r0 ∧ H' = [] ∧ K r0) := by
 refine CallsH.enter 23 [(0, sv xs)] Tryz.func63 rfl (by kernel_rfl) (by kernel_rfl) (by kernel_rfl) fun w0 => ?_
 refine Ok.seq (Ok.region (Ok.batch 1 [(0, sv xs)] (by kernel_rfl) (Ok.nil (Ok.thenN (Ok.seq (Ok.seq (Ok.region (Ok.bat 3 [0] [(7, .bool (decide ((xs.length : Int) > 100)))] ?_))))))))
 refine Ok.nil (Ok.thenN (Ok.cond (b := decide ((xs.length : Int) > 100)) rfl (fun hc1 => ?_) (fun hc1 => ?_)))
 ·replace hF := hF.1 hc1
  refine Ok.seq (Ok.region (Ok.batch 1 [(2, .bool false)] (by kernel_rfl) (Ok.nil (Ok.thenN (Ok.ret (Ok.thenR ?_))))))
  exact Ok.resH (vs := [.bool false]) (.inl rfl) rfl (.cons (.tmp rfl) .nil) (Gext.refl w0 g) ⟨false, rfl, rfl, hF⟩
 ·replace hF := hF.2 hc1
  refine Ok.skip (Ok.thenN (Ok.seq (Ok.seq (Ok.region (Ok.batch 1 [(8, sv xs)] (by kernel_rfl) ?_)))))
  obtain ⟨hp2, hF⟩ := hF
  refine Ok.op rfl (OpOk.callH [] _ enr rfl (spl_c xs ([46] : Bs) hG0 hp2) rfl fun g3 _ _ hx3 hV3 => ?_)
  obtain ⟨a3_0, c3_0, rfl, hR3_0, rfl⟩ := hV3
  replace hG0 := hG0.mono hx3.1
  refine Ok.batch 2 [(9, .slice a3_0 (splS xs ([46] : Bs)).length c3_0), (10, .int .i64 ((splS xs ([46] : Bs)).length : Int)), (11, .int .i64 0)] (by kernel_rfl) (Ok.nil (Ok.thenN (Ok.block ?_)))
  obtain ⟨k, hF⟩ := hF
  refine Ok.loop (fun k a W => ∃ gl15 : Ghost, Gext w0 g3 gl15 ∧ ∃ (x11l15 : Int), StA 23 [(9, .slice a3_0 (splS xs ([46] : Bs)).length c3_0), (10, .int .i64 ((splS xs ([46] : Bs)).length : Int)), (11, .int .i64 x11l15)] a ∧ StW w0 [] gl15 W ∧ uhostl15 xs K k x11l15) k ?_ ?_
  ·
   exact fun a W hA hW => ⟨g3, (Gext.refl w0 g3), 0, hA.sub (by kernel_rfl), hW, hF⟩
  ·
   clear hF
   rintro k15 a W ⟨gl15, hxl15, x11l15, hA, hW, hF⟩
   cases k15 with
   | zero => exact (hF : False).elim
   | succ k15 =>
    refine (?_ : Ok _ _ _ _ _ _) a W hA hW
    clear hA hW
    replace hR3_0 := hR3_0.mono hxl15.1
    replace hG0 := hG0.mono hxl15.1
    refine Ok.seq (Ok.region (Ok.bat 1 [9, 10, 11] [(12, .bool (decide (x11l15 < ((splS xs ([46] : Bs)).length : Int))))] ?_))
    refine Ok.nil (Ok.thenN (Ok.seq (Ok.cond (b := decide (x11l15 < ((splS xs ([46] : Bs)).length : Int))) rfl (fun hc4 => ?_) (fun hc4 => ?_))))
    ·replace hF := hF.1 hc4
     refine Ok.skip (Ok.thenN (Ok.seq (Ok.block (Ok.seq (Ok.region ?_)))))
     obtain ⟨h06, h16, hF⟩ := hF
     have he6 := get_of (l := (splS xs ([46] : Bs))) (default : Bs) h16
     generalize hg6 : ((splS xs ([46] : Bs)).getD (Int.toNat x11l15) default) = e6 at he6 hF ⊢
     refine Ok.op rfl (OpOk.indexRo (e := .str) (i := x11l15) (el := e6) rfl rfl Tryz.underlying28 (by kernel_rfl) hR3_0 h06 he6 rfl fun q5 o5 cs5 _ hat5 hr5 => ?_)
     obtain rfl := hr5
     replace hat5 : At gl15 q5 o5 [sv e6] := hat5
     refine Ok.op rfl (OpOk.step (v := sv e6) (Yields.loadRo 0 hat5 (by kernel_rfl) Tryz.underlying9 rfl (by kernel_rfl)) rfl rfl (Ok.bat 1 [9, 10, 11] [(4, sv e6)] ?_))
     refine Ok.nil (Ok.thenN (Ok.cut (fun a W => ∃ gj26 : Ghost, Gext w0 gl15 gj26 ∧ StA 23 [(9, .slice a3_0 (splS xs ([46] : Bs)).length c3_0), (10, .int .i64 ((splS xs ([46] : Bs)).length : Int)), (11, .int .i64 x11l15), (21, .bool (uhostV0 e6))] a ∧ StW w0 [] gj26 W ∧ uhostj26 K e6 x11l15 (uhostl15 xs K k15)) ?_ ?_))
     ·
      refine Ok.region (Ok.bat 1 [4, 9, 10, 11] [(15, sv e6)] ?_)
      refine Ok.op rfl (OpOk.step (v := .bool (e6 == ([] : Bs))) (Yields.strCmp (f := .eql) (a := e6) (b := ([] : Bs)) (by kernel_rfl) (by kernel_rfl) rfl) rfl rfl (Ok.bat 1 [4, 9, 10, 11] [(17, .bool (e6 == ([] : Bs)))] ?_))
      refine Ok.boolAt 17 ((e6 == ([] : Bs))) rfl (fun hc8 => ?_) (fun hc8 => ?_)
      ·replace hF := hF.1 hc8
       refine Ok.bat 4 [9, 10, 11] [(21, .bool true)] ?_
       refine Ok.nil (Ok.thenN (Ok.reval 21 rfl (show (.bool true : Value) = .bool (uhostV0 e6) from congrArg (Value.bool) (mor_t hc8)) ?_))
       exact fun a W hA hW => ⟨gl15, (Gext.refl w0 gl15), hA.sub (by kernel_rfl), hW, hF⟩
      ·replace hF := hF.2 hc8
       refine Ok.bat 1 [9, 10, 11] [(17, .bool false), (18, sv e6)] ?_
       obtain ⟨hp9, hF⟩ := hF
       refine Ok.opYes (j := 2) (d := 17) (want := false) (b := false) rfl (by kernel_rfl) (by kernel_rfl) rfl (OpOk.callG (v := sv (trimS e6 ([97, 98, 99, 100, 101, 102, 103, 104, 105, 106, 107, 108, 109, 110, 111, 112, 113, 114, 115, 116, 117, 118, 119, 120, 121, 122, 48, 49, 50, 51, 52, 53, 54, 55, 56, 57, 45] : Bs))) enr (fun W hW => trim_c e6 ([97, 98, 99, 100, 101, 102, 103, 104, 105, 106, 107, 108, 109, 110, 111, 112, 113, 114, 115, 116, 117, 118, 119, 120, 121, 122, 48, 49, 50, 51, 52, 53, 54, 55, 56, 57, 45] : Bs) hp9) rfl ?_)
       refine Ok.opYes (j := 2) (d := 17) (want := false) (b := false) rfl (by kernel_rfl) (by kernel_rfl) rfl (OpOk.step (v := .bool (!((trimS e6 ([97, 98, 99, 100, 101, 102, 103, 104, 105, 106, 107, 108, 109, 110, 111, 112, 113, 114, 115, 116, 117, 118, 119, 120, 121, 122, 48, 49, 50, 51, 52, 53, 54, 55, 56, 57, 45] : Bs)) == ([] : Bs)))) (Yields.strCmp (f := .neq) (a := (trimS e6 ([97, 98, 99, 100, 101, 102, 103, 104, 105, 106, 107, 108, 109, 110, 111, 112, 113, 114, 115, 116, 117, 118, 119, 120, 121, 122, 48, 49, 50, 51, 52, 53, 54, 55, 56, 57, 45] : Bs))) (b := ([] : Bs)) (by kernel_rfl) (by kernel_rfl) rfl) rfl rfl (Ok.bat 1 [9, 10, 11] [(21, .bool (!((trimS e6 ([97, 98, 99, 100, 101, 102, 103, 104, 105, 106, 107, 108, 109, 110, 111, 112, 113, 114, 115, 116, 117, 118, 119, 120, 121, 122, 48, 49, 50, 51, 52, 53, 54, 55, 56, 57, 45] : Bs)) == ([] : Bs))))] ?_))
       refine Ok.nil (Ok.thenN (Ok.reval 21 rfl (show (.bool (!((trimS e6 ([97, 98, 99, 100, 101, 102, 103, 104, 105, 106, 107, 108, 109, 110, 111, 112, 113, 114, 115, 116, 117, 118, 119, 120, 121, 122, 48, 49, 50, 51, 52, 53, 54, 55, 56, 57, 45] : Bs)) == ([] : Bs))) : Value) = .bool (uhostV0 e6) from congrArg (Value.bool) (mor_f hc8)) ?_))
       exact fun a W hA hW => ⟨gl15, (Gext.refl w0 gl15), hA.sub (by kernel_rfl), hW, hF⟩
     ·
      clear hF
      rintro a W ⟨gj26, hxj26, hA, hW, hF⟩
      refine (?_ : Ok _ _ _ _ _ _) a W hA hW
      clear hA hW
      replace hR3_0 := hR3_0.mono hxj26.1
      replace hG0 := hG0.mono hxj26.1
      refine Ok.cond (b := (uhostV0 e6)) rfl (fun hc7 => ?_) (fun hc7 => ?_)
      ·replace hF := hF.1 hc7
       refine Ok.seq (Ok.region (Ok.batch 1 [(2, .bool false)] (by kernel_rfl) (Ok.nil (Ok.thenN (Ok.ret (Ok.blockR (Ok.thenR (Ok.thenR (Ok.blockR (Ok.thenR ?_))))))))))
       exact Ok.resH (vs := [.bool false]) (.inl rfl) rfl (.cons (.tmp rfl) .nil) ((hx3.trans hxl15).trans hxj26) ⟨false, rfl, rfl, hF⟩
      ·replace hF := hF.2 hc7
       refine Ok.skip (Ok.blockN (Ok.thenN (Ok.region (Ok.bat 2 [9, 10] [(11, .int .i64 (w6 (x11l15 + 1)))] ?_))))
       refine Ok.nil (Ok.thenN ?_)
       subst hg6
       exact fun a W hA hW => ⟨k15, Nat.lt_succ_self _, gj26, (hxl15.trans hxj26), w6 (x11l15 + 1), hA.sub (by kernel_rfl), hW, hF⟩
    ·replace hF := hF.2 hc4
     refine Ok.exit (Ok.thenE (Ok.thenE (Ok.blockHit (Ok.thenN (Ok.seq (Ok.region (Ok.batch 1 [(2, .bool true)] (by kernel_rfl) (Ok.nil (Ok.thenN (Ok.ret ?_))))))))))
     exact Ok.resH (vs := [.bool true]) (.inl rfl) rfl (.cons (.tmp rfl) .nil) (hx3.trans hxl15) ⟨true, rfl, rfl, hF⟩
theorem uhost_F (s : Bs) (hp : smP s) : uhostF s (fun r => r = hostS s) := by
 unfold smP at hp
 unfold hostS
 refine ⟨fun h => by rw [if_t h], fun h => ⟨⟨by omega, by decide⟩, ?_⟩⟩
 rw [if_f h]
 have hl : (splS s [46]).length ≤ s.length + 1 := by rw [splC]; exact spC_len 46 s
 have loop : ∀ (k i : Nat), i + k = (splS s [46]).length → (splS s [46]).all hostPc = ((splS s [46]).drop i).all hostPc → uhostl15 s (fun r => r = (splS s [46]).all hostPc) (k + 1) (i : Int) := by
  intro k
  induction k with
  | zero =>
   intro i h1 h2
   rw [List.drop_of_length_le (by omega)] at h2
   exact ⟨fun h => by have := of_decide_eq_true h; omega, fun _ => by rw [h2]; rfl⟩
  | succ k ih =>
   intro i h1 h2
   have hi : i < (splS s [46]).length := by omega
   rw [drop_get (l := splS s [46]) default hi, List.all_cons] at h2
   have hw : ((splS s [46]).getD i default).length ≤ s.length := by
    rw [splC] at hi ⊢
    exact spC_sub 46 s _ (getD_mem hi)
   have j26 : uhostj26 (fun r => r = (splS s [46]).all hostPc) ((splS s [46]).getD i default) (i : Int) (uhostl15 s (fun r => r = (splS s [46]).all hostPc) (k + 1)) := by
    refine ⟨fun h => ?_, fun h => ?_⟩
    ·have : hostPc ((splS s [46]).getD i default) = false := by
      show (!_) = false
      rw [show (((splS s [46]).getD i default == []) || !(trimS ((splS s [46]).getD i default) HSL == [])) = true from h]; rfl
     rw [h2, this, Bool.false_and]
    ·have : hostPc ((splS s [46]).getD i default) = true := by
      show (!_) = true
      rw [show (((splS s [46]).getD i default == []) || !(trimS ((splS s [46]).getD i default) HSL == [])) = false from h]; rfl
     rw [w64 (by omega)]
     exact ih (i + 1) (by omega) (by rw [h2, this, Bool.true_and])
   refine ⟨fun _ => ⟨by omega, by rw [Int.toNat_natCast]; omega, ?_⟩, fun h => by have := of_decide_eq_false h; omega⟩
   rw [Int.toNat_natCast]
   exact ⟨fun _ => j26, fun _ => ⟨⟨by omega, by decide, by decide⟩, j26⟩⟩
 exact ⟨_, loop (splS s [46]).length 0 (by omega) rfl⟩
theorem uhost_c {g : Ghost} (xs : Bs) (hG0 : SomeInt g 0)  (hp : smP xs) : CallsG Tryz.prog 63 #[sv xs] g (.bool (hostS xs)) :=
 (uhost_ok xs hG0 _ (uhost_F xs hp)).gives (by rintro g' H' v _ ⟨r0, rfl, rfl, hK⟩; subst hK; rfl)
/-! place -/
def DGL : Bs := [48, 49, 50, 51, 52, 53, 54, 55, 56, 57]
def badP (p : Bs) : Bool := (decide ((p.length : Int) < 1) || decide ((p.length : Int) > 5)) || !(trimS p DGL == [])
def badN (n : Int) : Bool := decide (n < 1) || decide (n > 65535)
def plcH (s : Bs) : Bs := smallS (cutS s [58]).1
def plcS0 (u : JU) (s : Bs) : Bool × JU :=
 if (!(hostS (plcH s))) = true then (false, (u.1, plcH s, u.2.2)) else if (!((cutS s [58]).2.2)) = true then (true, (u.1, plcH s, u.2.2)) else
 if badP (cutS s [58]).2.1 = true then (false, (u.1, plcH s, u.2.2)) else if badN (atoiS (cutS s [58]).2.1).1 = true then (false, (u.1, plcH s, u.2.2)) else
 (true, (u.1, plcH s, (if ((atoiS (cutS s [58]).2.1).1 != uownM u.1) = true then (atoiS (cutS s [58]).2.1).1 else u.2.2.1), u.2.2.2))
noncomputable def plcS : JU → Bs → Bool × JU := Classical.choose (rigid plcS0)
theorem plcS_eq : plcS = plcS0 := Classical.choose_spec (rigid plcS0)
def plcP (_ : JU) (s : Bs) : Prop := s.length ≤ 1000
def uplcV0 (xs : Bs) : Bool :=
 (((decide (((cutS xs ([58] : Bs)).2.1.length : Int) < 1)) || (decide (((cutS xs ([58] : Bs)).2.1.length : Int) > 5))) || (!((trimS (cutS xs ([58] : Bs)).2.1 ([48, 49, 50, 51, 52, 53, 54, 55, 56, 57] : Bs)) == ([] : Bs))))
def uplcV1 (xu : JU) (xs : Bs) : Int :=
 (if ((atoiS (cutS xs ([58] : Bs)).2.1).1 != (uownM xu.1)) = true then (atoiS (cutS xs ([58] : Bs)).2.1).1 else xu.2.2.1)
def uplcj41 (xu : JU) (xs : Bs) (K : Bool → (JU) → Prop) : Prop :=
 K true (xu.1, (smallS (cutS xs ([58] : Bs)).1), (uplcV1 xu xs), xu.2.2.2.1, xu.2.2.2.2.1, xu.2.2.2.2.2.1, xu.2.2.2.2.2.2.1, xu.2.2.2.2.2.2.2)
def uplcj31 (xu : JU) (xs : Bs) (K : Bool → (JU) → Prop) : Prop :=
 ((((decide ((atoiS (cutS xs ([58] : Bs)).2.1).1 < 1)) || (decide ((atoiS (cutS xs ([58] : Bs)).2.1).1 > 65535)))) = true → K false (xu.1, (smallS (cutS xs ([58] : Bs)).1), xu.2.2.1, xu.2.2.2.1, xu.2.2.2.2.1, xu.2.2.2.2.2.1, xu.2.2.2.2.2.2.1, xu.2.2.2.2.2.2.2)) ∧ ((((decide ((atoiS (cutS xs ([58] : Bs)).2.1).1 < 1)) || (decide ((atoiS (cutS xs ([58] : Bs)).2.1).1 > 65535)))) = false → ((((atoiS (cutS xs ([58] : Bs)).2.1).1 != (uownM xu.1))) = true → uplcj41 xu xs K) ∧ ((((atoiS (cutS xs ([58] : Bs)).2.1).1 != (uownM xu.1))) = false → uplcj41 xu xs K))
def uplcj24 (xu : JU) (xs : Bs) (K : Bool → (JU) → Prop) : Prop :=
 (((uplcV0 xs)) = true → K false (xu.1, (smallS (cutS xs ([58] : Bs)).1), xu.2.2.1, xu.2.2.2.1, xu.2.2.2.2.1, xu.2.2.2.2.2.1, xu.2.2.2.2.2.2.1, xu.2.2.2.2.2.2.2)) ∧ (((uplcV0 xs)) = false → atoiP (cutS xs ([58] : Bs)).2.1 ∧ ((atoiS (cutS xs ([58] : Bs)).2.1).2 = true → uplcj31 xu xs K) ∧ ((atoiS (cutS xs ([58] : Bs)).2.1).2 = false → uplcj31 xu xs K))
def uplcF (xu : JU) (xs : Bs) (K : Bool → (JU) → Prop) : Prop :=
 cutP xs ([58] : Bs) ∧ smallP (cutS xs ([58] : Bs)).1 ∧ smP (smallS (cutS xs ([58] : Bs)).1) ∧ ((!(hostS (smallS (cutS xs ([58] : Bs)).1))) = true → K false (xu.1, (smallS (cutS xs ([58] : Bs)).1), xu.2.2.1, xu.2.2.2.1, xu.2.2.2.2.1, xu.2.2.2.2.2.1, xu.2.2.2.2.2.2.1, xu.2.2.2.2.2.2.2)) ∧ ((!(hostS (smallS (cutS xs ([58] : Bs)).1))) = false → ((!(cutS xs ([58] : Bs)).2.2) = true → K true (xu.1, (smallS (cutS xs ([58] : Bs)).1), xu.2.2.1, xu.2.2.2.1, xu.2.2.2.2.1, xu.2.2.2.2.2.1, xu.2.2.2.2.2.2.1, xu.2.2.2.2.2.2.2)) ∧ ((!(cutS xs ([58] : Bs)).2.2) = false → ((((decide (((cutS xs ([58] : Bs)).2.1.length : Int) < 1)) || (decide (((cutS xs ([58] : Bs)).2.1.length : Int) > 5)))) = true → uplcj24 xu xs K) ∧ ((((decide (((cutS xs ([58] : Bs)).2.1.length : Int) < 1)) || (decide (((cutS xs ([58] : Bs)).2.1.length : Int) > 5)))) = false → trimP (cutS xs ([58] : Bs)).2.1 ([48, 49, 50, 51, 52, 53, 54, 55, 56, 57] : Bs) ∧ uplcj24 xu xs K)))
theorem uplc_ok {g : Ghost} {bxu : Nat} {axu_0 : Option Addr} {cxu_0 : Nat} (xu : JU) (xs : Bs) (hRxu_0 : Rep g (.slice (.str)) [.slice axu_0 xu.2.2.2.1.length cxu_0] xu.2.2.2.1) (hG0 : SomeInt g 0) (hG2 : SomeIf g 2) (hG3 : SomeIf g 3) (hG4 : GlobL g 4 (.int .u8) DFirst) (hG5 : GlobL g 5 (.pair (.int .u8) (.int .u8)) DAcc) (K : Bool → (JU) → Prop)
  (hF : uplcF xu xs K) : CallsH Tryz.prog 40 #[pv bxu 0, sv xs] g [.blk bxu (.cells #[sv xu.1, sv xu.2.1, .int .i64 xu.2.2.1, .slice axu_0 xu.2.2.2.1.length cxu_0, sv xu.2.2.2.2.1, .bool xu.2.2.2.2.2.1, sv xu.2.2.2.2.2.2.1, .bool xu.2.2.2.2.2.2.2] 46)] (fun g' H' v => ∃ (r0 : Bool), ∃ (fxu : JU), ∃ (afxu_0 : Option Addr) (cfxu_0 : Nat), v = .bool r0 ∧ Rep g' (.slice (.str)) [.slice afxu_0 fxu.2.2.2.1.length cfxu_0] fxu.2.2.2.1 ∧ H' = [.blk bxu (.cells #[sv fxu.1, sv fxu.2.1, .int .i64 fxu.2.2.1, .slice afxu_0 fxu.2.2.2.1.length cfxu_0, sv fxu.2.2.2.2.1, .bool fxu.2.2.2.2.2.1, sv fxu.2.2.2.2.2.2.1, .bool fxu.2.2.2.2.2.2.2] 46)] ∧ K r0 fxu) := by
 refine CallsH.enter 64 [(0, pv bxu 0), (1, sv xs)] Tryz.func40 rfl (by kernel_rfl) (by kernel_rfl) (by kernel_rfl) fun w0 => ?_
 refine Ok.seq (Ok.region (Ok.batch 1 [(0, pv bxu 0), (1, sv xs)] (by kernel_rfl) (Ok.nil (Ok.thenN (Ok.seq (Ok.region (Ok.bat 1 [0] [(11, sv xs)] ?_)))))))
 obtain ⟨hp1, hF⟩ := hF
 refine Ok.op rfl (OpOk.callG (v := .tuple #[sv ((cutS xs ([58] : Bs)).1), sv ((cutS xs ([58] : Bs)).2.1), .bool (cutS xs ([58] : Bs)).2.2]) enr (fun W hW => cut_c xs ([58] : Bs) (hG0.mono hW.sees) hp1) rfl ?_)
 refine Ok.bat 7 [0] [(5, sv ((cutS xs ([58] : Bs)).1)), (6, sv ((cutS xs ([58] : Bs)).2.1)), (7, .bool (cutS xs ([58] : Bs)).2.2)] ?_
 refine Ok.nil (Ok.thenN (Ok.seq (Ok.region (Ok.bat 2 [0, 6, 7] [(16, pv bxu 0), (17, sv ((cutS xs ([58] : Bs)).1))] ?_))))
 obtain ⟨hp2, hF⟩ := hF
 refine Ok.op rfl (OpOk.callG (v := sv (smallS (cutS xs ([58] : Bs)).1)) enr (fun W hW => small_c (cutS xs ([58] : Bs)).1 (hG4.mono hW.sees) (hG5.mono hW.sees) hp2) rfl ?_)
 refine Ok.bat 2 [0, 6, 7] [(18, sv (smallS (cutS xs ([58] : Bs)).1)), (20, pv bxu 1)] ?_
 refine Ok.op rfl (OpOk.sto (k := 1) (v := sv (smallS (cutS xs ([58] : Bs)).1)) 0 #[sv xu.1, sv (smallS (cutS xs ([58] : Bs)).1), .int .i64 xu.2.2.1, .slice axu_0 xu.2.2.2.1.length cxu_0, sv xu.2.2.2.2.1, .bool xu.2.2.2.2.2.1, sv xu.2.2.2.2.2.2.1, .bool xu.2.2.2.2.2.2.2] rfl rfl rfl ?_)
 refine Ok.nil (Ok.thenN (Ok.seq (Ok.seq (Ok.region (Ok.bat 3 [0, 6, 7] [(23, pv bxu 1)] ?_)))))
 refine Ok.op rfl (OpOk.step (v := sv (smallS (cutS xs ([58] : Bs)).1)) (Yields.load 0 rfl rfl Tryz.underlying9 rfl (by kernel_rfl)) rfl rfl ?_)
 obtain ⟨hp3, hF⟩ := hF
 refine Ok.op rfl (OpOk.callG (v := .bool (hostS (smallS (cutS xs ([58] : Bs)).1))) enr (fun W hW => uhost_c (smallS (cutS xs ([58] : Bs)).1) (hG0.mono hW.sees) hp3) rfl ?_)
 refine Ok.bat 1 [0, 6, 7] [(26, .bool (!(hostS (smallS (cutS xs ([58] : Bs)).1))))] ?_
 refine Ok.nil (Ok.thenN (Ok.cond (b := !(hostS (smallS (cutS xs ([58] : Bs)).1))) rfl (fun hc4 => ?_) (fun hc4 => ?_)))
 ·replace hF := hF.1 hc4
  refine Ok.seq (Ok.region (Ok.batch 1 [(4, .bool false)] (by kernel_rfl) (Ok.nil (Ok.thenN (Ok.ret (Ok.thenR ?_))))))
  exact Ok.resH (vs := [.bool false]) (.inl rfl) rfl (.cons (.tmp rfl) .nil) (Gext.refl w0 g) ⟨false, (xu.1, (smallS (cutS xs ([58] : Bs)).1), xu.2.2.1, xu.2.2.2.1, xu.2.2.2.2.1, xu.2.2.2.2.2.1, xu.2.2.2.2.2.2.1, xu.2.2.2.2.2.2.2), axu_0, cxu_0, rfl, hRxu_0, rfl, hF⟩
 ·replace hF := hF.2 hc4
  refine Ok.skip (Ok.thenN (Ok.seq (Ok.seq (Ok.region (Ok.bat 2 [0, 6] [(28, .bool (!(cutS xs ([58] : Bs)).2.2))] ?_)))))
  refine Ok.nil (Ok.thenN (Ok.cond (b := !(cutS xs ([58] : Bs)).2.2) rfl (fun hc5 => ?_) (fun hc5 => ?_)))
  ·replace hF := hF.1 hc5
   refine Ok.seq (Ok.region (Ok.batch 1 [(4, .bool true)] (by kernel_rfl) (Ok.nil (Ok.thenN (Ok.ret (Ok.thenR ?_))))))
   exact Ok.resH (vs := [.bool true]) (.inl rfl) rfl (.cons (.tmp rfl) .nil) (Gext.refl w0 g) ⟨true, (xu.1, (smallS (cutS xs ([58] : Bs)).1), xu.2.2.1, xu.2.2.2.1, xu.2.2.2.2.1, xu.2.2.2.2.2.1, xu.2.2.2.2.2.2.1, xu.2.2.2.2.2.2.2), axu_0, cxu_0, rfl, hRxu_0, rfl, hF⟩
  ·replace hF := hF.2 hc5
   refine Ok.skip (Ok.thenN (Ok.seq (Ok.cut (fun a W => ∃ gj24 : Ghost, Gext w0 g gj24 ∧ StA 64 [(0, pv bxu 0), (6, sv ((cutS xs ([58] : Bs)).2.1)), (41, .bool (uplcV0 xs))] a ∧ StW w0 [.blk bxu (.cells #[sv xu.1, sv (smallS (cutS xs ([58] : Bs)).1), .int .i64 xu.2.2.1, .slice axu_0 xu.2.2.2.1.length cxu_0, sv xu.2.2.2.2.1, .bool xu.2.2.2.2.2.1, sv xu.2.2.2.2.2.2.1, .bool xu.2.2.2.2.2.2.2] 46)] gj24 W ∧ uplcj24 xu xs K) ?_ ?_)))
   ·
    refine Ok.region (Ok.bat 4 [0, 6] [(32, .bool (decide (((cutS xs ([58] : Bs)).2.1.length : Int) < 1)))] ?_)
    refine Ok.midway 4 [(0, pv bxu 0), (6, sv ((cutS xs ([58] : Bs)).2.1)), (36, .bool ((decide (((cutS xs ([58] : Bs)).2.1.length : Int) < 1)) || (decide (((cutS xs ([58] : Bs)).2.1.length : Int) > 5))))] (fun hR14 => ?_) ?_
    ·refine Ok.boolAt 32 (decide (((cutS xs ([58] : Bs)).2.1.length : Int) < 1)) rfl (fun hc15 => ?_) (fun hc15 => ?_)
     ·skip
      refine Ok.bat 4 [0, 6] [(36, .bool true)] ?_
      refine Ok.reval 36 rfl (show (.bool true : Value) = .bool ((decide (((cutS xs ([58] : Bs)).2.1.length : Int) < 1)) || (decide (((cutS xs ([58] : Bs)).2.1.length : Int) > 5))) from congrArg Value.bool (mor_t hc15)) (Ok.bat 0 [0, 6] [(36, .bool ((decide (((cutS xs ([58] : Bs)).2.1.length : Int) < 1)) || (decide (((cutS xs ([58] : Bs)).2.1.length : Int) > 5))))] ?_)
      exact hR14
     ·skip
      refine Ok.bat 4 [0, 6] [(36, .bool (decide (((cutS xs ([58] : Bs)).2.1.length : Int) > 5)))] ?_
      refine Ok.reval 36 rfl (show (.bool (decide (((cutS xs ([58] : Bs)).2.1.length : Int) > 5)) : Value) = .bool ((decide (((cutS xs ([58] : Bs)).2.1.length : Int) < 1)) || (decide (((cutS xs ([58] : Bs)).2.1.length : Int) > 5))) from congrArg Value.bool (mor_f hc15)) (Ok.bat 0 [0, 6] [(36, .bool ((decide (((cutS xs ([58] : Bs)).2.1.length : Int) < 1)) || (decide (((cutS xs ([58] : Bs)).2.1.length : Int) > 5))))] ?_)
      exact hR14
    refine Ok.bat 1 [0, 6] [(37, .bool ((decide (((cutS xs ([58] : Bs)).2.1.length : Int) < 1)) || (decide (((cutS xs ([58] : Bs)).2.1.length : Int) > 5))))] ?_
    refine Ok.boolAt 37 (((decide (((cutS xs ([58] : Bs)).2.1.length : Int) < 1)) || (decide (((cutS xs ([58] : Bs)).2.1.length : Int) > 5)))) rfl (fun hc16 => ?_) (fun hc16 => ?_)
    ·replace hF := hF.1 hc16
     refine Ok.bat 4 [0, 6] [(41, .bool true)] ?_
     refine Ok.nil (Ok.thenN (Ok.reval 41 rfl (show (.bool true : Value) = .bool (uplcV0 xs) from congrArg (Value.bool) (mor_t hc16)) ?_))
     exact fun a W hA hW => ⟨g, (Gext.refl w0 g), hA.sub (by kernel_rfl), hW, hF⟩
    ·replace hF := hF.2 hc16
     refine Ok.bat 1 [0, 6] [(37, .bool false), (38, sv ((cutS xs ([58] : Bs)).2.1))] ?_
     obtain ⟨hp17, hF⟩ := hF
     refine Ok.opYes (j := 8) (d := 37) (want := false) (b := false) rfl (by kernel_rfl) (by kernel_rfl) rfl (OpOk.callG (v := sv (trimS (cutS xs ([58] : Bs)).2.1 ([48, 49, 50, 51, 52, 53, 54, 55, 56, 57] : Bs))) enr (fun W hW => trim_c (cutS xs ([58] : Bs)).2.1 ([48, 49, 50, 51, 52, 53, 54, 55, 56, 57] : Bs) hp17) rfl ?_)
     refine Ok.opYes (j := 8) (d := 37) (want := false) (b := false) rfl (by kernel_rfl) (by kernel_rfl) rfl (OpOk.step (v := .bool (!((trimS (cutS xs ([58] : Bs)).2.1 ([48, 49, 50, 51, 52, 53, 54, 55, 56, 57] : Bs)) == ([] : Bs)))) (Yields.strCmp (f := .neq) (a := (trimS (cutS xs ([58] : Bs)).2.1 ([48, 49, 50, 51, 52, 53, 54, 55, 56, 57] : Bs))) (b := ([] : Bs)) (by kernel_rfl) (by kernel_rfl) rfl) rfl rfl (Ok.bat 1 [0, 6] [(41, .bool (!((trimS (cutS xs ([58] : Bs)).2.1 ([48, 49, 50, 51, 52, 53, 54, 55, 56, 57] : Bs)) == ([] : Bs))))] ?_))
     refine Ok.nil (Ok.thenN (Ok.reval 41 rfl (show (.bool (!((trimS (cutS xs ([58] : Bs)).2.1 ([48, 49, 50, 51, 52, 53, 54, 55, 56, 57] : Bs)) == ([] : Bs))) : Value) = .bool (uplcV0 xs) from congrArg (Value.bool) (mor_f hc16)) ?_))
     exact fun a W hA hW => ⟨g, (Gext.refl w0 g), hA.sub (by kernel_rfl), hW, hF⟩
   ·
    clear hF
    rintro a W ⟨gj24, hxj24, hA, hW, hF⟩
    refine (?_ : Ok _ _ _ _ _ _) a W hA hW
    clear hA hW
    replace hRxu_0 := hRxu_0.mono hxj24.1
    replace hG0 := hG0.mono hxj24.1
    replace hG2 := hG2.mono hxj24.1
    replace hG3 := hG3.mono hxj24.1
    replace hG4 := hG4.mono hxj24.1
    replace hG5 := hG5.mono hxj24.1
    refine Ok.cond (b := (uplcV0 xs)) rfl (fun hc6 => ?_) (fun hc6 => ?_)
    ·replace hF := hF.1 hc6
     refine Ok.seq (Ok.region (Ok.batch 1 [(4, .bool false)] (by kernel_rfl) (Ok.nil (Ok.thenN (Ok.ret (Ok.thenR ?_))))))
     exact Ok.resH (vs := [.bool false]) (.inl rfl) rfl (.cons (.tmp rfl) .nil) hxj24 ⟨false, (xu.1, (smallS (cutS xs ([58] : Bs)).1), xu.2.2.1, xu.2.2.2.1, xu.2.2.2.2.1, xu.2.2.2.2.2.1, xu.2.2.2.2.2.2.1, xu.2.2.2.2.2.2.2), axu_0, cxu_0, rfl, hRxu_0, rfl, hF⟩
    ·replace hF := hF.2 hc6
     refine Ok.skip (Ok.thenN (Ok.cut (fun a W => ∃ gj31 : Ghost, Gext w0 gj24 gj31 ∧ StA 64 [(0, pv bxu 0), (8, .int .i64 (atoiS (cutS xs ([58] : Bs)).2.1).1)] a ∧ StW w0 [.blk bxu (.cells #[sv xu.1, sv (smallS (cutS xs ([58] : Bs)).1), .int .i64 xu.2.2.1, .slice axu_0 xu.2.2.2.1.length cxu_0, sv xu.2.2.2.2.1, .bool xu.2.2.2.2.2.1, sv xu.2.2.2.2.2.2.1, .bool xu.2.2.2.2.2.2.2] 46)] gj31 W ∧ uplcj31 xu xs K) ?_ ?_))
     ·
      refine Ok.region (Ok.bat 1 [0] [(43, sv ((cutS xs ([58] : Bs)).2.1))] ?_)
      obtain ⟨hp11, hF⟩ := hF
      refine Ok.op rfl (OpOk.callH [] _ enr rfl (atoi_c (cutS xs ([58] : Bs)).2.1 hG2 hG3 hp11) rfl fun g12 _ _ hx12 hV12 => ?_)
      obtain ⟨i12_0, rfl, hI12_0, rfl⟩ := hV12
      replace hRxu_0 := hRxu_0.mono hx12.1
      replace hG0 := hG0.mono hx12.1
      replace hG2 := hG2.mono hx12.1
      replace hG3 := hG3.mono hx12.1
      replace hG4 := hG4.mono hx12.1
      replace hG5 := hG5.mono hx12.1
      refine Ok.split (atoiS (cutS xs ([58] : Bs)).2.1).2 (fun hc13 => ?_) (fun hc13 => ?_)
      ·replace hF := hF.1 hc13
       replace hI12_0 : i12_0 = .nilIface := by rw [hc13] at hI12_0; exact hI12_0
       subst hI12_0
       refine Ok.batch 5 [(0, pv bxu 0), (8, .int .i64 (atoiS (cutS xs ([58] : Bs)).2.1).1)] (by kernel_rfl) (Ok.nil (Ok.thenN ?_))
       exact fun a W hA hW => ⟨g12, hx12, hA.sub (by kernel_rfl), hW, hF⟩
      ·replace hF := hF.2 hc13
       rw [hc13] at hI12_0
       obtain ⟨t12_0, p12_0, rfl⟩ := hI12_0
       refine Ok.batch 5 [(0, pv bxu 0), (8, .int .i64 (atoiS (cutS xs ([58] : Bs)).2.1).1)] (by kernel_rfl) (Ok.nil (Ok.thenN ?_))
       exact fun a W hA hW => ⟨g12, hx12, hA.sub (by kernel_rfl), hW, hF⟩
     ·
      clear hF
      rintro a W ⟨gj31, hxj31, hA, hW, hF⟩
      refine (?_ : Ok _ _ _ _ _ _) a W hA hW
      clear hA hW
      replace hRxu_0 := hRxu_0.mono hxj31.1
      replace hG0 := hG0.mono hxj31.1
      replace hG2 := hG2.mono hxj31.1
      replace hG3 := hG3.mono hxj31.1
      replace hG4 := hG4.mono hxj31.1
      replace hG5 := hG5.mono hxj31.1
      refine Ok.seq (Ok.seq (Ok.region (Ok.bat 3 [0, 8] [(49, .bool (decide ((atoiS (cutS xs ([58] : Bs)).2.1).1 < 1)))] ?_)))
      refine Ok.midway 3 [(0, pv bxu 0), (8, .int .i64 (atoiS (cutS xs ([58] : Bs)).2.1).1), (52, .bool ((decide ((atoiS (cutS xs ([58] : Bs)).2.1).1 < 1)) || (decide ((atoiS (cutS xs ([58] : Bs)).2.1).1 > 65535))))] (fun hR7 => ?_) ?_
      ·refine Ok.boolAt 49 (decide ((atoiS (cutS xs ([58] : Bs)).2.1).1 < 1)) rfl (fun hc8 => ?_) (fun hc8 => ?_)
       ·skip
        refine Ok.bat 3 [0, 8] [(52, .bool true)] ?_
        refine Ok.reval 52 rfl (show (.bool true : Value) = .bool ((decide ((atoiS (cutS xs ([58] : Bs)).2.1).1 < 1)) || (decide ((atoiS (cutS xs ([58] : Bs)).2.1).1 > 65535))) from congrArg Value.bool (mor_t hc8)) (Ok.bat 0 [0, 8] [(52, .bool ((decide ((atoiS (cutS xs ([58] : Bs)).2.1).1 < 1)) || (decide ((atoiS (cutS xs ([58] : Bs)).2.1).1 > 65535))))] ?_)
        exact hR7
       ·skip
        refine Ok.bat 3 [0, 8] [(52, .bool (decide ((atoiS (cutS xs ([58] : Bs)).2.1).1 > 65535)))] ?_
        refine Ok.reval 52 rfl (show (.bool (decide ((atoiS (cutS xs ([58] : Bs)).2.1).1 > 65535)) : Value) = .bool ((decide ((atoiS (cutS xs ([58] : Bs)).2.1).1 < 1)) || (decide ((atoiS (cutS xs ([58] : Bs)).2.1).1 > 65535))) from congrArg Value.bool (mor_f hc8)) (Ok.bat 0 [0, 8] [(52, .bool ((decide ((atoiS (cutS xs ([58] : Bs)).2.1).1 < 1)) || (decide ((atoiS (cutS xs ([58] : Bs)).2.1).1 > 65535))))] ?_)
        exact hR7
      refine Ok.nil (Ok.thenN (Ok.cond (b := ((decide ((atoiS (cutS xs ([58] : Bs)).2.1).1 < 1)) || (decide ((atoiS (cutS xs ([58] : Bs)).2.1).1 > 65535)))) rfl (fun hc9 => ?_) (fun hc9 => ?_)))
      ·replace hF := hF.1 hc9
       refine Ok.seq (Ok.region (Ok.batch 1 [(4, .bool false)] (by kernel_rfl) (Ok.nil (Ok.thenN (Ok.ret (Ok.thenR ?_))))))
       exact Ok.resH (vs := [.bool false]) (.inl rfl) rfl (.cons (.tmp rfl) .nil) (hxj24.trans hxj31) ⟨false, (xu.1, (smallS (cutS xs ([58] : Bs)).1), xu.2.2.1, xu.2.2.2.1, xu.2.2.2.2.1, xu.2.2.2.2.2.1, xu.2.2.2.2.2.2.1, xu.2.2.2.2.2.2.2), axu_0, cxu_0, rfl, hRxu_0, rfl, hF⟩
      ·replace hF := hF.2 hc9
       refine Ok.skip (Ok.thenN (Ok.cut (fun a W => ∃ gj41 : Ghost, Gext w0 gj31 gj41 ∧ StA 64 [] a ∧ StW w0 [.blk bxu (.cells #[sv xu.1, sv (smallS (cutS xs ([58] : Bs)).1), .int .i64 (uplcV1 xu xs), .slice axu_0 xu.2.2.2.1.length cxu_0, sv xu.2.2.2.2.1, .bool xu.2.2.2.2.2.1, sv xu.2.2.2.2.2.2.1, .bool xu.2.2.2.2.2.2.2] 46)] gj41 W ∧ uplcj41 xu xs K) ?_ ?_))
       ·
        refine Ok.seq (Ok.region (Ok.bat 4 [0, 8] [(53, .int .i64 (atoiS (cutS xs ([58] : Bs)).2.1).1), (56, pv bxu 0)] ?_))
        refine Ok.op rfl (OpOk.step (v := sv xu.1) (Yields.load 0 rfl rfl Tryz.underlying9 rfl (by kernel_rfl)) rfl rfl (Ok.op rfl (OpOk.callG (v := .int .i64 (uownM xu.1)) enr (fun W hW => uown_c xu.1) rfl ?_)))
        refine Ok.bat 1 [0, 8] [(59, .bool ((atoiS (cutS xs ([58] : Bs)).2.1).1 != (uownM xu.1)))] ?_
        refine Ok.nil (Ok.thenN (Ok.cond (b := ((atoiS (cutS xs ([58] : Bs)).2.1).1 != (uownM xu.1))) rfl (fun hc10 => ?_) (fun hc10 => ?_)))
        ·replace hF := hF.1 hc10
         refine Ok.region (Ok.batch 4 [(61, .int .i64 (atoiS (cutS xs ([58] : Bs)).2.1).1), (63, pv bxu 2)] (by kernel_rfl) (Ok.op rfl (OpOk.sto (k := 1) (v := .int .i64 (atoiS (cutS xs ([58] : Bs)).2.1).1) 0 #[sv xu.1, sv (smallS (cutS xs ([58] : Bs)).1), .int .i64 (atoiS (cutS xs ([58] : Bs)).2.1).1, .slice axu_0 xu.2.2.2.1.length cxu_0, sv xu.2.2.2.2.1, .bool xu.2.2.2.2.2.1, sv xu.2.2.2.2.2.2.1, .bool xu.2.2.2.2.2.2.2] rfl rfl rfl ?_)))
         refine Ok.nil (Ok.thenN (Ok.heapEq (H' := [.blk bxu (.cells #[sv xu.1, sv (smallS (cutS xs ([58] : Bs)).1), .int .i64 (uplcV1 xu xs), .slice axu_0 xu.2.2.2.1.length cxu_0, sv xu.2.2.2.2.1, .bool xu.2.2.2.2.2.1, sv xu.2.2.2.2.2.2.1, .bool xu.2.2.2.2.2.2.2] 46)]) (econs (congrArg (fun l : List Value => Ent.blk bxu (.cells ⟨l⟩ 46)) (lcons (rfl) (lcons (rfl) (lcons (congrArg (Value.int .i64) ((if_t hc10).symm)) (lcons (rfl) (lcons (rfl) (lcons (rfl) (lcons (rfl) (lcons (rfl) rfl))))))))) rfl) ?_))
         exact fun a W hA hW => ⟨gj31, (Gext.refl w0 gj31), hA.sub (by kernel_rfl), hW, hF⟩
        ·replace hF := hF.2 hc10
         refine Ok.skip (Ok.thenN (Ok.heapEq (H' := [.blk bxu (.cells #[sv xu.1, sv (smallS (cutS xs ([58] : Bs)).1), .int .i64 (uplcV1 xu xs), .slice axu_0 xu.2.2.2.1.length cxu_0, sv xu.2.2.2.2.1, .bool xu.2.2.2.2.2.1, sv xu.2.2.2.2.2.2.1, .bool xu.2.2.2.2.2.2.2] 46)]) (econs (congrArg (fun l : List Value => Ent.blk bxu (.cells ⟨l⟩ 46)) (lcons (rfl) (lcons (rfl) (lcons (congrArg (Value.int .i64) ((if_f hc10).symm)) (lcons (rfl) (lcons (rfl) (lcons (rfl) (lcons (rfl) (lcons (rfl) rfl))))))))) rfl) ?_))
         exact fun a W hA hW => ⟨gj31, (Gext.refl w0 gj31), hA.sub (by kernel_rfl), hW, hF⟩
       ·
        clear hF
        rintro a W ⟨gj41, hxj41, hA, hW, hF⟩
        refine (?_ : Ok _ _ _ _ _ _) a W hA hW
        clear hA hW
        replace hRxu_0 := hRxu_0.mono hxj41.1
        replace hG0 := hG0.mono hxj41.1
        replace hG2 := hG2.mono hxj41.1
        replace hG3 := hG3.mono hxj41.1
        replace hG4 := hG4.mono hxj41.1
        replace hG5 := hG5.mono hxj41.1
        refine Ok.seq (Ok.region (Ok.batch 1 [(4, .bool true)] (by kernel_rfl) (Ok.nil (Ok.thenN (Ok.ret ?_)))))
        exact Ok.resH (vs := [.bool true]) (.inl rfl) rfl (.cons (.tmp rfl) .nil) ((hxj24.trans hxj31).trans hxj41) ⟨true, (xu.1, (smallS (cutS xs ([58] : Bs)).1), (uplcV1 xu xs), xu.2.2.2.1, xu.2.2.2.2.1, xu.2.2.2.2.2.1, xu.2.2.2.2.2.2.1, xu.2.2.2.2.2.2.2), axu_0, cxu_0, rfl, hRxu_0, rfl, hF⟩
theorem uplc_F (u : JU) (s : Bs) (hp : plcP u s) : uplcF u s (fun r v => (r, v) = plcS u s) := by
 unfold plcP at hp
 have hc := cutS_len 58 s
 have hsl := small_len (cutS s [58]).1
 rw [plcS_eq]
 unfold plcS0
 refine ⟨by unfold cutP; omega, by unfold smallP; omega, by unfold smP; omega, fun h => ?_, fun h => ?_⟩
 ·rw [if_pos (show (!(hostS (plcH s))) = true from h)]; rfl
 ·rw [if_neg (by rw [show (!(hostS (plcH s))) = false from h]; exact Bool.false_ne_true)]
  refine ⟨fun h2 => ?_, fun h2 => ?_⟩
  ·rw [if_t h2]; rfl
  ·rw [if_f h2]
   have j24 : uplcj24 u s (fun r v => (r, v) = if badP (cutS s [58]).2.1 = true then (false, (u.1, plcH s, u.2.2)) else if badN (atoiS (cutS s [58]).2.1).1 = true then (false, (u.1, plcH s, u.2.2)) else
     (true, (u.1, plcH s, (if ((atoiS (cutS s [58]).2.1).1 != uownM u.1) = true then (atoiS (cutS s [58]).2.1).1 else u.2.2.1), u.2.2.2))) := by
    refine ⟨fun h3 => ?_, fun h3 => ?_⟩
    ·rw [if_pos (show badP (cutS s [58]).2.1 = true from h3)]; rfl
    ·rw [if_neg (by rw [show badP (cutS s [58]).2.1 = false from h3]; exact Bool.false_ne_true)]
     have j31 : uplcj31 u s (fun r v => (r, v) = if badN (atoiS (cutS s [58]).2.1).1 = true then (false, (u.1, plcH s, u.2.2)) else
       (true, (u.1, plcH s, (if ((atoiS (cutS s [58]).2.1).1 != uownM u.1) = true then (atoiS (cutS s [58]).2.1).1 else u.2.2.1), u.2.2.2))) := by
      refine ⟨fun h4 => ?_, fun h4 => ?_⟩
      ·rw [if_pos (show badN (atoiS (cutS s [58]).2.1).1 = true from h4)]; rfl
      ·rw [if_neg (by rw [show badN (atoiS (cutS s [58]).2.1).1 = false from h4]; exact Bool.false_ne_true)]
       exact ⟨fun _ => rfl, fun _ => rfl⟩
     exact ⟨by unfold atoiP; omega, fun _ => j31, fun _ => j31⟩
   exact ⟨fun _ => j24, fun _ => ⟨⟨by omega, by decide, by decide⟩, j24⟩⟩
theorem uplc_c {g : Ghost} {bxu : Nat} {axu_0 : Option Addr} {cxu_0 : Nat} (xu : JU) (xs : Bs) (hRxu_0 : Rep g (.slice (.str)) [.slice axu_0 xu.2.2.2.1.length cxu_0] xu.2.2.2.1) (hG0 : SomeInt g 0) (hG2 : SomeIf g 2) (hG3 : SomeIf g 3) (hG4 : GlobL g 4 (.int .u8) DFirst) (hG5 : GlobL g 5 (.pair (.int .u8) (.int .u8)) DAcc)  (hp : plcP xu xs) : CallsH Tryz.prog 40 #[pv bxu 0, sv xs] g [.blk bxu (.cells #[sv xu.1, sv xu.2.1, .int .i64 xu.2.2.1, .slice axu_0 xu.2.2.2.1.length cxu_0, sv xu.2.2.2.2.1, .bool xu.2.2.2.2.2.1, sv xu.2.2.2.2.2.2.1, .bool xu.2.2.2.2.2.2.2] 46)] (fun g' H' v => ∃ (afxu_0 : Option Addr) (cfxu_0 : Nat), v = .bool (plcS xu xs).1 ∧ Rep g' (.slice (.str)) [.slice afxu_0 (plcS xu xs).2.2.2.2.1.length cfxu_0] (plcS xu xs).2.2.2.2.1 ∧ H' = [.blk bxu (.cells #[sv ((plcS xu xs).2.1), sv ((plcS xu xs).2.2.1), .int .i64 (plcS xu xs).2.2.2.1, .slice afxu_0 (plcS xu xs).2.2.2.2.1.length cfxu_0, sv ((plcS xu xs).2.2.2.2.2.1), .bool (plcS xu xs).2.2.2.2.2.2.1, sv ((plcS xu xs).2.2.2.2.2.2.2.1), .bool (plcS xu xs).2.2.2.2.2.2.2.2] 46)]) :=
 (uplc_ok xu xs hRxu_0 hG0 hG2 hG3 hG4 hG5 _ (uplc_F xu xs hp)).mono (by rintro g' H' v _ ⟨r0, fxu, afxu_0, cfxu_0, rfl, hRfxu_0, rfl, hK⟩; obtain ⟨rfl, rfl⟩ : r0 = (plcS xu xs).1 ∧ fxu = (plcS xu xs).2 := ⟨congrArg (fun z => z.1) hK, congrArg (fun z => z.2) hK⟩; exact ⟨afxu_0, cfxu_0, rfl, hRfxu_0, rfl⟩)
end Go.Proofs.YtdjcgbejnpbjlaaGreatDoor.Ub
