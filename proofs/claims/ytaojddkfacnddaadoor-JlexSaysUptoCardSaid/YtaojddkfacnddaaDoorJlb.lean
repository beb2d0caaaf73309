/- The script reader: names, numbers, escapes. -/
import Derived.Test.YtaojddkfacnddaaDoorJla
namespace Go.Proofs.YtaojddkfacnddaaDoor.Jl
open Go Go.Eng Go.RowKit Bld Fl
set_option linter.unusedVariables false
def KW : List UInt8 := [108, 101, 116, 32, 102, 110, 32, 105, 102, 32, 101, 108, 115, 101, 32, 119, 104, 105, 108, 101, 32, 102, 111, 114, 32, 111, 102, 32, 114, 101, 116, 117, 114, 110, 32, 98, 114, 101, 97, 107, 32, 99, 111, 110, 116, 105, 110, 117, 101, 32, 116, 104, 114, 111, 119, 32, 116, 114, 121, 32, 99, 97, 116, 99, 104, 32, 102, 105, 110, 97, 108, 108, 121, 32, 116, 114, 117, 101, 32, 102, 97, 108, 115, 101, 32, 110, 117, 108, 108]
def SG : List UInt8 := [61, 61, 32, 33, 61, 32, 60, 61, 32, 62, 61, 32, 38, 38, 32, 124, 124, 32, 61, 32, 33, 32, 60, 32, 62, 32, 43, 32, 45, 32, 42, 32, 47, 32, 37, 32, 40, 32, 41, 32, 91, 32, 93, 32, 123, 32, 125, 32, 44, 32, 59, 32, 58, 32, 46, 32, 63]
theorem KW_f : fieldsP KW := by unfold fieldsP; decide
theorem SG_f : fieldsP SG := by unfold fieldsP; decide
theorem in_f {s : List UInt8} (w : List UInt8) (h : fieldsP s) : inP (fieldsS s) w := by
  unfold inP fieldsS
  rw [Lib.fields_length]
  exact Nat.le_trans (cntF_le _ _) h.1
theorem run_rd {x : RD} (hp : rdP x) (is : Int → Bool) : rdP (jrunS x is).2 := by
  obtain ⟨h1, h2, h3⟩ := hp
  have h := runN_le is (x.1.drop x.2.1.toNat)
  rw [List.length_drop] at h
  refine ⟨h1, ?_, ?_⟩
  · show 0 ≤ runE x is
    unfold runE; omega
  · show runE x is ≤ (x.1.length : Int)
    unfold runE; omega
theorem run_take {x : RD} (hp : rdP x) (is : Int → Bool) : (jrunS x is).1 = (x.1.drop x.2.1.toNat).take (runN is (x.1.drop x.2.1.toNat)) := by
  obtain ⟨h1, h2, h3⟩ := hp
  show (x.1.take (Int.toNat (runE x is))).drop (Int.toNat x.2.1) = _
  rw [List.drop_take]
  congr 1
  unfold runE; omega
theorem run_all (is : Int → Bool) : ∀ (l : List UInt8), ∀ c ∈ l.take (runN is l), is (c.toNat : Int) = true
  | [], c, h => by simp at h
  | d :: l, c, h => by
    rw [runN] at h
    cases hd : is (d.toNat : Int)
    · rw [hd] at h; simp at h
    · rw [hd, if_t rfl, Nat.add_comm, List.take_succ_cons] at h
      rcases List.mem_cons.1 h with rfl | h
      · exact hd
      · exact run_all is l c h
def jnamej7 (xr : List UInt8 × Int × List (Int × Int × Int × List UInt8 × Int)) (K : (Int × Int × Int × List UInt8 × Int) → (List UInt8 × Int × List (Int × Int × Int × List UInt8 × Int)) → Prop) : Prop :=
  K ((if (sconM (fieldsS ([108, 101, 116, 32, 102, 110, 32, 105, 102, 32, 101, 108, 115, 101, 32, 119, 104, 105, 108, 101, 32, 102, 111, 114, 32, 111, 102, 32, 114, 101, 116, 117, 114, 110, 32, 98, 114, 101, 97, 107, 32, 99, 111, 110, 116, 105, 110, 117, 101, 32, 116, 104, 114, 111, 119, 32, 116, 114, 121, 32, 99, 97, 116, 99, 104, 32, 102, 105, 110, 97, 108, 108, 121, 32, 116, 114, 117, 101, 32, 102, 97, 108, 115, 101, 32, 110, 117, 108, 108] : List UInt8)) ((jrunS xr (fun y0 => jnbM y0)).1)) = true then 5 else 1), 0, 0, (jrunS xr (fun y0 => jnbM y0)).1, 0) (((jrunS xr (fun y0 => jnbM y0)).2).1, (((jrunS xr (fun y0 => jnbM y0)).2).2).1, (((jrunS xr (fun y0 => jnbM y0)).2).2).2)
def jnameF (xr : List UInt8 × Int × List (Int × Int × Int × List UInt8 × Int)) (K : (Int × Int × Int × List UInt8 × Int) → (List UInt8 × Int × List (Int × Int × Int × List UInt8 × Int)) → Prop) : Prop :=
  jrunP xr (fun y0 => jnbM y0) (fun _ => True) ∧ fieldsP ([108, 101, 116, 32, 102, 110, 32, 105, 102, 32, 101, 108, 115, 101, 32, 119, 104, 105, 108, 101, 32, 102, 111, 114, 32, 111, 102, 32, 114, 101, 116, 117, 114, 110, 32, 98, 114, 101, 97, 107, 32, 99, 111, 110, 116, 105, 110, 117, 101, 32, 116, 104, 114, 111, 119, 32, 116, 114, 121, 32, 99, 97, 116, 99, 104, 32, 102, 105, 110, 97, 108, 108, 121, 32, 116, 114, 117, 101, 32, 102, 97, 108, 115, 101, 32, 110, 117, 108, 108] : List UInt8) ∧ inP (fieldsS ([108, 101, 116, 32, 102, 110, 32, 105, 102, 32, 101, 108, 115, 101, 32, 119, 104, 105, 108, 101, 32, 102, 111, 114, 32, 111, 102, 32, 114, 101, 116, 117, 114, 110, 32, 98, 114, 101, 97, 107, 32, 99, 111, 110, 116, 105, 110, 117, 101, 32, 116, 104, 114, 111, 119, 32, 116, 114, 121, 32, 99, 97, 116, 99, 104, 32, 102, 105, 110, 97, 108, 108, 121, 32, 116, 114, 117, 101, 32, 102, 97, 108, 115, 101, 32, 110, 117, 108, 108] : List UInt8)) ((jrunS xr (fun y0 => jnbM y0)).1) ∧ (((sconM (fieldsS ([108, 101, 116, 32, 102, 110, 32, 105, 102, 32, 101, 108, 115, 101, 32, 119, 104, 105, 108, 101, 32, 102, 111, 114, 32, 111, 102, 32, 114, 101, 116, 117, 114, 110, 32, 98, 114, 101, 97, 107, 32, 99, 111, 110, 116, 105, 110, 117, 101, 32, 116, 104, 114, 111, 119, 32, 116, 114, 121, 32, 99, 97, 116, 99, 104, 32, 102, 105, 110, 97, 108, 108, 121, 32, 116, 114, 117, 101, 32, 102, 97, 108, 115, 101, 32, 110, 117, 108, 108] : List UInt8)) ((jrunS xr (fun y0 => jnbM y0)).1))) = true → jnamej7 xr K) ∧ (((sconM (fieldsS ([108, 101, 116, 32, 102, 110, 32, 105, 102, 32, 101, 108, 115, 101, 32, 119, 104, 105, 108, 101, 32, 102, 111, 114, 32, 111, 102, 32, 114, 101, 116, 117, 114, 110, 32, 98, 114, 101, 97, 107, 32, 99, 111, 110, 116, 105, 110, 117, 101, 32, 116, 104, 114, 111, 119, 32, 116, 114, 121, 32, 99, 97, 116, 99, 104, 32, 102, 105, 110, 97, 108, 108, 121, 32, 116, 114, 117, 101, 32, 102, 97, 108, 115, 101, 32, 110, 117, 108, 108] : List UInt8)) ((jrunS xr (fun y0 => jnbM y0)).1))) = false → jnamej7 xr K)
set_option maxHeartbeats 4000000 in
set_option maxRecDepth 100000 in
set_option linter.unusedVariables false in
theorem jname_ok {g : Ghost} {bxr : Nat} {axr_0 : Option Addr} {cxr_0 : Nat} {xsxr_0 : List Value} (xr : List UInt8 × Int × List (Int × Int × Int × List UInt8 × Int)) (hLxr_0 : RepL g (.pair (.int .i64) (.pair (.int .i64) (.pair (.int .i64) (.pair (.str) (.int .i64))))) xsxr_0 xr.2.2) (hG0 : GlobL g 0 (.int .u8) DSpace) (K : (Int × Int × Int × List UInt8 × Int) → (List UInt8 × Int × List (Int × Int × Int × List UInt8 × Int)) → Prop)
    (hF : jnameF xr K) : CallsH Tryd.prog 31 #[.pointer (some ⟨bxr, 0, none⟩)] g [.blk bxr (.cells #[.string ⟨⟨xr.1⟩⟩, .int .i64 xr.2.1, .slice axr_0 xr.2.2.length cxr_0] 37), .own (.slice axr_0 xr.2.2.length cxr_0) 39 5 xr.2.2.length xsxr_0] (fun g' H' v => ∃ (r0 : Int × Int × Int × List UInt8 × Int), ∃ (fxr : List UInt8 × Int × List (Int × Int × Int × List UInt8 × Int)), ∃ (afxr_0 : Option Addr) (cfxr_0 : Nat) (xsfxr_0 : List Value), v = .agg #[.int .i64 r0.1, .int .i64 r0.2.1, .int .i64 r0.2.2.1, .string ⟨⟨r0.2.2.2.1⟩⟩, .int .i64 r0.2.2.2.2] ∧ RepL g' (.pair (.int .i64) (.pair (.int .i64) (.pair (.int .i64) (.pair (.str) (.int .i64))))) xsfxr_0 fxr.2.2 ∧ H' = [.blk bxr (.cells #[.string ⟨⟨fxr.1⟩⟩, .int .i64 fxr.2.1, .slice afxr_0 fxr.2.2.length cfxr_0] 37), .own (.slice afxr_0 fxr.2.2.length cfxr_0) 39 5 fxr.2.2.length xsfxr_0] ∧ K r0 fxr) := by
  refine CallsH.enter 13 [(0, .pointer (some ⟨bxr, 0, none⟩))] Tryd.func31 rfl (by kernel_rfl) (by kernel_rfl) (by kernel_rfl) fun w0 => ?_
  refine Ok.seq ?_
  refine Ok.region ?_
  refine Ok.op rfl (OpOk.alloc (z := .agg #[.int .i64 0, .int .i64 0, .int .i64 0, .string ⟨⟨([] : List UInt8)⟩⟩, .int .i64 0]) (cs := #[.int .i64 0, .int .i64 0, .int .i64 0, .string ⟨⟨([] : List UInt8)⟩⟩, .int .i64 0]) (by kernel_rfl) (by kernel_rfl) rfl fun b1 => ?_)
  refine Ok.nil ?_
  refine Ok.thenN ?_
  refine Ok.seq ?_
  refine Ok.region ?_
  refine Ok.batch 1 [(2, .pointer (some ⟨b1, 0, none⟩)), (5, .pointer (some ⟨bxr, 0, none⟩))] (by kernel_rfl) ?_
  obtain ⟨hp2, hF⟩ := hF
  refine Ok.entries [1, 2, 0] [.blk bxr (.cells #[.string ⟨⟨xr.1⟩⟩, .int .i64 xr.2.1, .slice axr_0 xr.2.2.length cxr_0] 37), .own (.slice axr_0 xr.2.2.length cxr_0) 39 5 xr.2.2.length xsxr_0, .blk b1 (.cells #[.int .i64 0, .int .i64 0, .int .i64 0, .string ⟨⟨([] : List UInt8)⟩⟩, .int .i64 0] 39)] (by decide) rfl ?_
  refine Ok.op rfl (OpOk.callH [.blk bxr (.cells #[.string ⟨⟨xr.1⟩⟩, .int .i64 xr.2.1, .slice axr_0 xr.2.2.length cxr_0] 37), .own (.slice axr_0 xr.2.2.length cxr_0) 39 5 xr.2.2.length xsxr_0] [.blk b1 (.cells #[.int .i64 0, .int .i64 0, .int .i64 0, .string ⟨⟨([] : List UInt8)⟩⟩, .int .i64 0] 39)] (enters (by kernel_rfl) (fun _ => by kernel_rfl)) rfl (jrun_c (vxis := .func (.func 45) #[] #[]) xr (fun y0 => jnbM y0) (fun _ => True) hLxr_0 (fun y0 hq => ⟨45, _, fun _ => by kernel_rfl, jnb_c y0⟩) hp2) rfl fun g3 _ _ hx3 hV3 => ?_)
  obtain ⟨a3_0, c3_0, xs3_0, rfl, hL3_0, rfl⟩ := hV3
  replace hG0 := hG0.mono hx3.1
  refine Ok.batch 1 [(2, .pointer (some ⟨b1, 0, none⟩)), (3, .string ⟨⟨(jrunS xr (fun y0 => jnbM y0)).1⟩⟩)] (by kernel_rfl) ?_
  refine Ok.nil ?_
  refine Ok.thenN ?_
  refine Ok.seq ?_
  refine Ok.region ?_
  refine Ok.batch 1 [(2, .pointer (some ⟨b1, 0, none⟩)), (3, .string ⟨⟨(jrunS xr (fun y0 => jnbM y0)).1⟩⟩), (4, .int .i64 1)] (by kernel_rfl) ?_
  refine Ok.nil ?_
  refine Ok.thenN ?_
  refine Ok.cut (fun a W => ∃ gj7 : Ghost, Gext w0 g3 gj7 ∧ StA 13 [(2, .pointer (some ⟨b1, 0, none⟩)), (3, .string ⟨⟨(jrunS xr (fun y0 => jnbM y0)).1⟩⟩), (4, .int .i64 (if (sconM (fieldsS ([108, 101, 116, 32, 102, 110, 32, 105, 102, 32, 101, 108, 115, 101, 32, 119, 104, 105, 108, 101, 32, 102, 111, 114, 32, 111, 102, 32, 114, 101, 116, 117, 114, 110, 32, 98, 114, 101, 97, 107, 32, 99, 111, 110, 116, 105, 110, 117, 101, 32, 116, 104, 114, 111, 119, 32, 116, 114, 121, 32, 99, 97, 116, 99, 104, 32, 102, 105, 110, 97, 108, 108, 121, 32, 116, 114, 117, 101, 32, 102, 97, 108, 115, 101, 32, 110, 117, 108, 108] : List UInt8)) ((jrunS xr (fun y0 => jnbM y0)).1)) = true then 5 else 1))] a ∧ StW w0 [.blk bxr (.cells #[.string ⟨⟨((jrunS xr (fun y0 => jnbM y0)).2).1⟩⟩, .int .i64 ((((jrunS xr (fun y0 => jnbM y0)).2).2).1), .slice a3_0 ((((jrunS xr (fun y0 => jnbM y0)).2).2).2).length c3_0] 37), .own (.slice a3_0 ((((jrunS xr (fun y0 => jnbM y0)).2).2).2).length c3_0) 39 5 ((((jrunS xr (fun y0 => jnbM y0)).2).2).2).length xs3_0, .blk b1 (.cells #[.int .i64 0, .int .i64 0, .int .i64 0, .string ⟨⟨([] : List UInt8)⟩⟩, .int .i64 0] 39)] gj7 W ∧ jnamej7 xr K) ?_ ?_
  ·
    refine Ok.seq ?_
    refine Ok.region ?_
    obtain ⟨hp4, hF⟩ := hF
    refine Ok.op rfl (OpOk.callH [] [.blk bxr (.cells #[.string ⟨⟨((jrunS xr (fun y0 => jnbM y0)).2).1⟩⟩, .int .i64 ((((jrunS xr (fun y0 => jnbM y0)).2).2).1), .slice a3_0 ((((jrunS xr (fun y0 => jnbM y0)).2).2).2).length c3_0] 37), .own (.slice a3_0 ((((jrunS xr (fun y0 => jnbM y0)).2).2).2).length c3_0) 39 5 ((((jrunS xr (fun y0 => jnbM y0)).2).2).2).length xs3_0, .blk b1 (.cells #[.int .i64 0, .int .i64 0, .int .i64 0, .string ⟨⟨([] : List UInt8)⟩⟩, .int .i64 0] 39)] (enters (by kernel_rfl) (fun _ => by kernel_rfl)) rfl (fields_c ([108, 101, 116, 32, 102, 110, 32, 105, 102, 32, 101, 108, 115, 101, 32, 119, 104, 105, 108, 101, 32, 102, 111, 114, 32, 111, 102, 32, 114, 101, 116, 117, 114, 110, 32, 98, 114, 101, 97, 107, 32, 99, 111, 110, 116, 105, 110, 117, 101, 32, 116, 104, 114, 111, 119, 32, 116, 114, 121, 32, 99, 97, 116, 99, 104, 32, 102, 105, 110, 97, 108, 108, 121, 32, 116, 114, 117, 101, 32, 102, 97, 108, 115, 101, 32, 110, 117, 108, 108] : List UInt8) hG0 hp4) rfl fun g5 _ _ hx5 hV5 => ?_)
    obtain ⟨a5_0, c5_0, rfl, hR5_0, rfl⟩ := hV5
    replace hL3_0 := hL3_0.mono hx5.1
    replace hG0 := hG0.mono hx5.1
    refine Ok.batch 1 [(2, .pointer (some ⟨b1, 0, none⟩)), (3, .string ⟨⟨(jrunS xr (fun y0 => jnbM y0)).1⟩⟩), (4, .int .i64 1), (7, .slice a5_0 (fieldsS ([108, 101, 116, 32, 102, 110, 32, 105, 102, 32, 101, 108, 115, 101, 32, 119, 104, 105, 108, 101, 32, 102, 111, 114, 32, 111, 102, 32, 114, 101, 116, 117, 114, 110, 32, 98, 114, 101, 97, 107, 32, 99, 111, 110, 116, 105, 110, 117, 101, 32, 116, 104, 114, 111, 119, 32, 116, 114, 121, 32, 99, 97, 116, 99, 104, 32, 102, 105, 110, 97, 108, 108, 121, 32, 116, 114, 117, 101, 32, 102, 97, 108, 115, 101, 32, 110, 117, 108, 108] : List UInt8)).length c5_0), (8, .string ⟨⟨(jrunS xr (fun y0 => jnbM y0)).1⟩⟩)] (by kernel_rfl) ?_
    obtain ⟨hp6, hF⟩ := hF
    refine Ok.op rfl (OpOk.callG (v := .bool (sconM (fieldsS ([108, 101, 116, 32, 102, 110, 32, 105, 102, 32, 101, 108, 115, 101, 32, 119, 104, 105, 108, 101, 32, 102, 111, 114, 32, 111, 102, 32, 114, 101, 116, 117, 114, 110, 32, 98, 114, 101, 97, 107, 32, 99, 111, 110, 116, 105, 110, 117, 101, 32, 116, 104, 114, 111, 119, 32, 116, 114, 121, 32, 99, 97, 116, 99, 104, 32, 102, 105, 110, 97, 108, 108, 121, 32, 116, 114, 117, 101, 32, 102, 97, 108, 115, 101, 32, 110, 117, 108, 108] : List UInt8)) ((jrunS xr (fun y0 => jnbM y0)).1))) (enters (by kernel_rfl) (fun _ => by kernel_rfl)) (fun W hW => scon_c (fieldsS ([108, 101, 116, 32, 102, 110, 32, 105, 102, 32, 101, 108, 115, 101, 32, 119, 104, 105, 108, 101, 32, 102, 111, 114, 32, 111, 102, 32, 114, 101, 116, 117, 114, 110, 32, 98, 114, 101, 97, 107, 32, 99, 111, 110, 116, 105, 110, 117, 101, 32, 116, 104, 114, 111, 119, 32, 116, 114, 121, 32, 99, 97, 116, 99, 104, 32, 102, 105, 110, 97, 108, 108, 121, 32, 116, 114, 117, 101, 32, 102, 97, 108, 115, 101, 32, 110, 117, 108, 108] : List UInt8)) ((jrunS xr (fun y0 => jnbM y0)).1) (hR5_0.mono hW.sees) hp6) rfl ?_)
    refine Ok.nil ?_
    refine Ok.thenN ?_
    refine Ok.cond (b := (sconM (fieldsS ([108, 101, 116, 32, 102, 110, 32, 105, 102, 32, 101, 108, 115, 101, 32, 119, 104, 105, 108, 101, 32, 102, 111, 114, 32, 111, 102, 32, 114, 101, 116, 117, 114, 110, 32, 98, 114, 101, 97, 107, 32, 99, 111, 110, 116, 105, 110, 117, 101, 32, 116, 104, 114, 111, 119, 32, 116, 114, 121, 32, 99, 97, 116, 99, 104, 32, 102, 105, 110, 97, 108, 108, 121, 32, 116, 114, 117, 101, 32, 102, 97, 108, 115, 101, 32, 110, 117, 108, 108] : List UInt8)) ((jrunS xr (fun y0 => jnbM y0)).1))) rfl (fun hc7 => ?_) (fun hc7 => ?_)
    · replace hF := hF.1 hc7
      refine Ok.region ?_
      refine Ok.batch 1 [(2, .pointer (some ⟨b1, 0, none⟩)), (3, .string ⟨⟨(jrunS xr (fun y0 => jnbM y0)).1⟩⟩), (4, .int .i64 5)] (by kernel_rfl) ?_
      refine Ok.nil ?_
      refine Ok.thenN ?_
      refine Ok.reval 4 rfl (show (.int .i64 5 : Value) = .int .i64 (if (sconM (fieldsS ([108, 101, 116, 32, 102, 110, 32, 105, 102, 32, 101, 108, 115, 101, 32, 119, 104, 105, 108, 101, 32, 102, 111, 114, 32, 111, 102, 32, 114, 101, 116, 117, 114, 110, 32, 98, 114, 101, 97, 107, 32, 99, 111, 110, 116, 105, 110, 117, 101, 32, 116, 104, 114, 111, 119, 32, 116, 114, 121, 32, 99, 97, 116, 99, 104, 32, 102, 105, 110, 97, 108, 108, 121, 32, 116, 114, 117, 101, 32, 102, 97, 108, 115, 101, 32, 110, 117, 108, 108] : List UInt8)) ((jrunS xr (fun y0 => jnbM y0)).1)) = true then 5 else 1) from congrArg (Value.int .i64) ((if_t hc7).symm)) ?_
      exact fun a W hA hW => ⟨g5, hx5, hA.sub (by kernel_rfl), hW, hF⟩
    · replace hF := hF.2 hc7
      refine Ok.skip ?_
      refine Ok.thenN ?_
      refine Ok.reval 4 rfl (show (.int .i64 1 : Value) = .int .i64 (if (sconM (fieldsS ([108, 101, 116, 32, 102, 110, 32, 105, 102, 32, 101, 108, 115, 101, 32, 119, 104, 105, 108, 101, 32, 102, 111, 114, 32, 111, 102, 32, 114, 101, 116, 117, 114, 110, 32, 98, 114, 101, 97, 107, 32, 99, 111, 110, 116, 105, 110, 117, 101, 32, 116, 104, 114, 111, 119, 32, 116, 114, 121, 32, 99, 97, 116, 99, 104, 32, 102, 105, 110, 97, 108, 108, 121, 32, 116, 114, 117, 101, 32, 102, 97, 108, 115, 101, 32, 110, 117, 108, 108] : List UInt8)) ((jrunS xr (fun y0 => jnbM y0)).1)) = true then 5 else 1) from congrArg (Value.int .i64) ((if_f hc7).symm)) ?_
      exact fun a W hA hW => ⟨g5, hx5, hA.sub (by kernel_rfl), hW, hF⟩
  ·
    clear hF
    rintro a W ⟨gj7, hxj7, hA, hW, hF⟩
    refine (?_ : Ok _ _ _ _ _ _) a W hA hW
    clear hA hW
    replace hL3_0 := hL3_0.mono hxj7.1
    replace hG0 := hG0.mono hxj7.1
    refine Ok.seq ?_
    refine Ok.region ?_
    refine Ok.batch 3 [(2, .pointer (some ⟨b1, 0, none⟩)), (12, .agg #[.int .i64 (if (sconM (fieldsS ([108, 101, 116, 32, 102, 110, 32, 105, 102, 32, 101, 108, 115, 101, 32, 119, 104, 105, 108, 101, 32, 102, 111, 114, 32, 111, 102, 32, 114, 101, 116, 117, 114, 110, 32, 98, 114, 101, 97, 107, 32, 99, 111, 110, 116, 105, 110, 117, 101, 32, 116, 104, 114, 111, 119, 32, 116, 114, 121, 32, 99, 97, 116, 99, 104, 32, 102, 105, 110, 97, 108, 108, 121, 32, 116, 114, 117, 101, 32, 102, 97, 108, 115, 101, 32, 110, 117, 108, 108] : List UInt8)) ((jrunS xr (fun y0 => jnbM y0)).1)) = true then 5 else 1), .int .i64 0, .int .i64 0, .string ⟨⟨(jrunS xr (fun y0 => jnbM y0)).1⟩⟩, .int .i64 0])] (by kernel_rfl) ?_
    refine Ok.op rfl (OpOk.store (k := 5) (v := .agg #[.int .i64 (if (sconM (fieldsS ([108, 101, 116, 32, 102, 110, 32, 105, 102, 32, 101, 108, 115, 101, 32, 119, 104, 105, 108, 101, 32, 102, 111, 114, 32, 111, 102, 32, 114, 101, 116, 117, 114, 110, 32, 98, 114, 101, 97, 107, 32, 99, 111, 110, 116, 105, 110, 117, 101, 32, 116, 104, 114, 111, 119, 32, 116, 114, 121, 32, 99, 97, 116, 99, 104, 32, 102, 105, 110, 97, 108, 108, 121, 32, 116, 114, 117, 101, 32, 102, 97, 108, 115, 101, 32, 110, 117, 108, 108] : List UInt8)) ((jrunS xr (fun y0 => jnbM y0)).1)) = true then 5 else 1), .int .i64 0, .int .i64 0, .string ⟨⟨(jrunS xr (fun y0 => jnbM y0)).1⟩⟩, .int .i64 0]) (H' := [.blk bxr (.cells #[.string ⟨⟨((jrunS xr (fun y0 => jnbM y0)).2).1⟩⟩, .int .i64 ((((jrunS xr (fun y0 => jnbM y0)).2).2).1), .slice a3_0 ((((jrunS xr (fun y0 => jnbM y0)).2).2).2).length c3_0] 37), .own (.slice a3_0 ((((jrunS xr (fun y0 => jnbM y0)).2).2).2).length c3_0) 39 5 ((((jrunS xr (fun y0 => jnbM y0)).2).2).2).length xs3_0, .blk b1 (.cells #[.int .i64 (if (sconM (fieldsS ([108, 101, 116, 32, 102, 110, 32, 105, 102, 32, 101, 108, 115, 101, 32, 119, 104, 105, 108, 101, 32, 102, 111, 114, 32, 111, 102, 32, 114, 101, 116, 117, 114, 110, 32, 98, 114, 101, 97, 107, 32, 99, 111, 110, 116, 105, 110, 117, 101, 32, 116, 104, 114, 111, 119, 32, 116, 114, 121, 32, 99, 97, 116, 99, 104, 32, 102, 105, 110, 97, 108, 108, 121, 32, 116, 114, 117, 101, 32, 102, 97, 108, 115, 101, 32, 110, 117, 108, 108] : List UInt8)) ((jrunS xr (fun y0 => jnbM y0)).1)) = true then 5 else 1), .int .i64 0, .int .i64 0, .string ⟨⟨(jrunS xr (fun y0 => jnbM y0)).1⟩⟩, .int .i64 0] 39)]) 2 rfl rfl rfl (by kernel_rfl) (by kernel_rfl) (by kernel_rfl) (by kernel_rfl) (by kernel_rfl) ?_)
    refine Ok.nil ?_
    refine Ok.thenN ?_
    refine Ok.ret ?_
    exact Ok.resP (vs := [.agg #[.int .i64 (if (sconM (fieldsS ([108, 101, 116, 32, 102, 110, 32, 105, 102, 32, 101, 108, 115, 101, 32, 119, 104, 105, 108, 101, 32, 102, 111, 114, 32, 111, 102, 32, 114, 101, 116, 117, 114, 110, 32, 98, 114, 101, 97, 107, 32, 99, 111, 110, 116, 105, 110, 117, 101, 32, 116, 104, 114, 111, 119, 32, 116, 114, 121, 32, 99, 97, 116, 99, 104, 32, 102, 105, 110, 97, 108, 108, 121, 32, 116, 114, 117, 101, 32, 102, 97, 108, 115, 101, 32, 110, 117, 108, 108] : List UInt8)) ((jrunS xr (fun y0 => jnbM y0)).1)) = true then 5 else 1), .int .i64 0, .int .i64 0, .string ⟨⟨(jrunS xr (fun y0 => jnbM y0)).1⟩⟩, .int .i64 0]]) [0, 1] [.blk bxr (.cells #[.string ⟨⟨((jrunS xr (fun y0 => jnbM y0)).2).1⟩⟩, .int .i64 ((((jrunS xr (fun y0 => jnbM y0)).2).2).1), .slice a3_0 ((((jrunS xr (fun y0 => jnbM y0)).2).2).2).length c3_0] 37), .own (.slice a3_0 ((((jrunS xr (fun y0 => jnbM y0)).2).2).2).length c3_0) 39 5 ((((jrunS xr (fun y0 => jnbM y0)).2).2).2).length xs3_0] (by decide) rfl (.inl rfl) rfl (.cons (.cellAgg 2 5 #[.int .i64 (if (sconM (fieldsS ([108, 101, 116, 32, 102, 110, 32, 105, 102, 32, 101, 108, 115, 101, 32, 119, 104, 105, 108, 101, 32, 102, 111, 114, 32, 111, 102, 32, 114, 101, 116, 117, 114, 110, 32, 98, 114, 101, 97, 107, 32, 99, 111, 110, 116, 105, 110, 117, 101, 32, 116, 104, 114, 111, 119, 32, 116, 114, 121, 32, 99, 97, 116, 99, 104, 32, 102, 105, 110, 97, 108, 108, 121, 32, 116, 114, 117, 101, 32, 102, 97, 108, 115, 101, 32, 110, 117, 108, 108] : List UInt8)) ((jrunS xr (fun y0 => jnbM y0)).1)) = true then 5 else 1), .int .i64 0, .int .i64 0, .string ⟨⟨(jrunS xr (fun y0 => jnbM y0)).1⟩⟩, .int .i64 0] rfl rfl Tryd.underlying39 rfl (by kernel_rfl) (by kernel_rfl) (by kernel_rfl)) .nil) (hx3.trans hxj7) ⟨((if (sconM (fieldsS ([108, 101, 116, 32, 102, 110, 32, 105, 102, 32, 101, 108, 115, 101, 32, 119, 104, 105, 108, 101, 32, 102, 111, 114, 32, 111, 102, 32, 114, 101, 116, 117, 114, 110, 32, 98, 114, 101, 97, 107, 32, 99, 111, 110, 116, 105, 110, 117, 101, 32, 116, 104, 114, 111, 119, 32, 116, 114, 121, 32, 99, 97, 116, 99, 104, 32, 102, 105, 110, 97, 108, 108, 121, 32, 116, 114, 117, 101, 32, 102, 97, 108, 115, 101, 32, 110, 117, 108, 108] : List UInt8)) ((jrunS xr (fun y0 => jnbM y0)).1)) = true then 5 else 1), 0, 0, (jrunS xr (fun y0 => jnbM y0)).1, 0), (((jrunS xr (fun y0 => jnbM y0)).2).1, (((jrunS xr (fun y0 => jnbM y0)).2).2).1, (((jrunS xr (fun y0 => jnbM y0)).2).2).2), a3_0, c3_0, xs3_0, rfl, hL3_0, rfl, hF⟩
def jnameS (x : RD) : TK × RD := ((if sconM (fieldsS KW) (jrunS x (fun y0 => jnbM y0)).1 = true then 5 else 1, 0, 0, (jrunS x (fun y0 => jnbM y0)).1, 0), (jrunS x (fun y0 => jnbM y0)).2)
theorem jname_F (x : RD) (hp : rdP x) : jnameF x (fun r r1 => (r, r1) = jnameS x) :=
  ⟨⟨hp, fun _ => trivial⟩, KW_f, in_f _ KW_f, fun _ => rfl, fun _ => rfl⟩
set_option linter.unusedVariables false in
theorem jname_c {g : Ghost} {bxr : Nat} {axr_0 : Option Addr} {cxr_0 : Nat} {xsxr_0 : List Value} (xr : List UInt8 × Int × List (Int × Int × Int × List UInt8 × Int)) (hLxr_0 : RepL g (.pair (.int .i64) (.pair (.int .i64) (.pair (.int .i64) (.pair (.str) (.int .i64))))) xsxr_0 xr.2.2) (hG0 : GlobL g 0 (.int .u8) DSpace)  (hp : rdP xr) : CallsH Tryd.prog 31 #[.pointer (some ⟨bxr, 0, none⟩)] g [.blk bxr (.cells #[.string ⟨⟨xr.1⟩⟩, .int .i64 xr.2.1, .slice axr_0 xr.2.2.length cxr_0] 37), .own (.slice axr_0 xr.2.2.length cxr_0) 39 5 xr.2.2.length xsxr_0] (fun g' H' v => ∃ (afxr_0 : Option Addr) (cfxr_0 : Nat) (xsfxr_0 : List Value), v = .agg #[.int .i64 ((jnameS xr).1).1, .int .i64 ((jnameS xr).1).2.1, .int .i64 ((jnameS xr).1).2.2.1, .string ⟨⟨((jnameS xr).1).2.2.2.1⟩⟩, .int .i64 ((jnameS xr).1).2.2.2.2] ∧ RepL g' (.pair (.int .i64) (.pair (.int .i64) (.pair (.int .i64) (.pair (.str) (.int .i64))))) xsfxr_0 ((jnameS xr).2).2.2 ∧ H' = [.blk bxr (.cells #[.string ⟨⟨((jnameS xr).2).1⟩⟩, .int .i64 ((jnameS xr).2).2.1, .slice afxr_0 ((jnameS xr).2).2.2.length cfxr_0] 37), .own (.slice afxr_0 ((jnameS xr).2).2.2.length cfxr_0) 39 5 ((jnameS xr).2).2.2.length xsfxr_0]) :=
  (jname_ok xr hLxr_0 hG0 _ (jname_F xr hp)).mono (by rintro g' H' v _ ⟨r0, fxr, afxr_0, cfxr_0, xsfxr_0, rfl, hLfxr_0, rfl, hK⟩; obtain ⟨rfl, rfl⟩ : r0 = (jnameS xr).1 ∧ fxr = (jnameS xr).2 := ⟨congrArg (fun z => z.1) hK, congrArg (fun z => z.2) hK⟩; exact ⟨afxr_0, cfxr_0, xsfxr_0, rfl, hLfxr_0, rfl⟩)
def jnuml9b (xr : List UInt8 × Int × List (Int × Int × Int × List UInt8 × Int)) (K : (Int × Int × Int × List UInt8 × Int) → Int → (List UInt8 × Int × List (Int × Int × Int × List UInt8 × Int)) → Prop) (x4l9 : Int) (x11l9 : Int) (C9 : Int → Int → Prop) : Prop :=
  ((decide (x11l9 < ((intsOf ((jrunS xr (fun y0 => jdigM y0)).1)).length : Int))) = true → (0 : Int) ≤ x11l9 ∧ Int.toNat x11l9 < (intsOf ((jrunS xr (fun y0 => jdigM y0)).1)).length ∧ ((decide ((IntKind.wrap .i64 ((IntKind.wrap .i64 (10 * x4l9)) + (IntKind.wrap .i64 (IntKind.wrap .u8 (((intsOf ((jrunS xr (fun y0 => jdigM y0)).1)).getD (Int.toNat x11l9) default) - 48))))) > 9007199254740992)) = true → K (0, 0, 0, ([] : List UInt8), 0) 2 (((jrunS xr (fun y0 => jdigM y0)).2).1, (((jrunS xr (fun y0 => jdigM y0)).2).2).1, (((jrunS xr (fun y0 => jdigM y0)).2).2).2)) ∧ ((decide ((IntKind.wrap .i64 ((IntKind.wrap .i64 (10 * x4l9)) + (IntKind.wrap .i64 (IntKind.wrap .u8 (((intsOf ((jrunS xr (fun y0 => jdigM y0)).1)).getD (Int.toNat x11l9) default) - 48))))) > 9007199254740992)) = false → C9 (IntKind.wrap .i64 ((IntKind.wrap .i64 (10 * x4l9)) + (IntKind.wrap .i64 (IntKind.wrap .u8 (((intsOf ((jrunS xr (fun y0 => jdigM y0)).1)).getD (Int.toNat x11l9) default) - 48))))) (IntKind.wrap .i64 (x11l9 + 1)))) ∧ ((decide (x11l9 < ((intsOf ((jrunS xr (fun y0 => jdigM y0)).1)).length : Int))) = false → jpeekP (((jrunS xr (fun y0 => jdigM y0)).2).1, (((jrunS xr (fun y0 => jdigM y0)).2).2).1, (((jrunS xr (fun y0 => jdigM y0)).2).2).2) 0 ∧ (((jletM ((jpeekS (((jrunS xr (fun y0 => jdigM y0)).2).1, (((jrunS xr (fun y0 => jdigM y0)).2).2).1, (((jrunS xr (fun y0 => jdigM y0)).2).2).2) 0).1))) = true → K (0, 0, 0, ([] : List UInt8), 0) 4 (((jpeekS (((jrunS xr (fun y0 => jdigM y0)).2).1, (((jrunS xr (fun y0 => jdigM y0)).2).2).1, (((jrunS xr (fun y0 => jdigM y0)).2).2).2) 0).2).1, (((jpeekS (((jrunS xr (fun y0 => jdigM y0)).2).1, (((jrunS xr (fun y0 => jdigM y0)).2).2).1, (((jrunS xr (fun y0 => jdigM y0)).2).2).2) 0).2).2).1, (((jpeekS (((jrunS xr (fun y0 => jdigM y0)).2).1, (((jrunS xr (fun y0 => jdigM y0)).2).2).1, (((jrunS xr (fun y0 => jdigM y0)).2).2).2) 0).2).2).2)) ∧ (((jletM ((jpeekS (((jrunS xr (fun y0 => jdigM y0)).2).1, (((jrunS xr (fun y0 => jdigM y0)).2).2).1, (((jrunS xr (fun y0 => jdigM y0)).2).2).2) 0).1))) = false → K (2, 0, 0, ([] : List UInt8), x4l9) 0 (((jpeekS (((jrunS xr (fun y0 => jdigM y0)).2).1, (((jrunS xr (fun y0 => jdigM y0)).2).2).1, (((jrunS xr (fun y0 => jdigM y0)).2).2).2) 0).2).1, (((jpeekS (((jrunS xr (fun y0 => jdigM y0)).2).1, (((jrunS xr (fun y0 => jdigM y0)).2).2).1, (((jrunS xr (fun y0 => jdigM y0)).2).2).2) 0).2).2).1, (((jpeekS (((jrunS xr (fun y0 => jdigM y0)).2).1, (((jrunS xr (fun y0 => jdigM y0)).2).2).1, (((jrunS xr (fun y0 => jdigM y0)).2).2).2) 0).2).2).2)))
def jnuml9 (xr : List UInt8 × Int × List (Int × Int × Int × List UInt8 × Int)) (K : (Int × Int × Int × List UInt8 × Int) → Int → (List UInt8 × Int × List (Int × Int × Int × List UInt8 × Int)) → Prop) : Nat → Int → Int → Prop
  | 0, _, _ => False
  | k + 1, x4l9, x11l9 => jnuml9b xr K x4l9 x11l9 (jnuml9 xr K k)
def jnumF (xr : List UInt8 × Int × List (Int × Int × Int × List UInt8 × Int)) (K : (Int × Int × Int × List UInt8 × Int) → Int → (List UInt8 × Int × List (Int × Int × Int × List UInt8 × Int)) → Prop) : Prop :=
  jrunP xr (fun y0 => jdigM y0) (fun _ => True) ∧ ((jrunS xr (fun y0 => jdigM y0)).1).length ≤ maxLen ∧ ∃ k, jnuml9 xr K k 0 0
set_option maxHeartbeats 4000000 in
set_option maxRecDepth 100000 in
set_option linter.unusedVariables false in
theorem jnum_ok {g : Ghost} {bxr : Nat} {axr_0 : Option Addr} {cxr_0 : Nat} {xsxr_0 : List Value} (xr : List UInt8 × Int × List (Int × Int × Int × List UInt8 × Int)) (hLxr_0 : RepL g (.pair (.int .i64) (.pair (.int .i64) (.pair (.int .i64) (.pair (.str) (.int .i64))))) xsxr_0 xr.2.2) (K : (Int × Int × Int × List UInt8 × Int) → Int → (List UInt8 × Int × List (Int × Int × Int × List UInt8 × Int)) → Prop)
    (hF : jnumF xr K) : CallsH Tryd.prog 33 #[.pointer (some ⟨bxr, 0, none⟩)] g [.blk bxr (.cells #[.string ⟨⟨xr.1⟩⟩, .int .i64 xr.2.1, .slice axr_0 xr.2.2.length cxr_0] 37), .own (.slice axr_0 xr.2.2.length cxr_0) 39 5 xr.2.2.length xsxr_0] (fun g' H' v => ∃ (r0 : Int × Int × Int × List UInt8 × Int), ∃ (r1 : Int), ∃ (fxr : List UInt8 × Int × List (Int × Int × Int × List UInt8 × Int)), ∃ (afxr_0 : Option Addr) (cfxr_0 : Nat) (xsfxr_0 : List Value), v = .tuple #[.agg #[.int .i64 r0.1, .int .i64 r0.2.1, .int .i64 r0.2.2.1, .string ⟨⟨r0.2.2.2.1⟩⟩, .int .i64 r0.2.2.2.2], .int .i64 r1] ∧ RepL g' (.pair (.int .i64) (.pair (.int .i64) (.pair (.int .i64) (.pair (.str) (.int .i64))))) xsfxr_0 fxr.2.2 ∧ H' = [.blk bxr (.cells #[.string ⟨⟨fxr.1⟩⟩, .int .i64 fxr.2.1, .slice afxr_0 fxr.2.2.length cfxr_0] 37), .own (.slice afxr_0 fxr.2.2.length cfxr_0) 39 5 fxr.2.2.length xsfxr_0] ∧ K r0 r1 fxr) := by
  refine CallsH.enter 31 [(0, .pointer (some ⟨bxr, 0, none⟩))] Tryd.func33 rfl (by kernel_rfl) (by kernel_rfl) (by kernel_rfl) fun w0 => ?_
  refine Ok.seq ?_
  refine Ok.region ?_
  refine Ok.op rfl (OpOk.alloc (z := .agg #[.int .i64 0, .int .i64 0, .int .i64 0, .string ⟨⟨([] : List UInt8)⟩⟩, .int .i64 0]) (cs := #[.int .i64 0, .int .i64 0, .int .i64 0, .string ⟨⟨([] : List UInt8)⟩⟩, .int .i64 0]) (by kernel_rfl) (by kernel_rfl) rfl fun b1 => ?_)
  refine Ok.batch 1 [(0, .pointer (some ⟨bxr, 0, none⟩)), (2, .pointer (some ⟨b1, 0, none⟩))] (by kernel_rfl) ?_
  refine Ok.nil ?_
  refine Ok.thenN ?_
  refine Ok.seq ?_
  refine Ok.region ?_
  refine Ok.batch 1 [(0, .pointer (some ⟨bxr, 0, none⟩)), (2, .pointer (some ⟨b1, 0, none⟩)), (4, .int .i64 0)] (by kernel_rfl) ?_
  refine Ok.nil ?_
  refine Ok.thenN ?_
  refine Ok.seq ?_
  refine Ok.seq ?_
  refine Ok.region ?_
  refine Ok.batch 1 [(0, .pointer (some ⟨bxr, 0, none⟩)), (2, .pointer (some ⟨b1, 0, none⟩)), (4, .int .i64 0), (7, .pointer (some ⟨bxr, 0, none⟩))] (by kernel_rfl) ?_
  obtain ⟨hp2, hF⟩ := hF
  refine Ok.entries [1, 2, 0] [.blk bxr (.cells #[.string ⟨⟨xr.1⟩⟩, .int .i64 xr.2.1, .slice axr_0 xr.2.2.length cxr_0] 37), .own (.slice axr_0 xr.2.2.length cxr_0) 39 5 xr.2.2.length xsxr_0, .blk b1 (.cells #[.int .i64 0, .int .i64 0, .int .i64 0, .string ⟨⟨([] : List UInt8)⟩⟩, .int .i64 0] 39)] (by decide) rfl ?_
  refine Ok.op rfl (OpOk.callH [.blk bxr (.cells #[.string ⟨⟨xr.1⟩⟩, .int .i64 xr.2.1, .slice axr_0 xr.2.2.length cxr_0] 37), .own (.slice axr_0 xr.2.2.length cxr_0) 39 5 xr.2.2.length xsxr_0] [.blk b1 (.cells #[.int .i64 0, .int .i64 0, .int .i64 0, .string ⟨⟨([] : List UInt8)⟩⟩, .int .i64 0] 39)] (enters (by kernel_rfl) (fun _ => by kernel_rfl)) rfl (jrun_c (vxis := .func (.func 32) #[] #[]) xr (fun y0 => jdigM y0) (fun _ => True) hLxr_0 (fun y0 hq => ⟨32, _, fun _ => by kernel_rfl, jdig_c y0⟩) hp2) rfl fun g3 _ _ hx3 hV3 => ?_)
  obtain ⟨a3_0, c3_0, xs3_0, rfl, hL3_0, rfl⟩ := hV3
  obtain ⟨hm4, hF⟩ := hF
  refine Ok.op rfl (OpOk.bytesRo (s := (jrunS xr (fun y0 => jdigM y0)).1) (by kernel_rfl) Tryd.underlying9 Tryd.underlying48 Tryd.underlying5 hm4 rfl fun g4 a4 c4 hx4 hR4 => ?_)
  replace hL3_0 := hL3_0.mono hx4.1
  refine Ok.batch 2 [(0, .pointer (some ⟨bxr, 0, none⟩)), (2, .pointer (some ⟨b1, 0, none⟩)), (4, .int .i64 0), (9, .slice a4 (intsOf ((jrunS xr (fun y0 => jdigM y0)).1)).length c4), (10, .int .i64 ((intsOf ((jrunS xr (fun y0 => jdigM y0)).1)).length : Int)), (11, .int .i64 0)] (by kernel_rfl) ?_
  refine Ok.nil ?_
  refine Ok.thenN ?_
  refine Ok.block ?_
  obtain ⟨k, hF⟩ := hF
  refine Ok.loop (fun k a W => ∃ gl9 : Ghost, Gext w0 g4 gl9 ∧ ∃ (x4l9 : Int) (x11l9 : Int), StA 31 [(0, .pointer (some ⟨bxr, 0, none⟩)), (2, .pointer (some ⟨b1, 0, none⟩)), (4, .int .i64 x4l9), (9, .slice a4 (intsOf ((jrunS xr (fun y0 => jdigM y0)).1)).length c4), (10, .int .i64 ((intsOf ((jrunS xr (fun y0 => jdigM y0)).1)).length : Int)), (11, .int .i64 x11l9)] a ∧ StW w0 [.blk bxr (.cells #[.string ⟨⟨((jrunS xr (fun y0 => jdigM y0)).2).1⟩⟩, .int .i64 ((((jrunS xr (fun y0 => jdigM y0)).2).2).1), .slice a3_0 ((((jrunS xr (fun y0 => jdigM y0)).2).2).2).length c3_0] 37), .own (.slice a3_0 ((((jrunS xr (fun y0 => jdigM y0)).2).2).2).length c3_0) 39 5 ((((jrunS xr (fun y0 => jdigM y0)).2).2).2).length xs3_0, .blk b1 (.cells #[.int .i64 0, .int .i64 0, .int .i64 0, .string ⟨⟨([] : List UInt8)⟩⟩, .int .i64 0] 39)] gl9 W ∧ jnuml9 xr K k x4l9 x11l9) k ?_ ?_
  ·
    exact fun a W hA hW => ⟨g4, (Gext.refl w0 g4), 0, 0, hA.sub (by kernel_rfl), hW, hF⟩
  ·
    clear hF
    rintro k9 a W ⟨gl9, hxl9, x4l9, x11l9, hA, hW, hF⟩
    cases k9 with
    | zero => exact (hF : False).elim
    | succ k9 =>
      refine (?_ : Ok _ _ _ _ _ _) a W hA hW
      clear hA hW
      replace hR4 := hR4.mono hxl9.1
      replace hL3_0 := hL3_0.mono hxl9.1
      refine Ok.seq ?_
      refine Ok.region ?_
      refine Ok.batch 1 [(0, .pointer (some ⟨bxr, 0, none⟩)), (2, .pointer (some ⟨b1, 0, none⟩)), (4, .int .i64 x4l9), (9, .slice a4 (intsOf ((jrunS xr (fun y0 => jdigM y0)).1)).length c4), (10, .int .i64 ((intsOf ((jrunS xr (fun y0 => jdigM y0)).1)).length : Int)), (11, .int .i64 x11l9), (12, .bool (decide (x11l9 < ((intsOf ((jrunS xr (fun y0 => jdigM y0)).1)).length : Int))))] (by kernel_rfl) ?_
      refine Ok.nil ?_
      refine Ok.thenN ?_
      refine Ok.seq ?_
      refine Ok.cond (b := decide (x11l9 < ((intsOf ((jrunS xr (fun y0 => jdigM y0)).1)).length : Int))) rfl (fun hc5 => ?_) (fun hc5 => ?_)
      · replace hF := hF.1 hc5
        refine Ok.skip ?_
        refine Ok.thenN ?_
        refine Ok.seq ?_
        refine Ok.block ?_
        refine Ok.seq ?_
        refine Ok.region ?_
        obtain ⟨h07, h17, hF⟩ := hF
        have he7 := get_of (l := (intsOf ((jrunS xr (fun y0 => jdigM y0)).1))) (default : Int) h17
        generalize hg7 : ((intsOf ((jrunS xr (fun y0 => jdigM y0)).1)).getD (Int.toNat x11l9) default) = e7 at he7 hF ⊢
        refine Ok.op rfl (OpOk.indexRo (e := .int .u8) (i := x11l9) (el := e7) rfl rfl Tryd.underlying48 (by kernel_rfl) hR4 h07 he7 rfl fun q6 o6 cs6 _ hat6 hr6 => ?_)
        obtain rfl := hr6
        replace hat6 : At gl9 q6 o6 [.int .u8 e7] := hat6
        refine Ok.op rfl (OpOk.step (v := .int .u8 e7) (Yields.loadRo 0 hat6 (by kernel_rfl) Tryd.underlying5 rfl (by kernel_rfl)) rfl rfl ?_)
        refine Ok.batch 1 [(0, .pointer (some ⟨bxr, 0, none⟩)), (2, .pointer (some ⟨b1, 0, none⟩)), (4, .int .i64 x4l9), (6, .int .u8 e7), (9, .slice a4 (intsOf ((jrunS xr (fun y0 => jdigM y0)).1)).length c4), (10, .int .i64 ((intsOf ((jrunS xr (fun y0 => jdigM y0)).1)).length : Int)), (11, .int .i64 x11l9)] (by kernel_rfl) ?_
        refine Ok.nil ?_
        refine Ok.thenN ?_
        refine Ok.seq ?_
        refine Ok.region ?_
        refine Ok.batch 7 [(0, .pointer (some ⟨bxr, 0, none⟩)), (2, .pointer (some ⟨b1, 0, none⟩)), (4, .int .i64 (IntKind.wrap .i64 ((IntKind.wrap .i64 (10 * x4l9)) + (IntKind.wrap .i64 (IntKind.wrap .u8 (e7 - 48)))))), (9, .slice a4 (intsOf ((jrunS xr (fun y0 => jdigM y0)).1)).length c4), (10, .int .i64 ((intsOf ((jrunS xr (fun y0 => jdigM y0)).1)).length : Int)), (11, .int .i64 x11l9)] (by kernel_rfl) ?_
        refine Ok.nil ?_
        refine Ok.thenN ?_
        refine Ok.seq ?_
        refine Ok.region ?_
        refine Ok.batch 2 [(0, .pointer (some ⟨bxr, 0, none⟩)), (2, .pointer (some ⟨b1, 0, none⟩)), (4, .int .i64 (IntKind.wrap .i64 ((IntKind.wrap .i64 (10 * x4l9)) + (IntKind.wrap .i64 (IntKind.wrap .u8 (e7 - 48)))))), (9, .slice a4 (intsOf ((jrunS xr (fun y0 => jdigM y0)).1)).length c4), (10, .int .i64 ((intsOf ((jrunS xr (fun y0 => jdigM y0)).1)).length : Int)), (11, .int .i64 x11l9), (22, .bool (decide ((IntKind.wrap .i64 ((IntKind.wrap .i64 (10 * x4l9)) + (IntKind.wrap .i64 (IntKind.wrap .u8 (e7 - 48))))) > 9007199254740992)))] (by kernel_rfl) ?_
        refine Ok.nil ?_
        refine Ok.thenN ?_
        refine Ok.cond (b := decide ((IntKind.wrap .i64 ((IntKind.wrap .i64 (10 * x4l9)) + (IntKind.wrap .i64 (IntKind.wrap .u8 (e7 - 48))))) > 9007199254740992)) rfl (fun hc8 => ?_) (fun hc8 => ?_)
        · replace hF := hF.1 hc8
          refine Ok.seq ?_
          refine Ok.region ?_
          refine Ok.batch 1 [(2, .pointer (some ⟨b1, 0, none⟩)), (23, .agg #[.int .i64 0, .int .i64 0, .int .i64 0, .string ⟨⟨([] : List UInt8)⟩⟩, .int .i64 0])] (by kernel_rfl) ?_
          refine Ok.op rfl (OpOk.store (k := 5) (v := .agg #[.int .i64 0, .int .i64 0, .int .i64 0, .string ⟨⟨([] : List UInt8)⟩⟩, .int .i64 0]) (H' := [.blk bxr (.cells #[.string ⟨⟨((jrunS xr (fun y0 => jdigM y0)).2).1⟩⟩, .int .i64 ((((jrunS xr (fun y0 => jdigM y0)).2).2).1), .slice a3_0 ((((jrunS xr (fun y0 => jdigM y0)).2).2).2).length c3_0] 37), .own (.slice a3_0 ((((jrunS xr (fun y0 => jdigM y0)).2).2).2).length c3_0) 39 5 ((((jrunS xr (fun y0 => jdigM y0)).2).2).2).length xs3_0, .blk b1 (.cells #[.int .i64 0, .int .i64 0, .int .i64 0, .string ⟨⟨([] : List UInt8)⟩⟩, .int .i64 0] 39)]) 2 rfl rfl rfl (by kernel_rfl) (by kernel_rfl) (by kernel_rfl) (by kernel_rfl) (by kernel_rfl) ?_)
          refine Ok.batch 1 [(2, .pointer (some ⟨b1, 0, none⟩)), (3, .int .i64 2)] (by kernel_rfl) ?_
          refine Ok.nil ?_
          refine Ok.thenN ?_
          refine Ok.ret ?_
          refine Ok.blockR ?_
          refine Ok.thenR ?_
          refine Ok.thenR ?_
          refine Ok.blockR ?_
          refine Ok.thenR ?_
          exact Ok.resP (vs := [.agg #[.int .i64 0, .int .i64 0, .int .i64 0, .string ⟨⟨([] : List UInt8)⟩⟩, .int .i64 0], .int .i64 2]) [0, 1] [.blk bxr (.cells #[.string ⟨⟨((jrunS xr (fun y0 => jdigM y0)).2).1⟩⟩, .int .i64 ((((jrunS xr (fun y0 => jdigM y0)).2).2).1), .slice a3_0 ((((jrunS xr (fun y0 => jdigM y0)).2).2).2).length c3_0] 37), .own (.slice a3_0 ((((jrunS xr (fun y0 => jdigM y0)).2).2).2).length c3_0) 39 5 ((((jrunS xr (fun y0 => jdigM y0)).2).2).2).length xs3_0] (by decide) rfl (.inl rfl) rfl (.cons (.cellAgg 2 5 #[.int .i64 0, .int .i64 0, .int .i64 0, .string ⟨⟨([] : List UInt8)⟩⟩, .int .i64 0] rfl rfl Tryd.underlying39 rfl (by kernel_rfl) (by kernel_rfl) (by kernel_rfl)) (.cons (.tmp rfl) .nil)) ((hx3.trans hx4).trans hxl9) ⟨(0, 0, 0, ([] : List UInt8), 0), 2, (((jrunS xr (fun y0 => jdigM y0)).2).1, (((jrunS xr (fun y0 => jdigM y0)).2).2).1, (((jrunS xr (fun y0 => jdigM y0)).2).2).2), a3_0, c3_0, xs3_0, rfl, hL3_0, rfl, hF⟩
        · replace hF := hF.2 hc8
          refine Ok.skip ?_
          refine Ok.blockN ?_
          refine Ok.thenN ?_
          refine Ok.region ?_
          refine Ok.batch 2 [(0, .pointer (some ⟨bxr, 0, none⟩)), (2, .pointer (some ⟨b1, 0, none⟩)), (4, .int .i64 (IntKind.wrap .i64 ((IntKind.wrap .i64 (10 * x4l9)) + (IntKind.wrap .i64 (IntKind.wrap .u8 (e7 - 48)))))), (9, .slice a4 (intsOf ((jrunS xr (fun y0 => jdigM y0)).1)).length c4), (10, .int .i64 ((intsOf ((jrunS xr (fun y0 => jdigM y0)).1)).length : Int)), (11, .int .i64 (IntKind.wrap .i64 (x11l9 + 1)))] (by kernel_rfl) ?_
          refine Ok.nil ?_
          refine Ok.thenN ?_
          subst hg7
          exact fun a W hA hW => ⟨k9, Nat.lt_succ_self _, gl9, hxl9, IntKind.wrap .i64 ((IntKind.wrap .i64 (10 * x4l9)) + (IntKind.wrap .i64 (IntKind.wrap .u8 (((intsOf ((jrunS xr (fun y0 => jdigM y0)).1)).getD (Int.toNat x11l9) default) - 48)))), IntKind.wrap .i64 (x11l9 + 1), hA.sub (by kernel_rfl), hW, hF⟩
      · replace hF := hF.2 hc5
        refine Ok.exit ?_
        refine Ok.thenE ?_
        refine Ok.thenE ?_
        refine Ok.blockHit ?_
        refine Ok.thenN ?_
        refine Ok.seq ?_
        refine Ok.seq ?_
        refine Ok.region ?_
        refine Ok.batch 1 [(2, .pointer (some ⟨b1, 0, none⟩)), (4, .int .i64 x4l9), (25, .pointer (some ⟨bxr, 0, none⟩))] (by kernel_rfl) ?_
        obtain ⟨hp9, hF⟩ := hF
        refine Ok.op rfl (OpOk.callH [.blk bxr (.cells #[.string ⟨⟨((jrunS xr (fun y0 => jdigM y0)).2).1⟩⟩, .int .i64 ((((jrunS xr (fun y0 => jdigM y0)).2).2).1), .slice a3_0 ((((jrunS xr (fun y0 => jdigM y0)).2).2).2).length c3_0] 37), .own (.slice a3_0 ((((jrunS xr (fun y0 => jdigM y0)).2).2).2).length c3_0) 39 5 ((((jrunS xr (fun y0 => jdigM y0)).2).2).2).length xs3_0] [.blk b1 (.cells #[.int .i64 0, .int .i64 0, .int .i64 0, .string ⟨⟨([] : List UInt8)⟩⟩, .int .i64 0] 39)] (enters (by kernel_rfl) (fun _ => by kernel_rfl)) rfl (jpeek_c (((jrunS xr (fun y0 => jdigM y0)).2).1, (((jrunS xr (fun y0 => jdigM y0)).2).2).1, (((jrunS xr (fun y0 => jdigM y0)).2).2).2) 0 hL3_0 hp9) rfl fun g10 _ _ hx10 hV10 => ?_)
        obtain ⟨a10_0, c10_0, xs10_0, rfl, hL10_0, rfl⟩ := hV10
        refine Ok.op rfl (OpOk.callG (v := .bool (jletM ((jpeekS (((jrunS xr (fun y0 => jdigM y0)).2).1, (((jrunS xr (fun y0 => jdigM y0)).2).2).1, (((jrunS xr (fun y0 => jdigM y0)).2).2).2) 0).1))) (enters (by kernel_rfl) (fun _ => by kernel_rfl)) (fun W hW => jlet_c ((jpeekS (((jrunS xr (fun y0 => jdigM y0)).2).1, (((jrunS xr (fun y0 => jdigM y0)).2).2).1, (((jrunS xr (fun y0 => jdigM y0)).2).2).2) 0).1)) rfl ?_)
        refine Ok.nil ?_
        refine Ok.thenN ?_
        refine Ok.cond (b := (jletM ((jpeekS (((jrunS xr (fun y0 => jdigM y0)).2).1, (((jrunS xr (fun y0 => jdigM y0)).2).2).1, (((jrunS xr (fun y0 => jdigM y0)).2).2).2) 0).1))) rfl (fun hc11 => ?_) (fun hc11 => ?_)
        · replace hF := hF.1 hc11
          refine Ok.seq ?_
          refine Ok.region ?_
          refine Ok.batch 1 [(2, .pointer (some ⟨b1, 0, none⟩)), (28, .agg #[.int .i64 0, .int .i64 0, .int .i64 0, .string ⟨⟨([] : List UInt8)⟩⟩, .int .i64 0])] (by kernel_rfl) ?_
          refine Ok.op rfl (OpOk.store (k := 5) (v := .agg #[.int .i64 0, .int .i64 0, .int .i64 0, .string ⟨⟨([] : List UInt8)⟩⟩, .int .i64 0]) (H' := [.blk bxr (.cells #[.string ⟨⟨((jpeekS (((jrunS xr (fun y0 => jdigM y0)).2).1, (((jrunS xr (fun y0 => jdigM y0)).2).2).1, (((jrunS xr (fun y0 => jdigM y0)).2).2).2) 0).2).1⟩⟩, .int .i64 ((((jpeekS (((jrunS xr (fun y0 => jdigM y0)).2).1, (((jrunS xr (fun y0 => jdigM y0)).2).2).1, (((jrunS xr (fun y0 => jdigM y0)).2).2).2) 0).2).2).1), .slice a10_0 ((((jpeekS (((jrunS xr (fun y0 => jdigM y0)).2).1, (((jrunS xr (fun y0 => jdigM y0)).2).2).1, (((jrunS xr (fun y0 => jdigM y0)).2).2).2) 0).2).2).2).length c10_0] 37), .own (.slice a10_0 ((((jpeekS (((jrunS xr (fun y0 => jdigM y0)).2).1, (((jrunS xr (fun y0 => jdigM y0)).2).2).1, (((jrunS xr (fun y0 => jdigM y0)).2).2).2) 0).2).2).2).length c10_0) 39 5 ((((jpeekS (((jrunS xr (fun y0 => jdigM y0)).2).1, (((jrunS xr (fun y0 => jdigM y0)).2).2).1, (((jrunS xr (fun y0 => jdigM y0)).2).2).2) 0).2).2).2).length xs10_0, .blk b1 (.cells #[.int .i64 0, .int .i64 0, .int .i64 0, .string ⟨⟨([] : List UInt8)⟩⟩, .int .i64 0] 39)]) 2 rfl rfl rfl (by kernel_rfl) (by kernel_rfl) (by kernel_rfl) (by kernel_rfl) (by kernel_rfl) ?_)
          refine Ok.batch 1 [(2, .pointer (some ⟨b1, 0, none⟩)), (3, .int .i64 4)] (by kernel_rfl) ?_
          refine Ok.nil ?_
          refine Ok.thenN ?_
          refine Ok.ret ?_
          refine Ok.thenR ?_
          exact Ok.resP (vs := [.agg #[.int .i64 0, .int .i64 0, .int .i64 0, .string ⟨⟨([] : List UInt8)⟩⟩, .int .i64 0], .int .i64 4]) [0, 1] [.blk bxr (.cells #[.string ⟨⟨((jpeekS (((jrunS xr (fun y0 => jdigM y0)).2).1, (((jrunS xr (fun y0 => jdigM y0)).2).2).1, (((jrunS xr (fun y0 => jdigM y0)).2).2).2) 0).2).1⟩⟩, .int .i64 ((((jpeekS (((jrunS xr (fun y0 => jdigM y0)).2).1, (((jrunS xr (fun y0 => jdigM y0)).2).2).1, (((jrunS xr (fun y0 => jdigM y0)).2).2).2) 0).2).2).1), .slice a10_0 ((((jpeekS (((jrunS xr (fun y0 => jdigM y0)).2).1, (((jrunS xr (fun y0 => jdigM y0)).2).2).1, (((jrunS xr (fun y0 => jdigM y0)).2).2).2) 0).2).2).2).length c10_0] 37), .own (.slice a10_0 ((((jpeekS (((jrunS xr (fun y0 => jdigM y0)).2).1, (((jrunS xr (fun y0 => jdigM y0)).2).2).1, (((jrunS xr (fun y0 => jdigM y0)).2).2).2) 0).2).2).2).length c10_0) 39 5 ((((jpeekS (((jrunS xr (fun y0 => jdigM y0)).2).1, (((jrunS xr (fun y0 => jdigM y0)).2).2).1, (((jrunS xr (fun y0 => jdigM y0)).2).2).2) 0).2).2).2).length xs10_0] (by decide) rfl (.inl rfl) rfl (.cons (.cellAgg 2 5 #[.int .i64 0, .int .i64 0, .int .i64 0, .string ⟨⟨([] : List UInt8)⟩⟩, .int .i64 0] rfl rfl Tryd.underlying39 rfl (by kernel_rfl) (by kernel_rfl) (by kernel_rfl)) (.cons (.tmp rfl) .nil)) (((hx3.trans hx4).trans hxl9).trans hx10) ⟨(0, 0, 0, ([] : List UInt8), 0), 4, (((jpeekS (((jrunS xr (fun y0 => jdigM y0)).2).1, (((jrunS xr (fun y0 => jdigM y0)).2).2).1, (((jrunS xr (fun y0 => jdigM y0)).2).2).2) 0).2).1, (((jpeekS (((jrunS xr (fun y0 => jdigM y0)).2).1, (((jrunS xr (fun y0 => jdigM y0)).2).2).1, (((jrunS xr (fun y0 => jdigM y0)).2).2).2) 0).2).2).1, (((jpeekS (((jrunS xr (fun y0 => jdigM y0)).2).1, (((jrunS xr (fun y0 => jdigM y0)).2).2).1, (((jrunS xr (fun y0 => jdigM y0)).2).2).2) 0).2).2).2), a10_0, c10_0, xs10_0, rfl, hL10_0, rfl, hF⟩
        · replace hF := hF.2 hc11
          refine Ok.skip ?_
          refine Ok.thenN ?_
          refine Ok.seq ?_
          refine Ok.region ?_
          refine Ok.batch 2 [(2, .pointer (some ⟨b1, 0, none⟩)), (30, .agg #[.int .i64 2, .int .i64 0, .int .i64 0, .string ⟨⟨([] : List UInt8)⟩⟩, .int .i64 x4l9])] (by kernel_rfl) ?_
          refine Ok.op rfl (OpOk.store (k := 5) (v := .agg #[.int .i64 2, .int .i64 0, .int .i64 0, .string ⟨⟨([] : List UInt8)⟩⟩, .int .i64 x4l9]) (H' := [.blk bxr (.cells #[.string ⟨⟨((jpeekS (((jrunS xr (fun y0 => jdigM y0)).2).1, (((jrunS xr (fun y0 => jdigM y0)).2).2).1, (((jrunS xr (fun y0 => jdigM y0)).2).2).2) 0).2).1⟩⟩, .int .i64 ((((jpeekS (((jrunS xr (fun y0 => jdigM y0)).2).1, (((jrunS xr (fun y0 => jdigM y0)).2).2).1, (((jrunS xr (fun y0 => jdigM y0)).2).2).2) 0).2).2).1), .slice a10_0 ((((jpeekS (((jrunS xr (fun y0 => jdigM y0)).2).1, (((jrunS xr (fun y0 => jdigM y0)).2).2).1, (((jrunS xr (fun y0 => jdigM y0)).2).2).2) 0).2).2).2).length c10_0] 37), .own (.slice a10_0 ((((jpeekS (((jrunS xr (fun y0 => jdigM y0)).2).1, (((jrunS xr (fun y0 => jdigM y0)).2).2).1, (((jrunS xr (fun y0 => jdigM y0)).2).2).2) 0).2).2).2).length c10_0) 39 5 ((((jpeekS (((jrunS xr (fun y0 => jdigM y0)).2).1, (((jrunS xr (fun y0 => jdigM y0)).2).2).1, (((jrunS xr (fun y0 => jdigM y0)).2).2).2) 0).2).2).2).length xs10_0, .blk b1 (.cells #[.int .i64 2, .int .i64 0, .int .i64 0, .string ⟨⟨([] : List UInt8)⟩⟩, .int .i64 x4l9] 39)]) 2 rfl rfl rfl (by kernel_rfl) (by kernel_rfl) (by kernel_rfl) (by kernel_rfl) (by kernel_rfl) ?_)
          refine Ok.batch 1 [(2, .pointer (some ⟨b1, 0, none⟩)), (3, .int .i64 0)] (by kernel_rfl) ?_
          refine Ok.nil ?_
          refine Ok.thenN ?_
          refine Ok.ret ?_
          exact Ok.resP (vs := [.agg #[.int .i64 2, .int .i64 0, .int .i64 0, .string ⟨⟨([] : List UInt8)⟩⟩, .int .i64 x4l9], .int .i64 0]) [0, 1] [.blk bxr (.cells #[.string ⟨⟨((jpeekS (((jrunS xr (fun y0 => jdigM y0)).2).1, (((jrunS xr (fun y0 => jdigM y0)).2).2).1, (((jrunS xr (fun y0 => jdigM y0)).2).2).2) 0).2).1⟩⟩, .int .i64 ((((jpeekS (((jrunS xr (fun y0 => jdigM y0)).2).1, (((jrunS xr (fun y0 => jdigM y0)).2).2).1, (((jrunS xr (fun y0 => jdigM y0)).2).2).2) 0).2).2).1), .slice a10_0 ((((jpeekS (((jrunS xr (fun y0 => jdigM y0)).2).1, (((jrunS xr (fun y0 => jdigM y0)).2).2).1, (((jrunS xr (fun y0 => jdigM y0)).2).2).2) 0).2).2).2).length c10_0] 37), .own (.slice a10_0 ((((jpeekS (((jrunS xr (fun y0 => jdigM y0)).2).1, (((jrunS xr (fun y0 => jdigM y0)).2).2).1, (((jrunS xr (fun y0 => jdigM y0)).2).2).2) 0).2).2).2).length c10_0) 39 5 ((((jpeekS (((jrunS xr (fun y0 => jdigM y0)).2).1, (((jrunS xr (fun y0 => jdigM y0)).2).2).1, (((jrunS xr (fun y0 => jdigM y0)).2).2).2) 0).2).2).2).length xs10_0] (by decide) rfl (.inl rfl) rfl (.cons (.cellAgg 2 5 #[.int .i64 2, .int .i64 0, .int .i64 0, .string ⟨⟨([] : List UInt8)⟩⟩, .int .i64 x4l9] rfl rfl Tryd.underlying39 rfl (by kernel_rfl) (by kernel_rfl) (by kernel_rfl)) (.cons (.tmp rfl) .nil)) (((hx3.trans hx4).trans hxl9).trans hx10) ⟨(2, 0, 0, ([] : List UInt8), x4l9), 0, (((jpeekS (((jrunS xr (fun y0 => jdigM y0)).2).1, (((jrunS xr (fun y0 => jdigM y0)).2).2).1, (((jrunS xr (fun y0 => jdigM y0)).2).2).2) 0).2).1, (((jpeekS (((jrunS xr (fun y0 => jdigM y0)).2).1, (((jrunS xr (fun y0 => jdigM y0)).2).2).1, (((jrunS xr (fun y0 => jdigM y0)).2).2).2) 0).2).2).1, (((jpeekS (((jrunS xr (fun y0 => jdigM y0)).2).1, (((jrunS xr (fun y0 => jdigM y0)).2).2).1, (((jrunS xr (fun y0 => jdigM y0)).2).2).2) 0).2).2).2), a10_0, c10_0, xs10_0, rfl, hL10_0, rfl, hF⟩
def numV : List UInt8 → Int → Option Int
  | [], n => some n
  | c :: l, n => if decide (10 * n + ((c.toNat : Int) - 48) > 9007199254740992) = true then none else numV l (10 * n + ((c.toNat : Int) - 48))
def jnumS (x : RD) : TK × Int × RD :=
  match numV (jrunS x (fun y0 => jdigM y0)).1 0 with
  | none => ((0, 0, 0, [], 0), 2, (jrunS x (fun y0 => jdigM y0)).2)
  | some n => if jletM (jpeekS (jrunS x (fun y0 => jdigM y0)).2 0).1 = true then ((0, 0, 0, [], 0), 4, (jrunS x (fun y0 => jdigM y0)).2) else ((2, 0, 0, [], n), 0, (jrunS x (fun y0 => jdigM y0)).2)
theorem dig_in {c : Int} (h : jdigM c = true) : 48 ≤ c ∧ c ≤ 57 := by
  unfold jdigM at h
  simp only [Bool.and_eq_true, decide_eq_true_eq] at h
  omega
theorem u8_in (x : Int) (h : 0 ≤ x ∧ x ≤ 255) : IntKind.wrap .u8 x = x := IntWalk.u8_in x h
theorem jnum_F (x : RD) (hp : rdP x) : jnumF x (fun r r1 r2 => (r, r1, r2) = jnumS x) := by
  have hr := run_rd hp (fun y0 => jdigM y0)
  have hall : ∀ c ∈ (jrunS x (fun y0 => jdigM y0)).1, 48 ≤ (c.toNat : Int) ∧ (c.toNat : Int) ≤ 57 := fun c hc => by
    rw [run_take hp] at hc
    exact dig_in (run_all (fun y0 => jdigM y0) _ c hc)
  have hlen : (jrunS x (fun y0 => jdigM y0)).1.length ≤ 1000000 := by
    rw [run_take hp, List.length_take, List.length_drop]; have := hp.1; omega
  have e : jnumS x = (match numV (jrunS x (fun y0 => jdigM y0)).1 0 with
  | none => ((0, 0, 0, [], 0), 2, (jrunS x (fun y0 => jdigM y0)).2)
  | some n => if jletM (jpeekS (jrunS x (fun y0 => jdigM y0)).2 0).1 = true then ((0, 0, 0, [], 0), 4, (jrunS x (fun y0 => jdigM y0)).2) else ((2, 0, 0, [], n), 0, (jrunS x (fun y0 => jdigM y0)).2)) := rfl
  have hil : ∀ l : List UInt8, (intsOf l).length = l.length := fun l => by simp [intsOf]
  have hig : ∀ (l : List UInt8) (k : Nat), k < l.length → (intsOf l).getD k default = ((l.getD k 0).toNat : Int) := fun l k h => by
    simp [intsOf, List.getD_eq_getElem?_getD, h]
  have loop : ∀ (k i : Nat) (n : Int), i + k = (jrunS x (fun y0 => jdigM y0)).1.length → 0 ≤ n → n ≤ 9007199254740992 → numV (jrunS x (fun y0 => jdigM y0)).1 0 = numV ((jrunS x (fun y0 => jdigM y0)).1.drop i) n →
      jnuml9 x (fun r r1 r2 => (r, r1, r2) = jnumS x) (k + 1) n (i : Int) := by
    intro k
    induction k with
    | zero =>
      intro i n h h0 h1 h2
      rw [List.drop_of_length_le (by omega), numV] at h2
      rw [e, h2]
      have hc : decide ((i : Int) < ((intsOf (jrunS x (fun y0 => jdigM y0)).1).length : Int)) = false := decide_eq_false (by rw [hil]; omega)
      exact ⟨fun h => (Bool.false_ne_true (hc.symm.trans h)).elim, fun _ => ⟨⟨hr, by omega, by omega⟩, fun hj => (if_t hj).symm, fun hj => (if_f hj).symm⟩⟩
    | succ k ih =>
      intro i n h h0 h1 h2
      have hd := drop_get (l := (jrunS x (fun y0 => jdigM y0)).1) (k := i) 0 (by omega)
      have hb : 48 ≤ (((jrunS x (fun y0 => jdigM y0)).1.getD i 0).toNat : Int) ∧ (((jrunS x (fun y0 => jdigM y0)).1.getD i 0).toNat : Int) ≤ 57 := hall _ (List.mem_of_mem_drop (i := i) (by rw [hd]; exact List.mem_cons_self ..))
      rw [hd, numV] at h2
      have hv : (IntKind.wrap .i64 ((IntKind.wrap .i64 (10 * n)) + (IntKind.wrap .i64 (IntKind.wrap .u8 (((intsOf ((jrunS x (fun y0 => jdigM y0)).1)).getD (Int.toNat (i : Int)) default) - 48))))) = 10 * n + ((((jrunS x (fun y0 => jdigM y0)).1.getD i 0).toNat : Int) - 48) := by
        rw [Int.toNat_natCast, hig (jrunS x (fun y0 => jdigM y0)).1 i (by omega), u8_in _ (by omega), w64 (x := 10 * n) (by omega), w64 (x := (((jrunS x (fun y0 => jdigM y0)).1.getD i 0).toNat : Int) - 48) (by omega), w64 (by omega)]
      have hc : decide ((i : Int) < ((intsOf (jrunS x (fun y0 => jdigM y0)).1).length : Int)) = true := decide_eq_true (by rw [hil]; omega)
      refine ⟨fun _ => ⟨by omega, by rw [hil, Int.toNat_natCast]; omega, ?_⟩, fun h => (Bool.false_ne_true (h.symm.trans hc)).elim⟩
      rw [hv]
      refine ⟨fun hg => ?_, fun hg => ?_⟩
      · rw [if_t hg] at h2
        rw [e, h2]
      · rw [if_f hg] at h2
        rw [w64 (by omega)]
        have := of_decide_eq_false hg
        exact ih (i + 1) _ (by omega) (by omega) (by omega) h2
  exact ⟨⟨hp, fun _ => trivial⟩, by rw [maxLen_eq]; omega, _, loop (jrunS x (fun y0 => jdigM y0)).1.length 0 0 (by omega) (by omega) (by omega) rfl⟩
set_option linter.unusedVariables false in
theorem jnum_c {g : Ghost} {bxr : Nat} {axr_0 : Option Addr} {cxr_0 : Nat} {xsxr_0 : List Value} (xr : List UInt8 × Int × List (Int × Int × Int × List UInt8 × Int)) (hLxr_0 : RepL g (.pair (.int .i64) (.pair (.int .i64) (.pair (.int .i64) (.pair (.str) (.int .i64))))) xsxr_0 xr.2.2)  (hp : rdP xr) : CallsH Tryd.prog 33 #[.pointer (some ⟨bxr, 0, none⟩)] g [.blk bxr (.cells #[.string ⟨⟨xr.1⟩⟩, .int .i64 xr.2.1, .slice axr_0 xr.2.2.length cxr_0] 37), .own (.slice axr_0 xr.2.2.length cxr_0) 39 5 xr.2.2.length xsxr_0] (fun g' H' v => ∃ (afxr_0 : Option Addr) (cfxr_0 : Nat) (xsfxr_0 : List Value), v = .tuple #[.agg #[.int .i64 ((jnumS xr).1).1, .int .i64 ((jnumS xr).1).2.1, .int .i64 ((jnumS xr).1).2.2.1, .string ⟨⟨((jnumS xr).1).2.2.2.1⟩⟩, .int .i64 ((jnumS xr).1).2.2.2.2], .int .i64 ((jnumS xr).2.1)] ∧ RepL g' (.pair (.int .i64) (.pair (.int .i64) (.pair (.int .i64) (.pair (.str) (.int .i64))))) xsfxr_0 ((jnumS xr).2.2).2.2 ∧ H' = [.blk bxr (.cells #[.string ⟨⟨((jnumS xr).2.2).1⟩⟩, .int .i64 ((jnumS xr).2.2).2.1, .slice afxr_0 ((jnumS xr).2.2).2.2.length cfxr_0] 37), .own (.slice afxr_0 ((jnumS xr).2.2).2.2.length cfxr_0) 39 5 ((jnumS xr).2.2).2.2.length xsfxr_0]) :=
  (jnum_ok xr hLxr_0 _ (jnum_F xr hp)).mono (by rintro g' H' v _ ⟨r0, r1, fxr, afxr_0, cfxr_0, xsfxr_0, rfl, hLfxr_0, rfl, hK⟩; obtain ⟨rfl, rfl, rfl⟩ : r0 = (jnumS xr).1 ∧ r1 = (jnumS xr).2.1 ∧ fxr = (jnumS xr).2.2 := ⟨congrArg (fun z => z.1) hK, congrArg (fun z => z.2.1) hK, congrArg (fun z => z.2.2) hK⟩; exact ⟨afxr_0, cfxr_0, xsfxr_0, rfl, hLfxr_0, rfl⟩)
def jescj3 (xr : List UInt8 × Int × List (Int × Int × Int × List UInt8 × Int)) (K : Int → Int → (List UInt8 × Int × List (Int × Int × Int × List UInt8 × Int)) → Prop) : Prop :=
  K 0 0 ((if (((jpeekS xr 0).1) == 120) = true then ((jpeekS (((jpeekS (((jpeekS xr 0).2).1, (((jpeekS xr 0).2).2).1, (((jpeekS xr 0).2).2).2) 1).2).1, (((jpeekS (((jpeekS xr 0).2).1, (((jpeekS xr 0).2).2).1, (((jpeekS xr 0).2).2).2) 1).2).2).1, (((jpeekS (((jpeekS xr 0).2).1, (((jpeekS xr 0).2).2).1, (((jpeekS xr 0).2).2).2) 1).2).2).2) 2).2).1 else ((jpeekS xr 0).2).1), (if (((jpeekS xr 0).1) == 120) = true then (((jpeekS (((jpeekS (((jpeekS xr 0).2).1, (((jpeekS xr 0).2).2).1, (((jpeekS xr 0).2).2).2) 1).2).1, (((jpeekS (((jpeekS xr 0).2).1, (((jpeekS xr 0).2).2).1, (((jpeekS xr 0).2).2).2) 1).2).2).1, (((jpeekS (((jpeekS xr 0).2).1, (((jpeekS xr 0).2).2).1, (((jpeekS xr 0).2).2).2) 1).2).2).2) 2).2).2).1 else (((jpeekS xr 0).2).2).1), (if (((jpeekS xr 0).1) == 120) = true then (((jpeekS (((jpeekS (((jpeekS xr 0).2).1, (((jpeekS xr 0).2).2).1, (((jpeekS xr 0).2).2).2) 1).2).1, (((jpeekS (((jpeekS xr 0).2).1, (((jpeekS xr 0).2).2).1, (((jpeekS xr 0).2).2).2) 1).2).2).1, (((jpeekS (((jpeekS xr 0).2).1, (((jpeekS xr 0).2).2).1, (((jpeekS xr 0).2).2).2) 1).2).2).2) 2).2).2).2 else (((jpeekS xr 0).2).2).2))
def jescj9 (xr : List UInt8 × Int × List (Int × Int × Int × List UInt8 × Int)) (K : Int → Int → (List UInt8 × Int × List (Int × Int × Int × List UInt8 × Int)) → Prop) : Prop :=
  ((((((jpeekS xr 0).1) == 34) || (((jpeekS xr 0).1) == 92))) = true → K ((jpeekS xr 0).1) 1 (((jpeekS xr 0).2).1, (((jpeekS xr 0).2).2).1, (((jpeekS xr 0).2).2).2)) ∧ ((((((jpeekS xr 0).1) == 34) || (((jpeekS xr 0).1) == 92))) = false → (((((jpeekS xr 0).1) == 110)) = true → K 10 1 (((jpeekS xr 0).2).1, (((jpeekS xr 0).2).2).1, (((jpeekS xr 0).2).2).2)) ∧ (((((jpeekS xr 0).1) == 110)) = false → (((((jpeekS xr 0).1) == 116)) = true → K 9 1 (((jpeekS xr 0).2).1, (((jpeekS xr 0).2).2).1, (((jpeekS xr 0).2).2).2)) ∧ (((((jpeekS xr 0).1) == 116)) = false → (((((jpeekS xr 0).1) == 120)) = true → jpeekP (((jpeekS xr 0).2).1, (((jpeekS xr 0).2).2).1, (((jpeekS xr 0).2).2).2) 1 ∧ jpeekP (((jpeekS (((jpeekS xr 0).2).1, (((jpeekS xr 0).2).2).1, (((jpeekS xr 0).2).2).2) 1).2).1, (((jpeekS (((jpeekS xr 0).2).1, (((jpeekS xr 0).2).2).1, (((jpeekS xr 0).2).2).2) 1).2).2).1, (((jpeekS (((jpeekS xr 0).2).1, (((jpeekS xr 0).2).2).1, (((jpeekS xr 0).2).2).2) 1).2).2).2) 2 ∧ ((((decide ((jhexM ((jpeekS (((jpeekS xr 0).2).1, (((jpeekS xr 0).2).2).1, (((jpeekS xr 0).2).2).2) 1).1)) ≥ 0)) && (decide ((jhexM ((jpeekS (((jpeekS (((jpeekS xr 0).2).1, (((jpeekS xr 0).2).2).1, (((jpeekS xr 0).2).2).2) 1).2).1, (((jpeekS (((jpeekS xr 0).2).1, (((jpeekS xr 0).2).2).1, (((jpeekS xr 0).2).2).2) 1).2).2).1, (((jpeekS (((jpeekS xr 0).2).1, (((jpeekS xr 0).2).2).1, (((jpeekS xr 0).2).2).2) 1).2).2).2) 2).1)) ≥ 0)))) = true → K (IntKind.wrap .u8 (bitOr .i64 (IntKind.wrap .i64 ((jhexM ((jpeekS (((jpeekS xr 0).2).1, (((jpeekS xr 0).2).2).1, (((jpeekS xr 0).2).2).2) 1).1)) * 2 ^ 4)) (jhexM ((jpeekS (((jpeekS (((jpeekS xr 0).2).1, (((jpeekS xr 0).2).2).1, (((jpeekS xr 0).2).2).2) 1).2).1, (((jpeekS (((jpeekS xr 0).2).1, (((jpeekS xr 0).2).2).1, (((jpeekS xr 0).2).2).2) 1).2).2).1, (((jpeekS (((jpeekS xr 0).2).1, (((jpeekS xr 0).2).2).1, (((jpeekS xr 0).2).2).2) 1).2).2).2) 2).1)))) 3 (((jpeekS (((jpeekS (((jpeekS xr 0).2).1, (((jpeekS xr 0).2).2).1, (((jpeekS xr 0).2).2).2) 1).2).1, (((jpeekS (((jpeekS xr 0).2).1, (((jpeekS xr 0).2).2).1, (((jpeekS xr 0).2).2).2) 1).2).2).1, (((jpeekS (((jpeekS xr 0).2).1, (((jpeekS xr 0).2).2).1, (((jpeekS xr 0).2).2).2) 1).2).2).2) 2).2).1, (((jpeekS (((jpeekS (((jpeekS xr 0).2).1, (((jpeekS xr 0).2).2).1, (((jpeekS xr 0).2).2).2) 1).2).1, (((jpeekS (((jpeekS xr 0).2).1, (((jpeekS xr 0).2).2).1, (((jpeekS xr 0).2).2).2) 1).2).2).1, (((jpeekS (((jpeekS xr 0).2).1, (((jpeekS xr 0).2).2).1, (((jpeekS xr 0).2).2).2) 1).2).2).2) 2).2).2).1, (((jpeekS (((jpeekS (((jpeekS xr 0).2).1, (((jpeekS xr 0).2).2).1, (((jpeekS xr 0).2).2).2) 1).2).1, (((jpeekS (((jpeekS xr 0).2).1, (((jpeekS xr 0).2).2).1, (((jpeekS xr 0).2).2).2) 1).2).2).1, (((jpeekS (((jpeekS xr 0).2).1, (((jpeekS xr 0).2).2).1, (((jpeekS xr 0).2).2).2) 1).2).2).2) 2).2).2).2)) ∧ ((((decide ((jhexM ((jpeekS (((jpeekS xr 0).2).1, (((jpeekS xr 0).2).2).1, (((jpeekS xr 0).2).2).2) 1).1)) ≥ 0)) && (decide ((jhexM ((jpeekS (((jpeekS (((jpeekS xr 0).2).1, (((jpeekS xr 0).2).2).1, (((jpeekS xr 0).2).2).2) 1).2).1, (((jpeekS (((jpeekS xr 0).2).1, (((jpeekS xr 0).2).2).1, (((jpeekS xr 0).2).2).2) 1).2).2).1, (((jpeekS (((jpeekS xr 0).2).1, (((jpeekS xr 0).2).2).1, (((jpeekS xr 0).2).2).2) 1).2).2).2) 2).1)) ≥ 0)))) = false → jescj3 xr K)) ∧ (((((jpeekS xr 0).1) == 120)) = false → jescj3 xr K))))
def jescF (xr : List UInt8 × Int × List (Int × Int × Int × List UInt8 × Int)) (K : Int → Int → (List UInt8 × Int × List (Int × Int × Int × List UInt8 × Int)) → Prop) : Prop :=
  jpeekP xr 0 ∧ (((((jpeekS xr 0).1) == 34)) = true → jescj9 xr K) ∧ (((((jpeekS xr 0).1) == 34)) = false → jescj9 xr K)
set_option maxHeartbeats 4000000 in
set_option maxRecDepth 100000 in
set_option linter.unusedVariables false in
theorem jesc_ok {g : Ghost} {bxr : Nat} {axr_0 : Option Addr} {cxr_0 : Nat} {xsxr_0 : List Value} (xr : List UInt8 × Int × List (Int × Int × Int × List UInt8 × Int)) (hLxr_0 : RepL g (.pair (.int .i64) (.pair (.int .i64) (.pair (.int .i64) (.pair (.str) (.int .i64))))) xsxr_0 xr.2.2) (K : Int → Int → (List UInt8 × Int × List (Int × Int × Int × List UInt8 × Int)) → Prop)
    (hF : jescF xr K) : CallsH Tryd.prog 48 #[.pointer (some ⟨bxr, 0, none⟩)] g [.blk bxr (.cells #[.string ⟨⟨xr.1⟩⟩, .int .i64 xr.2.1, .slice axr_0 xr.2.2.length cxr_0] 37), .own (.slice axr_0 xr.2.2.length cxr_0) 39 5 xr.2.2.length xsxr_0] (fun g' H' v => ∃ (r0 : Int), ∃ (r1 : Int), ∃ (fxr : List UInt8 × Int × List (Int × Int × Int × List UInt8 × Int)), ∃ (afxr_0 : Option Addr) (cfxr_0 : Nat) (xsfxr_0 : List Value), v = .tuple #[.int .u8 r0, .int .i64 r1] ∧ RepL g' (.pair (.int .i64) (.pair (.int .i64) (.pair (.int .i64) (.pair (.str) (.int .i64))))) xsfxr_0 fxr.2.2 ∧ H' = [.blk bxr (.cells #[.string ⟨⟨fxr.1⟩⟩, .int .i64 fxr.2.1, .slice afxr_0 fxr.2.2.length cfxr_0] 37), .own (.slice afxr_0 fxr.2.2.length cfxr_0) 39 5 fxr.2.2.length xsfxr_0] ∧ K r0 r1 fxr) := by
  refine CallsH.enter 37 [(0, .pointer (some ⟨bxr, 0, none⟩))] Tryd.func48 rfl (by kernel_rfl) (by kernel_rfl) (by kernel_rfl) fun w0 => ?_
  refine Ok.seq ?_
  refine Ok.region ?_
  refine Ok.batch 2 [(0, .pointer (some ⟨bxr, 0, none⟩))] (by kernel_rfl) ?_
  refine Ok.nil ?_
  refine Ok.thenN ?_
  refine Ok.cut (fun a W => ∃ gj3 : Ghost, Gext w0 g gj3 ∧ ∃ (ayown_xr_2_0j3 : Option Addr) (cyown_xr_2_0j3 : Nat) (xsyown_xr_2_0j3 : List Value), RepL gj3 (.pair (.int .i64) (.pair (.int .i64) (.pair (.int .i64) (.pair (.str) (.int .i64))))) xsyown_xr_2_0j3 (if (((jpeekS xr 0).1) == 120) = true then (((jpeekS (((jpeekS (((jpeekS xr 0).2).1, (((jpeekS xr 0).2).2).1, (((jpeekS xr 0).2).2).2) 1).2).1, (((jpeekS (((jpeekS xr 0).2).1, (((jpeekS xr 0).2).2).1, (((jpeekS xr 0).2).2).2) 1).2).2).1, (((jpeekS (((jpeekS xr 0).2).1, (((jpeekS xr 0).2).2).1, (((jpeekS xr 0).2).2).2) 1).2).2).2) 2).2).2).2 else (((jpeekS xr 0).2).2).2) ∧ StA 37 [] a ∧ StW w0 [.blk bxr (.cells #[.string ⟨⟨(if (((jpeekS xr 0).1) == 120) = true then ((jpeekS (((jpeekS (((jpeekS xr 0).2).1, (((jpeekS xr 0).2).2).1, (((jpeekS xr 0).2).2).2) 1).2).1, (((jpeekS (((jpeekS xr 0).2).1, (((jpeekS xr 0).2).2).1, (((jpeekS xr 0).2).2).2) 1).2).2).1, (((jpeekS (((jpeekS xr 0).2).1, (((jpeekS xr 0).2).2).1, (((jpeekS xr 0).2).2).2) 1).2).2).2) 2).2).1 else ((jpeekS xr 0).2).1)⟩⟩, .int .i64 (if (((jpeekS xr 0).1) == 120) = true then (((jpeekS (((jpeekS (((jpeekS xr 0).2).1, (((jpeekS xr 0).2).2).1, (((jpeekS xr 0).2).2).2) 1).2).1, (((jpeekS (((jpeekS xr 0).2).1, (((jpeekS xr 0).2).2).1, (((jpeekS xr 0).2).2).2) 1).2).2).1, (((jpeekS (((jpeekS xr 0).2).1, (((jpeekS xr 0).2).2).1, (((jpeekS xr 0).2).2).2) 1).2).2).2) 2).2).2).1 else (((jpeekS xr 0).2).2).1), .slice ayown_xr_2_0j3 (if (((jpeekS xr 0).1) == 120) = true then (((jpeekS (((jpeekS (((jpeekS xr 0).2).1, (((jpeekS xr 0).2).2).1, (((jpeekS xr 0).2).2).2) 1).2).1, (((jpeekS (((jpeekS xr 0).2).1, (((jpeekS xr 0).2).2).1, (((jpeekS xr 0).2).2).2) 1).2).2).1, (((jpeekS (((jpeekS xr 0).2).1, (((jpeekS xr 0).2).2).1, (((jpeekS xr 0).2).2).2) 1).2).2).2) 2).2).2).2 else (((jpeekS xr 0).2).2).2).length cyown_xr_2_0j3] 37), .own (.slice ayown_xr_2_0j3 (if (((jpeekS xr 0).1) == 120) = true then (((jpeekS (((jpeekS (((jpeekS xr 0).2).1, (((jpeekS xr 0).2).2).1, (((jpeekS xr 0).2).2).2) 1).2).1, (((jpeekS (((jpeekS xr 0).2).1, (((jpeekS xr 0).2).2).1, (((jpeekS xr 0).2).2).2) 1).2).2).1, (((jpeekS (((jpeekS xr 0).2).1, (((jpeekS xr 0).2).2).1, (((jpeekS xr 0).2).2).2) 1).2).2).2) 2).2).2).2 else (((jpeekS xr 0).2).2).2).length cyown_xr_2_0j3) 39 5 (if (((jpeekS xr 0).1) == 120) = true then (((jpeekS (((jpeekS (((jpeekS xr 0).2).1, (((jpeekS xr 0).2).2).1, (((jpeekS xr 0).2).2).2) 1).2).1, (((jpeekS (((jpeekS xr 0).2).1, (((jpeekS xr 0).2).2).1, (((jpeekS xr 0).2).2).2) 1).2).2).1, (((jpeekS (((jpeekS xr 0).2).1, (((jpeekS xr 0).2).2).1, (((jpeekS xr 0).2).2).2) 1).2).2).2) 2).2).2).2 else (((jpeekS xr 0).2).2).2).length xsyown_xr_2_0j3] gj3 W ∧ jescj3 xr K) ?_ ?_
  ·
    refine Ok.seq ?_
    refine Ok.region ?_
    refine Ok.batch 1 [(0, .pointer (some ⟨bxr, 0, none⟩)), (7, .pointer (some ⟨bxr, 0, none⟩))] (by kernel_rfl) ?_
    obtain ⟨hp1, hF⟩ := hF
    refine Ok.op rfl (OpOk.callH [.blk bxr (.cells #[.string ⟨⟨xr.1⟩⟩, .int .i64 xr.2.1, .slice axr_0 xr.2.2.length cxr_0] 37), .own (.slice axr_0 xr.2.2.length cxr_0) 39 5 xr.2.2.length xsxr_0] [] (enters (by kernel_rfl) (fun _ => by kernel_rfl)) rfl (jpeek_c xr 0 hLxr_0 hp1) rfl fun g2 _ _ hx2 hV2 => ?_)
    obtain ⟨a2_0, c2_0, xs2_0, rfl, hL2_0, rfl⟩ := hV2
    refine Ok.batch 1 [(0, .pointer (some ⟨bxr, 0, none⟩)), (4, .int .u8 ((jpeekS xr 0).1))] (by kernel_rfl) ?_
    refine Ok.nil ?_
    refine Ok.thenN ?_
    refine Ok.seq ?_
    refine Ok.region ?_
    refine Ok.batch 1 [(0, .pointer (some ⟨bxr, 0, none⟩)), (4, .int .u8 ((jpeekS xr 0).1)), (9, .int .u8 ((jpeekS xr 0).1))] (by kernel_rfl) ?_
    refine Ok.nil ?_
    refine Ok.thenN ?_
    refine Ok.block ?_
    refine Ok.cut (fun a W => ∃ gj9 : Ghost, Gext w0 g2 gj9 ∧ StA 37 [(0, .pointer (some ⟨bxr, 0, none⟩)), (4, .int .u8 ((jpeekS xr 0).1)), (9, .int .u8 ((jpeekS xr 0).1)), (10, .bool ((((jpeekS xr 0).1) == 34) || (((jpeekS xr 0).1) == 92)))] a ∧ StW w0 [.blk bxr (.cells #[.string ⟨⟨((jpeekS xr 0).2).1⟩⟩, .int .i64 ((((jpeekS xr 0).2).2).1), .slice a2_0 ((((jpeekS xr 0).2).2).2).length c2_0] 37), .own (.slice a2_0 ((((jpeekS xr 0).2).2).2).length c2_0) 39 5 ((((jpeekS xr 0).2).2).2).length xs2_0] gj9 W ∧ jescj9 xr K) ?_ ?_
    ·
      refine Ok.seq ?_
      refine Ok.region ?_
      refine Ok.batch 2 [(0, .pointer (some ⟨bxr, 0, none⟩)), (4, .int .u8 ((jpeekS xr 0).1)), (9, .int .u8 ((jpeekS xr 0).1)), (10, .bool (((jpeekS xr 0).1) == 34))] (by kernel_rfl) ?_
      refine Ok.nil ?_
      refine Ok.thenN ?_
      refine Ok.cond (b := (((jpeekS xr 0).1) == 34)) rfl (fun hc14 => ?_) (fun hc14 => ?_)
      · replace hF := hF.1 hc14
        refine Ok.skip ?_
        refine Ok.thenN ?_
        refine Ok.reval 10 rfl (show (.bool (((jpeekS xr 0).1) == 34) : Value) = .bool ((((jpeekS xr 0).1) == 34) || (((jpeekS xr 0).1) == 92)) from congrArg (Value.bool) ((Eq.trans (hc14) (mor_t hc14)))) ?_
        exact fun a W hA hW => ⟨g2, (Gext.refl w0 g2), hA.sub (by kernel_rfl), hW, hF⟩
      · replace hF := hF.2 hc14
        refine Ok.region ?_
        refine Ok.batch 2 [(0, .pointer (some ⟨bxr, 0, none⟩)), (4, .int .u8 ((jpeekS xr 0).1)), (9, .int .u8 ((jpeekS xr 0).1)), (10, .bool (((jpeekS xr 0).1) == 92))] (by kernel_rfl) ?_
        refine Ok.nil ?_
        refine Ok.thenN ?_
        refine Ok.reval 10 rfl (show (.bool (((jpeekS xr 0).1) == 92) : Value) = .bool ((((jpeekS xr 0).1) == 34) || (((jpeekS xr 0).1) == 92)) from congrArg (Value.bool) (mor_f hc14)) ?_
        exact fun a W hA hW => ⟨g2, (Gext.refl w0 g2), hA.sub (by kernel_rfl), hW, hF⟩
    ·
      clear hF
      rintro a W ⟨gj9, hxj9, hA, hW, hF⟩
      refine (?_ : Ok _ _ _ _ _ _) a W hA hW
      clear hA hW
      replace hL2_0 := hL2_0.mono hxj9.1
      refine Ok.cond (b := ((((jpeekS xr 0).1) == 34) || (((jpeekS xr 0).1) == 92))) rfl (fun hc3 => ?_) (fun hc3 => ?_)
      · replace hF := hF.1 hc3
        refine Ok.seq ?_
        refine Ok.region ?_
        refine Ok.batch 3 [(2, .int .u8 ((jpeekS xr 0).1)), (3, .int .i64 1)] (by kernel_rfl) ?_
        refine Ok.nil ?_
        refine Ok.thenN ?_
        refine Ok.ret ?_
        refine Ok.blockR ?_
        refine Ok.thenR ?_
        exact Ok.resH (vs := [.int .u8 ((jpeekS xr 0).1), .int .i64 1]) (.inl rfl) rfl (.cons (.tmp rfl) (.cons (.tmp rfl) .nil)) (hx2.trans hxj9) ⟨((jpeekS xr 0).1), 1, (((jpeekS xr 0).2).1, (((jpeekS xr 0).2).2).1, (((jpeekS xr 0).2).2).2), a2_0, c2_0, xs2_0, rfl, hL2_0, rfl, hF⟩
      · replace hF := hF.2 hc3
        refine Ok.seq ?_
        refine Ok.region ?_
        refine Ok.batch 2 [(0, .pointer (some ⟨bxr, 0, none⟩)), (9, .int .u8 ((jpeekS xr 0).1)), (14, .bool (((jpeekS xr 0).1) == 110))] (by kernel_rfl) ?_
        refine Ok.nil ?_
        refine Ok.thenN ?_
        refine Ok.cond (b := (((jpeekS xr 0).1) == 110)) rfl (fun hc4 => ?_) (fun hc4 => ?_)
        · replace hF := hF.1 hc4
          refine Ok.seq ?_
          refine Ok.region ?_
          refine Ok.batch 2 [(2, .int .u8 10), (3, .int .i64 1)] (by kernel_rfl) ?_
          refine Ok.nil ?_
          refine Ok.thenN ?_
          refine Ok.ret ?_
          refine Ok.blockR ?_
          refine Ok.thenR ?_
          exact Ok.resH (vs := [.int .u8 10, .int .i64 1]) (.inl rfl) rfl (.cons (.tmp rfl) (.cons (.tmp rfl) .nil)) (hx2.trans hxj9) ⟨10, 1, (((jpeekS xr 0).2).1, (((jpeekS xr 0).2).2).1, (((jpeekS xr 0).2).2).2), a2_0, c2_0, xs2_0, rfl, hL2_0, rfl, hF⟩
        · replace hF := hF.2 hc4
          refine Ok.seq ?_
          refine Ok.region ?_
          refine Ok.batch 2 [(0, .pointer (some ⟨bxr, 0, none⟩)), (9, .int .u8 ((jpeekS xr 0).1)), (16, .bool (((jpeekS xr 0).1) == 116))] (by kernel_rfl) ?_
          refine Ok.nil ?_
          refine Ok.thenN ?_
          refine Ok.cond (b := (((jpeekS xr 0).1) == 116)) rfl (fun hc5 => ?_) (fun hc5 => ?_)
          · replace hF := hF.1 hc5
            refine Ok.seq ?_
            refine Ok.region ?_
            refine Ok.batch 2 [(2, .int .u8 9), (3, .int .i64 1)] (by kernel_rfl) ?_
            refine Ok.nil ?_
            refine Ok.thenN ?_
            refine Ok.ret ?_
            refine Ok.blockR ?_
            refine Ok.thenR ?_
            exact Ok.resH (vs := [.int .u8 9, .int .i64 1]) (.inl rfl) rfl (.cons (.tmp rfl) (.cons (.tmp rfl) .nil)) (hx2.trans hxj9) ⟨9, 1, (((jpeekS xr 0).2).1, (((jpeekS xr 0).2).2).1, (((jpeekS xr 0).2).2).2), a2_0, c2_0, xs2_0, rfl, hL2_0, rfl, hF⟩
          · replace hF := hF.2 hc5
            refine Ok.seq ?_
            refine Ok.region ?_
            refine Ok.batch 2 [(0, .pointer (some ⟨bxr, 0, none⟩)), (18, .bool (((jpeekS xr 0).1) == 120))] (by kernel_rfl) ?_
            refine Ok.nil ?_
            refine Ok.thenN ?_
            refine Ok.cond (b := (((jpeekS xr 0).1) == 120)) rfl (fun hc6 => ?_) (fun hc6 => ?_)
            · replace hF := hF.1 hc6
              refine Ok.seq ?_
              refine Ok.region ?_
              refine Ok.batch 1 [(0, .pointer (some ⟨bxr, 0, none⟩)), (20, .pointer (some ⟨bxr, 0, none⟩))] (by kernel_rfl) ?_
              obtain ⟨hp7, hF⟩ := hF
              refine Ok.op rfl (OpOk.callH [.blk bxr (.cells #[.string ⟨⟨((jpeekS xr 0).2).1⟩⟩, .int .i64 ((((jpeekS xr 0).2).2).1), .slice a2_0 ((((jpeekS xr 0).2).2).2).length c2_0] 37), .own (.slice a2_0 ((((jpeekS xr 0).2).2).2).length c2_0) 39 5 ((((jpeekS xr 0).2).2).2).length xs2_0] [] (enters (by kernel_rfl) (fun _ => by kernel_rfl)) rfl (jpeek_c (((jpeekS xr 0).2).1, (((jpeekS xr 0).2).2).1, (((jpeekS xr 0).2).2).2) 1 hL2_0 hp7) rfl fun g8 _ _ hx8 hV8 => ?_)
              obtain ⟨a8_0, c8_0, xs8_0, rfl, hL8_0, rfl⟩ := hV8
              refine Ok.op rfl (OpOk.callG (v := .int .i64 (jhexM ((jpeekS (((jpeekS xr 0).2).1, (((jpeekS xr 0).2).2).1, (((jpeekS xr 0).2).2).2) 1).1))) (enters (by kernel_rfl) (fun _ => by kernel_rfl)) (fun W hW => jhex_c ((jpeekS (((jpeekS xr 0).2).1, (((jpeekS xr 0).2).2).1, (((jpeekS xr 0).2).2).2) 1).1)) rfl ?_)
              refine Ok.batch 1 [(22, .int .i64 (jhexM ((jpeekS (((jpeekS xr 0).2).1, (((jpeekS xr 0).2).2).1, (((jpeekS xr 0).2).2).2) 1).1))), (23, .pointer (some ⟨bxr, 0, none⟩))] (by kernel_rfl) ?_
              obtain ⟨hp9, hF⟩ := hF
              refine Ok.op rfl (OpOk.callH [.blk bxr (.cells #[.string ⟨⟨((jpeekS (((jpeekS xr 0).2).1, (((jpeekS xr 0).2).2).1, (((jpeekS xr 0).2).2).2) 1).2).1⟩⟩, .int .i64 ((((jpeekS (((jpeekS xr 0).2).1, (((jpeekS xr 0).2).2).1, (((jpeekS xr 0).2).2).2) 1).2).2).1), .slice a8_0 ((((jpeekS (((jpeekS xr 0).2).1, (((jpeekS xr 0).2).2).1, (((jpeekS xr 0).2).2).2) 1).2).2).2).length c8_0] 37), .own (.slice a8_0 ((((jpeekS (((jpeekS xr 0).2).1, (((jpeekS xr 0).2).2).1, (((jpeekS xr 0).2).2).2) 1).2).2).2).length c8_0) 39 5 ((((jpeekS (((jpeekS xr 0).2).1, (((jpeekS xr 0).2).2).1, (((jpeekS xr 0).2).2).2) 1).2).2).2).length xs8_0] [] (enters (by kernel_rfl) (fun _ => by kernel_rfl)) rfl (jpeek_c (((jpeekS (((jpeekS xr 0).2).1, (((jpeekS xr 0).2).2).1, (((jpeekS xr 0).2).2).2) 1).2).1, (((jpeekS (((jpeekS xr 0).2).1, (((jpeekS xr 0).2).2).1, (((jpeekS xr 0).2).2).2) 1).2).2).1, (((jpeekS (((jpeekS xr 0).2).1, (((jpeekS xr 0).2).2).1, (((jpeekS xr 0).2).2).2) 1).2).2).2) 2 hL8_0 hp9) rfl fun g10 _ _ hx10 hV10 => ?_)
              obtain ⟨a10_0, c10_0, xs10_0, rfl, hL10_0, rfl⟩ := hV10
              refine Ok.op rfl (OpOk.callG (v := .int .i64 (jhexM ((jpeekS (((jpeekS (((jpeekS xr 0).2).1, (((jpeekS xr 0).2).2).1, (((jpeekS xr 0).2).2).2) 1).2).1, (((jpeekS (((jpeekS xr 0).2).1, (((jpeekS xr 0).2).2).1, (((jpeekS xr 0).2).2).2) 1).2).2).1, (((jpeekS (((jpeekS xr 0).2).1, (((jpeekS xr 0).2).2).1, (((jpeekS xr 0).2).2).2) 1).2).2).2) 2).1))) (enters (by kernel_rfl) (fun _ => by kernel_rfl)) (fun W hW => jhex_c ((jpeekS (((jpeekS (((jpeekS xr 0).2).1, (((jpeekS xr 0).2).2).1, (((jpeekS xr 0).2).2).2) 1).2).1, (((jpeekS (((jpeekS xr 0).2).1, (((jpeekS xr 0).2).2).1, (((jpeekS xr 0).2).2).2) 1).2).2).1, (((jpeekS (((jpeekS xr 0).2).1, (((jpeekS xr 0).2).2).1, (((jpeekS xr 0).2).2).2) 1).2).2).2) 2).1)) rfl ?_)
              refine Ok.batch 2 [(5, .int .i64 (jhexM ((jpeekS (((jpeekS xr 0).2).1, (((jpeekS xr 0).2).2).1, (((jpeekS xr 0).2).2).2) 1).1))), (6, .int .i64 (jhexM ((jpeekS (((jpeekS (((jpeekS xr 0).2).1, (((jpeekS xr 0).2).2).1, (((jpeekS xr 0).2).2).2) 1).2).1, (((jpeekS (((jpeekS xr 0).2).1, (((jpeekS xr 0).2).2).1, (((jpeekS xr 0).2).2).2) 1).2).2).1, (((jpeekS (((jpeekS xr 0).2).1, (((jpeekS xr 0).2).2).1, (((jpeekS xr 0).2).2).2) 1).2).2).2) 2).1)))] (by kernel_rfl) ?_
              refine Ok.nil ?_
              refine Ok.thenN ?_
              refine Ok.seq ?_
              refine Ok.region ?_
              refine Ok.batch 3 [(5, .int .i64 (jhexM ((jpeekS (((jpeekS xr 0).2).1, (((jpeekS xr 0).2).2).1, (((jpeekS xr 0).2).2).2) 1).1))), (6, .int .i64 (jhexM ((jpeekS (((jpeekS (((jpeekS xr 0).2).1, (((jpeekS xr 0).2).2).1, (((jpeekS xr 0).2).2).2) 1).2).1, (((jpeekS (((jpeekS xr 0).2).1, (((jpeekS xr 0).2).2).1, (((jpeekS xr 0).2).2).2) 1).2).2).1, (((jpeekS (((jpeekS xr 0).2).1, (((jpeekS xr 0).2).2).1, (((jpeekS xr 0).2).2).2) 1).2).2).2) 2).1))), (28, .bool (decide ((jhexM ((jpeekS (((jpeekS xr 0).2).1, (((jpeekS xr 0).2).2).1, (((jpeekS xr 0).2).2).2) 1).1)) ≥ 0)))] (by kernel_rfl) ?_
              refine Ok.midway 3 [(5, .int .i64 (jhexM ((jpeekS (((jpeekS xr 0).2).1, (((jpeekS xr 0).2).2).1, (((jpeekS xr 0).2).2).2) 1).1))), (6, .int .i64 (jhexM ((jpeekS (((jpeekS (((jpeekS xr 0).2).1, (((jpeekS xr 0).2).2).1, (((jpeekS xr 0).2).2).2) 1).2).1, (((jpeekS (((jpeekS xr 0).2).1, (((jpeekS xr 0).2).2).1, (((jpeekS xr 0).2).2).2) 1).2).2).1, (((jpeekS (((jpeekS xr 0).2).1, (((jpeekS xr 0).2).2).1, (((jpeekS xr 0).2).2).2) 1).2).2).2) 2).1))), (31, .bool ((decide ((jhexM ((jpeekS (((jpeekS xr 0).2).1, (((jpeekS xr 0).2).2).1, (((jpeekS xr 0).2).2).2) 1).1)) ≥ 0)) && (decide ((jhexM ((jpeekS (((jpeekS (((jpeekS xr 0).2).1, (((jpeekS xr 0).2).2).1, (((jpeekS xr 0).2).2).2) 1).2).1, (((jpeekS (((jpeekS xr 0).2).1, (((jpeekS xr 0).2).2).1, (((jpeekS xr 0).2).2).2) 1).2).2).1, (((jpeekS (((jpeekS xr 0).2).1, (((jpeekS xr 0).2).2).1, (((jpeekS xr 0).2).2).2) 1).2).2).2) 2).1)) ≥ 0))))] (fun hR11 => ?_) ?_
              · refine Ok.boolAt 28 (decide ((jhexM ((jpeekS (((jpeekS xr 0).2).1, (((jpeekS xr 0).2).2).1, (((jpeekS xr 0).2).2).2) 1).1)) ≥ 0)) rfl (fun hc12 => ?_) (fun hc12 => ?_)
                · skip
                  refine Ok.batch 3 [(5, .int .i64 (jhexM ((jpeekS (((jpeekS xr 0).2).1, (((jpeekS xr 0).2).2).1, (((jpeekS xr 0).2).2).2) 1).1))), (6, .int .i64 (jhexM ((jpeekS (((jpeekS (((jpeekS xr 0).2).1, (((jpeekS xr 0).2).2).1, (((jpeekS xr 0).2).2).2) 1).2).1, (((jpeekS (((jpeekS xr 0).2).1, (((jpeekS xr 0).2).2).1, (((jpeekS xr 0).2).2).2) 1).2).2).1, (((jpeekS (((jpeekS xr 0).2).1, (((jpeekS xr 0).2).2).1, (((jpeekS xr 0).2).2).2) 1).2).2).2) 2).1))), (31, .bool (decide ((jhexM ((jpeekS (((jpeekS (((jpeekS xr 0).2).1, (((jpeekS xr 0).2).2).1, (((jpeekS xr 0).2).2).2) 1).2).1, (((jpeekS (((jpeekS xr 0).2).1, (((jpeekS xr 0).2).2).1, (((jpeekS xr 0).2).2).2) 1).2).2).1, (((jpeekS (((jpeekS xr 0).2).1, (((jpeekS xr 0).2).2).1, (((jpeekS xr 0).2).2).2) 1).2).2).2) 2).1)) ≥ 0)))] (by kernel_rfl) ?_
                  refine Ok.reval 31 rfl (show (.bool (decide ((jhexM ((jpeekS (((jpeekS (((jpeekS xr 0).2).1, (((jpeekS xr 0).2).2).1, (((jpeekS xr 0).2).2).2) 1).2).1, (((jpeekS (((jpeekS xr 0).2).1, (((jpeekS xr 0).2).2).1, (((jpeekS xr 0).2).2).2) 1).2).2).1, (((jpeekS (((jpeekS xr 0).2).1, (((jpeekS xr 0).2).2).1, (((jpeekS xr 0).2).2).2) 1).2).2).2) 2).1)) ≥ 0)) : Value) = .bool ((decide ((jhexM ((jpeekS (((jpeekS xr 0).2).1, (((jpeekS xr 0).2).2).1, (((jpeekS xr 0).2).2).2) 1).1)) ≥ 0)) && (decide ((jhexM ((jpeekS (((jpeekS (((jpeekS xr 0).2).1, (((jpeekS xr 0).2).2).1, (((jpeekS xr 0).2).2).2) 1).2).1, (((jpeekS (((jpeekS xr 0).2).1, (((jpeekS xr 0).2).2).1, (((jpeekS xr 0).2).2).2) 1).2).2).1, (((jpeekS (((jpeekS xr 0).2).1, (((jpeekS xr 0).2).2).1, (((jpeekS xr 0).2).2).2) 1).2).2).2) 2).1)) ≥ 0))) from congrArg Value.bool (mand_t hc12)) ?_
                  refine Ok.batch 0 [(5, .int .i64 (jhexM ((jpeekS (((jpeekS xr 0).2).1, (((jpeekS xr 0).2).2).1, (((jpeekS xr 0).2).2).2) 1).1))), (6, .int .i64 (jhexM ((jpeekS (((jpeekS (((jpeekS xr 0).2).1, (((jpeekS xr 0).2).2).1, (((jpeekS xr 0).2).2).2) 1).2).1, (((jpeekS (((jpeekS xr 0).2).1, (((jpeekS xr 0).2).2).1, (((jpeekS xr 0).2).2).2) 1).2).2).1, (((jpeekS (((jpeekS xr 0).2).1, (((jpeekS xr 0).2).2).1, (((jpeekS xr 0).2).2).2) 1).2).2).2) 2).1))), (31, .bool ((decide ((jhexM ((jpeekS (((jpeekS xr 0).2).1, (((jpeekS xr 0).2).2).1, (((jpeekS xr 0).2).2).2) 1).1)) ≥ 0)) && (decide ((jhexM ((jpeekS (((jpeekS (((jpeekS xr 0).2).1, (((jpeekS xr 0).2).2).1, (((jpeekS xr 0).2).2).2) 1).2).1, (((jpeekS (((jpeekS xr 0).2).1, (((jpeekS xr 0).2).2).1, (((jpeekS xr 0).2).2).2) 1).2).2).1, (((jpeekS (((jpeekS xr 0).2).1, (((jpeekS xr 0).2).2).1, (((jpeekS xr 0).2).2).2) 1).2).2).2) 2).1)) ≥ 0))))] (by kernel_rfl) ?_
                  exact hR11
                · skip
                  refine Ok.batch 3 [(5, .int .i64 (jhexM ((jpeekS (((jpeekS xr 0).2).1, (((jpeekS xr 0).2).2).1, (((jpeekS xr 0).2).2).2) 1).1))), (6, .int .i64 (jhexM ((jpeekS (((jpeekS (((jpeekS xr 0).2).1, (((jpeekS xr 0).2).2).1, (((jpeekS xr 0).2).2).2) 1).2).1, (((jpeekS (((jpeekS xr 0).2).1, (((jpeekS xr 0).2).2).1, (((jpeekS xr 0).2).2).2) 1).2).2).1, (((jpeekS (((jpeekS xr 0).2).1, (((jpeekS xr 0).2).2).1, (((jpeekS xr 0).2).2).2) 1).2).2).2) 2).1))), (31, .bool false)] (by kernel_rfl) ?_
                  refine Ok.reval 31 rfl (show (.bool false : Value) = .bool ((decide ((jhexM ((jpeekS (((jpeekS xr 0).2).1, (((jpeekS xr 0).2).2).1, (((jpeekS xr 0).2).2).2) 1).1)) ≥ 0)) && (decide ((jhexM ((jpeekS (((jpeekS (((jpeekS xr 0).2).1, (((jpeekS xr 0).2).2).1, (((jpeekS xr 0).2).2).2) 1).2).1, (((jpeekS (((jpeekS xr 0).2).1, (((jpeekS xr 0).2).2).1, (((jpeekS xr 0).2).2).2) 1).2).2).1, (((jpeekS (((jpeekS xr 0).2).1, (((jpeekS xr 0).2).2).1, (((jpeekS xr 0).2).2).2) 1).2).2).2) 2).1)) ≥ 0))) from congrArg Value.bool (mand_f hc12)) ?_
                  refine Ok.batch 0 [(5, .int .i64 (jhexM ((jpeekS (((jpeekS xr 0).2).1, (((jpeekS xr 0).2).2).1, (((jpeekS xr 0).2).2).2) 1).1))), (6, .int .i64 (jhexM ((jpeekS (((jpeekS (((jpeekS xr 0).2).1, (((jpeekS xr 0).2).2).1, (((jpeekS xr 0).2).2).2) 1).2).1, (((jpeekS (((jpeekS xr 0).2).1, (((jpeekS xr 0).2).2).1, (((jpeekS xr 0).2).2).2) 1).2).2).1, (((jpeekS (((jpeekS xr 0).2).1, (((jpeekS xr 0).2).2).1, (((jpeekS xr 0).2).2).2) 1).2).2).2) 2).1))), (31, .bool ((decide ((jhexM ((jpeekS (((jpeekS xr 0).2).1, (((jpeekS xr 0).2).2).1, (((jpeekS xr 0).2).2).2) 1).1)) ≥ 0)) && (decide ((jhexM ((jpeekS (((jpeekS (((jpeekS xr 0).2).1, (((jpeekS xr 0).2).2).1, (((jpeekS xr 0).2).2).2) 1).2).1, (((jpeekS (((jpeekS xr 0).2).1, (((jpeekS xr 0).2).2).1, (((jpeekS xr 0).2).2).2) 1).2).2).1, (((jpeekS (((jpeekS xr 0).2).1, (((jpeekS xr 0).2).2).1, (((jpeekS xr 0).2).2).2) 1).2).2).2) 2).1)) ≥ 0))))] (by kernel_rfl) ?_
                  exact hR11
              refine Ok.nil ?_
              refine Ok.thenN ?_
              refine Ok.cond (b := ((decide ((jhexM ((jpeekS (((jpeekS xr 0).2).1, (((jpeekS xr 0).2).2).1, (((jpeekS xr 0).2).2).2) 1).1)) ≥ 0)) && (decide ((jhexM ((jpeekS (((jpeekS (((jpeekS xr 0).2).1, (((jpeekS xr 0).2).2).1, (((jpeekS xr 0).2).2).2) 1).2).1, (((jpeekS (((jpeekS xr 0).2).1, (((jpeekS xr 0).2).2).1, (((jpeekS xr 0).2).2).2) 1).2).2).1, (((jpeekS (((jpeekS xr 0).2).1, (((jpeekS xr 0).2).2).1, (((jpeekS xr 0).2).2).2) 1).2).2).2) 2).1)) ≥ 0)))) rfl (fun hc13 => ?_) (fun hc13 => ?_)
              · replace hF := hF.1 hc13
                refine Ok.seq ?_
                refine Ok.region ?_
                refine Ok.batch 7 [(2, .int .u8 (IntKind.wrap .u8 (bitOr .i64 (IntKind.wrap .i64 ((jhexM ((jpeekS (((jpeekS xr 0).2).1, (((jpeekS xr 0).2).2).1, (((jpeekS xr 0).2).2).2) 1).1)) * 2 ^ 4)) (jhexM ((jpeekS (((jpeekS (((jpeekS xr 0).2).1, (((jpeekS xr 0).2).2).1, (((jpeekS xr 0).2).2).2) 1).2).1, (((jpeekS (((jpeekS xr 0).2).1, (((jpeekS xr 0).2).2).1, (((jpeekS xr 0).2).2).2) 1).2).2).1, (((jpeekS (((jpeekS xr 0).2).1, (((jpeekS xr 0).2).2).1, (((jpeekS xr 0).2).2).2) 1).2).2).2) 2).1))))), (3, .int .i64 3)] (by kernel_rfl) ?_
                refine Ok.nil ?_
                refine Ok.thenN ?_
                refine Ok.ret ?_
                refine Ok.blockR ?_
                refine Ok.thenR ?_
                exact Ok.resH (vs := [.int .u8 (IntKind.wrap .u8 (bitOr .i64 (IntKind.wrap .i64 ((jhexM ((jpeekS (((jpeekS xr 0).2).1, (((jpeekS xr 0).2).2).1, (((jpeekS xr 0).2).2).2) 1).1)) * 2 ^ 4)) (jhexM ((jpeekS (((jpeekS (((jpeekS xr 0).2).1, (((jpeekS xr 0).2).2).1, (((jpeekS xr 0).2).2).2) 1).2).1, (((jpeekS (((jpeekS xr 0).2).1, (((jpeekS xr 0).2).2).1, (((jpeekS xr 0).2).2).2) 1).2).2).1, (((jpeekS (((jpeekS xr 0).2).1, (((jpeekS xr 0).2).2).1, (((jpeekS xr 0).2).2).2) 1).2).2).2) 2).1)))), .int .i64 3]) (.inl rfl) rfl (.cons (.tmp rfl) (.cons (.tmp rfl) .nil)) (((hx2.trans hxj9).trans hx8).trans hx10) ⟨(IntKind.wrap .u8 (bitOr .i64 (IntKind.wrap .i64 ((jhexM ((jpeekS (((jpeekS xr 0).2).1, (((jpeekS xr 0).2).2).1, (((jpeekS xr 0).2).2).2) 1).1)) * 2 ^ 4)) (jhexM ((jpeekS (((jpeekS (((jpeekS xr 0).2).1, (((jpeekS xr 0).2).2).1, (((jpeekS xr 0).2).2).2) 1).2).1, (((jpeekS (((jpeekS xr 0).2).1, (((jpeekS xr 0).2).2).1, (((jpeekS xr 0).2).2).2) 1).2).2).1, (((jpeekS (((jpeekS xr 0).2).1, (((jpeekS xr 0).2).2).1, (((jpeekS xr 0).2).2).2) 1).2).2).2) 2).1)))), 3, (((jpeekS (((jpeekS (((jpeekS xr 0).2).1, (((jpeekS xr 0).2).2).1, (((jpeekS xr 0).2).2).2) 1).2).1, (((jpeekS (((jpeekS xr 0).2).1, (((jpeekS xr 0).2).2).1, (((jpeekS xr 0).2).2).2) 1).2).2).1, (((jpeekS (((jpeekS xr 0).2).1, (((jpeekS xr 0).2).2).1, (((jpeekS xr 0).2).2).2) 1).2).2).2) 2).2).1, (((jpeekS (((jpeekS (((jpeekS xr 0).2).1, (((jpeekS xr 0).2).2).1, (((jpeekS xr 0).2).2).2) 1).2).1, (((jpeekS (((jpeekS xr 0).2).1, (((jpeekS xr 0).2).2).1, (((jpeekS xr 0).2).2).2) 1).2).2).1, (((jpeekS (((jpeekS xr 0).2).1, (((jpeekS xr 0).2).2).1, (((jpeekS xr 0).2).2).2) 1).2).2).2) 2).2).2).1, (((jpeekS (((jpeekS (((jpeekS xr 0).2).1, (((jpeekS xr 0).2).2).1, (((jpeekS xr 0).2).2).2) 1).2).1, (((jpeekS (((jpeekS xr 0).2).1, (((jpeekS xr 0).2).2).1, (((jpeekS xr 0).2).2).2) 1).2).2).1, (((jpeekS (((jpeekS xr 0).2).1, (((jpeekS xr 0).2).2).1, (((jpeekS xr 0).2).2).2) 1).2).2).2) 2).2).2).2), a10_0, c10_0, xs10_0, rfl, hL10_0, rfl, hF⟩
              · replace hF := hF.2 hc13
                refine Ok.skip ?_
                refine Ok.blockN ?_
                refine Ok.thenN ?_
                refine Ok.heapEq (H' := [.blk bxr (.cells #[.string ⟨⟨(if (((jpeekS xr 0).1) == 120) = true then ((jpeekS (((jpeekS (((jpeekS xr 0).2).1, (((jpeekS xr 0).2).2).1, (((jpeekS xr 0).2).2).2) 1).2).1, (((jpeekS (((jpeekS xr 0).2).1, (((jpeekS xr 0).2).2).1, (((jpeekS xr 0).2).2).2) 1).2).2).1, (((jpeekS (((jpeekS xr 0).2).1, (((jpeekS xr 0).2).2).1, (((jpeekS xr 0).2).2).2) 1).2).2).2) 2).2).1 else ((jpeekS xr 0).2).1)⟩⟩, .int .i64 (if (((jpeekS xr 0).1) == 120) = true then (((jpeekS (((jpeekS (((jpeekS xr 0).2).1, (((jpeekS xr 0).2).2).1, (((jpeekS xr 0).2).2).2) 1).2).1, (((jpeekS (((jpeekS xr 0).2).1, (((jpeekS xr 0).2).2).1, (((jpeekS xr 0).2).2).2) 1).2).2).1, (((jpeekS (((jpeekS xr 0).2).1, (((jpeekS xr 0).2).2).1, (((jpeekS xr 0).2).2).2) 1).2).2).2) 2).2).2).1 else (((jpeekS xr 0).2).2).1), .slice a10_0 (if (((jpeekS xr 0).1) == 120) = true then (((jpeekS (((jpeekS (((jpeekS xr 0).2).1, (((jpeekS xr 0).2).2).1, (((jpeekS xr 0).2).2).2) 1).2).1, (((jpeekS (((jpeekS xr 0).2).1, (((jpeekS xr 0).2).2).1, (((jpeekS xr 0).2).2).2) 1).2).2).1, (((jpeekS (((jpeekS xr 0).2).1, (((jpeekS xr 0).2).2).1, (((jpeekS xr 0).2).2).2) 1).2).2).2) 2).2).2).2 else (((jpeekS xr 0).2).2).2).length c10_0] 37), .own (.slice a10_0 (if (((jpeekS xr 0).1) == 120) = true then (((jpeekS (((jpeekS (((jpeekS xr 0).2).1, (((jpeekS xr 0).2).2).1, (((jpeekS xr 0).2).2).2) 1).2).1, (((jpeekS (((jpeekS xr 0).2).1, (((jpeekS xr 0).2).2).1, (((jpeekS xr 0).2).2).2) 1).2).2).1, (((jpeekS (((jpeekS xr 0).2).1, (((jpeekS xr 0).2).2).1, (((jpeekS xr 0).2).2).2) 1).2).2).2) 2).2).2).2 else (((jpeekS xr 0).2).2).2).length c10_0) 39 5 (if (((jpeekS xr 0).1) == 120) = true then (((jpeekS (((jpeekS (((jpeekS xr 0).2).1, (((jpeekS xr 0).2).2).1, (((jpeekS xr 0).2).2).2) 1).2).1, (((jpeekS (((jpeekS xr 0).2).1, (((jpeekS xr 0).2).2).1, (((jpeekS xr 0).2).2).2) 1).2).2).1, (((jpeekS (((jpeekS xr 0).2).1, (((jpeekS xr 0).2).2).1, (((jpeekS xr 0).2).2).2) 1).2).2).2) 2).2).2).2 else (((jpeekS xr 0).2).2).2).length xs10_0]) (econs (congrArg (fun l : List Value => Ent.blk bxr (.cells ⟨l⟩ 37)) (lcons (congrArg ((fun s : List UInt8 => Value.string ⟨⟨s⟩⟩)) ((if_t hc6).symm)) (lcons (congrArg (Value.int .i64) ((if_t hc6).symm)) (lcons (congrArg (fun l : List (Int × Int × Int × List UInt8 × Int) => Value.slice a10_0 l.length c10_0) ((if_t hc6).symm)) rfl)))) (econs (congrArg (fun l : List (Int × Int × Int × List UInt8 × Int) => Ent.own (.slice a10_0 l.length c10_0) 39 5 l.length xs10_0) ((if_t hc6).symm)) rfl)) ?_
                exact fun a W hA hW => ⟨g10, (((hx2.trans hxj9).trans hx8).trans hx10), a10_0, c10_0, xs10_0, (Eq.mp (congrArg (fun l : List (Int × Int × Int × List UInt8 × Int) => RepL g10 (.pair (.int .i64) (.pair (.int .i64) (.pair (.int .i64) (.pair (.str) (.int .i64))))) xs10_0 l) ((if_t hc6).symm)) hL10_0), hA.sub (by kernel_rfl), hW, hF⟩
            · replace hF := hF.2 hc6
              refine Ok.skip ?_
              refine Ok.blockN ?_
              refine Ok.thenN ?_
              refine Ok.heapEq (H' := [.blk bxr (.cells #[.string ⟨⟨(if (((jpeekS xr 0).1) == 120) = true then ((jpeekS (((jpeekS (((jpeekS xr 0).2).1, (((jpeekS xr 0).2).2).1, (((jpeekS xr 0).2).2).2) 1).2).1, (((jpeekS (((jpeekS xr 0).2).1, (((jpeekS xr 0).2).2).1, (((jpeekS xr 0).2).2).2) 1).2).2).1, (((jpeekS (((jpeekS xr 0).2).1, (((jpeekS xr 0).2).2).1, (((jpeekS xr 0).2).2).2) 1).2).2).2) 2).2).1 else ((jpeekS xr 0).2).1)⟩⟩, .int .i64 (if (((jpeekS xr 0).1) == 120) = true then (((jpeekS (((jpeekS (((jpeekS xr 0).2).1, (((jpeekS xr 0).2).2).1, (((jpeekS xr 0).2).2).2) 1).2).1, (((jpeekS (((jpeekS xr 0).2).1, (((jpeekS xr 0).2).2).1, (((jpeekS xr 0).2).2).2) 1).2).2).1, (((jpeekS (((jpeekS xr 0).2).1, (((jpeekS xr 0).2).2).1, (((jpeekS xr 0).2).2).2) 1).2).2).2) 2).2).2).1 else (((jpeekS xr 0).2).2).1), .slice a2_0 (if (((jpeekS xr 0).1) == 120) = true then (((jpeekS (((jpeekS (((jpeekS xr 0).2).1, (((jpeekS xr 0).2).2).1, (((jpeekS xr 0).2).2).2) 1).2).1, (((jpeekS (((jpeekS xr 0).2).1, (((jpeekS xr 0).2).2).1, (((jpeekS xr 0).2).2).2) 1).2).2).1, (((jpeekS (((jpeekS xr 0).2).1, (((jpeekS xr 0).2).2).1, (((jpeekS xr 0).2).2).2) 1).2).2).2) 2).2).2).2 else (((jpeekS xr 0).2).2).2).length c2_0] 37), .own (.slice a2_0 (if (((jpeekS xr 0).1) == 120) = true then (((jpeekS (((jpeekS (((jpeekS xr 0).2).1, (((jpeekS xr 0).2).2).1, (((jpeekS xr 0).2).2).2) 1).2).1, (((jpeekS (((jpeekS xr 0).2).1, (((jpeekS xr 0).2).2).1, (((jpeekS xr 0).2).2).2) 1).2).2).1, (((jpeekS (((jpeekS xr 0).2).1, (((jpeekS xr 0).2).2).1, (((jpeekS xr 0).2).2).2) 1).2).2).2) 2).2).2).2 else (((jpeekS xr 0).2).2).2).length c2_0) 39 5 (if (((jpeekS xr 0).1) == 120) = true then (((jpeekS (((jpeekS (((jpeekS xr 0).2).1, (((jpeekS xr 0).2).2).1, (((jpeekS xr 0).2).2).2) 1).2).1, (((jpeekS (((jpeekS xr 0).2).1, (((jpeekS xr 0).2).2).1, (((jpeekS xr 0).2).2).2) 1).2).2).1, (((jpeekS (((jpeekS xr 0).2).1, (((jpeekS xr 0).2).2).1, (((jpeekS xr 0).2).2).2) 1).2).2).2) 2).2).2).2 else (((jpeekS xr 0).2).2).2).length xs2_0]) (econs (congrArg (fun l : List Value => Ent.blk bxr (.cells ⟨l⟩ 37)) (lcons (congrArg ((fun s : List UInt8 => Value.string ⟨⟨s⟩⟩)) ((if_f hc6).symm)) (lcons (congrArg (Value.int .i64) ((if_f hc6).symm)) (lcons (congrArg (fun l : List (Int × Int × Int × List UInt8 × Int) => Value.slice a2_0 l.length c2_0) ((if_f hc6).symm)) rfl)))) (econs (congrArg (fun l : List (Int × Int × Int × List UInt8 × Int) => Ent.own (.slice a2_0 l.length c2_0) 39 5 l.length xs2_0) ((if_f hc6).symm)) rfl)) ?_
              exact fun a W hA hW => ⟨gj9, (hx2.trans hxj9), a2_0, c2_0, xs2_0, (Eq.mp (congrArg (fun l : List (Int × Int × Int × List UInt8 × Int) => RepL gj9 (.pair (.int .i64) (.pair (.int .i64) (.pair (.int .i64) (.pair (.str) (.int .i64))))) xs2_0 l) ((if_f hc6).symm)) hL2_0), hA.sub (by kernel_rfl), hW, hF⟩
  ·
    clear hF
    rintro a W ⟨gj3, hxj3, ayown_xr_2_0j3, cyown_xr_2_0j3, xsyown_xr_2_0j3, hLyown_xr_2_0j3, hA, hW, hF⟩
    refine (?_ : Ok _ _ _ _ _ _) a W hA hW
    clear hA hW
    refine Ok.seq ?_
    refine Ok.region ?_
    refine Ok.batch 2 [(2, .int .u8 0), (3, .int .i64 0)] (by kernel_rfl) ?_
    refine Ok.nil ?_
    refine Ok.thenN ?_
    refine Ok.ret ?_
    exact Ok.resH (vs := [.int .u8 0, .int .i64 0]) (.inl rfl) rfl (.cons (.tmp rfl) (.cons (.tmp rfl) .nil)) hxj3 ⟨0, 0, ((if (((jpeekS xr 0).1) == 120) = true then ((jpeekS (((jpeekS (((jpeekS xr 0).2).1, (((jpeekS xr 0).2).2).1, (((jpeekS xr 0).2).2).2) 1).2).1, (((jpeekS (((jpeekS xr 0).2).1, (((jpeekS xr 0).2).2).1, (((jpeekS xr 0).2).2).2) 1).2).2).1, (((jpeekS (((jpeekS xr 0).2).1, (((jpeekS xr 0).2).2).1, (((jpeekS xr 0).2).2).2) 1).2).2).2) 2).2).1 else ((jpeekS xr 0).2).1), (if (((jpeekS xr 0).1) == 120) = true then (((jpeekS (((jpeekS (((jpeekS xr 0).2).1, (((jpeekS xr 0).2).2).1, (((jpeekS xr 0).2).2).2) 1).2).1, (((jpeekS (((jpeekS xr 0).2).1, (((jpeekS xr 0).2).2).1, (((jpeekS xr 0).2).2).2) 1).2).2).1, (((jpeekS (((jpeekS xr 0).2).1, (((jpeekS xr 0).2).2).1, (((jpeekS xr 0).2).2).2) 1).2).2).2) 2).2).2).1 else (((jpeekS xr 0).2).2).1), (if (((jpeekS xr 0).1) == 120) = true then (((jpeekS (((jpeekS (((jpeekS xr 0).2).1, (((jpeekS xr 0).2).2).1, (((jpeekS xr 0).2).2).2) 1).2).1, (((jpeekS (((jpeekS xr 0).2).1, (((jpeekS xr 0).2).2).1, (((jpeekS xr 0).2).2).2) 1).2).2).1, (((jpeekS (((jpeekS xr 0).2).1, (((jpeekS xr 0).2).2).1, (((jpeekS xr 0).2).2).2) 1).2).2).2) 2).2).2).2 else (((jpeekS xr 0).2).2).2)), ayown_xr_2_0j3, cyown_xr_2_0j3, xsyown_xr_2_0j3, rfl, hLyown_xr_2_0j3, rfl, hF⟩
def hexI (x : RD) (n : Int) : Int := jhexM (jpeekS x n).1
def jescS (x : RD) : Int × Int × RD :=
  if ((jpeekS x 0).1 == 34 || (jpeekS x 0).1 == 92) = true then ((jpeekS x 0).1, 1, x) else if ((jpeekS x 0).1 == 110) = true then (10, 1, x) else if ((jpeekS x 0).1 == 116) = true then (9, 1, x)
  else if ((jpeekS x 0).1 == 120) = true then (if (decide (hexI x 1 ≥ 0) && decide (hexI x 2 ≥ 0)) = true then (IntKind.wrap .u8 (bitOr .i64 (IntKind.wrap .i64 (hexI x 1 * 2 ^ 4)) (hexI x 2)), 3, x) else (0, 0, x)) else (0, 0, x)
theorem jesc_F (x : RD) (hp : rdP x) : jescF x (fun r r1 r2 => (r, r1, r2) = jescS x) := by
  have key : jescj9 x (fun r r1 r2 => (r, r1, r2) = jescS x) := by
    unfold jescS
    refine ⟨fun h => ?_, fun h => ⟨fun h1 => ?_, fun h1 => ⟨fun h2 => ?_, fun h2 => ⟨fun h3 => ⟨⟨hp, by omega, by omega⟩, ⟨hp, by omega, by omega⟩, fun h4 => ?_, fun h4 => ?_⟩, fun h3 => ?_⟩⟩⟩⟩
    · rw [if_t h]; rfl
    · rw [if_f h, if_t h1]; rfl
    · rw [if_f h, if_f h1, if_t h2]; rfl
    · rw [if_f h, if_f h1, if_f h2, if_t h3]
      exact (if_t (show (decide (hexI x 1 ≥ 0) && decide (hexI x 2 ≥ 0)) = true from h4)).symm
    · rw [if_f h, if_f h1, if_f h2, if_t h3]
      unfold jescj3
      rw [if_t h3, if_t h3, if_t h3]
      exact (if_f (show (decide (hexI x 1 ≥ 0) && decide (hexI x 2 ≥ 0)) = false from h4)).symm
    · rw [if_f h, if_f h1, if_f h2, if_f h3]
      unfold jescj3
      rw [if_f h3, if_f h3, if_f h3]
      rfl
  exact ⟨⟨hp, by omega, by omega⟩, fun _ => key, fun _ => key⟩
set_option linter.unusedVariables false in
theorem jesc_c {g : Ghost} {bxr : Nat} {axr_0 : Option Addr} {cxr_0 : Nat} {xsxr_0 : List Value} (xr : List UInt8 × Int × List (Int × Int × Int × List UInt8 × Int)) (hLxr_0 : RepL g (.pair (.int .i64) (.pair (.int .i64) (.pair (.int .i64) (.pair (.str) (.int .i64))))) xsxr_0 xr.2.2)  (hp : rdP xr) : CallsH Tryd.prog 48 #[.pointer (some ⟨bxr, 0, none⟩)] g [.blk bxr (.cells #[.string ⟨⟨xr.1⟩⟩, .int .i64 xr.2.1, .slice axr_0 xr.2.2.length cxr_0] 37), .own (.slice axr_0 xr.2.2.length cxr_0) 39 5 xr.2.2.length xsxr_0] (fun g' H' v => ∃ (afxr_0 : Option Addr) (cfxr_0 : Nat) (xsfxr_0 : List Value), v = .tuple #[.int .u8 ((jescS xr).1), .int .i64 ((jescS xr).2.1)] ∧ RepL g' (.pair (.int .i64) (.pair (.int .i64) (.pair (.int .i64) (.pair (.str) (.int .i64))))) xsfxr_0 ((jescS xr).2.2).2.2 ∧ H' = [.blk bxr (.cells #[.string ⟨⟨((jescS xr).2.2).1⟩⟩, .int .i64 ((jescS xr).2.2).2.1, .slice afxr_0 ((jescS xr).2.2).2.2.length cfxr_0] 37), .own (.slice afxr_0 ((jescS xr).2.2).2.2.length cfxr_0) 39 5 ((jescS xr).2.2).2.2.length xsfxr_0]) :=
  (jesc_ok xr hLxr_0 _ (jesc_F xr hp)).mono (by rintro g' H' v _ ⟨r0, r1, fxr, afxr_0, cfxr_0, xsfxr_0, rfl, hLfxr_0, rfl, hK⟩; obtain ⟨rfl, rfl, rfl⟩ : r0 = (jescS xr).1 ∧ r1 = (jescS xr).2.1 ∧ fxr = (jescS xr).2.2 := ⟨congrArg (fun z => z.1) hK, congrArg (fun z => z.2.1) hK, congrArg (fun z => z.2.2) hK⟩; exact ⟨afxr_0, cfxr_0, xsfxr_0, rfl, hLfxr_0, rfl⟩)
end Go.Proofs.YtaojddkfacnddaaDoor.Jl
