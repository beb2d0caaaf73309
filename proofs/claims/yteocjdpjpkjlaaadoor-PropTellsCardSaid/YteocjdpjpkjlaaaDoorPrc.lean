/- Properties: what fits (third part). -/
import Derived.Test.YteocjdpjpkjlaaaDoorPrb
namespace Go.Proofs.YteocjdpjpkjlaaaDoor.Pf
open Go Go.Eng Go.RowKit Sp
set_option linter.unusedVariables false
def rpyT0 : List (List UInt8) := ([([110, 111, 110, 101] : List UInt8), ([105, 110, 108, 105, 110, 101] : List UInt8), ([98, 108, 111, 99, 107] : List UInt8), ([105, 110, 108, 105, 110, 101, 45, 98, 108, 111, 99, 107] : List UInt8), ([102, 108, 101, 120] : List UInt8), ([116, 97, 98, 108, 101] : List UInt8), ([116, 97, 98, 108, 101, 45, 114, 111, 119] : List UInt8), ([116, 97, 98, 108, 101, 45, 99, 101, 108, 108] : List UInt8), ([108, 105, 115, 116, 45, 105, 116, 101, 109] : List UInt8), ([99, 111, 110, 116, 101, 110, 116, 115] : List UInt8)] : List (List UInt8))
def rpyF (xp : Int) (K : (List (List UInt8)) → Prop) : Prop :=
  (((xp == 0)) = true → K rpyT0) ∧ (((xp == 0)) = false → (((xp == 1)) = true → K ([([115, 116, 97, 116, 105, 99] : List UInt8), ([114, 101, 108, 97, 116, 105, 118, 101] : List UInt8), ([97, 98, 115, 111, 108, 117, 116, 101] : List UInt8), ([102, 105, 120, 101, 100] : List UInt8)] : List (List UInt8))) ∧ (((xp == 1)) = false → (((xp == 2)) = true → K ([([110, 111, 110, 101] : List UInt8), ([108, 101, 102, 116] : List UInt8), ([114, 105, 103, 104, 116] : List UInt8)] : List (List UInt8))) ∧ (((xp == 2)) = false → (((xp == 3)) = true → K ([([110, 111, 110, 101] : List UInt8), ([108, 101, 102, 116] : List UInt8), ([114, 105, 103, 104, 116] : List UInt8), ([98, 111, 116, 104] : List UInt8)] : List (List UInt8))) ∧ (((xp == 3)) = false → (((xp == 4)) = true → K ([([99, 111, 110, 116, 101, 110, 116, 45, 98, 111, 120] : List UInt8), ([98, 111, 114, 100, 101, 114, 45, 98, 111, 120] : List UInt8)] : List (List UInt8))) ∧ (((xp == 4)) = false → (((xp == 32)) = true → K ([([118, 105, 115, 105, 98, 108, 101] : List UInt8), ([104, 105, 100, 100, 101, 110] : List UInt8)] : List (List UInt8))) ∧ (((xp == 32)) = false → (((xp == 33)) = true → K ([([118, 105, 115, 105, 98, 108, 101] : List UInt8), ([104, 105, 100, 100, 101, 110] : List UInt8)] : List (List UInt8))) ∧ (((xp == 33)) = false → (((xp == 39)) = true → K ([([115, 116, 97, 114, 116] : List UInt8), ([101, 110, 100] : List UInt8), ([99, 101, 110, 116, 101, 114] : List UInt8), ([106, 117, 115, 116, 105, 102, 121] : List UInt8)] : List (List UInt8))) ∧ (((xp == 39)) = false → (((xp == 41)) = true → K ([([110, 111, 114, 109, 97, 108] : List UInt8), ([112, 114, 101] : List UInt8), ([110, 111, 119, 114, 97, 112] : List UInt8), ([112, 114, 101, 45, 119, 114, 97, 112] : List UInt8)] : List (List UInt8))) ∧ (((xp == 41)) = false → (((xp == 42)) = true → K ([([98, 97, 115, 101, 108, 105, 110, 101] : List UInt8), ([116, 111, 112] : List UInt8), ([109, 105, 100, 100, 108, 101] : List UInt8), ([98, 111, 116, 116, 111, 109] : List UInt8)] : List (List UInt8))) ∧ (((xp == 42)) = false → (((xp == 43)) = true → K ([([110, 111, 110, 101] : List UInt8), ([117, 112, 112, 101, 114, 99, 97, 115, 101] : List UInt8), ([108, 111, 119, 101, 114, 99, 97, 115, 101] : List UInt8)] : List (List UInt8))) ∧ (((xp == 43)) = false → (((xp == 45)) = true → K ([([114, 111, 119] : List UInt8), ([114, 111, 119, 45, 114, 101, 118, 101, 114, 115, 101] : List UInt8), ([99, 111, 108, 117, 109, 110] : List UInt8), ([99, 111, 108, 117, 109, 110, 45, 114, 101, 118, 101, 114, 115, 101] : List UInt8)] : List (List UInt8))) ∧ (((xp == 45)) = false → (((xp == 46)) = true → K ([([110, 111, 119, 114, 97, 112] : List UInt8), ([119, 114, 97, 112] : List UInt8)] : List (List UInt8))) ∧ (((xp == 46)) = false → (((xp == 47)) = true → K ([([102, 108, 101, 120, 45, 115, 116, 97, 114, 116] : List UInt8), ([102, 108, 101, 120, 45, 101, 110, 100] : List UInt8), ([99, 101, 110, 116, 101, 114] : List UInt8), ([] : List UInt8), ([115, 112, 97, 99, 101, 45, 98, 101, 116, 119, 101, 101, 110] : List UInt8), ([115, 112, 97, 99, 101, 45, 97, 114, 111, 117, 110, 100] : List UInt8)] : List (List UInt8))) ∧ (((xp == 47)) = false → (((xp == 48)) = true → K ([([102, 108, 101, 120, 45, 115, 116, 97, 114, 116] : List UInt8), ([102, 108, 101, 120, 45, 101, 110, 100] : List UInt8), ([99, 101, 110, 116, 101, 114] : List UInt8), ([] : List UInt8), ([] : List UInt8), ([] : List UInt8), ([115, 116, 114, 101, 116, 99, 104] : List UInt8)] : List (List UInt8))) ∧ (((xp == 48)) = false → (((xp == 49)) = true → K ([([102, 108, 101, 120, 45, 115, 116, 97, 114, 116] : List UInt8), ([102, 108, 101, 120, 45, 101, 110, 100] : List UInt8), ([99, 101, 110, 116, 101, 114] : List UInt8), ([] : List UInt8), ([] : List UInt8), ([] : List UInt8), ([115, 116, 114, 101, 116, 99, 104] : List UInt8)] : List (List UInt8))) ∧ (((xp == 49)) = false → (((xp == 55)) = true → K ([([97, 117, 116, 111] : List UInt8), ([102, 105, 120, 101, 100] : List UInt8)] : List (List UInt8))) ∧ (((xp == 55)) = false → (((xp == 57)) = true → K ([([110, 111, 110, 101] : List UInt8), ([100, 105, 115, 99] : List UInt8), ([100, 101, 99, 105, 109, 97, 108] : List UInt8)] : List (List UInt8))) ∧ (((xp == 57)) = false → (((xp == 58)) = true → K ([([97, 117, 116, 111] : List UInt8), ([110, 111, 110, 101] : List UInt8)] : List (List UInt8))) ∧ (((xp == 58)) = false → K ([]))))))))))))))))))))
set_option maxHeartbeats 4000000 in
set_option maxRecDepth 100000 in
set_option linter.unusedVariables false in
theorem rpy_ok {g : Ghost} (xp : Int) (K : (List (List UInt8)) → Prop)
    (hF : rpyF xp K) : CallsH Tryd.prog 33 #[.int .i64 xp] g [] (fun g' H' v => ∃ (r0 : List (List UInt8)), ∃ (ar0_0 : Option Addr) (cr0_0 : Nat), v = .slice ar0_0 r0.length cr0_0 ∧ Rep g' (.slice (.str)) [.slice ar0_0 r0.length cr0_0] r0 ∧ H' = [] ∧ K r0) := by
  refine CallsH.enter 61 [(0, .int .i64 xp)] Tryd.func33 rfl (by kernel_rfl) (by kernel_rfl) (by kernel_rfl) fun w0 => ?_
  refine Ok.seq ?_
  refine Ok.region ?_
  refine Ok.batch 1 [(0, .int .i64 xp)] (by kernel_rfl) ?_
  refine Ok.nil ?_
  refine Ok.thenN ?_
  refine Ok.seq ?_
  refine Ok.seq ?_
  refine Ok.region ?_
  refine Ok.batch 1 [(3, .int .i64 xp)] (by kernel_rfl) ?_
  refine Ok.nil ?_
  refine Ok.thenN ?_
  refine Ok.block ?_
  refine Ok.seq ?_
  refine Ok.region ?_
  refine Ok.batch 2 [(3, .int .i64 xp), (4, .bool (xp == 0))] (by kernel_rfl) ?_
  refine Ok.nil ?_
  refine Ok.thenN ?_
  refine Ok.cond (b := (xp == 0)) rfl (fun hc1 => ?_) (fun hc1 => ?_)
  · replace hF := hF.1 hc1
    refine Ok.seq ?_
    refine Ok.region ?_
    have hL2 : RepL g (.str) ([.string ⟨⟨([110, 111, 110, 101] : List UInt8)⟩⟩, .string ⟨⟨([105, 110, 108, 105, 110, 101] : List UInt8)⟩⟩, .string ⟨⟨([98, 108, 111, 99, 107] : List UInt8)⟩⟩, .string ⟨⟨([105, 110, 108, 105, 110, 101, 45, 98, 108, 111, 99, 107] : List UInt8)⟩⟩, .string ⟨⟨([102, 108, 101, 120] : List UInt8)⟩⟩, .string ⟨⟨([116, 97, 98, 108, 101] : List UInt8)⟩⟩, .string ⟨⟨([116, 97, 98, 108, 101, 45, 114, 111, 119] : List UInt8)⟩⟩, .string ⟨⟨([116, 97, 98, 108, 101, 45, 99, 101, 108, 108] : List UInt8)⟩⟩, .string ⟨⟨([108, 105, 115, 116, 45, 105, 116, 101, 109] : List UInt8)⟩⟩, .string ⟨⟨([99, 111, 110, 116, 101, 110, 116, 115] : List UInt8)⟩⟩] : List Value) rpyT0 := (RepL.flat (by kernel_rfl) (by kernel_rfl))
    refine Ok.op rfl (OpOk.lit (E := 9) (.str) rpyT0 ([.string ⟨⟨([110, 111, 110, 101] : List UInt8)⟩⟩, .string ⟨⟨([105, 110, 108, 105, 110, 101] : List UInt8)⟩⟩, .string ⟨⟨([98, 108, 111, 99, 107] : List UInt8)⟩⟩, .string ⟨⟨([105, 110, 108, 105, 110, 101, 45, 98, 108, 111, 99, 107] : List UInt8)⟩⟩, .string ⟨⟨([102, 108, 101, 120] : List UInt8)⟩⟩, .string ⟨⟨([116, 97, 98, 108, 101] : List UInt8)⟩⟩, .string ⟨⟨([116, 97, 98, 108, 101, 45, 114, 111, 119] : List UInt8)⟩⟩, .string ⟨⟨([116, 97, 98, 108, 101, 45, 99, 101, 108, 108] : List UInt8)⟩⟩, .string ⟨⟨([108, 105, 115, 116, 45, 105, 116, 101, 109] : List UInt8)⟩⟩, .string ⟨⟨([99, 111, 110, 116, 101, 110, 116, 115] : List UInt8)⟩⟩] : List Value) (by kernel_rfl) (by kernel_rfl) rfl (by kernel_rfl) hL2 rfl fun b2 => ?_)
    refine Ok.batch 1 [(2, .slice (some ⟨b2, 0, none⟩) rpyT0.length 10)] (by kernel_rfl) ?_
    refine Ok.nil ?_
    refine Ok.thenN ?_
    refine Ok.ret ?_
    refine Ok.blockR ?_
    refine Ok.thenR ?_
    refine Ok.freeze (H' := []) 0 rfl hL2 rfl fun g3 hx3 hRf3 => ?_
    exact Ok.resH (vs := [.slice (some ⟨b2, 0, none⟩) rpyT0.length 10]) (.inl rfl) rfl (.cons (.tmp rfl) .nil) hx3 ⟨rpyT0, (some ⟨b2, 0, none⟩), 10, rfl, hRf3, rfl, hF⟩
  · replace hF := hF.2 hc1
    refine Ok.seq ?_
    refine Ok.region ?_
    refine Ok.batch 2 [(3, .int .i64 xp), (7, .bool (xp == 1))] (by kernel_rfl) ?_
    refine Ok.nil ?_
    refine Ok.thenN ?_
    refine Ok.cond (b := (xp == 1)) rfl (fun hc4 => ?_) (fun hc4 => ?_)
    · replace hF := hF.1 hc4
      refine Ok.seq ?_
      refine Ok.region ?_
      have hL5 : RepL g (.str) ([.string ⟨⟨([115, 116, 97, 116, 105, 99] : List UInt8)⟩⟩, .string ⟨⟨([114, 101, 108, 97, 116, 105, 118, 101] : List UInt8)⟩⟩, .string ⟨⟨([97, 98, 115, 111, 108, 117, 116, 101] : List UInt8)⟩⟩, .string ⟨⟨([102, 105, 120, 101, 100] : List UInt8)⟩⟩] : List Value) ([([115, 116, 97, 116, 105, 99] : List UInt8), ([114, 101, 108, 97, 116, 105, 118, 101] : List UInt8), ([97, 98, 115, 111, 108, 117, 116, 101] : List UInt8), ([102, 105, 120, 101, 100] : List UInt8)] : List (List UInt8)) := (RepL.flat (by kernel_rfl) (by kernel_rfl))
      refine Ok.op rfl (OpOk.lit (E := 9) (.str) ([([115, 116, 97, 116, 105, 99] : List UInt8), ([114, 101, 108, 97, 116, 105, 118, 101] : List UInt8), ([97, 98, 115, 111, 108, 117, 116, 101] : List UInt8), ([102, 105, 120, 101, 100] : List UInt8)] : List (List UInt8)) ([.string ⟨⟨([115, 116, 97, 116, 105, 99] : List UInt8)⟩⟩, .string ⟨⟨([114, 101, 108, 97, 116, 105, 118, 101] : List UInt8)⟩⟩, .string ⟨⟨([97, 98, 115, 111, 108, 117, 116, 101] : List UInt8)⟩⟩, .string ⟨⟨([102, 105, 120, 101, 100] : List UInt8)⟩⟩] : List Value) (by kernel_rfl) (by kernel_rfl) rfl (by kernel_rfl) hL5 rfl fun b5 => ?_)
      refine Ok.batch 1 [(2, .slice (some ⟨b5, 0, none⟩) ([([115, 116, 97, 116, 105, 99] : List UInt8), ([114, 101, 108, 97, 116, 105, 118, 101] : List UInt8), ([97, 98, 115, 111, 108, 117, 116, 101] : List UInt8), ([102, 105, 120, 101, 100] : List UInt8)] : List (List UInt8)).length 4)] (by kernel_rfl) ?_
      refine Ok.nil ?_
      refine Ok.thenN ?_
      refine Ok.ret ?_
      refine Ok.blockR ?_
      refine Ok.thenR ?_
      refine Ok.freeze (H' := []) 0 rfl hL5 rfl fun g6 hx6 hRf6 => ?_
      exact Ok.resH (vs := [.slice (some ⟨b5, 0, none⟩) ([([115, 116, 97, 116, 105, 99] : List UInt8), ([114, 101, 108, 97, 116, 105, 118, 101] : List UInt8), ([97, 98, 115, 111, 108, 117, 116, 101] : List UInt8), ([102, 105, 120, 101, 100] : List UInt8)] : List (List UInt8)).length 4]) (.inl rfl) rfl (.cons (.tmp rfl) .nil) hx6 ⟨([([115, 116, 97, 116, 105, 99] : List UInt8), ([114, 101, 108, 97, 116, 105, 118, 101] : List UInt8), ([97, 98, 115, 111, 108, 117, 116, 101] : List UInt8), ([102, 105, 120, 101, 100] : List UInt8)] : List (List UInt8)), (some ⟨b5, 0, none⟩), 4, rfl, hRf6, rfl, hF⟩
    · replace hF := hF.2 hc4
      refine Ok.seq ?_
      refine Ok.region ?_
      refine Ok.batch 2 [(3, .int .i64 xp), (10, .bool (xp == 2))] (by kernel_rfl) ?_
      refine Ok.nil ?_
      refine Ok.thenN ?_
      refine Ok.cond (b := (xp == 2)) rfl (fun hc7 => ?_) (fun hc7 => ?_)
      · replace hF := hF.1 hc7
        refine Ok.seq ?_
        refine Ok.region ?_
        have hL8 : RepL g (.str) ([.string ⟨⟨([110, 111, 110, 101] : List UInt8)⟩⟩, .string ⟨⟨([108, 101, 102, 116] : List UInt8)⟩⟩, .string ⟨⟨([114, 105, 103, 104, 116] : List UInt8)⟩⟩] : List Value) ([([110, 111, 110, 101] : List UInt8), ([108, 101, 102, 116] : List UInt8), ([114, 105, 103, 104, 116] : List UInt8)] : List (List UInt8)) := (RepL.consN (c := [.string ⟨⟨([110, 111, 110, 101] : List UInt8)⟩⟩]) rfl (RepL.consN (c := [.string ⟨⟨([108, 101, 102, 116] : List UInt8)⟩⟩]) rfl (RepL.consN (c := [.string ⟨⟨([114, 105, 103, 104, 116] : List UInt8)⟩⟩]) rfl rfl)))
        refine Ok.op rfl (OpOk.lit (E := 9) (.str) ([([110, 111, 110, 101] : List UInt8), ([108, 101, 102, 116] : List UInt8), ([114, 105, 103, 104, 116] : List UInt8)] : List (List UInt8)) ([.string ⟨⟨([110, 111, 110, 101] : List UInt8)⟩⟩, .string ⟨⟨([108, 101, 102, 116] : List UInt8)⟩⟩, .string ⟨⟨([114, 105, 103, 104, 116] : List UInt8)⟩⟩] : List Value) (by kernel_rfl) (by kernel_rfl) rfl (by kernel_rfl) hL8 rfl fun b8 => ?_)
        refine Ok.batch 1 [(2, .slice (some ⟨b8, 0, none⟩) ([([110, 111, 110, 101] : List UInt8), ([108, 101, 102, 116] : List UInt8), ([114, 105, 103, 104, 116] : List UInt8)] : List (List UInt8)).length 3)] (by kernel_rfl) ?_
        refine Ok.nil ?_
        refine Ok.thenN ?_
        refine Ok.ret ?_
        refine Ok.blockR ?_
        refine Ok.thenR ?_
        refine Ok.freeze (H' := []) 0 rfl hL8 rfl fun g9 hx9 hRf9 => ?_
        exact Ok.resH (vs := [.slice (some ⟨b8, 0, none⟩) ([([110, 111, 110, 101] : List UInt8), ([108, 101, 102, 116] : List UInt8), ([114, 105, 103, 104, 116] : List UInt8)] : List (List UInt8)).length 3]) (.inl rfl) rfl (.cons (.tmp rfl) .nil) hx9 ⟨([([110, 111, 110, 101] : List UInt8), ([108, 101, 102, 116] : List UInt8), ([114, 105, 103, 104, 116] : List UInt8)] : List (List UInt8)), (some ⟨b8, 0, none⟩), 3, rfl, hRf9, rfl, hF⟩
      · replace hF := hF.2 hc7
        refine Ok.seq ?_
        refine Ok.region ?_
        refine Ok.batch 2 [(3, .int .i64 xp), (13, .bool (xp == 3))] (by kernel_rfl) ?_
        refine Ok.nil ?_
        refine Ok.thenN ?_
        refine Ok.cond (b := (xp == 3)) rfl (fun hc10 => ?_) (fun hc10 => ?_)
        · replace hF := hF.1 hc10
          refine Ok.seq ?_
          refine Ok.region ?_
          have hL11 : RepL g (.str) ([.string ⟨⟨([110, 111, 110, 101] : List UInt8)⟩⟩, .string ⟨⟨([108, 101, 102, 116] : List UInt8)⟩⟩, .string ⟨⟨([114, 105, 103, 104, 116] : List UInt8)⟩⟩, .string ⟨⟨([98, 111, 116, 104] : List UInt8)⟩⟩] : List Value) ([([110, 111, 110, 101] : List UInt8), ([108, 101, 102, 116] : List UInt8), ([114, 105, 103, 104, 116] : List UInt8), ([98, 111, 116, 104] : List UInt8)] : List (List UInt8)) := (RepL.flat (by kernel_rfl) (by kernel_rfl))
          refine Ok.op rfl (OpOk.lit (E := 9) (.str) ([([110, 111, 110, 101] : List UInt8), ([108, 101, 102, 116] : List UInt8), ([114, 105, 103, 104, 116] : List UInt8), ([98, 111, 116, 104] : List UInt8)] : List (List UInt8)) ([.string ⟨⟨([110, 111, 110, 101] : List UInt8)⟩⟩, .string ⟨⟨([108, 101, 102, 116] : List UInt8)⟩⟩, .string ⟨⟨([114, 105, 103, 104, 116] : List UInt8)⟩⟩, .string ⟨⟨([98, 111, 116, 104] : List UInt8)⟩⟩] : List Value) (by kernel_rfl) (by kernel_rfl) rfl (by kernel_rfl) hL11 rfl fun b11 => ?_)
          refine Ok.batch 1 [(2, .slice (some ⟨b11, 0, none⟩) ([([110, 111, 110, 101] : List UInt8), ([108, 101, 102, 116] : List UInt8), ([114, 105, 103, 104, 116] : List UInt8), ([98, 111, 116, 104] : List UInt8)] : List (List UInt8)).length 4)] (by kernel_rfl) ?_
          refine Ok.nil ?_
          refine Ok.thenN ?_
          refine Ok.ret ?_
          refine Ok.blockR ?_
          refine Ok.thenR ?_
          refine Ok.freeze (H' := []) 0 rfl hL11 rfl fun g12 hx12 hRf12 => ?_
          exact Ok.resH (vs := [.slice (some ⟨b11, 0, none⟩) ([([110, 111, 110, 101] : List UInt8), ([108, 101, 102, 116] : List UInt8), ([114, 105, 103, 104, 116] : List UInt8), ([98, 111, 116, 104] : List UInt8)] : List (List UInt8)).length 4]) (.inl rfl) rfl (.cons (.tmp rfl) .nil) hx12 ⟨([([110, 111, 110, 101] : List UInt8), ([108, 101, 102, 116] : List UInt8), ([114, 105, 103, 104, 116] : List UInt8), ([98, 111, 116, 104] : List UInt8)] : List (List UInt8)), (some ⟨b11, 0, none⟩), 4, rfl, hRf12, rfl, hF⟩
        · replace hF := hF.2 hc10
          refine Ok.seq ?_
          refine Ok.region ?_
          refine Ok.batch 2 [(3, .int .i64 xp), (16, .bool (xp == 4))] (by kernel_rfl) ?_
          refine Ok.nil ?_
          refine Ok.thenN ?_
          refine Ok.cond (b := (xp == 4)) rfl (fun hc13 => ?_) (fun hc13 => ?_)
          · replace hF := hF.1 hc13
            refine Ok.seq ?_
            refine Ok.region ?_
            have hL14 : RepL g (.str) ([.string ⟨⟨([99, 111, 110, 116, 101, 110, 116, 45, 98, 111, 120] : List UInt8)⟩⟩, .string ⟨⟨([98, 111, 114, 100, 101, 114, 45, 98, 111, 120] : List UInt8)⟩⟩] : List Value) ([([99, 111, 110, 116, 101, 110, 116, 45, 98, 111, 120] : List UInt8), ([98, 111, 114, 100, 101, 114, 45, 98, 111, 120] : List UInt8)] : List (List UInt8)) := (RepL.consN (c := [.string ⟨⟨([99, 111, 110, 116, 101, 110, 116, 45, 98, 111, 120] : List UInt8)⟩⟩]) rfl (RepL.consN (c := [.string ⟨⟨([98, 111, 114, 100, 101, 114, 45, 98, 111, 120] : List UInt8)⟩⟩]) rfl rfl))
            refine Ok.op rfl (OpOk.lit (E := 9) (.str) ([([99, 111, 110, 116, 101, 110, 116, 45, 98, 111, 120] : List UInt8), ([98, 111, 114, 100, 101, 114, 45, 98, 111, 120] : List UInt8)] : List (List UInt8)) ([.string ⟨⟨([99, 111, 110, 116, 101, 110, 116, 45, 98, 111, 120] : List UInt8)⟩⟩, .string ⟨⟨([98, 111, 114, 100, 101, 114, 45, 98, 111, 120] : List UInt8)⟩⟩] : List Value) (by kernel_rfl) (by kernel_rfl) rfl (by kernel_rfl) hL14 rfl fun b14 => ?_)
            refine Ok.batch 1 [(2, .slice (some ⟨b14, 0, none⟩) ([([99, 111, 110, 116, 101, 110, 116, 45, 98, 111, 120] : List UInt8), ([98, 111, 114, 100, 101, 114, 45, 98, 111, 120] : List UInt8)] : List (List UInt8)).length 2)] (by kernel_rfl) ?_
            refine Ok.nil ?_
            refine Ok.thenN ?_
            refine Ok.ret ?_
            refine Ok.blockR ?_
            refine Ok.thenR ?_
            refine Ok.freeze (H' := []) 0 rfl hL14 rfl fun g15 hx15 hRf15 => ?_
            exact Ok.resH (vs := [.slice (some ⟨b14, 0, none⟩) ([([99, 111, 110, 116, 101, 110, 116, 45, 98, 111, 120] : List UInt8), ([98, 111, 114, 100, 101, 114, 45, 98, 111, 120] : List UInt8)] : List (List UInt8)).length 2]) (.inl rfl) rfl (.cons (.tmp rfl) .nil) hx15 ⟨([([99, 111, 110, 116, 101, 110, 116, 45, 98, 111, 120] : List UInt8), ([98, 111, 114, 100, 101, 114, 45, 98, 111, 120] : List UInt8)] : List (List UInt8)), (some ⟨b14, 0, none⟩), 2, rfl, hRf15, rfl, hF⟩
          · replace hF := hF.2 hc13
            refine Ok.seq ?_
            refine Ok.region ?_
            refine Ok.batch 2 [(3, .int .i64 xp), (19, .bool (xp == 32))] (by kernel_rfl) ?_
            refine Ok.nil ?_
            refine Ok.thenN ?_
            refine Ok.cond (b := (xp == 32)) rfl (fun hc16 => ?_) (fun hc16 => ?_)
            · replace hF := hF.1 hc16
              refine Ok.seq ?_
              refine Ok.region ?_
              have hL17 : RepL g (.str) ([.string ⟨⟨([118, 105, 115, 105, 98, 108, 101] : List UInt8)⟩⟩, .string ⟨⟨([104, 105, 100, 100, 101, 110] : List UInt8)⟩⟩] : List Value) ([([118, 105, 115, 105, 98, 108, 101] : List UInt8), ([104, 105, 100, 100, 101, 110] : List UInt8)] : List (List UInt8)) := (RepL.consN (c := [.string ⟨⟨([118, 105, 115, 105, 98, 108, 101] : List UInt8)⟩⟩]) rfl (RepL.consN (c := [.string ⟨⟨([104, 105, 100, 100, 101, 110] : List UInt8)⟩⟩]) rfl rfl))
              refine Ok.op rfl (OpOk.lit (E := 9) (.str) ([([118, 105, 115, 105, 98, 108, 101] : List UInt8), ([104, 105, 100, 100, 101, 110] : List UInt8)] : List (List UInt8)) ([.string ⟨⟨([118, 105, 115, 105, 98, 108, 101] : List UInt8)⟩⟩, .string ⟨⟨([104, 105, 100, 100, 101, 110] : List UInt8)⟩⟩] : List Value) (by kernel_rfl) (by kernel_rfl) rfl (by kernel_rfl) hL17 rfl fun b17 => ?_)
              refine Ok.batch 1 [(2, .slice (some ⟨b17, 0, none⟩) ([([118, 105, 115, 105, 98, 108, 101] : List UInt8), ([104, 105, 100, 100, 101, 110] : List UInt8)] : List (List UInt8)).length 2)] (by kernel_rfl) ?_
              refine Ok.nil ?_
              refine Ok.thenN ?_
              refine Ok.ret ?_
              refine Ok.blockR ?_
              refine Ok.thenR ?_
              refine Ok.freeze (H' := []) 0 rfl hL17 rfl fun g18 hx18 hRf18 => ?_
              exact Ok.resH (vs := [.slice (some ⟨b17, 0, none⟩) ([([118, 105, 115, 105, 98, 108, 101] : List UInt8), ([104, 105, 100, 100, 101, 110] : List UInt8)] : List (List UInt8)).length 2]) (.inl rfl) rfl (.cons (.tmp rfl) .nil) hx18 ⟨([([118, 105, 115, 105, 98, 108, 101] : List UInt8), ([104, 105, 100, 100, 101, 110] : List UInt8)] : List (List UInt8)), (some ⟨b17, 0, none⟩), 2, rfl, hRf18, rfl, hF⟩
            · replace hF := hF.2 hc16
              refine Ok.seq ?_
              refine Ok.region ?_
              refine Ok.batch 2 [(3, .int .i64 xp), (22, .bool (xp == 33))] (by kernel_rfl) ?_
              refine Ok.nil ?_
              refine Ok.thenN ?_
              refine Ok.cond (b := (xp == 33)) rfl (fun hc19 => ?_) (fun hc19 => ?_)
              · replace hF := hF.1 hc19
                refine Ok.seq ?_
                refine Ok.region ?_
                have hL20 : RepL g (.str) ([.string ⟨⟨([118, 105, 115, 105, 98, 108, 101] : List UInt8)⟩⟩, .string ⟨⟨([104, 105, 100, 100, 101, 110] : List UInt8)⟩⟩] : List Value) ([([118, 105, 115, 105, 98, 108, 101] : List UInt8), ([104, 105, 100, 100, 101, 110] : List UInt8)] : List (List UInt8)) := (RepL.consN (c := [.string ⟨⟨([118, 105, 115, 105, 98, 108, 101] : List UInt8)⟩⟩]) rfl (RepL.consN (c := [.string ⟨⟨([104, 105, 100, 100, 101, 110] : List UInt8)⟩⟩]) rfl rfl))
                refine Ok.op rfl (OpOk.lit (E := 9) (.str) ([([118, 105, 115, 105, 98, 108, 101] : List UInt8), ([104, 105, 100, 100, 101, 110] : List UInt8)] : List (List UInt8)) ([.string ⟨⟨([118, 105, 115, 105, 98, 108, 101] : List UInt8)⟩⟩, .string ⟨⟨([104, 105, 100, 100, 101, 110] : List UInt8)⟩⟩] : List Value) (by kernel_rfl) (by kernel_rfl) rfl (by kernel_rfl) hL20 rfl fun b20 => ?_)
                refine Ok.batch 1 [(2, .slice (some ⟨b20, 0, none⟩) ([([118, 105, 115, 105, 98, 108, 101] : List UInt8), ([104, 105, 100, 100, 101, 110] : List UInt8)] : List (List UInt8)).length 2)] (by kernel_rfl) ?_
                refine Ok.nil ?_
                refine Ok.thenN ?_
                refine Ok.ret ?_
                refine Ok.blockR ?_
                refine Ok.thenR ?_
                refine Ok.freeze (H' := []) 0 rfl hL20 rfl fun g21 hx21 hRf21 => ?_
                exact Ok.resH (vs := [.slice (some ⟨b20, 0, none⟩) ([([118, 105, 115, 105, 98, 108, 101] : List UInt8), ([104, 105, 100, 100, 101, 110] : List UInt8)] : List (List UInt8)).length 2]) (.inl rfl) rfl (.cons (.tmp rfl) .nil) hx21 ⟨([([118, 105, 115, 105, 98, 108, 101] : List UInt8), ([104, 105, 100, 100, 101, 110] : List UInt8)] : List (List UInt8)), (some ⟨b20, 0, none⟩), 2, rfl, hRf21, rfl, hF⟩
              · replace hF := hF.2 hc19
                refine Ok.seq ?_
                refine Ok.region ?_
                refine Ok.batch 2 [(3, .int .i64 xp), (25, .bool (xp == 39))] (by kernel_rfl) ?_
                refine Ok.nil ?_
                refine Ok.thenN ?_
                refine Ok.cond (b := (xp == 39)) rfl (fun hc22 => ?_) (fun hc22 => ?_)
                · replace hF := hF.1 hc22
                  refine Ok.seq ?_
                  refine Ok.region ?_
                  have hL23 : RepL g (.str) ([.string ⟨⟨([115, 116, 97, 114, 116] : List UInt8)⟩⟩, .string ⟨⟨([101, 110, 100] : List UInt8)⟩⟩, .string ⟨⟨([99, 101, 110, 116, 101, 114] : List UInt8)⟩⟩, .string ⟨⟨([106, 117, 115, 116, 105, 102, 121] : List UInt8)⟩⟩] : List Value) ([([115, 116, 97, 114, 116] : List UInt8), ([101, 110, 100] : List UInt8), ([99, 101, 110, 116, 101, 114] : List UInt8), ([106, 117, 115, 116, 105, 102, 121] : List UInt8)] : List (List UInt8)) := (RepL.flat (by kernel_rfl) (by kernel_rfl))
                  refine Ok.op rfl (OpOk.lit (E := 9) (.str) ([([115, 116, 97, 114, 116] : List UInt8), ([101, 110, 100] : List UInt8), ([99, 101, 110, 116, 101, 114] : List UInt8), ([106, 117, 115, 116, 105, 102, 121] : List UInt8)] : List (List UInt8)) ([.string ⟨⟨([115, 116, 97, 114, 116] : List UInt8)⟩⟩, .string ⟨⟨([101, 110, 100] : List UInt8)⟩⟩, .string ⟨⟨([99, 101, 110, 116, 101, 114] : List UInt8)⟩⟩, .string ⟨⟨([106, 117, 115, 116, 105, 102, 121] : List UInt8)⟩⟩] : List Value) (by kernel_rfl) (by kernel_rfl) rfl (by kernel_rfl) hL23 rfl fun b23 => ?_)
                  refine Ok.batch 1 [(2, .slice (some ⟨b23, 0, none⟩) ([([115, 116, 97, 114, 116] : List UInt8), ([101, 110, 100] : List UInt8), ([99, 101, 110, 116, 101, 114] : List UInt8), ([106, 117, 115, 116, 105, 102, 121] : List UInt8)] : List (List UInt8)).length 4)] (by kernel_rfl) ?_
                  refine Ok.nil ?_
                  refine Ok.thenN ?_
                  refine Ok.ret ?_
                  refine Ok.blockR ?_
                  refine Ok.thenR ?_
                  refine Ok.freeze (H' := []) 0 rfl hL23 rfl fun g24 hx24 hRf24 => ?_
                  exact Ok.resH (vs := [.slice (some ⟨b23, 0, none⟩) ([([115, 116, 97, 114, 116] : List UInt8), ([101, 110, 100] : List UInt8), ([99, 101, 110, 116, 101, 114] : List UInt8), ([106, 117, 115, 116, 105, 102, 121] : List UInt8)] : List (List UInt8)).length 4]) (.inl rfl) rfl (.cons (.tmp rfl) .nil) hx24 ⟨([([115, 116, 97, 114, 116] : List UInt8), ([101, 110, 100] : List UInt8), ([99, 101, 110, 116, 101, 114] : List UInt8), ([106, 117, 115, 116, 105, 102, 121] : List UInt8)] : List (List UInt8)), (some ⟨b23, 0, none⟩), 4, rfl, hRf24, rfl, hF⟩
                · replace hF := hF.2 hc22
                  refine Ok.seq ?_
                  refine Ok.region ?_
                  refine Ok.batch 2 [(3, .int .i64 xp), (28, .bool (xp == 41))] (by kernel_rfl) ?_
                  refine Ok.nil ?_
                  refine Ok.thenN ?_
                  refine Ok.cond (b := (xp == 41)) rfl (fun hc25 => ?_) (fun hc25 => ?_)
                  · replace hF := hF.1 hc25
                    refine Ok.seq ?_
                    refine Ok.region ?_
                    have hL26 : RepL g (.str) ([.string ⟨⟨([110, 111, 114, 109, 97, 108] : List UInt8)⟩⟩, .string ⟨⟨([112, 114, 101] : List UInt8)⟩⟩, .string ⟨⟨([110, 111, 119, 114, 97, 112] : List UInt8)⟩⟩, .string ⟨⟨([112, 114, 101, 45, 119, 114, 97, 112] : List UInt8)⟩⟩] : List Value) ([([110, 111, 114, 109, 97, 108] : List UInt8), ([112, 114, 101] : List UInt8), ([110, 111, 119, 114, 97, 112] : List UInt8), ([112, 114, 101, 45, 119, 114, 97, 112] : List UInt8)] : List (List UInt8)) := (RepL.flat (by kernel_rfl) (by kernel_rfl))
                    refine Ok.op rfl (OpOk.lit (E := 9) (.str) ([([110, 111, 114, 109, 97, 108] : List UInt8), ([112, 114, 101] : List UInt8), ([110, 111, 119, 114, 97, 112] : List UInt8), ([112, 114, 101, 45, 119, 114, 97, 112] : List UInt8)] : List (List UInt8)) ([.string ⟨⟨([110, 111, 114, 109, 97, 108] : List UInt8)⟩⟩, .string ⟨⟨([112, 114, 101] : List UInt8)⟩⟩, .string ⟨⟨([110, 111, 119, 114, 97, 112] : List UInt8)⟩⟩, .string ⟨⟨([112, 114, 101, 45, 119, 114, 97, 112] : List UInt8)⟩⟩] : List Value) (by kernel_rfl) (by kernel_rfl) rfl (by kernel_rfl) hL26 rfl fun b26 => ?_)
                    refine Ok.batch 1 [(2, .slice (some ⟨b26, 0, none⟩) ([([110, 111, 114, 109, 97, 108] : List UInt8), ([112, 114, 101] : List UInt8), ([110, 111, 119, 114, 97, 112] : List UInt8), ([112, 114, 101, 45, 119, 114, 97, 112] : List UInt8)] : List (List UInt8)).length 4)] (by kernel_rfl) ?_
                    refine Ok.nil ?_
                    refine Ok.thenN ?_
                    refine Ok.ret ?_
                    refine Ok.blockR ?_
                    refine Ok.thenR ?_
                    refine Ok.freeze (H' := []) 0 rfl hL26 rfl fun g27 hx27 hRf27 => ?_
                    exact Ok.resH (vs := [.slice (some ⟨b26, 0, none⟩) ([([110, 111, 114, 109, 97, 108] : List UInt8), ([112, 114, 101] : List UInt8), ([110, 111, 119, 114, 97, 112] : List UInt8), ([112, 114, 101, 45, 119, 114, 97, 112] : List UInt8)] : List (List UInt8)).length 4]) (.inl rfl) rfl (.cons (.tmp rfl) .nil) hx27 ⟨([([110, 111, 114, 109, 97, 108] : List UInt8), ([112, 114, 101] : List UInt8), ([110, 111, 119, 114, 97, 112] : List UInt8), ([112, 114, 101, 45, 119, 114, 97, 112] : List UInt8)] : List (List UInt8)), (some ⟨b26, 0, none⟩), 4, rfl, hRf27, rfl, hF⟩
                  · replace hF := hF.2 hc25
                    refine Ok.seq ?_
                    refine Ok.region ?_
                    refine Ok.batch 2 [(3, .int .i64 xp), (31, .bool (xp == 42))] (by kernel_rfl) ?_
                    refine Ok.nil ?_
                    refine Ok.thenN ?_
                    refine Ok.cond (b := (xp == 42)) rfl (fun hc28 => ?_) (fun hc28 => ?_)
                    · replace hF := hF.1 hc28
                      refine Ok.seq ?_
                      refine Ok.region ?_
                      have hL29 : RepL g (.str) ([.string ⟨⟨([98, 97, 115, 101, 108, 105, 110, 101] : List UInt8)⟩⟩, .string ⟨⟨([116, 111, 112] : List UInt8)⟩⟩, .string ⟨⟨([109, 105, 100, 100, 108, 101] : List UInt8)⟩⟩, .string ⟨⟨([98, 111, 116, 116, 111, 109] : List UInt8)⟩⟩] : List Value) ([([98, 97, 115, 101, 108, 105, 110, 101] : List UInt8), ([116, 111, 112] : List UInt8), ([109, 105, 100, 100, 108, 101] : List UInt8), ([98, 111, 116, 116, 111, 109] : List UInt8)] : List (List UInt8)) := (RepL.flat (by kernel_rfl) (by kernel_rfl))
                      refine Ok.op rfl (OpOk.lit (E := 9) (.str) ([([98, 97, 115, 101, 108, 105, 110, 101] : List UInt8), ([116, 111, 112] : List UInt8), ([109, 105, 100, 100, 108, 101] : List UInt8), ([98, 111, 116, 116, 111, 109] : List UInt8)] : List (List UInt8)) ([.string ⟨⟨([98, 97, 115, 101, 108, 105, 110, 101] : List UInt8)⟩⟩, .string ⟨⟨([116, 111, 112] : List UInt8)⟩⟩, .string ⟨⟨([109, 105, 100, 100, 108, 101] : List UInt8)⟩⟩, .string ⟨⟨([98, 111, 116, 116, 111, 109] : List UInt8)⟩⟩] : List Value) (by kernel_rfl) (by kernel_rfl) rfl (by kernel_rfl) hL29 rfl fun b29 => ?_)
                      refine Ok.batch 1 [(2, .slice (some ⟨b29, 0, none⟩) ([([98, 97, 115, 101, 108, 105, 110, 101] : List UInt8), ([116, 111, 112] : List UInt8), ([109, 105, 100, 100, 108, 101] : List UInt8), ([98, 111, 116, 116, 111, 109] : List UInt8)] : List (List UInt8)).length 4)] (by kernel_rfl) ?_
                      refine Ok.nil ?_
                      refine Ok.thenN ?_
                      refine Ok.ret ?_
                      refine Ok.blockR ?_
                      refine Ok.thenR ?_
                      refine Ok.freeze (H' := []) 0 rfl hL29 rfl fun g30 hx30 hRf30 => ?_
                      exact Ok.resH (vs := [.slice (some ⟨b29, 0, none⟩) ([([98, 97, 115, 101, 108, 105, 110, 101] : List UInt8), ([116, 111, 112] : List UInt8), ([109, 105, 100, 100, 108, 101] : List UInt8), ([98, 111, 116, 116, 111, 109] : List UInt8)] : List (List UInt8)).length 4]) (.inl rfl) rfl (.cons (.tmp rfl) .nil) hx30 ⟨([([98, 97, 115, 101, 108, 105, 110, 101] : List UInt8), ([116, 111, 112] : List UInt8), ([109, 105, 100, 100, 108, 101] : List UInt8), ([98, 111, 116, 116, 111, 109] : List UInt8)] : List (List UInt8)), (some ⟨b29, 0, none⟩), 4, rfl, hRf30, rfl, hF⟩
                    · replace hF := hF.2 hc28
                      refine Ok.seq ?_
                      refine Ok.region ?_
                      refine Ok.batch 2 [(3, .int .i64 xp), (34, .bool (xp == 43))] (by kernel_rfl) ?_
                      refine Ok.nil ?_
                      refine Ok.thenN ?_
                      refine Ok.cond (b := (xp == 43)) rfl (fun hc31 => ?_) (fun hc31 => ?_)
                      · replace hF := hF.1 hc31
                        refine Ok.seq ?_
                        refine Ok.region ?_
                        have hL32 : RepL g (.str) ([.string ⟨⟨([110, 111, 110, 101] : List UInt8)⟩⟩, .string ⟨⟨([117, 112, 112, 101, 114, 99, 97, 115, 101] : List UInt8)⟩⟩, .string ⟨⟨([108, 111, 119, 101, 114, 99, 97, 115, 101] : List UInt8)⟩⟩] : List Value) ([([110, 111, 110, 101] : List UInt8), ([117, 112, 112, 101, 114, 99, 97, 115, 101] : List UInt8), ([108, 111, 119, 101, 114, 99, 97, 115, 101] : List UInt8)] : List (List UInt8)) := (RepL.consN (c := [.string ⟨⟨([110, 111, 110, 101] : List UInt8)⟩⟩]) rfl (RepL.consN (c := [.string ⟨⟨([117, 112, 112, 101, 114, 99, 97, 115, 101] : List UInt8)⟩⟩]) rfl (RepL.consN (c := [.string ⟨⟨([108, 111, 119, 101, 114, 99, 97, 115, 101] : List UInt8)⟩⟩]) rfl rfl)))
                        refine Ok.op rfl (OpOk.lit (E := 9) (.str) ([([110, 111, 110, 101] : List UInt8), ([117, 112, 112, 101, 114, 99, 97, 115, 101] : List UInt8), ([108, 111, 119, 101, 114, 99, 97, 115, 101] : List UInt8)] : List (List UInt8)) ([.string ⟨⟨([110, 111, 110, 101] : List UInt8)⟩⟩, .string ⟨⟨([117, 112, 112, 101, 114, 99, 97, 115, 101] : List UInt8)⟩⟩, .string ⟨⟨([108, 111, 119, 101, 114, 99, 97, 115, 101] : List UInt8)⟩⟩] : List Value) (by kernel_rfl) (by kernel_rfl) rfl (by kernel_rfl) hL32 rfl fun b32 => ?_)
                        refine Ok.batch 1 [(2, .slice (some ⟨b32, 0, none⟩) ([([110, 111, 110, 101] : List UInt8), ([117, 112, 112, 101, 114, 99, 97, 115, 101] : List UInt8), ([108, 111, 119, 101, 114, 99, 97, 115, 101] : List UInt8)] : List (List UInt8)).length 3)] (by kernel_rfl) ?_
                        refine Ok.nil ?_
                        refine Ok.thenN ?_
                        refine Ok.ret ?_
                        refine Ok.blockR ?_
                        refine Ok.thenR ?_
                        refine Ok.freeze (H' := []) 0 rfl hL32 rfl fun g33 hx33 hRf33 => ?_
                        exact Ok.resH (vs := [.slice (some ⟨b32, 0, none⟩) ([([110, 111, 110, 101] : List UInt8), ([117, 112, 112, 101, 114, 99, 97, 115, 101] : List UInt8), ([108, 111, 119, 101, 114, 99, 97, 115, 101] : List UInt8)] : List (List UInt8)).length 3]) (.inl rfl) rfl (.cons (.tmp rfl) .nil) hx33 ⟨([([110, 111, 110, 101] : List UInt8), ([117, 112, 112, 101, 114, 99, 97, 115, 101] : List UInt8), ([108, 111, 119, 101, 114, 99, 97, 115, 101] : List UInt8)] : List (List UInt8)), (some ⟨b32, 0, none⟩), 3, rfl, hRf33, rfl, hF⟩
                      · replace hF := hF.2 hc31
                        refine Ok.seq ?_
                        refine Ok.region ?_
                        refine Ok.batch 2 [(3, .int .i64 xp), (37, .bool (xp == 45))] (by kernel_rfl) ?_
                        refine Ok.nil ?_
                        refine Ok.thenN ?_
                        refine Ok.cond (b := (xp == 45)) rfl (fun hc34 => ?_) (fun hc34 => ?_)
                        · replace hF := hF.1 hc34
                          refine Ok.seq ?_
                          refine Ok.region ?_
                          have hL35 : RepL g (.str) ([.string ⟨⟨([114, 111, 119] : List UInt8)⟩⟩, .string ⟨⟨([114, 111, 119, 45, 114, 101, 118, 101, 114, 115, 101] : List UInt8)⟩⟩, .string ⟨⟨([99, 111, 108, 117, 109, 110] : List UInt8)⟩⟩, .string ⟨⟨([99, 111, 108, 117, 109, 110, 45, 114, 101, 118, 101, 114, 115, 101] : List UInt8)⟩⟩] : List Value) ([([114, 111, 119] : List UInt8), ([114, 111, 119, 45, 114, 101, 118, 101, 114, 115, 101] : List UInt8), ([99, 111, 108, 117, 109, 110] : List UInt8), ([99, 111, 108, 117, 109, 110, 45, 114, 101, 118, 101, 114, 115, 101] : List UInt8)] : List (List UInt8)) := (RepL.flat (by kernel_rfl) (by kernel_rfl))
                          refine Ok.op rfl (OpOk.lit (E := 9) (.str) ([([114, 111, 119] : List UInt8), ([114, 111, 119, 45, 114, 101, 118, 101, 114, 115, 101] : List UInt8), ([99, 111, 108, 117, 109, 110] : List UInt8), ([99, 111, 108, 117, 109, 110, 45, 114, 101, 118, 101, 114, 115, 101] : List UInt8)] : List (List UInt8)) ([.string ⟨⟨([114, 111, 119] : List UInt8)⟩⟩, .string ⟨⟨([114, 111, 119, 45, 114, 101, 118, 101, 114, 115, 101] : List UInt8)⟩⟩, .string ⟨⟨([99, 111, 108, 117, 109, 110] : List UInt8)⟩⟩, .string ⟨⟨([99, 111, 108, 117, 109, 110, 45, 114, 101, 118, 101, 114, 115, 101] : List UInt8)⟩⟩] : List Value) (by kernel_rfl) (by kernel_rfl) rfl (by kernel_rfl) hL35 rfl fun b35 => ?_)
                          refine Ok.batch 1 [(2, .slice (some ⟨b35, 0, none⟩) ([([114, 111, 119] : List UInt8), ([114, 111, 119, 45, 114, 101, 118, 101, 114, 115, 101] : List UInt8), ([99, 111, 108, 117, 109, 110] : List UInt8), ([99, 111, 108, 117, 109, 110, 45, 114, 101, 118, 101, 114, 115, 101] : List UInt8)] : List (List UInt8)).length 4)] (by kernel_rfl) ?_
                          refine Ok.nil ?_
                          refine Ok.thenN ?_
                          refine Ok.ret ?_
                          refine Ok.blockR ?_
                          refine Ok.thenR ?_
                          refine Ok.freeze (H' := []) 0 rfl hL35 rfl fun g36 hx36 hRf36 => ?_
                          exact Ok.resH (vs := [.slice (some ⟨b35, 0, none⟩) ([([114, 111, 119] : List UInt8), ([114, 111, 119, 45, 114, 101, 118, 101, 114, 115, 101] : List UInt8), ([99, 111, 108, 117, 109, 110] : List UInt8), ([99, 111, 108, 117, 109, 110, 45, 114, 101, 118, 101, 114, 115, 101] : List UInt8)] : List (List UInt8)).length 4]) (.inl rfl) rfl (.cons (.tmp rfl) .nil) hx36 ⟨([([114, 111, 119] : List UInt8), ([114, 111, 119, 45, 114, 101, 118, 101, 114, 115, 101] : List UInt8), ([99, 111, 108, 117, 109, 110] : List UInt8), ([99, 111, 108, 117, 109, 110, 45, 114, 101, 118, 101, 114, 115, 101] : List UInt8)] : List (List UInt8)), (some ⟨b35, 0, none⟩), 4, rfl, hRf36, rfl, hF⟩
                        · replace hF := hF.2 hc34
                          refine Ok.seq ?_
                          refine Ok.region ?_
                          refine Ok.batch 2 [(3, .int .i64 xp), (40, .bool (xp == 46))] (by kernel_rfl) ?_
                          refine Ok.nil ?_
                          refine Ok.thenN ?_
                          refine Ok.cond (b := (xp == 46)) rfl (fun hc37 => ?_) (fun hc37 => ?_)
                          · replace hF := hF.1 hc37
                            refine Ok.seq ?_
                            refine Ok.region ?_
                            have hL38 : RepL g (.str) ([.string ⟨⟨([110, 111, 119, 114, 97, 112] : List UInt8)⟩⟩, .string ⟨⟨([119, 114, 97, 112] : List UInt8)⟩⟩] : List Value) ([([110, 111, 119, 114, 97, 112] : List UInt8), ([119, 114, 97, 112] : List UInt8)] : List (List UInt8)) := (RepL.consN (c := [.string ⟨⟨([110, 111, 119, 114, 97, 112] : List UInt8)⟩⟩]) rfl (RepL.consN (c := [.string ⟨⟨([119, 114, 97, 112] : List UInt8)⟩⟩]) rfl rfl))
                            refine Ok.op rfl (OpOk.lit (E := 9) (.str) ([([110, 111, 119, 114, 97, 112] : List UInt8), ([119, 114, 97, 112] : List UInt8)] : List (List UInt8)) ([.string ⟨⟨([110, 111, 119, 114, 97, 112] : List UInt8)⟩⟩, .string ⟨⟨([119, 114, 97, 112] : List UInt8)⟩⟩] : List Value) (by kernel_rfl) (by kernel_rfl) rfl (by kernel_rfl) hL38 rfl fun b38 => ?_)
                            refine Ok.batch 1 [(2, .slice (some ⟨b38, 0, none⟩) ([([110, 111, 119, 114, 97, 112] : List UInt8), ([119, 114, 97, 112] : List UInt8)] : List (List UInt8)).length 2)] (by kernel_rfl) ?_
                            refine Ok.nil ?_
                            refine Ok.thenN ?_
                            refine Ok.ret ?_
                            refine Ok.blockR ?_
                            refine Ok.thenR ?_
                            refine Ok.freeze (H' := []) 0 rfl hL38 rfl fun g39 hx39 hRf39 => ?_
                            exact Ok.resH (vs := [.slice (some ⟨b38, 0, none⟩) ([([110, 111, 119, 114, 97, 112] : List UInt8), ([119, 114, 97, 112] : List UInt8)] : List (List UInt8)).length 2]) (.inl rfl) rfl (.cons (.tmp rfl) .nil) hx39 ⟨([([110, 111, 119, 114, 97, 112] : List UInt8), ([119, 114, 97, 112] : List UInt8)] : List (List UInt8)), (some ⟨b38, 0, none⟩), 2, rfl, hRf39, rfl, hF⟩
                          · replace hF := hF.2 hc37
                            refine Ok.seq ?_
                            refine Ok.region ?_
                            refine Ok.batch 2 [(3, .int .i64 xp), (43, .bool (xp == 47))] (by kernel_rfl) ?_
                            refine Ok.nil ?_
                            refine Ok.thenN ?_
                            refine Ok.cond (b := (xp == 47)) rfl (fun hc40 => ?_) (fun hc40 => ?_)
                            · replace hF := hF.1 hc40
                              refine Ok.seq ?_
                              refine Ok.region ?_
                              have hL41 : RepL g (.str) ([.string ⟨⟨([102, 108, 101, 120, 45, 115, 116, 97, 114, 116] : List UInt8)⟩⟩, .string ⟨⟨([102, 108, 101, 120, 45, 101, 110, 100] : List UInt8)⟩⟩, .string ⟨⟨([99, 101, 110, 116, 101, 114] : List UInt8)⟩⟩, .string ⟨⟨([] : List UInt8)⟩⟩, .string ⟨⟨([115, 112, 97, 99, 101, 45, 98, 101, 116, 119, 101, 101, 110] : List UInt8)⟩⟩, .string ⟨⟨([115, 112, 97, 99, 101, 45, 97, 114, 111, 117, 110, 100] : List UInt8)⟩⟩] : List Value) ([([102, 108, 101, 120, 45, 115, 116, 97, 114, 116] : List UInt8), ([102, 108, 101, 120, 45, 101, 110, 100] : List UInt8), ([99, 101, 110, 116, 101, 114] : List UInt8), ([] : List UInt8), ([115, 112, 97, 99, 101, 45, 98, 101, 116, 119, 101, 101, 110] : List UInt8), ([115, 112, 97, 99, 101, 45, 97, 114, 111, 117, 110, 100] : List UInt8)] : List (List UInt8)) := (RepL.flat (by kernel_rfl) (by kernel_rfl))
                              refine Ok.op rfl (OpOk.lit (E := 9) (.str) ([([102, 108, 101, 120, 45, 115, 116, 97, 114, 116] : List UInt8), ([102, 108, 101, 120, 45, 101, 110, 100] : List UInt8), ([99, 101, 110, 116, 101, 114] : List UInt8), ([] : List UInt8), ([115, 112, 97, 99, 101, 45, 98, 101, 116, 119, 101, 101, 110] : List UInt8), ([115, 112, 97, 99, 101, 45, 97, 114, 111, 117, 110, 100] : List UInt8)] : List (List UInt8)) ([.string ⟨⟨([102, 108, 101, 120, 45, 115, 116, 97, 114, 116] : List UInt8)⟩⟩, .string ⟨⟨([102, 108, 101, 120, 45, 101, 110, 100] : List UInt8)⟩⟩, .string ⟨⟨([99, 101, 110, 116, 101, 114] : List UInt8)⟩⟩, .string ⟨⟨([] : List UInt8)⟩⟩, .string ⟨⟨([115, 112, 97, 99, 101, 45, 98, 101, 116, 119, 101, 101, 110] : List UInt8)⟩⟩, .string ⟨⟨([115, 112, 97, 99, 101, 45, 97, 114, 111, 117, 110, 100] : List UInt8)⟩⟩] : List Value) (by kernel_rfl) (by kernel_rfl) rfl (by kernel_rfl) hL41 rfl fun b41 => ?_)
                              refine Ok.batch 1 [(2, .slice (some ⟨b41, 0, none⟩) ([([102, 108, 101, 120, 45, 115, 116, 97, 114, 116] : List UInt8), ([102, 108, 101, 120, 45, 101, 110, 100] : List UInt8), ([99, 101, 110, 116, 101, 114] : List UInt8), ([] : List UInt8), ([115, 112, 97, 99, 101, 45, 98, 101, 116, 119, 101, 101, 110] : List UInt8), ([115, 112, 97, 99, 101, 45, 97, 114, 111, 117, 110, 100] : List UInt8)] : List (List UInt8)).length 6)] (by kernel_rfl) ?_
                              refine Ok.nil ?_
                              refine Ok.thenN ?_
                              refine Ok.ret ?_
                              refine Ok.blockR ?_
                              refine Ok.thenR ?_
                              refine Ok.freeze (H' := []) 0 rfl hL41 rfl fun g42 hx42 hRf42 => ?_
                              exact Ok.resH (vs := [.slice (some ⟨b41, 0, none⟩) ([([102, 108, 101, 120, 45, 115, 116, 97, 114, 116] : List UInt8), ([102, 108, 101, 120, 45, 101, 110, 100] : List UInt8), ([99, 101, 110, 116, 101, 114] : List UInt8), ([] : List UInt8), ([115, 112, 97, 99, 101, 45, 98, 101, 116, 119, 101, 101, 110] : List UInt8), ([115, 112, 97, 99, 101, 45, 97, 114, 111, 117, 110, 100] : List UInt8)] : List (List UInt8)).length 6]) (.inl rfl) rfl (.cons (.tmp rfl) .nil) hx42 ⟨([([102, 108, 101, 120, 45, 115, 116, 97, 114, 116] : List UInt8), ([102, 108, 101, 120, 45, 101, 110, 100] : List UInt8), ([99, 101, 110, 116, 101, 114] : List UInt8), ([] : List UInt8), ([115, 112, 97, 99, 101, 45, 98, 101, 116, 119, 101, 101, 110] : List UInt8), ([115, 112, 97, 99, 101, 45, 97, 114, 111, 117, 110, 100] : List UInt8)] : List (List UInt8)), (some ⟨b41, 0, none⟩), 6, rfl, hRf42, rfl, hF⟩
                            · replace hF := hF.2 hc40
                              refine Ok.seq ?_
                              refine Ok.region ?_
                              refine Ok.batch 2 [(3, .int .i64 xp), (46, .bool (xp == 48))] (by kernel_rfl) ?_
                              refine Ok.nil ?_
                              refine Ok.thenN ?_
                              refine Ok.cond (b := (xp == 48)) rfl (fun hc43 => ?_) (fun hc43 => ?_)
                              · replace hF := hF.1 hc43
                                refine Ok.seq ?_
                                refine Ok.region ?_
                                have hL44 : RepL g (.str) ([.string ⟨⟨([102, 108, 101, 120, 45, 115, 116, 97, 114, 116] : List UInt8)⟩⟩, .string ⟨⟨([102, 108, 101, 120, 45, 101, 110, 100] : List UInt8)⟩⟩, .string ⟨⟨([99, 101, 110, 116, 101, 114] : List UInt8)⟩⟩, .string ⟨⟨([] : List UInt8)⟩⟩, .string ⟨⟨([] : List UInt8)⟩⟩, .string ⟨⟨([] : List UInt8)⟩⟩, .string ⟨⟨([115, 116, 114, 101, 116, 99, 104] : List UInt8)⟩⟩] : List Value) ([([102, 108, 101, 120, 45, 115, 116, 97, 114, 116] : List UInt8), ([102, 108, 101, 120, 45, 101, 110, 100] : List UInt8), ([99, 101, 110, 116, 101, 114] : List UInt8), ([] : List UInt8), ([] : List UInt8), ([] : List UInt8), ([115, 116, 114, 101, 116, 99, 104] : List UInt8)] : List (List UInt8)) := (RepL.flat (by kernel_rfl) (by kernel_rfl))
                                refine Ok.op rfl (OpOk.lit (E := 9) (.str) ([([102, 108, 101, 120, 45, 115, 116, 97, 114, 116] : List UInt8), ([102, 108, 101, 120, 45, 101, 110, 100] : List UInt8), ([99, 101, 110, 116, 101, 114] : List UInt8), ([] : List UInt8), ([] : List UInt8), ([] : List UInt8), ([115, 116, 114, 101, 116, 99, 104] : List UInt8)] : List (List UInt8)) ([.string ⟨⟨([102, 108, 101, 120, 45, 115, 116, 97, 114, 116] : List UInt8)⟩⟩, .string ⟨⟨([102, 108, 101, 120, 45, 101, 110, 100] : List UInt8)⟩⟩, .string ⟨⟨([99, 101, 110, 116, 101, 114] : List UInt8)⟩⟩, .string ⟨⟨([] : List UInt8)⟩⟩, .string ⟨⟨([] : List UInt8)⟩⟩, .string ⟨⟨([] : List UInt8)⟩⟩, .string ⟨⟨([115, 116, 114, 101, 116, 99, 104] : List UInt8)⟩⟩] : List Value) (by kernel_rfl) (by kernel_rfl) rfl (by kernel_rfl) hL44 rfl fun b44 => ?_)
                                refine Ok.batch 1 [(2, .slice (some ⟨b44, 0, none⟩) ([([102, 108, 101, 120, 45, 115, 116, 97, 114, 116] : List UInt8), ([102, 108, 101, 120, 45, 101, 110, 100] : List UInt8), ([99, 101, 110, 116, 101, 114] : List UInt8), ([] : List UInt8), ([] : List UInt8), ([] : List UInt8), ([115, 116, 114, 101, 116, 99, 104] : List UInt8)] : List (List UInt8)).length 7)] (by kernel_rfl) ?_
                                refine Ok.nil ?_
                                refine Ok.thenN ?_
                                refine Ok.ret ?_
                                refine Ok.blockR ?_
                                refine Ok.thenR ?_
                                refine Ok.freeze (H' := []) 0 rfl hL44 rfl fun g45 hx45 hRf45 => ?_
                                exact Ok.resH (vs := [.slice (some ⟨b44, 0, none⟩) ([([102, 108, 101, 120, 45, 115, 116, 97, 114, 116] : List UInt8), ([102, 108, 101, 120, 45, 101, 110, 100] : List UInt8), ([99, 101, 110, 116, 101, 114] : List UInt8), ([] : List UInt8), ([] : List UInt8), ([] : List UInt8), ([115, 116, 114, 101, 116, 99, 104] : List UInt8)] : List (List UInt8)).length 7]) (.inl rfl) rfl (.cons (.tmp rfl) .nil) hx45 ⟨([([102, 108, 101, 120, 45, 115, 116, 97, 114, 116] : List UInt8), ([102, 108, 101, 120, 45, 101, 110, 100] : List UInt8), ([99, 101, 110, 116, 101, 114] : List UInt8), ([] : List UInt8), ([] : List UInt8), ([] : List UInt8), ([115, 116, 114, 101, 116, 99, 104] : List UInt8)] : List (List UInt8)), (some ⟨b44, 0, none⟩), 7, rfl, hRf45, rfl, hF⟩
                              · replace hF := hF.2 hc43
                                refine Ok.seq ?_
                                refine Ok.region ?_
                                refine Ok.batch 2 [(3, .int .i64 xp), (49, .bool (xp == 49))] (by kernel_rfl) ?_
                                refine Ok.nil ?_
                                refine Ok.thenN ?_
                                refine Ok.cond (b := (xp == 49)) rfl (fun hc46 => ?_) (fun hc46 => ?_)
                                · replace hF := hF.1 hc46
                                  refine Ok.seq ?_
                                  refine Ok.region ?_
                                  have hL47 : RepL g (.str) ([.string ⟨⟨([102, 108, 101, 120, 45, 115, 116, 97, 114, 116] : List UInt8)⟩⟩, .string ⟨⟨([102, 108, 101, 120, 45, 101, 110, 100] : List UInt8)⟩⟩, .string ⟨⟨([99, 101, 110, 116, 101, 114] : List UInt8)⟩⟩, .string ⟨⟨([] : List UInt8)⟩⟩, .string ⟨⟨([] : List UInt8)⟩⟩, .string ⟨⟨([] : List UInt8)⟩⟩, .string ⟨⟨([115, 116, 114, 101, 116, 99, 104] : List UInt8)⟩⟩] : List Value) ([([102, 108, 101, 120, 45, 115, 116, 97, 114, 116] : List UInt8), ([102, 108, 101, 120, 45, 101, 110, 100] : List UInt8), ([99, 101, 110, 116, 101, 114] : List UInt8), ([] : List UInt8), ([] : List UInt8), ([] : List UInt8), ([115, 116, 114, 101, 116, 99, 104] : List UInt8)] : List (List UInt8)) := (RepL.flat (by kernel_rfl) (by kernel_rfl))
                                  refine Ok.op rfl (OpOk.lit (E := 9) (.str) ([([102, 108, 101, 120, 45, 115, 116, 97, 114, 116] : List UInt8), ([102, 108, 101, 120, 45, 101, 110, 100] : List UInt8), ([99, 101, 110, 116, 101, 114] : List UInt8), ([] : List UInt8), ([] : List UInt8), ([] : List UInt8), ([115, 116, 114, 101, 116, 99, 104] : List UInt8)] : List (List UInt8)) ([.string ⟨⟨([102, 108, 101, 120, 45, 115, 116, 97, 114, 116] : List UInt8)⟩⟩, .string ⟨⟨([102, 108, 101, 120, 45, 101, 110, 100] : List UInt8)⟩⟩, .string ⟨⟨([99, 101, 110, 116, 101, 114] : List UInt8)⟩⟩, .string ⟨⟨([] : List UInt8)⟩⟩, .string ⟨⟨([] : List UInt8)⟩⟩, .string ⟨⟨([] : List UInt8)⟩⟩, .string ⟨⟨([115, 116, 114, 101, 116, 99, 104] : List UInt8)⟩⟩] : List Value) (by kernel_rfl) (by kernel_rfl) rfl (by kernel_rfl) hL47 rfl fun b47 => ?_)
                                  refine Ok.batch 1 [(2, .slice (some ⟨b47, 0, none⟩) ([([102, 108, 101, 120, 45, 115, 116, 97, 114, 116] : List UInt8), ([102, 108, 101, 120, 45, 101, 110, 100] : List UInt8), ([99, 101, 110, 116, 101, 114] : List UInt8), ([] : List UInt8), ([] : List UInt8), ([] : List UInt8), ([115, 116, 114, 101, 116, 99, 104] : List UInt8)] : List (List UInt8)).length 7)] (by kernel_rfl) ?_
                                  refine Ok.nil ?_
                                  refine Ok.thenN ?_
                                  refine Ok.ret ?_
                                  refine Ok.blockR ?_
                                  refine Ok.thenR ?_
                                  refine Ok.freeze (H' := []) 0 rfl hL47 rfl fun g48 hx48 hRf48 => ?_
                                  exact Ok.resH (vs := [.slice (some ⟨b47, 0, none⟩) ([([102, 108, 101, 120, 45, 115, 116, 97, 114, 116] : List UInt8), ([102, 108, 101, 120, 45, 101, 110, 100] : List UInt8), ([99, 101, 110, 116, 101, 114] : List UInt8), ([] : List UInt8), ([] : List UInt8), ([] : List UInt8), ([115, 116, 114, 101, 116, 99, 104] : List UInt8)] : List (List UInt8)).length 7]) (.inl rfl) rfl (.cons (.tmp rfl) .nil) hx48 ⟨([([102, 108, 101, 120, 45, 115, 116, 97, 114, 116] : List UInt8), ([102, 108, 101, 120, 45, 101, 110, 100] : List UInt8), ([99, 101, 110, 116, 101, 114] : List UInt8), ([] : List UInt8), ([] : List UInt8), ([] : List UInt8), ([115, 116, 114, 101, 116, 99, 104] : List UInt8)] : List (List UInt8)), (some ⟨b47, 0, none⟩), 7, rfl, hRf48, rfl, hF⟩
                                · replace hF := hF.2 hc46
                                  refine Ok.seq ?_
                                  refine Ok.region ?_
                                  refine Ok.batch 2 [(3, .int .i64 xp), (52, .bool (xp == 55))] (by kernel_rfl) ?_
                                  refine Ok.nil ?_
                                  refine Ok.thenN ?_
                                  refine Ok.cond (b := (xp == 55)) rfl (fun hc49 => ?_) (fun hc49 => ?_)
                                  · replace hF := hF.1 hc49
                                    refine Ok.seq ?_
                                    refine Ok.region ?_
                                    have hL50 : RepL g (.str) ([.string ⟨⟨([97, 117, 116, 111] : List UInt8)⟩⟩, .string ⟨⟨([102, 105, 120, 101, 100] : List UInt8)⟩⟩] : List Value) ([([97, 117, 116, 111] : List UInt8), ([102, 105, 120, 101, 100] : List UInt8)] : List (List UInt8)) := (RepL.consN (c := [.string ⟨⟨([97, 117, 116, 111] : List UInt8)⟩⟩]) rfl (RepL.consN (c := [.string ⟨⟨([102, 105, 120, 101, 100] : List UInt8)⟩⟩]) rfl rfl))
                                    refine Ok.op rfl (OpOk.lit (E := 9) (.str) ([([97, 117, 116, 111] : List UInt8), ([102, 105, 120, 101, 100] : List UInt8)] : List (List UInt8)) ([.string ⟨⟨([97, 117, 116, 111] : List UInt8)⟩⟩, .string ⟨⟨([102, 105, 120, 101, 100] : List UInt8)⟩⟩] : List Value) (by kernel_rfl) (by kernel_rfl) rfl (by kernel_rfl) hL50 rfl fun b50 => ?_)
                                    refine Ok.batch 1 [(2, .slice (some ⟨b50, 0, none⟩) ([([97, 117, 116, 111] : List UInt8), ([102, 105, 120, 101, 100] : List UInt8)] : List (List UInt8)).length 2)] (by kernel_rfl) ?_
                                    refine Ok.nil ?_
                                    refine Ok.thenN ?_
                                    refine Ok.ret ?_
                                    refine Ok.blockR ?_
                                    refine Ok.thenR ?_
                                    refine Ok.freeze (H' := []) 0 rfl hL50 rfl fun g51 hx51 hRf51 => ?_
                                    exact Ok.resH (vs := [.slice (some ⟨b50, 0, none⟩) ([([97, 117, 116, 111] : List UInt8), ([102, 105, 120, 101, 100] : List UInt8)] : List (List UInt8)).length 2]) (.inl rfl) rfl (.cons (.tmp rfl) .nil) hx51 ⟨([([97, 117, 116, 111] : List UInt8), ([102, 105, 120, 101, 100] : List UInt8)] : List (List UInt8)), (some ⟨b50, 0, none⟩), 2, rfl, hRf51, rfl, hF⟩
                                  · replace hF := hF.2 hc49
                                    refine Ok.seq ?_
                                    refine Ok.region ?_
                                    refine Ok.batch 2 [(3, .int .i64 xp), (55, .bool (xp == 57))] (by kernel_rfl) ?_
                                    refine Ok.nil ?_
                                    refine Ok.thenN ?_
                                    refine Ok.cond (b := (xp == 57)) rfl (fun hc52 => ?_) (fun hc52 => ?_)
                                    · replace hF := hF.1 hc52
                                      refine Ok.seq ?_
                                      refine Ok.region ?_
                                      have hL53 : RepL g (.str) ([.string ⟨⟨([110, 111, 110, 101] : List UInt8)⟩⟩, .string ⟨⟨([100, 105, 115, 99] : List UInt8)⟩⟩, .string ⟨⟨([100, 101, 99, 105, 109, 97, 108] : List UInt8)⟩⟩] : List Value) ([([110, 111, 110, 101] : List UInt8), ([100, 105, 115, 99] : List UInt8), ([100, 101, 99, 105, 109, 97, 108] : List UInt8)] : List (List UInt8)) := (RepL.consN (c := [.string ⟨⟨([110, 111, 110, 101] : List UInt8)⟩⟩]) rfl (RepL.consN (c := [.string ⟨⟨([100, 105, 115, 99] : List UInt8)⟩⟩]) rfl (RepL.consN (c := [.string ⟨⟨([100, 101, 99, 105, 109, 97, 108] : List UInt8)⟩⟩]) rfl rfl)))
                                      refine Ok.op rfl (OpOk.lit (E := 9) (.str) ([([110, 111, 110, 101] : List UInt8), ([100, 105, 115, 99] : List UInt8), ([100, 101, 99, 105, 109, 97, 108] : List UInt8)] : List (List UInt8)) ([.string ⟨⟨([110, 111, 110, 101] : List UInt8)⟩⟩, .string ⟨⟨([100, 105, 115, 99] : List UInt8)⟩⟩, .string ⟨⟨([100, 101, 99, 105, 109, 97, 108] : List UInt8)⟩⟩] : List Value) (by kernel_rfl) (by kernel_rfl) rfl (by kernel_rfl) hL53 rfl fun b53 => ?_)
                                      refine Ok.batch 1 [(2, .slice (some ⟨b53, 0, none⟩) ([([110, 111, 110, 101] : List UInt8), ([100, 105, 115, 99] : List UInt8), ([100, 101, 99, 105, 109, 97, 108] : List UInt8)] : List (List UInt8)).length 3)] (by kernel_rfl) ?_
                                      refine Ok.nil ?_
                                      refine Ok.thenN ?_
                                      refine Ok.ret ?_
                                      refine Ok.blockR ?_
                                      refine Ok.thenR ?_
                                      refine Ok.freeze (H' := []) 0 rfl hL53 rfl fun g54 hx54 hRf54 => ?_
                                      exact Ok.resH (vs := [.slice (some ⟨b53, 0, none⟩) ([([110, 111, 110, 101] : List UInt8), ([100, 105, 115, 99] : List UInt8), ([100, 101, 99, 105, 109, 97, 108] : List UInt8)] : List (List UInt8)).length 3]) (.inl rfl) rfl (.cons (.tmp rfl) .nil) hx54 ⟨([([110, 111, 110, 101] : List UInt8), ([100, 105, 115, 99] : List UInt8), ([100, 101, 99, 105, 109, 97, 108] : List UInt8)] : List (List UInt8)), (some ⟨b53, 0, none⟩), 3, rfl, hRf54, rfl, hF⟩
                                    · replace hF := hF.2 hc52
                                      refine Ok.seq ?_
                                      refine Ok.region ?_
                                      refine Ok.batch 2 [(58, .bool (xp == 58))] (by kernel_rfl) ?_
                                      refine Ok.nil ?_
                                      refine Ok.thenN ?_
                                      refine Ok.cond (b := (xp == 58)) rfl (fun hc55 => ?_) (fun hc55 => ?_)
                                      · replace hF := hF.1 hc55
                                        refine Ok.seq ?_
                                        refine Ok.region ?_
                                        have hL56 : RepL g (.str) ([.string ⟨⟨([97, 117, 116, 111] : List UInt8)⟩⟩, .string ⟨⟨([110, 111, 110, 101] : List UInt8)⟩⟩] : List Value) ([([97, 117, 116, 111] : List UInt8), ([110, 111, 110, 101] : List UInt8)] : List (List UInt8)) := (RepL.consN (c := [.string ⟨⟨([97, 117, 116, 111] : List UInt8)⟩⟩]) rfl (RepL.consN (c := [.string ⟨⟨([110, 111, 110, 101] : List UInt8)⟩⟩]) rfl rfl))
                                        refine Ok.op rfl (OpOk.lit (E := 9) (.str) ([([97, 117, 116, 111] : List UInt8), ([110, 111, 110, 101] : List UInt8)] : List (List UInt8)) ([.string ⟨⟨([97, 117, 116, 111] : List UInt8)⟩⟩, .string ⟨⟨([110, 111, 110, 101] : List UInt8)⟩⟩] : List Value) (by kernel_rfl) (by kernel_rfl) rfl (by kernel_rfl) hL56 rfl fun b56 => ?_)
                                        refine Ok.batch 1 [(2, .slice (some ⟨b56, 0, none⟩) ([([97, 117, 116, 111] : List UInt8), ([110, 111, 110, 101] : List UInt8)] : List (List UInt8)).length 2)] (by kernel_rfl) ?_
                                        refine Ok.nil ?_
                                        refine Ok.thenN ?_
                                        refine Ok.ret ?_
                                        refine Ok.blockR ?_
                                        refine Ok.thenR ?_
                                        refine Ok.freeze (H' := []) 0 rfl hL56 rfl fun g57 hx57 hRf57 => ?_
                                        exact Ok.resH (vs := [.slice (some ⟨b56, 0, none⟩) ([([97, 117, 116, 111] : List UInt8), ([110, 111, 110, 101] : List UInt8)] : List (List UInt8)).length 2]) (.inl rfl) rfl (.cons (.tmp rfl) .nil) hx57 ⟨([([97, 117, 116, 111] : List UInt8), ([110, 111, 110, 101] : List UInt8)] : List (List UInt8)), (some ⟨b56, 0, none⟩), 2, rfl, hRf57, rfl, hF⟩
                                      · replace hF := hF.2 hc55
                                        refine Ok.skip ?_
                                        refine Ok.blockN ?_
                                        refine Ok.thenN ?_
                                        refine Ok.seq ?_
                                        refine Ok.region ?_
                                        refine Ok.batch 1 [(2, .slice none 0 0)] (by kernel_rfl) ?_
                                        refine Ok.nil ?_
                                        refine Ok.thenN ?_
                                        refine Ok.ret ?_
                                        exact Ok.resH (vs := [.slice none 0 0]) (.inl rfl) rfl (.cons (.tmp rfl) .nil) (Gext.refl w0 g) ⟨([]), none, 0, rfl, Rep.nil, rfl, hF⟩
def rpyM (xp : Int) : List (List UInt8) := (if (xp == 0) = true then rpyT0 else (if (xp == 1) = true then ([([115, 116, 97, 116, 105, 99] : List UInt8), ([114, 101, 108, 97, 116, 105, 118, 101] : List UInt8), ([97, 98, 115, 111, 108, 117, 116, 101] : List UInt8), ([102, 105, 120, 101, 100] : List UInt8)] : List (List UInt8)) else (if (xp == 2) = true then ([([110, 111, 110, 101] : List UInt8), ([108, 101, 102, 116] : List UInt8), ([114, 105, 103, 104, 116] : List UInt8)] : List (List UInt8)) else (if (xp == 3) = true then ([([110, 111, 110, 101] : List UInt8), ([108, 101, 102, 116] : List UInt8), ([114, 105, 103, 104, 116] : List UInt8), ([98, 111, 116, 104] : List UInt8)] : List (List UInt8)) else (if (xp == 4) = true then ([([99, 111, 110, 116, 101, 110, 116, 45, 98, 111, 120] : List UInt8), ([98, 111, 114, 100, 101, 114, 45, 98, 111, 120] : List UInt8)] : List (List UInt8)) else (if (xp == 32) = true then ([([118, 105, 115, 105, 98, 108, 101] : List UInt8), ([104, 105, 100, 100, 101, 110] : List UInt8)] : List (List UInt8)) else (if (xp == 33) = true then ([([118, 105, 115, 105, 98, 108, 101] : List UInt8), ([104, 105, 100, 100, 101, 110] : List UInt8)] : List (List UInt8)) else (if (xp == 39) = true then ([([115, 116, 97, 114, 116] : List UInt8), ([101, 110, 100] : List UInt8), ([99, 101, 110, 116, 101, 114] : List UInt8), ([106, 117, 115, 116, 105, 102, 121] : List UInt8)] : List (List UInt8)) else (if (xp == 41) = true then ([([110, 111, 114, 109, 97, 108] : List UInt8), ([112, 114, 101] : List UInt8), ([110, 111, 119, 114, 97, 112] : List UInt8), ([112, 114, 101, 45, 119, 114, 97, 112] : List UInt8)] : List (List UInt8)) else (if (xp == 42) = true then ([([98, 97, 115, 101, 108, 105, 110, 101] : List UInt8), ([116, 111, 112] : List UInt8), ([109, 105, 100, 100, 108, 101] : List UInt8), ([98, 111, 116, 116, 111, 109] : List UInt8)] : List (List UInt8)) else (if (xp == 43) = true then ([([110, 111, 110, 101] : List UInt8), ([117, 112, 112, 101, 114, 99, 97, 115, 101] : List UInt8), ([108, 111, 119, 101, 114, 99, 97, 115, 101] : List UInt8)] : List (List UInt8)) else (if (xp == 45) = true then ([([114, 111, 119] : List UInt8), ([114, 111, 119, 45, 114, 101, 118, 101, 114, 115, 101] : List UInt8), ([99, 111, 108, 117, 109, 110] : List UInt8), ([99, 111, 108, 117, 109, 110, 45, 114, 101, 118, 101, 114, 115, 101] : List UInt8)] : List (List UInt8)) else (if (xp == 46) = true then ([([110, 111, 119, 114, 97, 112] : List UInt8), ([119, 114, 97, 112] : List UInt8)] : List (List UInt8)) else (if (xp == 47) = true then ([([102, 108, 101, 120, 45, 115, 116, 97, 114, 116] : List UInt8), ([102, 108, 101, 120, 45, 101, 110, 100] : List UInt8), ([99, 101, 110, 116, 101, 114] : List UInt8), ([] : List UInt8), ([115, 112, 97, 99, 101, 45, 98, 101, 116, 119, 101, 101, 110] : List UInt8), ([115, 112, 97, 99, 101, 45, 97, 114, 111, 117, 110, 100] : List UInt8)] : List (List UInt8)) else (if (xp == 48) = true then ([([102, 108, 101, 120, 45, 115, 116, 97, 114, 116] : List UInt8), ([102, 108, 101, 120, 45, 101, 110, 100] : List UInt8), ([99, 101, 110, 116, 101, 114] : List UInt8), ([] : List UInt8), ([] : List UInt8), ([] : List UInt8), ([115, 116, 114, 101, 116, 99, 104] : List UInt8)] : List (List UInt8)) else (if (xp == 49) = true then ([([102, 108, 101, 120, 45, 115, 116, 97, 114, 116] : List UInt8), ([102, 108, 101, 120, 45, 101, 110, 100] : List UInt8), ([99, 101, 110, 116, 101, 114] : List UInt8), ([] : List UInt8), ([] : List UInt8), ([] : List UInt8), ([115, 116, 114, 101, 116, 99, 104] : List UInt8)] : List (List UInt8)) else (if (xp == 55) = true then ([([97, 117, 116, 111] : List UInt8), ([102, 105, 120, 101, 100] : List UInt8)] : List (List UInt8)) else (if (xp == 57) = true then ([([110, 111, 110, 101] : List UInt8), ([100, 105, 115, 99] : List UInt8), ([100, 101, 99, 105, 109, 97, 108] : List UInt8)] : List (List UInt8)) else (if (xp == 58) = true then ([([97, 117, 116, 111] : List UInt8), ([110, 111, 110, 101] : List UInt8)] : List (List UInt8)) else ([]))))))))))))))))))))
set_option linter.unusedSimpArgs false in
set_option linter.unusedVariables false in
theorem rpyF_A (xp : Int) (P : List (List UInt8) → Prop) (h : P (rpyM xp)) : rpyF xp (fun k0 => P k0) := by
  unfold rpyM at h
  unfold rpyF
  refine ⟨fun hc0 => ?_, fun hc0 => ?_⟩
  · rw [if_t hc0] at h
    have hd0 := hc0; try simp only [Bool.and_eq_true, Bool.or_eq_true, Bool.and_eq_false_iff, Bool.or_eq_false_iff, Bool.not_eq_true', Bool.not_eq_false', decide_eq_true_eq, decide_eq_false_iff_not, beq_iff_eq, beq_eq_false_iff_ne, ne_eq] at hd0
    exact h
  · rw [if_f hc0] at h
    have hd0 := hc0; try simp only [Bool.and_eq_true, Bool.or_eq_true, Bool.and_eq_false_iff, Bool.or_eq_false_iff, Bool.not_eq_true', Bool.not_eq_false', decide_eq_true_eq, decide_eq_false_iff_not, beq_iff_eq, beq_eq_false_iff_ne, ne_eq] at hd0
    refine ⟨fun hc1 => ?_, fun hc1 => ?_⟩
    · rw [if_t hc1] at h
      have hd1 := hc1; try simp only [Bool.and_eq_true, Bool.or_eq_true, Bool.and_eq_false_iff, Bool.or_eq_false_iff, Bool.not_eq_true', Bool.not_eq_false', decide_eq_true_eq, decide_eq_false_iff_not, beq_iff_eq, beq_eq_false_iff_ne, ne_eq] at hd1
      exact h
    · rw [if_f hc1] at h
      have hd1 := hc1; try simp only [Bool.and_eq_true, Bool.or_eq_true, Bool.and_eq_false_iff, Bool.or_eq_false_iff, Bool.not_eq_true', Bool.not_eq_false', decide_eq_true_eq, decide_eq_false_iff_not, beq_iff_eq, beq_eq_false_iff_ne, ne_eq] at hd1
      refine ⟨fun hc2 => ?_, fun hc2 => ?_⟩
      · rw [if_t hc2] at h
        have hd2 := hc2; try simp only [Bool.and_eq_true, Bool.or_eq_true, Bool.and_eq_false_iff, Bool.or_eq_false_iff, Bool.not_eq_true', Bool.not_eq_false', decide_eq_true_eq, decide_eq_false_iff_not, beq_iff_eq, beq_eq_false_iff_ne, ne_eq] at hd2
        exact h
      · rw [if_f hc2] at h
        have hd2 := hc2; try simp only [Bool.and_eq_true, Bool.or_eq_true, Bool.and_eq_false_iff, Bool.or_eq_false_iff, Bool.not_eq_true', Bool.not_eq_false', decide_eq_true_eq, decide_eq_false_iff_not, beq_iff_eq, beq_eq_false_iff_ne, ne_eq] at hd2
        refine ⟨fun hc3 => ?_, fun hc3 => ?_⟩
        · rw [if_t hc3] at h
          have hd3 := hc3; try simp only [Bool.and_eq_true, Bool.or_eq_true, Bool.and_eq_false_iff, Bool.or_eq_false_iff, Bool.not_eq_true', Bool.not_eq_false', decide_eq_true_eq, decide_eq_false_iff_not, beq_iff_eq, beq_eq_false_iff_ne, ne_eq] at hd3
          exact h
        · rw [if_f hc3] at h
          have hd3 := hc3; try simp only [Bool.and_eq_true, Bool.or_eq_true, Bool.and_eq_false_iff, Bool.or_eq_false_iff, Bool.not_eq_true', Bool.not_eq_false', decide_eq_true_eq, decide_eq_false_iff_not, beq_iff_eq, beq_eq_false_iff_ne, ne_eq] at hd3
          refine ⟨fun hc4 => ?_, fun hc4 => ?_⟩
          · rw [if_t hc4] at h
            have hd4 := hc4; try simp only [Bool.and_eq_true, Bool.or_eq_true, Bool.and_eq_false_iff, Bool.or_eq_false_iff, Bool.not_eq_true', Bool.not_eq_false', decide_eq_true_eq, decide_eq_false_iff_not, beq_iff_eq, beq_eq_false_iff_ne, ne_eq] at hd4
            exact h
          · rw [if_f hc4] at h
            have hd4 := hc4; try simp only [Bool.and_eq_true, Bool.or_eq_true, Bool.and_eq_false_iff, Bool.or_eq_false_iff, Bool.not_eq_true', Bool.not_eq_false', decide_eq_true_eq, decide_eq_false_iff_not, beq_iff_eq, beq_eq_false_iff_ne, ne_eq] at hd4
            refine ⟨fun hc5 => ?_, fun hc5 => ?_⟩
            · rw [if_t hc5] at h
              have hd5 := hc5; try simp only [Bool.and_eq_true, Bool.or_eq_true, Bool.and_eq_false_iff, Bool.or_eq_false_iff, Bool.not_eq_true', Bool.not_eq_false', decide_eq_true_eq, decide_eq_false_iff_not, beq_iff_eq, beq_eq_false_iff_ne, ne_eq] at hd5
              exact h
            · rw [if_f hc5] at h
              have hd5 := hc5; try simp only [Bool.and_eq_true, Bool.or_eq_true, Bool.and_eq_false_iff, Bool.or_eq_false_iff, Bool.not_eq_true', Bool.not_eq_false', decide_eq_true_eq, decide_eq_false_iff_not, beq_iff_eq, beq_eq_false_iff_ne, ne_eq] at hd5
              refine ⟨fun hc6 => ?_, fun hc6 => ?_⟩
              · rw [if_t hc6] at h
                have hd6 := hc6; try simp only [Bool.and_eq_true, Bool.or_eq_true, Bool.and_eq_false_iff, Bool.or_eq_false_iff, Bool.not_eq_true', Bool.not_eq_false', decide_eq_true_eq, decide_eq_false_iff_not, beq_iff_eq, beq_eq_false_iff_ne, ne_eq] at hd6
                exact h
              · rw [if_f hc6] at h
                have hd6 := hc6; try simp only [Bool.and_eq_true, Bool.or_eq_true, Bool.and_eq_false_iff, Bool.or_eq_false_iff, Bool.not_eq_true', Bool.not_eq_false', decide_eq_true_eq, decide_eq_false_iff_not, beq_iff_eq, beq_eq_false_iff_ne, ne_eq] at hd6
                refine ⟨fun hc7 => ?_, fun hc7 => ?_⟩
                · rw [if_t hc7] at h
                  have hd7 := hc7; try simp only [Bool.and_eq_true, Bool.or_eq_true, Bool.and_eq_false_iff, Bool.or_eq_false_iff, Bool.not_eq_true', Bool.not_eq_false', decide_eq_true_eq, decide_eq_false_iff_not, beq_iff_eq, beq_eq_false_iff_ne, ne_eq] at hd7
                  exact h
                · rw [if_f hc7] at h
                  have hd7 := hc7; try simp only [Bool.and_eq_true, Bool.or_eq_true, Bool.and_eq_false_iff, Bool.or_eq_false_iff, Bool.not_eq_true', Bool.not_eq_false', decide_eq_true_eq, decide_eq_false_iff_not, beq_iff_eq, beq_eq_false_iff_ne, ne_eq] at hd7
                  refine ⟨fun hc8 => ?_, fun hc8 => ?_⟩
                  · rw [if_t hc8] at h
                    have hd8 := hc8; try simp only [Bool.and_eq_true, Bool.or_eq_true, Bool.and_eq_false_iff, Bool.or_eq_false_iff, Bool.not_eq_true', Bool.not_eq_false', decide_eq_true_eq, decide_eq_false_iff_not, beq_iff_eq, beq_eq_false_iff_ne, ne_eq] at hd8
                    exact h
                  · rw [if_f hc8] at h
                    have hd8 := hc8; try simp only [Bool.and_eq_true, Bool.or_eq_true, Bool.and_eq_false_iff, Bool.or_eq_false_iff, Bool.not_eq_true', Bool.not_eq_false', decide_eq_true_eq, decide_eq_false_iff_not, beq_iff_eq, beq_eq_false_iff_ne, ne_eq] at hd8
                    refine ⟨fun hc9 => ?_, fun hc9 => ?_⟩
                    · rw [if_t hc9] at h
                      have hd9 := hc9; try simp only [Bool.and_eq_true, Bool.or_eq_true, Bool.and_eq_false_iff, Bool.or_eq_false_iff, Bool.not_eq_true', Bool.not_eq_false', decide_eq_true_eq, decide_eq_false_iff_not, beq_iff_eq, beq_eq_false_iff_ne, ne_eq] at hd9
                      exact h
                    · rw [if_f hc9] at h
                      have hd9 := hc9; try simp only [Bool.and_eq_true, Bool.or_eq_true, Bool.and_eq_false_iff, Bool.or_eq_false_iff, Bool.not_eq_true', Bool.not_eq_false', decide_eq_true_eq, decide_eq_false_iff_not, beq_iff_eq, beq_eq_false_iff_ne, ne_eq] at hd9
                      refine ⟨fun hc10 => ?_, fun hc10 => ?_⟩
                      · rw [if_t hc10] at h
                        have hd10 := hc10; try simp only [Bool.and_eq_true, Bool.or_eq_true, Bool.and_eq_false_iff, Bool.or_eq_false_iff, Bool.not_eq_true', Bool.not_eq_false', decide_eq_true_eq, decide_eq_false_iff_not, beq_iff_eq, beq_eq_false_iff_ne, ne_eq] at hd10
                        exact h
                      · rw [if_f hc10] at h
                        have hd10 := hc10; try simp only [Bool.and_eq_true, Bool.or_eq_true, Bool.and_eq_false_iff, Bool.or_eq_false_iff, Bool.not_eq_true', Bool.not_eq_false', decide_eq_true_eq, decide_eq_false_iff_not, beq_iff_eq, beq_eq_false_iff_ne, ne_eq] at hd10
                        refine ⟨fun hc11 => ?_, fun hc11 => ?_⟩
                        · rw [if_t hc11] at h
                          have hd11 := hc11; try simp only [Bool.and_eq_true, Bool.or_eq_true, Bool.and_eq_false_iff, Bool.or_eq_false_iff, Bool.not_eq_true', Bool.not_eq_false', decide_eq_true_eq, decide_eq_false_iff_not, beq_iff_eq, beq_eq_false_iff_ne, ne_eq] at hd11
                          exact h
                        · rw [if_f hc11] at h
                          have hd11 := hc11; try simp only [Bool.and_eq_true, Bool.or_eq_true, Bool.and_eq_false_iff, Bool.or_eq_false_iff, Bool.not_eq_true', Bool.not_eq_false', decide_eq_true_eq, decide_eq_false_iff_not, beq_iff_eq, beq_eq_false_iff_ne, ne_eq] at hd11
                          refine ⟨fun hc12 => ?_, fun hc12 => ?_⟩
                          · rw [if_t hc12] at h
                            have hd12 := hc12; try simp only [Bool.and_eq_true, Bool.or_eq_true, Bool.and_eq_false_iff, Bool.or_eq_false_iff, Bool.not_eq_true', Bool.not_eq_false', decide_eq_true_eq, decide_eq_false_iff_not, beq_iff_eq, beq_eq_false_iff_ne, ne_eq] at hd12
                            exact h
                          · rw [if_f hc12] at h
                            have hd12 := hc12; try simp only [Bool.and_eq_true, Bool.or_eq_true, Bool.and_eq_false_iff, Bool.or_eq_false_iff, Bool.not_eq_true', Bool.not_eq_false', decide_eq_true_eq, decide_eq_false_iff_not, beq_iff_eq, beq_eq_false_iff_ne, ne_eq] at hd12
                            refine ⟨fun hc13 => ?_, fun hc13 => ?_⟩
                            · rw [if_t hc13] at h
                              have hd13 := hc13; try simp only [Bool.and_eq_true, Bool.or_eq_true, Bool.and_eq_false_iff, Bool.or_eq_false_iff, Bool.not_eq_true', Bool.not_eq_false', decide_eq_true_eq, decide_eq_false_iff_not, beq_iff_eq, beq_eq_false_iff_ne, ne_eq] at hd13
                              exact h
                            · rw [if_f hc13] at h
                              have hd13 := hc13; try simp only [Bool.and_eq_true, Bool.or_eq_true, Bool.and_eq_false_iff, Bool.or_eq_false_iff, Bool.not_eq_true', Bool.not_eq_false', decide_eq_true_eq, decide_eq_false_iff_not, beq_iff_eq, beq_eq_false_iff_ne, ne_eq] at hd13
                              refine ⟨fun hc14 => ?_, fun hc14 => ?_⟩
                              · rw [if_t hc14] at h
                                have hd14 := hc14; try simp only [Bool.and_eq_true, Bool.or_eq_true, Bool.and_eq_false_iff, Bool.or_eq_false_iff, Bool.not_eq_true', Bool.not_eq_false', decide_eq_true_eq, decide_eq_false_iff_not, beq_iff_eq, beq_eq_false_iff_ne, ne_eq] at hd14
                                exact h
                              · rw [if_f hc14] at h
                                have hd14 := hc14; try simp only [Bool.and_eq_true, Bool.or_eq_true, Bool.and_eq_false_iff, Bool.or_eq_false_iff, Bool.not_eq_true', Bool.not_eq_false', decide_eq_true_eq, decide_eq_false_iff_not, beq_iff_eq, beq_eq_false_iff_ne, ne_eq] at hd14
                                refine ⟨fun hc15 => ?_, fun hc15 => ?_⟩
                                · rw [if_t hc15] at h
                                  have hd15 := hc15; try simp only [Bool.and_eq_true, Bool.or_eq_true, Bool.and_eq_false_iff, Bool.or_eq_false_iff, Bool.not_eq_true', Bool.not_eq_false', decide_eq_true_eq, decide_eq_false_iff_not, beq_iff_eq, beq_eq_false_iff_ne, ne_eq] at hd15
                                  exact h
                                · rw [if_f hc15] at h
                                  have hd15 := hc15; try simp only [Bool.and_eq_true, Bool.or_eq_true, Bool.and_eq_false_iff, Bool.or_eq_false_iff, Bool.not_eq_true', Bool.not_eq_false', decide_eq_true_eq, decide_eq_false_iff_not, beq_iff_eq, beq_eq_false_iff_ne, ne_eq] at hd15
                                  refine ⟨fun hc16 => ?_, fun hc16 => ?_⟩
                                  · rw [if_t hc16] at h
                                    have hd16 := hc16; try simp only [Bool.and_eq_true, Bool.or_eq_true, Bool.and_eq_false_iff, Bool.or_eq_false_iff, Bool.not_eq_true', Bool.not_eq_false', decide_eq_true_eq, decide_eq_false_iff_not, beq_iff_eq, beq_eq_false_iff_ne, ne_eq] at hd16
                                    exact h
                                  · rw [if_f hc16] at h
                                    have hd16 := hc16; try simp only [Bool.and_eq_true, Bool.or_eq_true, Bool.and_eq_false_iff, Bool.or_eq_false_iff, Bool.not_eq_true', Bool.not_eq_false', decide_eq_true_eq, decide_eq_false_iff_not, beq_iff_eq, beq_eq_false_iff_ne, ne_eq] at hd16
                                    refine ⟨fun hc17 => ?_, fun hc17 => ?_⟩
                                    · rw [if_t hc17] at h
                                      have hd17 := hc17; try simp only [Bool.and_eq_true, Bool.or_eq_true, Bool.and_eq_false_iff, Bool.or_eq_false_iff, Bool.not_eq_true', Bool.not_eq_false', decide_eq_true_eq, decide_eq_false_iff_not, beq_iff_eq, beq_eq_false_iff_ne, ne_eq] at hd17
                                      exact h
                                    · rw [if_f hc17] at h
                                      have hd17 := hc17; try simp only [Bool.and_eq_true, Bool.or_eq_true, Bool.and_eq_false_iff, Bool.or_eq_false_iff, Bool.not_eq_true', Bool.not_eq_false', decide_eq_true_eq, decide_eq_false_iff_not, beq_iff_eq, beq_eq_false_iff_ne, ne_eq] at hd17
                                      refine ⟨fun hc18 => ?_, fun hc18 => ?_⟩
                                      · rw [if_t hc18] at h
                                        have hd18 := hc18; try simp only [Bool.and_eq_true, Bool.or_eq_true, Bool.and_eq_false_iff, Bool.or_eq_false_iff, Bool.not_eq_true', Bool.not_eq_false', decide_eq_true_eq, decide_eq_false_iff_not, beq_iff_eq, beq_eq_false_iff_ne, ne_eq] at hd18
                                        exact h
                                      · rw [if_f hc18] at h
                                        have hd18 := hc18; try simp only [Bool.and_eq_true, Bool.or_eq_true, Bool.and_eq_false_iff, Bool.or_eq_false_iff, Bool.not_eq_true', Bool.not_eq_false', decide_eq_true_eq, decide_eq_false_iff_not, beq_iff_eq, beq_eq_false_iff_ne, ne_eq] at hd18
                                        exact h
theorem rpy_F (xp : Int) : rpyF xp (fun k0 => k0 = rpyM xp) :=
  rpyF_A xp (fun z => z = rpyM xp) rfl
set_option linter.unusedVariables false in
theorem rpy_c {g : Ghost} (xp : Int)  : CallsH Tryd.prog 33 #[.int .i64 xp] g [] (fun g' H' v => ∃ (ar0_0 : Option Addr) (cr0_0 : Nat), v = .slice ar0_0 (rpyM xp).length cr0_0 ∧ Rep g' (.slice (.str)) [.slice ar0_0 (rpyM xp).length cr0_0] (rpyM xp) ∧ H' = []) :=
  (rpy_ok xp _ (rpy_F xp)).mono (by rintro g' H' v _ ⟨r0, ar0_0, cr0_0, rfl, hRr0_0, rfl, hK⟩; subst hK; exact ⟨ar0_0, cr0_0, rfl, hRr0_0, rfl⟩)
theorem getD_all {α : Type} {P : α → Prop} {d : α} : ∀ {l : List α}, (∀ x ∈ l, P x) → P d → ∀ i, P (l.getD i d)
  | [], _, h, i => by simpa using h
  | a :: l, h, hd, 0 => h a (List.mem_cons_self ..)
  | a :: l, h, hd, i + 1 => by
    have := getD_all (l := l) (fun x hx => h x (List.mem_cons_of_mem _ hx)) hd i
    simpa using this
theorem rpk_len (i : Nat) (c : Int) : rhbP (rpkM.getD i default) c := getD_all (P := fun x : List UInt8 => x.length ≤ 1000000) (by decide) (by decide) i
def rvmj27 (xp : Int) (xv : Int × Int) (K : Bool → Prop) : Prop :=
  K ((decide (xv.2 ≥ 0)) && ((decide (xv.2 < ((rpyM xp).length : Int))) && (!(((rpyM xp).getD (Int.toNat xv.2) default) == ([] : List UInt8)))))
def rvmj43 (xv : Int × Int) (K : Bool → Prop) : Prop :=
  K ((decide (xv.2 ≥ 0)) && (decide (xv.2 ≤ 4294967295)))
def rvmj63 (xv : Int × Int) (K : Bool → Prop) : Prop :=
  K ((decide (xv.2 ≥ (-16777216))) && (decide (xv.2 ≤ 16777216)))
def rvmj56 (xp : Int) (xv : Int × Int) (K : Bool → Prop) : Prop :=
  (((if (xp == 34) = true then ((decide (xv.2 > 1000)) || ((xp == 37) && (decide (xv.2 < 64)))) else ((xp == 37) && (decide (xv.2 < 64))))) = true → K false) ∧ (((if (xp == 34) = true then ((decide (xv.2 > 1000)) || ((xp == 37) && (decide (xv.2 < 64)))) else ((xp == 37) && (decide (xv.2 < 64))))) = false → ((decide (xv.2 ≥ (-16777216))) = true → rvmj63 xv K) ∧ ((decide (xv.2 ≥ (-16777216))) = false → rvmj63 xv K))
def rvmj48 (xp : Int) (xv : Int × Int) (K : Bool → Prop) (e5 : List UInt8) : Prop :=
  (((if ((xp == 31) || (xp == 53)) = true then (((Int.tmod xv.2 1000) != 0) || ((rhbS e5 48) && (decide (xv.2 < 0)))) else ((rhbS e5 48) && (decide (xv.2 < 0))))) = true → K false) ∧ (((if ((xp == 31) || (xp == 53)) = true then (((Int.tmod xv.2 1000) != 0) || ((rhbS e5 48) && (decide (xv.2 < 0)))) else ((rhbS e5 48) && (decide (xv.2 < 0))))) = false → (((xp == 34)) = true → ((decide (xv.2 > 1000)) = true → rvmj56 xp xv K) ∧ ((decide (xv.2 > 1000)) = false → (((xp == 37)) = true → rvmj56 xp xv K) ∧ (((xp == 37)) = false → rvmj56 xp xv K))) ∧ (((xp == 34)) = false → (((xp == 37)) = true → rvmj56 xp xv K) ∧ (((xp == 37)) = false → rvmj56 xp xv K)))
def rvmj4 (xp : Int) (xv : Int × Int) (K : Bool → Prop) : Prop :=
  (((((decide (xp < 0)) || (decide (xp ≥ 59))) || ((decide (xv.1 < 1)) || (decide (xv.1 > 6))))) = true → K false) ∧ (((((decide (xp < 0)) || (decide (xp ≥ 59))) || ((decide (xv.1 < 1)) || (decide (xv.1 > 6))))) = false → (0 : Int) ≤ xp ∧ Int.toNat xp < rpkM.length ∧ (0 : Int) ≤ (IntKind.wrap .i64 (xv.1 - 1)) ∧ Int.toNat (IntKind.wrap .i64 (xv.1 - 1)) < ([107, 108, 112, 110, 99, 97] : List UInt8).length ∧ rhbP (rpkM.getD (Int.toNat xp) default) ((([107, 108, 112, 110, 99, 97] : List UInt8).getD (Int.toNat (IntKind.wrap .i64 (xv.1 - 1))) 0).toNat : Int) ∧ ((!(rhbS (rpkM.getD (Int.toNat xp) default) ((([107, 108, 112, 110, 99, 97] : List UInt8).getD (Int.toNat (IntKind.wrap .i64 (xv.1 - 1))) 0).toNat : Int))) = true → K false) ∧ ((!(rhbS (rpkM.getD (Int.toNat xp) default) ((([107, 108, 112, 110, 99, 97] : List UInt8).getD (Int.toNat (IntKind.wrap .i64 (xv.1 - 1))) 0).toNat : Int))) = false → (((xv.1 == 1)) = true → ((decide (xv.2 ≥ 0)) = true → ((decide (xv.2 < ((rpyM xp).length : Int))) = true → (0 : Int) ≤ xv.2 ∧ Int.toNat xv.2 < (rpyM xp).length ∧ rvmj27 xp xv K) ∧ ((decide (xv.2 < ((rpyM xp).length : Int))) = false → rvmj27 xp xv K)) ∧ ((decide (xv.2 ≥ 0)) = false → rvmj27 xp xv K)) ∧ (((xv.1 == 1)) = false → (((xv.1 == 6)) = true → K (xv.2 == 0)) ∧ (((xv.1 == 6)) = false → (((xv.1 == 5)) = true → ((decide (xv.2 ≥ 0)) = true → rvmj43 xv K) ∧ ((decide (xv.2 ≥ 0)) = false → rvmj43 xv K)) ∧ (((xv.1 == 5)) = false → ((((xp == 31) || (xp == 53))) = true → ((((Int.tmod xv.2 1000) != 0)) = true → rvmj48 xp xv K (rpkM.getD (Int.toNat xp) default)) ∧ ((((Int.tmod xv.2 1000) != 0)) = false → rhbP (rpkM.getD (Int.toNat xp) default) 48 ∧ (((rhbS (rpkM.getD (Int.toNat xp) default) 48)) = true → rvmj48 xp xv K (rpkM.getD (Int.toNat xp) default)) ∧ (((rhbS (rpkM.getD (Int.toNat xp) default) 48)) = false → rvmj48 xp xv K (rpkM.getD (Int.toNat xp) default)))) ∧ ((((xp == 31) || (xp == 53))) = false → rhbP (rpkM.getD (Int.toNat xp) default) 48 ∧ (((rhbS (rpkM.getD (Int.toNat xp) default) 48)) = true → rvmj48 xp xv K (rpkM.getD (Int.toNat xp) default)) ∧ (((rhbS (rpkM.getD (Int.toNat xp) default) 48)) = false → rvmj48 xp xv K (rpkM.getD (Int.toNat xp) default))))))))
def rvmF (xp : Int) (xv : Int × Int) (K : Bool → Prop) : Prop :=
  ((((decide (xp < 0)) || (decide (xp ≥ 59)))) = true → rvmj4 xp xv K) ∧ ((((decide (xp < 0)) || (decide (xp ≥ 59)))) = false → ((decide (xv.1 < 1)) = true → rvmj4 xp xv K) ∧ ((decide (xv.1 < 1)) = false → rvmj4 xp xv K))
set_option maxHeartbeats 4000000 in
set_option maxRecDepth 100000 in
set_option linter.unusedVariables false in
theorem rvm_ok {g : Ghost} (xp : Int) (xv : Int × Int) (K : Bool → Prop)
    (hF : rvmF xp xv K) : CallsH Tryd.prog 11 #[.int .i64 xp, .agg #[.int .i64 xv.1, .int .i64 xv.2]] g [] (fun g' H' v => ∃ (r0 : Bool), v = .bool r0 ∧ H' = [] ∧ K r0) := by
  refine CallsH.enter 119 [(0, .int .i64 xp), (1, .agg #[.int .i64 xv.1, .int .i64 xv.2])] Tryd.func11 rfl (by kernel_rfl) (by kernel_rfl) (by kernel_rfl) fun w0 => ?_
  refine Ok.seq ?_
  refine Ok.region ?_
  refine Ok.op rfl (OpOk.box (v := .agg #[.int .i64 xv.1, .int .i64 xv.2]) (cs := #[.int .i64 xv.1, .int .i64 xv.2]) rfl (by kernel_rfl) rfl fun b1 => ?_)
  refine Ok.batch 1 [(0, .int .i64 xp), (3, .pointer (some ⟨b1, 0, none⟩))] (by kernel_rfl) ?_
  refine Ok.nil ?_
  refine Ok.thenN ?_
  refine Ok.seq ?_
  refine Ok.cut (fun a W => ∃ gj4 : Ghost, Gext w0 g gj4 ∧ StA 119 [(0, .int .i64 xp), (3, .pointer (some ⟨b1, 0, none⟩)), (22, .bool (((decide (xp < 0)) || (decide (xp ≥ 59))) || ((decide (xv.1 < 1)) || (decide (xv.1 > 6)))))] a ∧ StW w0 [.blk b1 (.cells #[.int .i64 xv.1, .int .i64 xv.2] 23)] gj4 W ∧ rvmj4 xp xv K) ?_ ?_
  ·
    refine Ok.region ?_
    refine Ok.batch 3 [(0, .int .i64 xp), (3, .pointer (some ⟨b1, 0, none⟩)), (9, .bool (decide (xp < 0)))] (by kernel_rfl) ?_
    refine Ok.midway 3 [(0, .int .i64 xp), (3, .pointer (some ⟨b1, 0, none⟩)), (12, .bool ((decide (xp < 0)) || (decide (xp ≥ 59))))] (fun hR33 => ?_) ?_
    · refine Ok.boolAt 9 (decide (xp < 0)) rfl (fun hc34 => ?_) (fun hc34 => ?_)
      · skip
        refine Ok.batch 3 [(0, .int .i64 xp), (3, .pointer (some ⟨b1, 0, none⟩)), (12, .bool true)] (by kernel_rfl) ?_
        refine Ok.reval 12 rfl (show (.bool true : Value) = .bool ((decide (xp < 0)) || (decide (xp ≥ 59))) from congrArg Value.bool (mor_t hc34)) ?_
        refine Ok.batch 0 [(0, .int .i64 xp), (3, .pointer (some ⟨b1, 0, none⟩)), (12, .bool ((decide (xp < 0)) || (decide (xp ≥ 59))))] (by kernel_rfl) ?_
        exact hR33
      · skip
        refine Ok.batch 3 [(0, .int .i64 xp), (3, .pointer (some ⟨b1, 0, none⟩)), (12, .bool (decide (xp ≥ 59)))] (by kernel_rfl) ?_
        refine Ok.reval 12 rfl (show (.bool (decide (xp ≥ 59)) : Value) = .bool ((decide (xp < 0)) || (decide (xp ≥ 59))) from congrArg Value.bool (mor_f hc34)) ?_
        refine Ok.batch 0 [(0, .int .i64 xp), (3, .pointer (some ⟨b1, 0, none⟩)), (12, .bool ((decide (xp < 0)) || (decide (xp ≥ 59))))] (by kernel_rfl) ?_
        exact hR33
    refine Ok.batch 1 [(0, .int .i64 xp), (3, .pointer (some ⟨b1, 0, none⟩)), (13, .bool ((decide (xp < 0)) || (decide (xp ≥ 59))))] (by kernel_rfl) ?_
    refine Ok.boolAt 13 (((decide (xp < 0)) || (decide (xp ≥ 59)))) rfl (fun hc35 => ?_) (fun hc35 => ?_)
    · replace hF := hF.1 hc35
      refine Ok.batch 9 [(0, .int .i64 xp), (3, .pointer (some ⟨b1, 0, none⟩)), (22, .bool true)] (by kernel_rfl) ?_
      refine Ok.nil ?_
      refine Ok.thenN ?_
      refine Ok.reval 22 rfl (show (.bool true : Value) = .bool (((decide (xp < 0)) || (decide (xp ≥ 59))) || ((decide (xv.1 < 1)) || (decide (xv.1 > 6)))) from congrArg (Value.bool) (mor_t hc35)) ?_
      exact fun a W hA hW => ⟨g, (Gext.refl w0 g), hA.sub (by kernel_rfl), hW, hF⟩
    · replace hF := hF.2 hc35
      refine Ok.batch 1 [(0, .int .i64 xp), (3, .pointer (some ⟨b1, 0, none⟩)), (13, .bool false), (14, .pointer (some ⟨b1, 0, none⟩))] (by kernel_rfl) ?_
      refine Ok.opYes (j := 6) (d := 13) (want := false) (b := false) rfl (by kernel_rfl) (by kernel_rfl) rfl (OpOk.step (v := .int .i64 xv.1) (Yields.load 0 rfl rfl Tryd.underlying3 rfl (by kernel_rfl)) rfl rfl ?_)
      refine Ok.batch 3 [(0, .int .i64 xp), (3, .pointer (some ⟨b1, 0, none⟩)), (18, .bool (decide (xv.1 < 1)))] (by kernel_rfl) ?_
      refine Ok.boolAt 18 (decide (xv.1 < 1)) rfl (fun hc36 => ?_) (fun hc36 => ?_)
      · replace hF := hF.1 hc36
        refine Ok.batch 4 [(0, .int .i64 xp), (3, .pointer (some ⟨b1, 0, none⟩)), (22, .bool true)] (by kernel_rfl) ?_
        refine Ok.nil ?_
        refine Ok.thenN ?_
        refine Ok.reval 22 rfl (show (.bool true : Value) = .bool (((decide (xp < 0)) || (decide (xp ≥ 59))) || ((decide (xv.1 < 1)) || (decide (xv.1 > 6)))) from congrArg (Value.bool) ((Eq.trans (mor_t hc36) (mor_f hc35)))) ?_
        exact fun a W hA hW => ⟨g, (Gext.refl w0 g), hA.sub (by kernel_rfl), hW, hF⟩
      · replace hF := hF.2 hc36
        refine Ok.batch 1 [(0, .int .i64 xp), (3, .pointer (some ⟨b1, 0, none⟩)), (18, .bool false), (19, .pointer (some ⟨b1, 0, none⟩))] (by kernel_rfl) ?_
        refine Ok.opYes (j := 11) (d := 18) (want := false) (b := false) rfl (by kernel_rfl) (by kernel_rfl) rfl (OpOk.step (v := .int .i64 xv.1) (Yields.load 0 rfl rfl Tryd.underlying3 rfl (by kernel_rfl)) rfl rfl ?_)
        refine Ok.batch 2 [(0, .int .i64 xp), (3, .pointer (some ⟨b1, 0, none⟩)), (22, .bool (decide (xv.1 > 6)))] (by kernel_rfl) ?_
        refine Ok.nil ?_
        refine Ok.thenN ?_
        refine Ok.reval 22 rfl (show (.bool (decide (xv.1 > 6)) : Value) = .bool (((decide (xp < 0)) || (decide (xp ≥ 59))) || ((decide (xv.1 < 1)) || (decide (xv.1 > 6)))) from congrArg (Value.bool) ((Eq.trans (mor_f hc36) (mor_f hc35)))) ?_
        exact fun a W hA hW => ⟨g, (Gext.refl w0 g), hA.sub (by kernel_rfl), hW, hF⟩
  ·
    clear hF
    rintro a W ⟨gj4, hxj4, hA, hW, hF⟩
    refine (?_ : Ok _ _ _ _ _ _) a W hA hW
    clear hA hW
    refine Ok.cond (b := (((decide (xp < 0)) || (decide (xp ≥ 59))) || ((decide (xv.1 < 1)) || (decide (xv.1 > 6))))) rfl (fun hc2 => ?_) (fun hc2 => ?_)
    · replace hF := hF.1 hc2
      refine Ok.seq ?_
      refine Ok.region ?_
      refine Ok.batch 1 [(4, .bool false)] (by kernel_rfl) ?_
      refine Ok.nil ?_
      refine Ok.thenN ?_
      refine Ok.ret ?_
      refine Ok.thenR ?_
      exact Ok.resP (vs := [.bool false]) [] [] (by decide) rfl (.inl rfl) rfl (.cons (.tmp rfl) .nil) hxj4 ⟨false, rfl, rfl, hF⟩
    · replace hF := hF.2 hc2
      refine Ok.skip ?_
      refine Ok.thenN ?_
      refine Ok.seq ?_
      refine Ok.region ?_
      refine Ok.op rfl (OpOk.callH [] [.blk b1 (.cells #[.int .i64 xv.1, .int .i64 xv.2] 23)] (enters (by kernel_rfl) (fun _ => by kernel_rfl)) rfl (rpk_c ) rfl fun g3 _ _ hx3 hV3 => ?_)
      obtain ⟨a3_0, c3_0, rfl, hR3_0, rfl⟩ := hV3
      refine Ok.batch 1 [(0, .int .i64 xp), (3, .pointer (some ⟨b1, 0, none⟩)), (23, .slice a3_0 rpkM.length c3_0), (24, .int .i64 xp)] (by kernel_rfl) ?_
      obtain ⟨h05, h15, hF⟩ := hF
      have he5 := get_of (l := rpkM) (default : List UInt8) h15
      generalize hg5 : (rpkM.getD (Int.toNat xp) default) = e5 at he5 hF ⊢
      refine Ok.op rfl (OpOk.indexRo (e := .str) (i := xp) (el := e5) rfl rfl Tryd.underlying55 (by kernel_rfl) hR3_0 h05 he5 rfl fun q4 o4 cs4 _ hat4 hr4 => ?_)
      obtain rfl := hr4
      replace hat4 : At g3 q4 o4 [.string ⟨⟨e5⟩⟩] := hat4
      refine Ok.op rfl (OpOk.step (v := .string ⟨⟨e5⟩⟩) (Yields.loadRo 0 hat4 (by kernel_rfl) Tryd.underlying9 rfl (by kernel_rfl)) rfl rfl ?_)
      refine Ok.batch 1 [(0, .int .i64 xp), (3, .pointer (some ⟨b1, 0, none⟩)), (5, .string ⟨⟨e5⟩⟩)] (by kernel_rfl) ?_
      refine Ok.nil ?_
      refine Ok.thenN ?_
      refine Ok.seq ?_
      refine Ok.seq ?_
      refine Ok.region ?_
      refine Ok.batch 2 [(0, .int .i64 xp), (3, .pointer (some ⟨b1, 0, none⟩)), (5, .string ⟨⟨e5⟩⟩), (27, .string ⟨⟨e5⟩⟩), (28, .pointer (some ⟨b1, 0, none⟩))] (by kernel_rfl) ?_
      refine Ok.op rfl (OpOk.step (v := .int .i64 xv.1) (Yields.load 0 rfl rfl Tryd.underlying3 rfl (by kernel_rfl)) rfl rfl ?_)
      refine Ok.batch 1 [(0, .int .i64 xp), (3, .pointer (some ⟨b1, 0, none⟩)), (5, .string ⟨⟨e5⟩⟩), (27, .string ⟨⟨e5⟩⟩), (30, .int .i64 (IntKind.wrap .i64 (xv.1 - 1)))] (by kernel_rfl) ?_
      obtain ⟨h06, h16, hF⟩ := hF
      have he6 := get_of (l := ([107, 108, 112, 110, 99, 97] : List UInt8)) (0 : UInt8) h16
      generalize hg6 : (([107, 108, 112, 110, 99, 97] : List UInt8).getD (Int.toNat (IntKind.wrap .i64 (xv.1 - 1))) 0) = e6 at he6 hF ⊢
      refine Ok.op rfl (OpOk.step (v := .int .u8 (e6.toNat : Int)) (Yields.indexStr (k := .i64) (i := (IntKind.wrap .i64 (xv.1 - 1))) (s := ([107, 108, 112, 110, 99, 97] : List UInt8)) (b := e6) (by kernel_rfl) (by kernel_rfl) Tryd.underlying9 h06 he6) rfl rfl ?_)
      obtain ⟨hp7, hF⟩ := hF
      refine Ok.op rfl (OpOk.callG (v := .bool (rhbS e5 (e6.toNat : Int))) (enters (by kernel_rfl) (fun _ => by kernel_rfl)) (fun W hW => rhb_c e5 (e6.toNat : Int) hp7) rfl ?_)
      refine Ok.batch 1 [(0, .int .i64 xp), (3, .pointer (some ⟨b1, 0, none⟩)), (5, .string ⟨⟨e5⟩⟩), (33, .bool (!(rhbS e5 (e6.toNat : Int))))] (by kernel_rfl) ?_
      refine Ok.nil ?_
      refine Ok.thenN ?_
      refine Ok.cond (b := !(rhbS e5 (e6.toNat : Int))) rfl (fun hc8 => ?_) (fun hc8 => ?_)
      · replace hF := hF.1 hc8
        refine Ok.seq ?_
        refine Ok.region ?_
        refine Ok.batch 1 [(4, .bool false)] (by kernel_rfl) ?_
        refine Ok.nil ?_
        refine Ok.thenN ?_
        refine Ok.ret ?_
        refine Ok.thenR ?_
        exact Ok.resP (vs := [.bool false]) [] [] (by decide) rfl (.inl rfl) rfl (.cons (.tmp rfl) .nil) (hxj4.trans hx3) ⟨false, rfl, rfl, hF⟩
      · replace hF := hF.2 hc8
        refine Ok.skip ?_
        refine Ok.thenN ?_
        refine Ok.seq ?_
        refine Ok.seq ?_
        refine Ok.region ?_
        refine Ok.batch 1 [(0, .int .i64 xp), (3, .pointer (some ⟨b1, 0, none⟩)), (5, .string ⟨⟨e5⟩⟩), (34, .pointer (some ⟨b1, 0, none⟩))] (by kernel_rfl) ?_
        refine Ok.op rfl (OpOk.step (v := .int .i64 xv.1) (Yields.load 0 rfl rfl Tryd.underlying3 rfl (by kernel_rfl)) rfl rfl ?_)
        refine Ok.batch 1 [(0, .int .i64 xp), (3, .pointer (some ⟨b1, 0, none⟩)), (5, .string ⟨⟨e5⟩⟩), (36, .bool (xv.1 == 1))] (by kernel_rfl) ?_
        refine Ok.nil ?_
        refine Ok.thenN ?_
        refine Ok.cond (b := (xv.1 == 1)) rfl (fun hc9 => ?_) (fun hc9 => ?_)
        · replace hF := hF.1 hc9
          refine Ok.seq ?_
          refine Ok.region ?_
          refine Ok.batch 1 [(3, .pointer (some ⟨b1, 0, none⟩)), (37, .int .i64 xp)] (by kernel_rfl) ?_
          refine Ok.op rfl (OpOk.callH [] [.blk b1 (.cells #[.int .i64 xv.1, .int .i64 xv.2] 23)] (enters (by kernel_rfl) (fun _ => by kernel_rfl)) rfl (rpy_c xp) rfl fun g10 _ _ hx10 hV10 => ?_)
          obtain ⟨a10_0, c10_0, rfl, hR10_0, rfl⟩ := hV10
          refine Ok.batch 1 [(3, .pointer (some ⟨b1, 0, none⟩)), (6, .slice a10_0 (rpyM xp).length c10_0)] (by kernel_rfl) ?_
          refine Ok.nil ?_
          refine Ok.thenN ?_
          refine Ok.cut (fun a W => ∃ gj27 : Ghost, Gext w0 g10 gj27 ∧ StA 119 [(4, .bool ((decide (xv.2 ≥ 0)) && ((decide (xv.2 < ((rpyM xp).length : Int))) && (!(((rpyM xp).getD (Int.toNat xv.2) default) == ([] : List UInt8))))))] a ∧ StW w0 [] gj27 W ∧ rvmj27 xp xv K) ?_ ?_
          ·
            refine Ok.region ?_
            refine Ok.batch 1 [(3, .pointer (some ⟨b1, 0, none⟩)), (6, .slice a10_0 (rpyM xp).length c10_0), (39, .pointer (some ⟨b1, 1, none⟩))] (by kernel_rfl) ?_
            refine Ok.op rfl (OpOk.step (v := .int .i64 xv.2) (Yields.load 0 rfl rfl Tryd.underlying3 rfl (by kernel_rfl)) rfl rfl ?_)
            refine Ok.batch 2 [(3, .pointer (some ⟨b1, 0, none⟩)), (6, .slice a10_0 (rpyM xp).length c10_0), (42, .bool (decide (xv.2 ≥ 0)))] (by kernel_rfl) ?_
            refine Ok.boolAt 42 (decide (xv.2 ≥ 0)) rfl (fun hc11 => ?_) (fun hc11 => ?_)
            · replace hF := hF.1 hc11
              refine Ok.batch 1 [(3, .pointer (some ⟨b1, 0, none⟩)), (6, .slice a10_0 (rpyM xp).length c10_0), (42, .bool true), (43, .pointer (some ⟨b1, 1, none⟩))] (by kernel_rfl) ?_
              refine Ok.opYes (j := 3) (d := 42) (want := true) (b := true) rfl (by kernel_rfl) (by kernel_rfl) rfl (OpOk.step (v := .int .i64 xv.2) (Yields.load 0 rfl rfl Tryd.underlying3 rfl (by kernel_rfl)) rfl rfl ?_)
              refine Ok.batch 5 [(3, .pointer (some ⟨b1, 0, none⟩)), (6, .slice a10_0 (rpyM xp).length c10_0), (49, .bool (decide (xv.2 < ((rpyM xp).length : Int))))] (by kernel_rfl) ?_
              refine Ok.boolAt 49 (decide (xv.2 < ((rpyM xp).length : Int))) rfl (fun hc12 => ?_) (fun hc12 => ?_)
              · replace hF := hF.1 hc12
                refine Ok.batch 2 [(49, .bool true), (50, .slice a10_0 (rpyM xp).length c10_0), (51, .pointer (some ⟨b1, 1, none⟩))] (by kernel_rfl) ?_
                refine Ok.opYes (j := 10) (d := 49) (want := true) (b := true) rfl (by kernel_rfl) (by kernel_rfl) rfl (OpOk.step (v := .int .i64 xv.2) (Yields.load 0 rfl rfl Tryd.underlying3 rfl (by kernel_rfl)) rfl rfl ?_)
                obtain ⟨h014, h114, hF⟩ := hF
                have he14 := get_of (l := (rpyM xp)) (default : List UInt8) h114
                generalize hg14 : ((rpyM xp).getD (Int.toNat xv.2) default) = e14 at he14 hF ⊢
                refine Ok.opYes (j := 10) (d := 49) (want := true) (b := true) rfl (by kernel_rfl) (by kernel_rfl) rfl (OpOk.indexRo (e := .str) (i := xv.2) (el := e14) rfl rfl Tryd.underlying55 (by kernel_rfl) hR10_0 h014 he14 rfl fun q13 o13 cs13 _ hat13 hr13 => ?_)
                obtain rfl := hr13
                replace hat13 : At g10 q13 o13 [.string ⟨⟨e14⟩⟩] := hat13
                refine Ok.opYes (j := 10) (d := 49) (want := true) (b := true) rfl (by kernel_rfl) (by kernel_rfl) rfl (OpOk.step (v := .string ⟨⟨e14⟩⟩) (Yields.loadRo 0 hat13 (by kernel_rfl) Tryd.underlying9 rfl (by kernel_rfl)) rfl rfl ?_)
                refine Ok.opYes (j := 10) (d := 49) (want := true) (b := true) rfl (by kernel_rfl) (by kernel_rfl) rfl (OpOk.step (v := .bool (!(e14 == ([] : List UInt8)))) (Yields.strCmp (f := .neq) (a := e14) (b := ([] : List UInt8)) (by kernel_rfl) (by kernel_rfl) rfl) rfl rfl ?_)
                refine Ok.batch 2 [(4, .bool (!(e14 == ([] : List UInt8))))] (by kernel_rfl) ?_
                refine Ok.nil ?_
                refine Ok.thenN ?_
                subst hg14
                refine Ok.reval 4 rfl (show (.bool (!(((rpyM xp).getD (Int.toNat xv.2) default) == ([] : List UInt8))) : Value) = .bool ((decide (xv.2 ≥ 0)) && ((decide (xv.2 < ((rpyM xp).length : Int))) && (!(((rpyM xp).getD (Int.toNat xv.2) default) == ([] : List UInt8))))) from congrArg (Value.bool) ((Eq.trans (mand_t hc12) (mand_t hc11)))) ?_
                exact fun a W hA hW => ⟨g10, (Gext.refl w0 g10), hA.sub (by kernel_rfl), hW.sub (.cons _ .slnil), hF⟩
              · replace hF := hF.2 hc12
                refine Ok.batch 8 [(4, .bool false)] (by kernel_rfl) ?_
                refine Ok.nil ?_
                refine Ok.thenN ?_
                refine Ok.reval 4 rfl (show (.bool false : Value) = .bool ((decide (xv.2 ≥ 0)) && ((decide (xv.2 < ((rpyM xp).length : Int))) && (!(((rpyM xp).getD (Int.toNat xv.2) default) == ([] : List UInt8))))) from congrArg (Value.bool) ((Eq.trans (mand_f hc12) (mand_t hc11)))) ?_
                exact fun a W hA hW => ⟨g10, (Gext.refl w0 g10), hA.sub (by kernel_rfl), hW.sub (.cons _ .slnil), hF⟩
            · replace hF := hF.2 hc11
              refine Ok.batch 15 [(4, .bool false)] (by kernel_rfl) ?_
              refine Ok.nil ?_
              refine Ok.thenN ?_
              refine Ok.reval 4 rfl (show (.bool false : Value) = .bool ((decide (xv.2 ≥ 0)) && ((decide (xv.2 < ((rpyM xp).length : Int))) && (!(((rpyM xp).getD (Int.toNat xv.2) default) == ([] : List UInt8))))) from congrArg (Value.bool) (mand_f hc11)) ?_
              exact fun a W hA hW => ⟨g10, (Gext.refl w0 g10), hA.sub (by kernel_rfl), hW.sub (.cons _ .slnil), hF⟩
          ·
            clear hF
            rintro a W ⟨gj27, hxj27, hA, hW, hF⟩
            refine (?_ : Ok _ _ _ _ _ _) a W hA hW
            clear hA hW
            refine Ok.ret ?_
            refine Ok.thenR ?_
            exact Ok.resH (vs := [.bool ((decide (xv.2 ≥ 0)) && ((decide (xv.2 < ((rpyM xp).length : Int))) && (!(((rpyM xp).getD (Int.toNat xv.2) default) == ([] : List UInt8)))))]) (.inl rfl) rfl (.cons (.tmp rfl) .nil) (((hxj4.trans hx3).trans hx10).trans hxj27) ⟨((decide (xv.2 ≥ 0)) && ((decide (xv.2 < ((rpyM xp).length : Int))) && (!(((rpyM xp).getD (Int.toNat xv.2) default) == ([] : List UInt8))))), rfl, rfl, hF⟩
        · replace hF := hF.2 hc9
          refine Ok.skip ?_
          refine Ok.thenN ?_
          refine Ok.seq ?_
          refine Ok.seq ?_
          refine Ok.region ?_
          refine Ok.batch 1 [(0, .int .i64 xp), (3, .pointer (some ⟨b1, 0, none⟩)), (5, .string ⟨⟨e5⟩⟩), (57, .pointer (some ⟨b1, 0, none⟩))] (by kernel_rfl) ?_
          refine Ok.op rfl (OpOk.step (v := .int .i64 xv.1) (Yields.load 0 rfl rfl Tryd.underlying3 rfl (by kernel_rfl)) rfl rfl ?_)
          refine Ok.batch 1 [(0, .int .i64 xp), (3, .pointer (some ⟨b1, 0, none⟩)), (5, .string ⟨⟨e5⟩⟩), (59, .bool (xv.1 == 6))] (by kernel_rfl) ?_
          refine Ok.nil ?_
          refine Ok.thenN ?_
          refine Ok.cond (b := (xv.1 == 6)) rfl (fun hc15 => ?_) (fun hc15 => ?_)
          · replace hF := hF.1 hc15
            refine Ok.seq ?_
            refine Ok.region ?_
            refine Ok.batch 1 [(60, .pointer (some ⟨b1, 1, none⟩))] (by kernel_rfl) ?_
            refine Ok.op rfl (OpOk.step (v := .int .i64 xv.2) (Yields.load 0 rfl rfl Tryd.underlying3 rfl (by kernel_rfl)) rfl rfl ?_)
            refine Ok.batch 2 [(4, .bool (xv.2 == 0))] (by kernel_rfl) ?_
            refine Ok.nil ?_
            refine Ok.thenN ?_
            refine Ok.ret ?_
            refine Ok.thenR ?_
            exact Ok.resP (vs := [.bool (xv.2 == 0)]) [] [] (by decide) rfl (.inl rfl) rfl (.cons (.tmp rfl) .nil) (hxj4.trans hx3) ⟨(xv.2 == 0), rfl, rfl, hF⟩
          · replace hF := hF.2 hc15
            refine Ok.skip ?_
            refine Ok.thenN ?_
            refine Ok.seq ?_
            refine Ok.seq ?_
            refine Ok.region ?_
            refine Ok.batch 1 [(0, .int .i64 xp), (3, .pointer (some ⟨b1, 0, none⟩)), (5, .string ⟨⟨e5⟩⟩), (63, .pointer (some ⟨b1, 0, none⟩))] (by kernel_rfl) ?_
            refine Ok.op rfl (OpOk.step (v := .int .i64 xv.1) (Yields.load 0 rfl rfl Tryd.underlying3 rfl (by kernel_rfl)) rfl rfl ?_)
            refine Ok.batch 1 [(0, .int .i64 xp), (3, .pointer (some ⟨b1, 0, none⟩)), (5, .string ⟨⟨e5⟩⟩), (65, .bool (xv.1 == 5))] (by kernel_rfl) ?_
            refine Ok.nil ?_
            refine Ok.thenN ?_
            refine Ok.cond (b := (xv.1 == 5)) rfl (fun hc16 => ?_) (fun hc16 => ?_)
            · replace hF := hF.1 hc16
              refine Ok.cut (fun a W => ∃ gj43 : Ghost, Gext w0 g3 gj43 ∧ StA 119 [(4, .bool ((decide (xv.2 ≥ 0)) && (decide (xv.2 ≤ 4294967295))))] a ∧ StW w0 [] gj43 W ∧ rvmj43 xv K) ?_ ?_
              ·
                refine Ok.region ?_
                refine Ok.batch 1 [(3, .pointer (some ⟨b1, 0, none⟩)), (66, .pointer (some ⟨b1, 1, none⟩))] (by kernel_rfl) ?_
                refine Ok.op rfl (OpOk.step (v := .int .i64 xv.2) (Yields.load 0 rfl rfl Tryd.underlying3 rfl (by kernel_rfl)) rfl rfl ?_)
                refine Ok.batch 2 [(3, .pointer (some ⟨b1, 0, none⟩)), (69, .bool (decide (xv.2 ≥ 0)))] (by kernel_rfl) ?_
                refine Ok.boolAt 69 (decide (xv.2 ≥ 0)) rfl (fun hc17 => ?_) (fun hc17 => ?_)
                · replace hF := hF.1 hc17
                  refine Ok.batch 1 [(69, .bool true), (70, .pointer (some ⟨b1, 1, none⟩))] (by kernel_rfl) ?_
                  refine Ok.opYes (j := 3) (d := 69) (want := true) (b := true) rfl (by kernel_rfl) (by kernel_rfl) rfl (OpOk.step (v := .int .i64 xv.2) (Yields.load 0 rfl rfl Tryd.underlying3 rfl (by kernel_rfl)) rfl rfl ?_)
                  refine Ok.batch 3 [(4, .bool (decide (xv.2 ≤ 4294967295)))] (by kernel_rfl) ?_
                  refine Ok.nil ?_
                  refine Ok.thenN ?_
                  refine Ok.reval 4 rfl (show (.bool (decide (xv.2 ≤ 4294967295)) : Value) = .bool ((decide (xv.2 ≥ 0)) && (decide (xv.2 ≤ 4294967295))) from congrArg (Value.bool) (mand_t hc17)) ?_
                  exact fun a W hA hW => ⟨g3, (Gext.refl w0 g3), hA.sub (by kernel_rfl), hW.sub (.cons _ .slnil), hF⟩
                · replace hF := hF.2 hc17
                  refine Ok.batch 5 [(4, .bool false)] (by kernel_rfl) ?_
                  refine Ok.nil ?_
                  refine Ok.thenN ?_
                  refine Ok.reval 4 rfl (show (.bool false : Value) = .bool ((decide (xv.2 ≥ 0)) && (decide (xv.2 ≤ 4294967295))) from congrArg (Value.bool) (mand_f hc17)) ?_
                  exact fun a W hA hW => ⟨g3, (Gext.refl w0 g3), hA.sub (by kernel_rfl), hW.sub (.cons _ .slnil), hF⟩
              ·
                clear hF
                rintro a W ⟨gj43, hxj43, hA, hW, hF⟩
                refine (?_ : Ok _ _ _ _ _ _) a W hA hW
                clear hA hW
                refine Ok.ret ?_
                refine Ok.thenR ?_
                exact Ok.resH (vs := [.bool ((decide (xv.2 ≥ 0)) && (decide (xv.2 ≤ 4294967295)))]) (.inl rfl) rfl (.cons (.tmp rfl) .nil) ((hxj4.trans hx3).trans hxj43) ⟨((decide (xv.2 ≥ 0)) && (decide (xv.2 ≤ 4294967295))), rfl, rfl, hF⟩
            · replace hF := hF.2 hc16
              refine Ok.skip ?_
              refine Ok.thenN ?_
              refine Ok.seq ?_
              refine Ok.cut (fun a W => ∃ gj48 : Ghost, Gext w0 g3 gj48 ∧ StA 119 [(0, .int .i64 xp), (3, .pointer (some ⟨b1, 0, none⟩)), (94, .bool (if ((xp == 31) || (xp == 53)) = true then (((Int.tmod xv.2 1000) != 0) || ((rhbS e5 48) && (decide (xv.2 < 0)))) else ((rhbS e5 48) && (decide (xv.2 < 0)))))] a ∧ StW w0 [.blk b1 (.cells #[.int .i64 xv.1, .int .i64 xv.2] 23)] gj48 W ∧ rvmj48 xp xv K e5) ?_ ?_
              ·
                refine Ok.region ?_
                refine Ok.batch 3 [(0, .int .i64 xp), (3, .pointer (some ⟨b1, 0, none⟩)), (5, .string ⟨⟨e5⟩⟩), (76, .bool (xp == 31))] (by kernel_rfl) ?_
                refine Ok.midway 3 [(0, .int .i64 xp), (3, .pointer (some ⟨b1, 0, none⟩)), (5, .string ⟨⟨e5⟩⟩), (79, .bool ((xp == 31) || (xp == 53)))] (fun hR25 => ?_) ?_
                · refine Ok.boolAt 76 ((xp == 31)) rfl (fun hc26 => ?_) (fun hc26 => ?_)
                  · skip
                    refine Ok.batch 3 [(0, .int .i64 xp), (3, .pointer (some ⟨b1, 0, none⟩)), (5, .string ⟨⟨e5⟩⟩), (79, .bool true)] (by kernel_rfl) ?_
                    refine Ok.reval 79 rfl (show (.bool true : Value) = .bool ((xp == 31) || (xp == 53)) from congrArg Value.bool (mor_t hc26)) ?_
                    refine Ok.batch 0 [(0, .int .i64 xp), (3, .pointer (some ⟨b1, 0, none⟩)), (5, .string ⟨⟨e5⟩⟩), (79, .bool ((xp == 31) || (xp == 53)))] (by kernel_rfl) ?_
                    exact hR25
                  · skip
                    refine Ok.batch 3 [(0, .int .i64 xp), (3, .pointer (some ⟨b1, 0, none⟩)), (5, .string ⟨⟨e5⟩⟩), (79, .bool (xp == 53))] (by kernel_rfl) ?_
                    refine Ok.reval 79 rfl (show (.bool (xp == 53) : Value) = .bool ((xp == 31) || (xp == 53)) from congrArg Value.bool (mor_f hc26)) ?_
                    refine Ok.batch 0 [(0, .int .i64 xp), (3, .pointer (some ⟨b1, 0, none⟩)), (5, .string ⟨⟨e5⟩⟩), (79, .bool ((xp == 31) || (xp == 53)))] (by kernel_rfl) ?_
                    exact hR25
                refine Ok.batch 1 [(0, .int .i64 xp), (3, .pointer (some ⟨b1, 0, none⟩)), (5, .string ⟨⟨e5⟩⟩), (80, .bool ((xp == 31) || (xp == 53)))] (by kernel_rfl) ?_
                refine Ok.boolAt 80 (((xp == 31) || (xp == 53))) rfl (fun hc27 => ?_) (fun hc27 => ?_)
                · replace hF := hF.1 hc27
                  refine Ok.batch 1 [(0, .int .i64 xp), (3, .pointer (some ⟨b1, 0, none⟩)), (5, .string ⟨⟨e5⟩⟩), (80, .bool true), (81, .pointer (some ⟨b1, 1, none⟩))] (by kernel_rfl) ?_
                  refine Ok.opYes (j := 6) (d := 80) (want := true) (b := true) rfl (by kernel_rfl) (by kernel_rfl) rfl (OpOk.step (v := .int .i64 xv.2) (Yields.load 0 rfl rfl Tryd.underlying3 rfl (by kernel_rfl)) rfl rfl ?_)
                  refine Ok.batch 4 [(0, .int .i64 xp), (3, .pointer (some ⟨b1, 0, none⟩)), (5, .string ⟨⟨e5⟩⟩), (86, .bool ((Int.tmod xv.2 1000) != 0))] (by kernel_rfl) ?_
                  refine Ok.boolAt 86 (((Int.tmod xv.2 1000) != 0)) rfl (fun hc28 => ?_) (fun hc28 => ?_)
                  · replace hF := hF.1 hc28
                    refine Ok.batch 8 [(0, .int .i64 xp), (3, .pointer (some ⟨b1, 0, none⟩)), (94, .bool true)] (by kernel_rfl) ?_
                    refine Ok.nil ?_
                    refine Ok.thenN ?_
                    refine Ok.reval 94 rfl (show (.bool true : Value) = .bool (if ((xp == 31) || (xp == 53)) = true then (((Int.tmod xv.2 1000) != 0) || ((rhbS e5 48) && (decide (xv.2 < 0)))) else ((rhbS e5 48) && (decide (xv.2 < 0)))) from congrArg (Value.bool) ((Eq.trans (mor_t hc28) ((if_t hc27).symm)))) ?_
                    exact fun a W hA hW => ⟨g3, (Gext.refl w0 g3), hA.sub (by kernel_rfl), hW, hF⟩
                  · replace hF := hF.2 hc28
                    refine Ok.batch 1 [(0, .int .i64 xp), (3, .pointer (some ⟨b1, 0, none⟩)), (86, .bool false), (87, .string ⟨⟨e5⟩⟩)] (by kernel_rfl) ?_
                    obtain ⟨hp29, hF⟩ := hF
                    refine Ok.opYes (j := 12) (d := 86) (want := false) (b := false) rfl (by kernel_rfl) (by kernel_rfl) rfl (OpOk.callG (v := .bool (rhbS e5 48)) (enters (by kernel_rfl) (fun _ => by kernel_rfl)) (fun W hW => rhb_c e5 48 hp29) rfl ?_)
                    refine Ok.batch 1 [(0, .int .i64 xp), (3, .pointer (some ⟨b1, 0, none⟩)), (86, .bool false), (89, .bool (rhbS e5 48))] (by kernel_rfl) ?_
                    refine Ok.boolAt 89 ((rhbS e5 48)) rfl (fun hc30 => ?_) (fun hc30 => ?_)
                    · replace hF := hF.1 hc30
                      refine Ok.batch 1 [(0, .int .i64 xp), (3, .pointer (some ⟨b1, 0, none⟩)), (86, .bool false), (89, .bool true), (90, .pointer (some ⟨b1, 1, none⟩))] (by kernel_rfl) ?_
                      refine Ok.opYes (j := 15) (d := 89) (want := true) (b := true) rfl (by kernel_rfl) (by kernel_rfl) rfl (OpOk.step (v := .int .i64 xv.2) (Yields.load 0 rfl rfl Tryd.underlying3 rfl (by kernel_rfl)) rfl rfl ?_)
                      refine Ok.batch 3 [(0, .int .i64 xp), (3, .pointer (some ⟨b1, 0, none⟩)), (94, .bool (decide (xv.2 < 0)))] (by kernel_rfl) ?_
                      refine Ok.nil ?_
                      refine Ok.thenN ?_
                      refine Ok.reval 94 rfl (show (.bool (decide (xv.2 < 0)) : Value) = .bool (if ((xp == 31) || (xp == 53)) = true then (((Int.tmod xv.2 1000) != 0) || ((rhbS e5 48) && (decide (xv.2 < 0)))) else ((rhbS e5 48) && (decide (xv.2 < 0)))) from congrArg (Value.bool) ((Eq.trans ((Eq.trans (mand_t hc30) (mor_f hc28))) ((if_t hc27).symm)))) ?_
                      exact fun a W hA hW => ⟨g3, (Gext.refl w0 g3), hA.sub (by kernel_rfl), hW, hF⟩
                    · replace hF := hF.2 hc30
                      refine Ok.batch 5 [(0, .int .i64 xp), (3, .pointer (some ⟨b1, 0, none⟩)), (94, .bool false)] (by kernel_rfl) ?_
                      refine Ok.nil ?_
                      refine Ok.thenN ?_
                      refine Ok.reval 94 rfl (show (.bool false : Value) = .bool (if ((xp == 31) || (xp == 53)) = true then (((Int.tmod xv.2 1000) != 0) || ((rhbS e5 48) && (decide (xv.2 < 0)))) else ((rhbS e5 48) && (decide (xv.2 < 0)))) from congrArg (Value.bool) ((Eq.trans ((Eq.trans (mand_f hc30) (mor_f hc28))) ((if_t hc27).symm)))) ?_
                      exact fun a W hA hW => ⟨g3, (Gext.refl w0 g3), hA.sub (by kernel_rfl), hW, hF⟩
                · replace hF := hF.2 hc27
                  refine Ok.batch 7 [(0, .int .i64 xp), (3, .pointer (some ⟨b1, 0, none⟩)), (86, .bool false), (87, .string ⟨⟨e5⟩⟩)] (by kernel_rfl) ?_
                  obtain ⟨hp31, hF⟩ := hF
                  refine Ok.opYes (j := 12) (d := 86) (want := false) (b := false) rfl (by kernel_rfl) (by kernel_rfl) rfl (OpOk.callG (v := .bool (rhbS e5 48)) (enters (by kernel_rfl) (fun _ => by kernel_rfl)) (fun W hW => rhb_c e5 48 hp31) rfl ?_)
                  refine Ok.batch 1 [(0, .int .i64 xp), (3, .pointer (some ⟨b1, 0, none⟩)), (86, .bool false), (89, .bool (rhbS e5 48))] (by kernel_rfl) ?_
                  refine Ok.boolAt 89 ((rhbS e5 48)) rfl (fun hc32 => ?_) (fun hc32 => ?_)
                  · replace hF := hF.1 hc32
                    refine Ok.batch 1 [(0, .int .i64 xp), (3, .pointer (some ⟨b1, 0, none⟩)), (86, .bool false), (89, .bool true), (90, .pointer (some ⟨b1, 1, none⟩))] (by kernel_rfl) ?_
                    refine Ok.opYes (j := 15) (d := 89) (want := true) (b := true) rfl (by kernel_rfl) (by kernel_rfl) rfl (OpOk.step (v := .int .i64 xv.2) (Yields.load 0 rfl rfl Tryd.underlying3 rfl (by kernel_rfl)) rfl rfl ?_)
                    refine Ok.batch 3 [(0, .int .i64 xp), (3, .pointer (some ⟨b1, 0, none⟩)), (94, .bool (decide (xv.2 < 0)))] (by kernel_rfl) ?_
                    refine Ok.nil ?_
                    refine Ok.thenN ?_
                    refine Ok.reval 94 rfl (show (.bool (decide (xv.2 < 0)) : Value) = .bool (if ((xp == 31) || (xp == 53)) = true then (((Int.tmod xv.2 1000) != 0) || ((rhbS e5 48) && (decide (xv.2 < 0)))) else ((rhbS e5 48) && (decide (xv.2 < 0)))) from congrArg (Value.bool) ((Eq.trans (mand_t hc32) ((if_f hc27).symm)))) ?_
                    exact fun a W hA hW => ⟨g3, (Gext.refl w0 g3), hA.sub (by kernel_rfl), hW, hF⟩
                  · replace hF := hF.2 hc32
                    refine Ok.batch 5 [(0, .int .i64 xp), (3, .pointer (some ⟨b1, 0, none⟩)), (94, .bool false)] (by kernel_rfl) ?_
                    refine Ok.nil ?_
                    refine Ok.thenN ?_
                    refine Ok.reval 94 rfl (show (.bool false : Value) = .bool (if ((xp == 31) || (xp == 53)) = true then (((Int.tmod xv.2 1000) != 0) || ((rhbS e5 48) && (decide (xv.2 < 0)))) else ((rhbS e5 48) && (decide (xv.2 < 0)))) from congrArg (Value.bool) ((Eq.trans (mand_f hc32) ((if_f hc27).symm)))) ?_
                    exact fun a W hA hW => ⟨g3, (Gext.refl w0 g3), hA.sub (by kernel_rfl), hW, hF⟩
              ·
                clear hF
                rintro a W ⟨gj48, hxj48, hA, hW, hF⟩
                refine (?_ : Ok _ _ _ _ _ _) a W hA hW
                clear hA hW
                refine Ok.cond (b := (if ((xp == 31) || (xp == 53)) = true then (((Int.tmod xv.2 1000) != 0) || ((rhbS e5 48) && (decide (xv.2 < 0)))) else ((rhbS e5 48) && (decide (xv.2 < 0))))) rfl (fun hc18 => ?_) (fun hc18 => ?_)
                · replace hF := hF.1 hc18
                  refine Ok.seq ?_
                  refine Ok.region ?_
                  refine Ok.batch 1 [(4, .bool false)] (by kernel_rfl) ?_
                  refine Ok.nil ?_
                  refine Ok.thenN ?_
                  refine Ok.ret ?_
                  refine Ok.thenR ?_
                  exact Ok.resP (vs := [.bool false]) [] [] (by decide) rfl (.inl rfl) rfl (.cons (.tmp rfl) .nil) ((hxj4.trans hx3).trans hxj48) ⟨false, rfl, rfl, hF⟩
                · replace hF := hF.2 hc18
                  refine Ok.skip ?_
                  refine Ok.thenN ?_
                  refine Ok.seq ?_
                  refine Ok.cut (fun a W => ∃ gj56 : Ghost, Gext w0 gj48 gj56 ∧ StA 119 [(3, .pointer (some ⟨b1, 0, none⟩)), (110, .bool (if (xp == 34) = true then ((decide (xv.2 > 1000)) || ((xp == 37) && (decide (xv.2 < 64)))) else ((xp == 37) && (decide (xv.2 < 64)))))] a ∧ StW w0 [.blk b1 (.cells #[.int .i64 xv.1, .int .i64 xv.2] 23)] gj56 W ∧ rvmj56 xp xv K) ?_ ?_
                  ·
                    refine Ok.region ?_
                    refine Ok.batch 3 [(0, .int .i64 xp), (3, .pointer (some ⟨b1, 0, none⟩)), (97, .bool (xp == 34))] (by kernel_rfl) ?_
                    refine Ok.boolAt 97 ((xp == 34)) rfl (fun hc21 => ?_) (fun hc21 => ?_)
                    · replace hF := hF.1 hc21
                      refine Ok.batch 1 [(0, .int .i64 xp), (3, .pointer (some ⟨b1, 0, none⟩)), (97, .bool true), (98, .pointer (some ⟨b1, 1, none⟩))] (by kernel_rfl) ?_
                      refine Ok.opYes (j := 2) (d := 97) (want := true) (b := true) rfl (by kernel_rfl) (by kernel_rfl) rfl (OpOk.step (v := .int .i64 xv.2) (Yields.load 0 rfl rfl Tryd.underlying3 rfl (by kernel_rfl)) rfl rfl ?_)
                      refine Ok.batch 3 [(0, .int .i64 xp), (3, .pointer (some ⟨b1, 0, none⟩)), (102, .bool (decide (xv.2 > 1000)))] (by kernel_rfl) ?_
                      refine Ok.boolAt 102 (decide (xv.2 > 1000)) rfl (fun hc22 => ?_) (fun hc22 => ?_)
                      · replace hF := hF.1 hc22
                        refine Ok.batch 8 [(3, .pointer (some ⟨b1, 0, none⟩)), (110, .bool true)] (by kernel_rfl) ?_
                        refine Ok.nil ?_
                        refine Ok.thenN ?_
                        refine Ok.reval 110 rfl (show (.bool true : Value) = .bool (if (xp == 34) = true then ((decide (xv.2 > 1000)) || ((xp == 37) && (decide (xv.2 < 64)))) else ((xp == 37) && (decide (xv.2 < 64)))) from congrArg (Value.bool) ((Eq.trans (mor_t hc22) ((if_t hc21).symm)))) ?_
                        exact fun a W hA hW => ⟨gj48, (Gext.refl w0 gj48), hA.sub (by kernel_rfl), hW, hF⟩
                      · replace hF := hF.2 hc22
                        refine Ok.batch 3 [(3, .pointer (some ⟨b1, 0, none⟩)), (102, .bool false), (105, .bool (xp == 37))] (by kernel_rfl) ?_
                        refine Ok.boolAt 105 ((xp == 37)) rfl (fun hc23 => ?_) (fun hc23 => ?_)
                        · replace hF := hF.1 hc23
                          refine Ok.batch 1 [(3, .pointer (some ⟨b1, 0, none⟩)), (102, .bool false), (105, .bool true), (106, .pointer (some ⟨b1, 1, none⟩))] (by kernel_rfl) ?_
                          refine Ok.opYes (j := 10) (d := 105) (want := true) (b := true) rfl (by kernel_rfl) (by kernel_rfl) rfl (OpOk.step (v := .int .i64 xv.2) (Yields.load 0 rfl rfl Tryd.underlying3 rfl (by kernel_rfl)) rfl rfl ?_)
                          refine Ok.batch 3 [(3, .pointer (some ⟨b1, 0, none⟩)), (110, .bool (decide (xv.2 < 64)))] (by kernel_rfl) ?_
                          refine Ok.nil ?_
                          refine Ok.thenN ?_
                          refine Ok.reval 110 rfl (show (.bool (decide (xv.2 < 64)) : Value) = .bool (if (xp == 34) = true then ((decide (xv.2 > 1000)) || ((xp == 37) && (decide (xv.2 < 64)))) else ((xp == 37) && (decide (xv.2 < 64)))) from congrArg (Value.bool) ((Eq.trans ((Eq.trans (mand_t hc23) (mor_f hc22))) ((if_t hc21).symm)))) ?_
                          exact fun a W hA hW => ⟨gj48, (Gext.refl w0 gj48), hA.sub (by kernel_rfl), hW, hF⟩
                        · replace hF := hF.2 hc23
                          refine Ok.batch 5 [(3, .pointer (some ⟨b1, 0, none⟩)), (110, .bool false)] (by kernel_rfl) ?_
                          refine Ok.nil ?_
                          refine Ok.thenN ?_
                          refine Ok.reval 110 rfl (show (.bool false : Value) = .bool (if (xp == 34) = true then ((decide (xv.2 > 1000)) || ((xp == 37) && (decide (xv.2 < 64)))) else ((xp == 37) && (decide (xv.2 < 64)))) from congrArg (Value.bool) ((Eq.trans ((Eq.trans (mand_f hc23) (mor_f hc22))) ((if_t hc21).symm)))) ?_
                          exact fun a W hA hW => ⟨gj48, (Gext.refl w0 gj48), hA.sub (by kernel_rfl), hW, hF⟩
                    · replace hF := hF.2 hc21
                      refine Ok.batch 8 [(3, .pointer (some ⟨b1, 0, none⟩)), (102, .bool false), (105, .bool (xp == 37))] (by kernel_rfl) ?_
                      refine Ok.boolAt 105 ((xp == 37)) rfl (fun hc24 => ?_) (fun hc24 => ?_)
                      · replace hF := hF.1 hc24
                        refine Ok.batch 1 [(3, .pointer (some ⟨b1, 0, none⟩)), (102, .bool false), (105, .bool true), (106, .pointer (some ⟨b1, 1, none⟩))] (by kernel_rfl) ?_
                        refine Ok.opYes (j := 10) (d := 105) (want := true) (b := true) rfl (by kernel_rfl) (by kernel_rfl) rfl (OpOk.step (v := .int .i64 xv.2) (Yields.load 0 rfl rfl Tryd.underlying3 rfl (by kernel_rfl)) rfl rfl ?_)
                        refine Ok.batch 3 [(3, .pointer (some ⟨b1, 0, none⟩)), (110, .bool (decide (xv.2 < 64)))] (by kernel_rfl) ?_
                        refine Ok.nil ?_
                        refine Ok.thenN ?_
                        refine Ok.reval 110 rfl (show (.bool (decide (xv.2 < 64)) : Value) = .bool (if (xp == 34) = true then ((decide (xv.2 > 1000)) || ((xp == 37) && (decide (xv.2 < 64)))) else ((xp == 37) && (decide (xv.2 < 64)))) from congrArg (Value.bool) ((Eq.trans (mand_t hc24) ((if_f hc21).symm)))) ?_
                        exact fun a W hA hW => ⟨gj48, (Gext.refl w0 gj48), hA.sub (by kernel_rfl), hW, hF⟩
                      · replace hF := hF.2 hc24
                        refine Ok.batch 5 [(3, .pointer (some ⟨b1, 0, none⟩)), (110, .bool false)] (by kernel_rfl) ?_
                        refine Ok.nil ?_
                        refine Ok.thenN ?_
                        refine Ok.reval 110 rfl (show (.bool false : Value) = .bool (if (xp == 34) = true then ((decide (xv.2 > 1000)) || ((xp == 37) && (decide (xv.2 < 64)))) else ((xp == 37) && (decide (xv.2 < 64)))) from congrArg (Value.bool) ((Eq.trans (mand_f hc24) ((if_f hc21).symm)))) ?_
                        exact fun a W hA hW => ⟨gj48, (Gext.refl w0 gj48), hA.sub (by kernel_rfl), hW, hF⟩
                  ·
                    clear hF
                    rintro a W ⟨gj56, hxj56, hA, hW, hF⟩
                    refine (?_ : Ok _ _ _ _ _ _) a W hA hW
                    clear hA hW
                    refine Ok.cond (b := (if (xp == 34) = true then ((decide (xv.2 > 1000)) || ((xp == 37) && (decide (xv.2 < 64)))) else ((xp == 37) && (decide (xv.2 < 64))))) rfl (fun hc19 => ?_) (fun hc19 => ?_)
                    · replace hF := hF.1 hc19
                      refine Ok.seq ?_
                      refine Ok.region ?_
                      refine Ok.batch 1 [(4, .bool false)] (by kernel_rfl) ?_
                      refine Ok.nil ?_
                      refine Ok.thenN ?_
                      refine Ok.ret ?_
                      refine Ok.thenR ?_
                      exact Ok.resP (vs := [.bool false]) [] [] (by decide) rfl (.inl rfl) rfl (.cons (.tmp rfl) .nil) (((hxj4.trans hx3).trans hxj48).trans hxj56) ⟨false, rfl, rfl, hF⟩
                    · replace hF := hF.2 hc19
                      refine Ok.skip ?_
                      refine Ok.thenN ?_
                      refine Ok.cut (fun a W => ∃ gj63 : Ghost, Gext w0 gj56 gj63 ∧ StA 119 [(4, .bool ((decide (xv.2 ≥ (-16777216))) && (decide (xv.2 ≤ 16777216))))] a ∧ StW w0 [] gj63 W ∧ rvmj63 xv K) ?_ ?_
                      ·
                        refine Ok.region ?_
                        refine Ok.batch 1 [(3, .pointer (some ⟨b1, 0, none⟩)), (111, .pointer (some ⟨b1, 1, none⟩))] (by kernel_rfl) ?_
                        refine Ok.op rfl (OpOk.step (v := .int .i64 xv.2) (Yields.load 0 rfl rfl Tryd.underlying3 rfl (by kernel_rfl)) rfl rfl ?_)
                        refine Ok.batch 2 [(3, .pointer (some ⟨b1, 0, none⟩)), (114, .bool (decide (xv.2 ≥ (-16777216))))] (by kernel_rfl) ?_
                        refine Ok.boolAt 114 (decide (xv.2 ≥ (-16777216))) rfl (fun hc20 => ?_) (fun hc20 => ?_)
                        · replace hF := hF.1 hc20
                          refine Ok.batch 1 [(114, .bool true), (115, .pointer (some ⟨b1, 1, none⟩))] (by kernel_rfl) ?_
                          refine Ok.opYes (j := 3) (d := 114) (want := true) (b := true) rfl (by kernel_rfl) (by kernel_rfl) rfl (OpOk.step (v := .int .i64 xv.2) (Yields.load 0 rfl rfl Tryd.underlying3 rfl (by kernel_rfl)) rfl rfl ?_)
                          refine Ok.batch 3 [(4, .bool (decide (xv.2 ≤ 16777216)))] (by kernel_rfl) ?_
                          refine Ok.nil ?_
                          refine Ok.thenN ?_
                          refine Ok.reval 4 rfl (show (.bool (decide (xv.2 ≤ 16777216)) : Value) = .bool ((decide (xv.2 ≥ (-16777216))) && (decide (xv.2 ≤ 16777216))) from congrArg (Value.bool) (mand_t hc20)) ?_
                          exact fun a W hA hW => ⟨gj56, (Gext.refl w0 gj56), hA.sub (by kernel_rfl), hW.sub (.cons _ .slnil), hF⟩
                        · replace hF := hF.2 hc20
                          refine Ok.batch 5 [(4, .bool false)] (by kernel_rfl) ?_
                          refine Ok.nil ?_
                          refine Ok.thenN ?_
                          refine Ok.reval 4 rfl (show (.bool false : Value) = .bool ((decide (xv.2 ≥ (-16777216))) && (decide (xv.2 ≤ 16777216))) from congrArg (Value.bool) (mand_f hc20)) ?_
                          exact fun a W hA hW => ⟨gj56, (Gext.refl w0 gj56), hA.sub (by kernel_rfl), hW.sub (.cons _ .slnil), hF⟩
                      ·
                        clear hF
                        rintro a W ⟨gj63, hxj63, hA, hW, hF⟩
                        refine (?_ : Ok _ _ _ _ _ _) a W hA hW
                        clear hA hW
                        refine Ok.ret ?_
                        exact Ok.resH (vs := [.bool ((decide (xv.2 ≥ (-16777216))) && (decide (xv.2 ≤ 16777216)))]) (.inl rfl) rfl (.cons (.tmp rfl) .nil) ((((hxj4.trans hx3).trans hxj48).trans hxj56).trans hxj63) ⟨((decide (xv.2 ≥ (-16777216))) && (decide (xv.2 ≤ 16777216))), rfl, rfl, hF⟩
def rvmj27M (xp : Int) (xv : Int × Int) : Bool := ((decide (xv.2 ≥ 0)) && ((decide (xv.2 < ((rpyM xp).length : Int))) && (!(((rpyM xp).getD (Int.toNat xv.2) default) == ([] : List UInt8)))))
set_option linter.unusedSimpArgs false in
set_option linter.unusedVariables false in
theorem rvmj27_A (xp : Int) (xv : Int × Int) (P : Bool → Prop) (h : P (rvmj27M xp xv)) : rvmj27 xp xv (fun k0 => P k0) := by
  unfold rvmj27M at h
  unfold rvmj27
  exact h
def rvmj43M (xv : Int × Int) : Bool := ((decide (xv.2 ≥ 0)) && (decide (xv.2 ≤ 4294967295)))
set_option linter.unusedSimpArgs false in
set_option linter.unusedVariables false in
theorem rvmj43_A (xv : Int × Int) (P : Bool → Prop) (h : P (rvmj43M xv)) : rvmj43 xv (fun k0 => P k0) := by
  unfold rvmj43M at h
  unfold rvmj43
  exact h
def rvmj63M (xv : Int × Int) : Bool := ((decide (xv.2 ≥ (-16777216))) && (decide (xv.2 ≤ 16777216)))
set_option linter.unusedSimpArgs false in
set_option linter.unusedVariables false in
theorem rvmj63_A (xv : Int × Int) (P : Bool → Prop) (h : P (rvmj63M xv)) : rvmj63 xv (fun k0 => P k0) := by
  unfold rvmj63M at h
  unfold rvmj63
  exact h
def rvmj56M (xp : Int) (xv : Int × Int) : Bool := (if (if (xp == 34) = true then ((decide (xv.2 > 1000)) || ((xp == 37) && (decide (xv.2 < 64)))) else ((xp == 37) && (decide (xv.2 < 64)))) = true then false else (rvmj63M xv))
set_option linter.unusedSimpArgs false in
set_option linter.unusedVariables false in
theorem rvmj56_A (xp : Int) (xv : Int × Int) (P : Bool → Prop) (h : P (rvmj56M xp xv)) : rvmj56 xp xv (fun k0 => P k0) := by
  unfold rvmj56M at h
  unfold rvmj56
  refine ⟨fun hc0 => ?_, fun hc0 => ?_⟩
  · rw [if_t hc0] at h
    have hd0 := hc0; try simp only [Bool.and_eq_true, Bool.or_eq_true, Bool.and_eq_false_iff, Bool.or_eq_false_iff, Bool.not_eq_true', Bool.not_eq_false', decide_eq_true_eq, decide_eq_false_iff_not, beq_iff_eq, beq_eq_false_iff_ne, ne_eq] at hd0
    exact h
  · rw [if_f hc0] at h
    have hd0 := hc0; try simp only [Bool.and_eq_true, Bool.or_eq_true, Bool.and_eq_false_iff, Bool.or_eq_false_iff, Bool.not_eq_true', Bool.not_eq_false', decide_eq_true_eq, decide_eq_false_iff_not, beq_iff_eq, beq_eq_false_iff_ne, ne_eq] at hd0
    refine ⟨fun hc1 => ?_, fun hc1 => ?_⟩
    · skip
      have hd1 := of_decide_eq_true hc1
      exact rvmj63_A xv _ h
    · skip
      have hd1 := of_decide_eq_false hc1
      exact rvmj63_A xv _ h
def rvmj48M (xp : Int) (xv : Int × Int) (e5 : List UInt8) : Bool := (if (if ((xp == 31) || (xp == 53)) = true then (((Int.tmod xv.2 1000) != 0) || ((rhbS e5 48) && (decide (xv.2 < 0)))) else ((rhbS e5 48) && (decide (xv.2 < 0)))) = true then false else (rvmj56M xp xv))
set_option linter.unusedSimpArgs false in
set_option linter.unusedVariables false in
theorem rvmj48_A (xp : Int) (xv : Int × Int) (e5 : List UInt8) (P : Bool → Prop) (h : P (rvmj48M xp xv e5)) : rvmj48 xp xv (fun k0 => P k0) e5 := by
  unfold rvmj48M at h
  unfold rvmj48
  refine ⟨fun hc0 => ?_, fun hc0 => ?_⟩
  · rw [if_t hc0] at h
    have hd0 := hc0; try simp only [Bool.and_eq_true, Bool.or_eq_true, Bool.and_eq_false_iff, Bool.or_eq_false_iff, Bool.not_eq_true', Bool.not_eq_false', decide_eq_true_eq, decide_eq_false_iff_not, beq_iff_eq, beq_eq_false_iff_ne, ne_eq] at hd0
    exact h
  · rw [if_f hc0] at h
    have hd0 := hc0; try simp only [Bool.and_eq_true, Bool.or_eq_true, Bool.and_eq_false_iff, Bool.or_eq_false_iff, Bool.not_eq_true', Bool.not_eq_false', decide_eq_true_eq, decide_eq_false_iff_not, beq_iff_eq, beq_eq_false_iff_ne, ne_eq] at hd0
    refine ⟨fun hc1 => ?_, fun hc1 => ?_⟩
    · skip
      have hd1 := hc1; try simp only [Bool.and_eq_true, Bool.or_eq_true, Bool.and_eq_false_iff, Bool.or_eq_false_iff, Bool.not_eq_true', Bool.not_eq_false', decide_eq_true_eq, decide_eq_false_iff_not, beq_iff_eq, beq_eq_false_iff_ne, ne_eq] at hd1
      refine ⟨fun hc2 => ?_, fun hc2 => ?_⟩
      · skip
        have hd2 := of_decide_eq_true hc2
        exact rvmj56_A xp xv _ h
      · skip
        have hd2 := of_decide_eq_false hc2
        refine ⟨fun hc3 => ?_, fun hc3 => ?_⟩
        · skip
          have hd3 := hc3; try simp only [Bool.and_eq_true, Bool.or_eq_true, Bool.and_eq_false_iff, Bool.or_eq_false_iff, Bool.not_eq_true', Bool.not_eq_false', decide_eq_true_eq, decide_eq_false_iff_not, beq_iff_eq, beq_eq_false_iff_ne, ne_eq] at hd3
          exact rvmj56_A xp xv _ h
        · skip
          have hd3 := hc3; try simp only [Bool.and_eq_true, Bool.or_eq_true, Bool.and_eq_false_iff, Bool.or_eq_false_iff, Bool.not_eq_true', Bool.not_eq_false', decide_eq_true_eq, decide_eq_false_iff_not, beq_iff_eq, beq_eq_false_iff_ne, ne_eq] at hd3
          exact rvmj56_A xp xv _ h
    · skip
      have hd1 := hc1; try simp only [Bool.and_eq_true, Bool.or_eq_true, Bool.and_eq_false_iff, Bool.or_eq_false_iff, Bool.not_eq_true', Bool.not_eq_false', decide_eq_true_eq, decide_eq_false_iff_not, beq_iff_eq, beq_eq_false_iff_ne, ne_eq] at hd1
      refine ⟨fun hc2 => ?_, fun hc2 => ?_⟩
      · skip
        have hd2 := hc2; try simp only [Bool.and_eq_true, Bool.or_eq_true, Bool.and_eq_false_iff, Bool.or_eq_false_iff, Bool.not_eq_true', Bool.not_eq_false', decide_eq_true_eq, decide_eq_false_iff_not, beq_iff_eq, beq_eq_false_iff_ne, ne_eq] at hd2
        exact rvmj56_A xp xv _ h
      · skip
        have hd2 := hc2; try simp only [Bool.and_eq_true, Bool.or_eq_true, Bool.and_eq_false_iff, Bool.or_eq_false_iff, Bool.not_eq_true', Bool.not_eq_false', decide_eq_true_eq, decide_eq_false_iff_not, beq_iff_eq, beq_eq_false_iff_ne, ne_eq] at hd2
        exact rvmj56_A xp xv _ h
def rvmj4M (xp : Int) (xv : Int × Int) : Bool := (if (((decide (xp < 0)) || (decide (xp ≥ 59))) || ((decide (xv.1 < 1)) || (decide (xv.1 > 6)))) = true then false else (if (!(rhbS (rpkM.getD (Int.toNat xp) default) ((([107, 108, 112, 110, 99, 97] : List UInt8).getD (Int.toNat (IntKind.wrap .i64 (xv.1 - 1))) 0).toNat : Int))) = true then false else (if (xv.1 == 1) = true then (rvmj27M xp xv) else (if (xv.1 == 6) = true then (xv.2 == 0) else (if (xv.1 == 5) = true then (rvmj43M xv) else (rvmj48M xp xv (rpkM.getD (Int.toNat xp) default)))))))
set_option linter.unusedSimpArgs false in
set_option linter.unusedVariables false in
theorem rvmj4_A (xp : Int) (xv : Int × Int) (P : Bool → Prop) (h : P (rvmj4M xp xv)) : rvmj4 xp xv (fun k0 => P k0) := by
  unfold rvmj4M at h
  unfold rvmj4
  refine ⟨fun hc0 => ?_, fun hc0 => ?_⟩
  · rw [if_t hc0] at h
    have hd0 := hc0; try simp only [Bool.and_eq_true, Bool.or_eq_true, Bool.and_eq_false_iff, Bool.or_eq_false_iff, Bool.not_eq_true', Bool.not_eq_false', decide_eq_true_eq, decide_eq_false_iff_not, beq_iff_eq, beq_eq_false_iff_ne, ne_eq] at hd0
    exact h
  · rw [if_f hc0] at h
    have hd0 := hc0; try simp only [Bool.and_eq_true, Bool.or_eq_true, Bool.and_eq_false_iff, Bool.or_eq_false_iff, Bool.not_eq_true', Bool.not_eq_false', decide_eq_true_eq, decide_eq_false_iff_not, beq_iff_eq, beq_eq_false_iff_ne, ne_eq] at hd0
    refine ⟨?_, ?_, ?_⟩
    · first | (show _ < 59; omega) | (rw [w64 (by omega)]; show _ < 6; omega) | (rw [w64 (by omega)]; omega) | exact rpk_len _ _ | omega | assumption | exact trivial | (have h0 := List.length_pos_iff.mpr (by assumption); omega) | (simp; omega) | (simp at *; omega)
    · first | (show _ < 59; omega) | (rw [w64 (by omega)]; show _ < 6; omega) | (rw [w64 (by omega)]; omega) | exact rpk_len _ _ | omega | assumption | exact trivial | (have h0 := List.length_pos_iff.mpr (by assumption); omega) | (simp; omega) | (simp at *; omega)
    refine ⟨?_, ?_, ?_⟩
    · first | (show _ < 59; omega) | (rw [w64 (by omega)]; show _ < 6; omega) | (rw [w64 (by omega)]; omega) | exact rpk_len _ _ | omega | assumption | exact trivial | (have h0 := List.length_pos_iff.mpr (by assumption); omega) | (simp; omega) | (simp at *; omega)
    · first | (show _ < 59; omega) | (rw [w64 (by omega)]; show _ < 6; omega) | (rw [w64 (by omega)]; omega) | exact rpk_len _ _ | omega | assumption | exact trivial | (have h0 := List.length_pos_iff.mpr (by assumption); omega) | (simp; omega) | (simp at *; omega)
    refine ⟨?_, ?_⟩
    · first | (show _ < 59; omega) | (rw [w64 (by omega)]; show _ < 6; omega) | (rw [w64 (by omega)]; omega) | exact rpk_len _ _ | omega | assumption | exact trivial | (have h0 := List.length_pos_iff.mpr (by assumption); omega) | (simp; omega) | (simp at *; omega)
    refine ⟨fun hc1 => ?_, fun hc1 => ?_⟩
    · rw [if_t hc1] at h
      exact h
    · rw [if_f hc1] at h
      refine ⟨fun hc2 => ?_, fun hc2 => ?_⟩
      · rw [if_t hc2] at h
        have hd2 := hc2; try simp only [Bool.and_eq_true, Bool.or_eq_true, Bool.and_eq_false_iff, Bool.or_eq_false_iff, Bool.not_eq_true', Bool.not_eq_false', decide_eq_true_eq, decide_eq_false_iff_not, beq_iff_eq, beq_eq_false_iff_ne, ne_eq] at hd2
        refine ⟨fun hc3 => ?_, fun hc3 => ?_⟩
        · skip
          have hd3 := of_decide_eq_true hc3
          refine ⟨fun hc4 => ?_, fun hc4 => ?_⟩
          · skip
            have hd4 := hc4; try simp only [Bool.and_eq_true, Bool.or_eq_true, Bool.and_eq_false_iff, Bool.or_eq_false_iff, Bool.not_eq_true', Bool.not_eq_false', decide_eq_true_eq, decide_eq_false_iff_not, beq_iff_eq, beq_eq_false_iff_ne, ne_eq] at hd4
            refine ⟨?_, ?_, ?_⟩
            · first | (show _ < 59; omega) | (rw [w64 (by omega)]; show _ < 6; omega) | (rw [w64 (by omega)]; omega) | exact rpk_len _ _ | omega | assumption | exact trivial | (have h0 := List.length_pos_iff.mpr (by assumption); omega) | (simp; omega) | (simp at *; omega)
            · first | (show _ < 59; omega) | (rw [w64 (by omega)]; show _ < 6; omega) | (rw [w64 (by omega)]; omega) | exact rpk_len _ _ | omega | assumption | exact trivial | (have h0 := List.length_pos_iff.mpr (by assumption); omega) | (simp; omega) | (simp at *; omega)
            exact rvmj27_A xp xv _ h
          · skip
            have hd4 := hc4; try simp only [Bool.and_eq_true, Bool.or_eq_true, Bool.and_eq_false_iff, Bool.or_eq_false_iff, Bool.not_eq_true', Bool.not_eq_false', decide_eq_true_eq, decide_eq_false_iff_not, beq_iff_eq, beq_eq_false_iff_ne, ne_eq] at hd4
            exact rvmj27_A xp xv _ h
        · skip
          have hd3 := of_decide_eq_false hc3
          exact rvmj27_A xp xv _ h
      · rw [if_f hc2] at h
        have hd2 := hc2; try simp only [Bool.and_eq_true, Bool.or_eq_true, Bool.and_eq_false_iff, Bool.or_eq_false_iff, Bool.not_eq_true', Bool.not_eq_false', decide_eq_true_eq, decide_eq_false_iff_not, beq_iff_eq, beq_eq_false_iff_ne, ne_eq] at hd2
        refine ⟨fun hc3 => ?_, fun hc3 => ?_⟩
        · rw [if_t hc3] at h
          have hd3 := hc3; try simp only [Bool.and_eq_true, Bool.or_eq_true, Bool.and_eq_false_iff, Bool.or_eq_false_iff, Bool.not_eq_true', Bool.not_eq_false', decide_eq_true_eq, decide_eq_false_iff_not, beq_iff_eq, beq_eq_false_iff_ne, ne_eq] at hd3
          exact h
        · rw [if_f hc3] at h
          have hd3 := hc3; try simp only [Bool.and_eq_true, Bool.or_eq_true, Bool.and_eq_false_iff, Bool.or_eq_false_iff, Bool.not_eq_true', Bool.not_eq_false', decide_eq_true_eq, decide_eq_false_iff_not, beq_iff_eq, beq_eq_false_iff_ne, ne_eq] at hd3
          refine ⟨fun hc4 => ?_, fun hc4 => ?_⟩
          · rw [if_t hc4] at h
            have hd4 := hc4; try simp only [Bool.and_eq_true, Bool.or_eq_true, Bool.and_eq_false_iff, Bool.or_eq_false_iff, Bool.not_eq_true', Bool.not_eq_false', decide_eq_true_eq, decide_eq_false_iff_not, beq_iff_eq, beq_eq_false_iff_ne, ne_eq] at hd4
            refine ⟨fun hc5 => ?_, fun hc5 => ?_⟩
            · skip
              have hd5 := of_decide_eq_true hc5
              exact rvmj43_A xv _ h
            · skip
              have hd5 := of_decide_eq_false hc5
              exact rvmj43_A xv _ h
          · rw [if_f hc4] at h
            have hd4 := hc4; try simp only [Bool.and_eq_true, Bool.or_eq_true, Bool.and_eq_false_iff, Bool.or_eq_false_iff, Bool.not_eq_true', Bool.not_eq_false', decide_eq_true_eq, decide_eq_false_iff_not, beq_iff_eq, beq_eq_false_iff_ne, ne_eq] at hd4
            refine ⟨fun hc5 => ?_, fun hc5 => ?_⟩
            · skip
              have hd5 := hc5; try simp only [Bool.and_eq_true, Bool.or_eq_true, Bool.and_eq_false_iff, Bool.or_eq_false_iff, Bool.not_eq_true', Bool.not_eq_false', decide_eq_true_eq, decide_eq_false_iff_not, beq_iff_eq, beq_eq_false_iff_ne, ne_eq] at hd5
              refine ⟨fun hc6 => ?_, fun hc6 => ?_⟩
              · skip
                exact rvmj48_A xp xv (rpkM.getD (Int.toNat xp) default) _ h
              · skip
                refine ⟨?_, ?_⟩
                · first | (show _ < 59; omega) | (rw [w64 (by omega)]; show _ < 6; omega) | (rw [w64 (by omega)]; omega) | exact rpk_len _ _ | omega | assumption | exact trivial | (have h0 := List.length_pos_iff.mpr (by assumption); omega) | (simp; omega) | (simp at *; omega)
                refine ⟨fun hc7 => ?_, fun hc7 => ?_⟩
                · skip
                  exact rvmj48_A xp xv (rpkM.getD (Int.toNat xp) default) _ h
                · skip
                  exact rvmj48_A xp xv (rpkM.getD (Int.toNat xp) default) _ h
            · skip
              have hd5 := hc5; try simp only [Bool.and_eq_true, Bool.or_eq_true, Bool.and_eq_false_iff, Bool.or_eq_false_iff, Bool.not_eq_true', Bool.not_eq_false', decide_eq_true_eq, decide_eq_false_iff_not, beq_iff_eq, beq_eq_false_iff_ne, ne_eq] at hd5
              refine ⟨?_, ?_⟩
              · first | (show _ < 59; omega) | (rw [w64 (by omega)]; show _ < 6; omega) | (rw [w64 (by omega)]; omega) | exact rpk_len _ _ | omega | assumption | exact trivial | (have h0 := List.length_pos_iff.mpr (by assumption); omega) | (simp; omega) | (simp at *; omega)
              refine ⟨fun hc6 => ?_, fun hc6 => ?_⟩
              · skip
                exact rvmj48_A xp xv (rpkM.getD (Int.toNat xp) default) _ h
              · skip
                exact rvmj48_A xp xv (rpkM.getD (Int.toNat xp) default) _ h
def rvmM (xp : Int) (xv : Int × Int) : Bool := (rvmj4M xp xv)
set_option linter.unusedSimpArgs false in
set_option linter.unusedVariables false in
theorem rvmF_A (xp : Int) (xv : Int × Int) (P : Bool → Prop) (h : P (rvmM xp xv)) : rvmF xp xv (fun k0 => P k0) := by
  unfold rvmM at h
  unfold rvmF
  refine ⟨fun hc0 => ?_, fun hc0 => ?_⟩
  · skip
    have hd0 := hc0; try simp only [Bool.and_eq_true, Bool.or_eq_true, Bool.and_eq_false_iff, Bool.or_eq_false_iff, Bool.not_eq_true', Bool.not_eq_false', decide_eq_true_eq, decide_eq_false_iff_not, beq_iff_eq, beq_eq_false_iff_ne, ne_eq] at hd0
    exact rvmj4_A xp xv _ h
  · skip
    have hd0 := hc0; try simp only [Bool.and_eq_true, Bool.or_eq_true, Bool.and_eq_false_iff, Bool.or_eq_false_iff, Bool.not_eq_true', Bool.not_eq_false', decide_eq_true_eq, decide_eq_false_iff_not, beq_iff_eq, beq_eq_false_iff_ne, ne_eq] at hd0
    refine ⟨fun hc1 => ?_, fun hc1 => ?_⟩
    · skip
      have hd1 := of_decide_eq_true hc1
      exact rvmj4_A xp xv _ h
    · skip
      have hd1 := of_decide_eq_false hc1
      exact rvmj4_A xp xv _ h
theorem rvm_F (xp : Int) (xv : Int × Int) : rvmF xp xv (fun k0 => k0 = rvmM xp xv) :=
  rvmF_A xp xv (fun z => z = rvmM xp xv) rfl
set_option linter.unusedVariables false in
theorem rvm_c {g : Ghost} (xp : Int) (xv : Int × Int)  : CallsG Tryd.prog 11 #[.int .i64 xp, .agg #[.int .i64 xv.1, .int .i64 xv.2]] g (.bool (rvmM xp xv)) :=
  (rvm_ok xp xv _ (rvm_F xp xv)).gives (by rintro g' H' v _ ⟨r0, rfl, rfl, hK⟩; subst hK; rfl)
end Go.Proofs.YteocjdpjpkjlaaaDoor.Pf
