/- strings.NewReplacer, sync.Once: the parts. -/
import Derived.Test.YtcnhdkhkadiohaaGreatDoorRpc
import Derived.Test.YtcnhdkhkadiohaaGreatDoorRnd
import Derived.Handy
import Derived.Defers
import Derived.Tactics
import Derived.Tactics2
import Derived.Laws.Pointers
import Derived.Laws.LoneSync
import Derived.Laws.NewBlocks
import Derived.RegionTactic
import Derived.RegionCalls
import Derived.ChangeAlike
import Derived.Laws.CopyRow
namespace Go.Proofs.YtcnhdkhkadiohaaGreatDoor.Qu
open Go Go.RowKit
set_option linter.unusedVariables false
theorem disable (w : World) : (callFunc 163 #[]).run Tryz.prog w = .ok (.value (.tuple #[])) w := run_call_mark0 Tryz.func163 (by kernel_rfl) (by kernel_rfl) (by kernel_rfl) .disable (by kernel_rfl) w
theorem enable (w : World) : (callFunc 165 #[]).run Tryz.prog w = .ok (.value (.tuple #[])) w := run_call_mark0 Tryz.func165 (by kernel_rfl) (by kernel_rfl) (by kernel_rfl) .enable (by kernel_rfl) w
theorem acquire (a : Addr) (w : World) : (callFunc 166 #[.pointer (some a)]).run Tryz.prog w = .ok (.value (.tuple #[])) w := run_call_marked Tryz.func166 (by kernel_rfl) (by kernel_rfl) (by kernel_rfl) .acquire (by kernel_rfl) a w
theorem releaseMerge (a : Addr) (w : World) : (callFunc 168 #[.pointer (some a)]).run Tryz.prog w = .ok (.value (.tuple #[])) w := run_call_marked Tryz.func168 (by kernel_rfl) (by kernel_rfl) (by kernel_rfl) .releaseMerge (by kernel_rfl) a w
theorem store_deferred (a : Addr) (x : Value) (u : FrameMode) (w : World) (hc : w.cell? a = some x) (hz : w.frozen? a = false) :
  CallsD Tryz.prog 141 #[.pointer (some a), .bool true] u w fun e u' w' => u' = u ∧ (e = .returned (.tuple #[]) ∧ w' = w.drew.setCell a (.int .u32 1)) := by
 have hc' : w.drew.cell? a = some x := by go_simp
 have hz' : w.drew.frozen? a = false := by go_simp
 have hst := run_call_store (P := Tryz.prog) Tryz.func152 (by kernel_rfl) (by kernel_rfl) (by kernel_rfl) (by kernel_rfl) (k := .u32) (y := 1) hc' hz'
 go_enter_d Tryz.func141, Tryz.ntmps141
 go_wp2
 go_region_calls
 all_goals (go_end0; exact ⟨rfl, rfl⟩)
set_option maxRecDepth 100000 in
set_option maxHeartbeats 1600000 in
theorem unlock_deferred (a : Addr) (u : FrameMode) (w : World) (hc : w.cell? a = some (.int .i32 1)) (hz : w.frozen? a = false) :
  CallsD Tryz.prog 140 #[.pointer (some a)] u w fun e u' w' => u' = u ∧ (e = .returned (.tuple #[]) ∧ w' = w.setCell a (.int .i32 0)) := by
 have hd := disable
 have he := enable
 have hr := releaseMerge
 have hadd := run_call_add (P := Tryz.prog) Tryz.func169 (by kernel_rfl) (by kernel_rfl) (by kernel_rfl) .i32 (by kernel_rfl) (y := -1) (s := 0) hc hz (by simp [go_sem]; rfl)
 have hcv := run_convert_to_unsafe (P := Tryz.prog) (src := 201) (dst := 102) Tryz.underlying201 Tryz.underlying102 (by kernel_rfl) hc
 go_enter_d Tryz.func140, Tryz.ntmps140
 go_wp2
 all_goals first | (go_end0; go_wp2; go_end0; exact ⟨rfl, rfl⟩) | (go_end0; exact ⟨rfl, rfl⟩) | exact ⟨rfl, rfl⟩
set_option maxRecDepth 100000 in
set_option maxHeartbeats 1600000 in
theorem lock_free (a : Addr) (w : World) (hc : w.cell? a = some (.int .i32 0)) (hz : w.frozen? a = false) :
  Calls Tryz.prog 139 #[.pointer (some a)] w fun e w' => e = .returned (.tuple #[]) ∧ w' = w.setCell a (.int .i32 1) := by
 have hd := disable
 have he := enable
 have ha := acquire
 have hcas := run_call_cas_hit (P := Tryz.prog) Tryz.func164 (by kernel_rfl) (by kernel_rfl) (by kernel_rfl) .i32 (by kernel_rfl) (y := 1) hc hz
 have hc' : (w.setCell a (.int .i32 1)).cell? a = some (.int .i32 1) := World.cell?_setCell_same w a _ hc
 have hcv := run_convert_to_unsafe (P := Tryz.prog) (src := 201) (dst := 102) Tryz.underlying201 Tryz.underlying102 (by kernel_rfl) hc'
 go_enter Tryz.func139, Tryz.ntmps139
 go_wp2
 all_goals first | (go_end0; go_wp2; go_end0; exact ⟨rfl, rfl⟩) | (go_end0; exact ⟨rfl, rfl⟩) | exact ⟨rfl, rfl⟩
end Go.Proofs.YtcnhdkhkadiohaaGreatDoor.Qu
namespace Go.Proofs.YtcnhdkhkadiohaaGreatDoor.Qu
set_option maxRecDepth 100000
open Go Go.RowKit Go.Eng Rp
set_option linter.unusedVariables false
def once (d m : Int) (r l : Value) : Obj := .cells #[.int .u32 d, .int .i32 m, .int .u32 0, r, l] 133
def lits : List (Bs) := [[92], [92, 92], [34], [92, 34], [10], [92, 10]]
def tab (b : Nat) : Value := .iface 166 (.pointer (some ⟨b, 0, none⟩))
theorem bon_T : bonF True := by
 unfold bonF
 repeat' first | exact trivial | apply And.intro | decide | intro _
theorem built {g : Ghost} {b co : Nat} {ao : Option Addr} (hRo : Rep g (.slice .str) [.slice ao 6 co] lits) {W : World} (hW : StW ⟨W, [b]⟩ [.blk b (once 0 1 .nilIface (.slice ao 6 co))] g W) :
  Calls Tryz.prog 106 #[.pointer (some ⟨b, 0, none⟩)] W fun e W' => e = .returned (.tuple #[]) ∧ ∃ g' b2, Gext ⟨W, [b]⟩ g g' ∧ RplG g' b2 ∧ StW ⟨W, [b]⟩ [.blk b (once 0 1 (tab b2) (.slice none 0 0))] g' W' :=
 (bon_ok (b := b) hRo True bon_T W hW).mono fun e W' ⟨v, g', H', he, ⟨b2, hv, hH, hT⟩, hx, hS⟩ => ⟨by rw [he, hv], g', b2, hx, hT, by rw [hH] at hS; exact hS⟩
set_option maxHeartbeats 1600000 in
theorem slow {g : Ghost} {b co : Nat} {ao : Option Addr} (hRo : Rep g (.slice .str) [.slice ao 6 co] lits) {W : World} (hW : StW ⟨W, [b]⟩ [.blk b (once 0 0 .nilIface (.slice ao 6 co))] g W) :
  Calls Tryz.prog 129 #[.pointer (some ⟨b, 0, none⟩), .func (.func 106) #[.pointer (some ⟨b, 0, none⟩)] #[]] W fun e W' => e = .returned (.tuple #[]) ∧ ∃ g' b2, Gext ⟨W, [b]⟩ g g' ∧ RplG g' b2 ∧ StW ⟨W, [b]⟩ [.blk b (once 1 0 (tab b2) (.slice none 0 0))] g' W' := by
 have hW1 : StW ⟨W, [b]⟩ [.blk b (once 0 1 .nilIface (.slice ao 6 co))] g (W.setCell ⟨b, 1, none⟩ (.int .i32 1)) := hW.setCell (i := 1) (.int .i32 1)
 have hl := run_call_load (P := Tryz.prog) Tryz.func138 kr kr kr .u32 kr (w := W.setCell ⟨b, 1, none⟩ (.int .i32 1)) (a := ⟨b, 0, none⟩) (x := 0) (hW1.cellAt rfl)
 have hnot : ∀ (x : Bool) (w : World), (Op.unary .not (.bool x)).run Tryz.prog w = .ok (.bool (!x)) w := fun _ _ => rfl
 have hc1 := hW.cellAt (i := 1) (v := .int .i32 0) rfl
 have hz1 := hW.thawed 1
 have hB := built hRo hW1.lend1
 go_enter_defers Tryz.func129, Tryz.ntmps129
 go_wp2_with (first | (go_at_call 139; refine (lock_free ⟨b, 1, none⟩ _ hc1 hz1).mono ?_; rintro e w' ⟨rfl, rfl⟩) | (go_at_call 106; refine hB.mono ?_; rintro e W2 ⟨rfl, g', b2, hx, hT, hS⟩) | (go_at_call 128; go_in))
 show Leaves _ _ _ _ _ .returning _
 refine leaves_cons (f := 141) (args := #[.pointer (some ⟨b, 0, none⟩), .bool true]) (by simp) (by simp [go_sem]) ?_
 refine (store_deferred ⟨b, 0, none⟩ (.int .u32 0) .returning _ (hS.cellAt rfl) (hS.thawed 0)).mono ?_
 rintro e u' w'' ⟨rfl, rfl, rfl⟩
 have hS2 : StW _ [.blk b (once 1 1 (tab b2) (.slice none 0 0))] g' _ := (hS.drew).setCell (i := 0) (.int .u32 1)
 refine leaves_cons (f := 140) (args := #[.pointer (some ⟨b, 1, none⟩)]) (by simp [settle]) (by simp [go_sem]) ?_
 refine (unlock_deferred ⟨b, 1, none⟩ _ _ (hS2.cellAt rfl) (hS2.thawed 1)).mono ?_
 rintro e u' w'' ⟨rfl, rfl, rfl⟩
 have hS3 : StW _ [.blk b (once 1 0 (tab b2) (.slice none 0 0))] g' _ := hS2.setCell (i := 1) (.int .i32 0)
 have fin : ∃ g' b2, Gext ⟨W, [b]⟩ g g' ∧ RplG g' b2 ∧ StW ⟨W, [b]⟩ [.blk b (once 1 0 (tab b2) (.slice none 0 0))] g' ((W2.drew.setCell ⟨b, 0, none⟩ (.int .u32 1)).setCell ⟨b, 1, none⟩ (.int .i32 0)) := ⟨g', b2, hx.rebase hW1.below, hT, hS3.rebase hW1.below⟩
 refine ⟨_, by simp [settle, results, Tryz.results129], rfl, fin⟩
set_option maxHeartbeats 1600000 in
theorem done {g : Ghost} {b co : Nat} {ao : Option Addr} (hRo : Rep g (.slice .str) [.slice ao 6 co] lits) {W : World} (hW : StW ⟨W, [b]⟩ [.blk b (once 0 0 .nilIface (.slice ao 6 co))] g W) :
  Calls Tryz.prog 105 #[.pointer (some ⟨b, 0, none⟩), .func (.func 106) #[.pointer (some ⟨b, 0, none⟩)] #[]] W fun e W' => e = .returned (.tuple #[]) ∧ ∃ g' b2, Gext ⟨W, [b]⟩ g g' ∧ RplG g' b2 ∧ StW ⟨W, [b]⟩ [.blk b (once 1 0 (tab b2) (.slice none 0 0))] g' W' := by
 have hl := run_call_load (P := Tryz.prog) Tryz.func138 kr kr kr .u32 kr (w := W) (a := ⟨b, 0, none⟩) (x := 0) (hW.cellAt rfl)
 have hnot : ∀ (x : Bool) (w : World), (Op.unary .not (.bool x)).run Tryz.prog w = .ok (.bool (!x)) w := fun _ _ => rfl
 have hsl := slow hRo hW
 go_enter Tryz.func105, Tryz.ntmps105
 go_wp2_with (first | (go_at_call 129; refine hsl.mono ?_; rintro e W2 ⟨rfl, hfin⟩) | (go_at_call 128; go_in))
 go_end0
 exact ⟨rfl, hfin⟩
set_option maxHeartbeats 1600000 in
theorem replaced {g : Ghost} {b co : Nat} {ao : Option Addr} (s : Bs) (hp : quoteP s) (hRo : Rep g (.slice .str) [.slice ao 6 co] lits) :
  CallsH Tryz.prog 85 #[.pointer (some ⟨b, 0, none⟩), .string ⟨⟨s⟩⟩] g [.blk b (once 0 0 .nilIface (.slice ao 6 co))] (fun g' H' v => v = .string ⟨⟨quoteS s⟩⟩ ∧ H' = []) := fun W hW => by
 have hdn := done hRo hW
 have hmf : ∀ (fn : Fn) (first cap : Array Value) (w : World), (Instr.makeFunc fn first cap).run Tryz.prog w = .ok (.func fn first cap) w := fun _ _ _ _ => rfl
 go_enter Tryz.func85, Tryz.ntmps85
 go_wp2_with (first | (go_at_call 105; refine hdn.mono ?_; rintro e W2 ⟨rfl, g', b2, hx, hT, hS⟩; have c3 := hS.cellAt (i := 3) (v := .iface 166 (.pointer (some ⟨b2, 0, none⟩))) rfl) | (go_at_call 226; refine (rpl_c s hT hp W2 hS.ghost).mono ?_; rintro e W3 ⟨rfl, hBel⟩))
 go_ret
 exact ⟨_, g', [], rfl, ⟨rfl, rfl⟩, hx, (hS.of_below hBel).sub (List.nil_sublist _)⟩
end Go.Proofs.YtcnhdkhkadiohaaGreatDoor.Qu
