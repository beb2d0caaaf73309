/- ValueSigns: what it computes is true. -/
import Derived.Test.YtabbinbmpeckkaaDoorTwo
namespace Go.Proofs.YtabbinbmpeckkaaDoor.Vl
open Go.Eng
set_option linter.unusedVariables false
def lawP (s : List UInt8) (a b : JV) : Prop := s.length ≤ reachBytes ∧ DomS (.pair (.int .i64) (.pair (.int .i64) .str)) a ∧ DomS (.pair (.int .i64) (.pair (.int .i64) .str)) b
theorem dom_text {a : JV} (h : DomS (.pair (.int .i64) (.pair (.int .i64) .str)) a) : textP a := by
  obtain ⟨⟨_, h1, _⟩, ⟨_, _, h2⟩⟩ := h
  exact ⟨Dom.i64 h1, h2⟩
theorem lawP_bin {s : List UInt8} {a b : JV} (h : lawP s a b) : binP s a b := ⟨dom_text h.2.1, dom_text h.2.2⟩
def lawj11 (xsign : List UInt8) (xa : Int × Int × List UInt8) (xb : Int × Int × List UInt8) (K : Bool → Prop) : Prop :=
  K (([((((unaM xsign xa).1).1) == (((oneM xsign xa).1).1)), (((((unaM xsign xa).1).2).1) == ((((oneM xsign xa).1).2).1)), (((((unaM xsign xa).1).2).2) == ((((oneM xsign xa).1).2).2))].all id) && ((((unaM xsign xa).2) == ((oneM xsign xa).2)) && (([((((binM xsign xa xb).1).1) == (((twoM xsign xa xb).1).1)), (((((binM xsign xa xb).1).2).1) == ((((twoM xsign xa xb).1).2).1)), (((((binM xsign xa xb).1).2).2) == ((((twoM xsign xa xb).1).2).2))].all id) && (((binM xsign xa xb).2) == ((twoM xsign xa xb).2)))))
def lawF (xsign : List UInt8) (xa : Int × Int × List UInt8) (xb : Int × Int × List UInt8) (K : Bool → Prop) : Prop :=
  binP xsign xa xb ∧ binP xsign xa xb ∧ ((([((((unaM xsign xa).1).1) == (((oneM xsign xa).1).1)), (((((unaM xsign xa).1).2).1) == ((((oneM xsign xa).1).2).1)), (((((unaM xsign xa).1).2).2) == ((((oneM xsign xa).1).2).2))].all id)) = true → (((((unaM xsign xa).2) == ((oneM xsign xa).2))) = true → ((([((((binM xsign xa xb).1).1) == (((twoM xsign xa xb).1).1)), (((((binM xsign xa xb).1).2).1) == ((((twoM xsign xa xb).1).2).1)), (((((binM xsign xa xb).1).2).2) == ((((twoM xsign xa xb).1).2).2))].all id)) = true → lawj11 xsign xa xb K) ∧ ((([((((binM xsign xa xb).1).1) == (((twoM xsign xa xb).1).1)), (((((binM xsign xa xb).1).2).1) == ((((twoM xsign xa xb).1).2).1)), (((((binM xsign xa xb).1).2).2) == ((((twoM xsign xa xb).1).2).2))].all id)) = false → lawj11 xsign xa xb K)) ∧ (((((unaM xsign xa).2) == ((oneM xsign xa).2))) = false → lawj11 xsign xa xb K)) ∧ ((([((((unaM xsign xa).1).1) == (((oneM xsign xa).1).1)), (((((unaM xsign xa).1).2).1) == ((((oneM xsign xa).1).2).1)), (((((unaM xsign xa).1).2).2) == ((((oneM xsign xa).1).2).2))].all id)) = false → lawj11 xsign xa xb K)
set_option maxHeartbeats 4000000 in
set_option maxRecDepth 100000 in
set_option linter.unusedVariables false in
theorem law_ok {g : Ghost} (xsign : List UInt8) (xa : Int × Int × List UInt8) (xb : Int × Int × List UInt8) (hG5 : GlobL g 5 (.int .u64) DPow) (K : Bool → Prop)
    (hF : lawF xsign xa xb K) : CallsH Tryd.prog 4 #[.string ⟨⟨xsign⟩⟩, .agg #[.int .i64 xa.1, .int .i64 xa.2.1, .string ⟨⟨xa.2.2⟩⟩], .agg #[.int .i64 xb.1, .int .i64 xb.2.1, .string ⟨⟨xb.2.2⟩⟩]] g [] (fun g' H' v => ∃ (r0 : Bool), v = .bool r0 ∧ H' = [] ∧ K r0) := by
  refine CallsH.enter 59 [(0, .string ⟨⟨xsign⟩⟩), (1, .agg #[.int .i64 xa.1, .int .i64 xa.2.1, .string ⟨⟨xa.2.2⟩⟩]), (2, .agg #[.int .i64 xb.1, .int .i64 xb.2.1, .string ⟨⟨xb.2.2⟩⟩])] Tryd.func4 rfl (by kernel_rfl) (by kernel_rfl) (by kernel_rfl) fun w0 => ?_
  refine Ok.seq ?_
  refine Ok.region ?_
  refine Ok.op rfl (OpOk.box (v := .agg #[.int .i64 xa.1, .int .i64 xa.2.1, .string ⟨⟨xa.2.2⟩⟩]) (cs := #[.int .i64 xa.1, .int .i64 xa.2.1, .string ⟨⟨xa.2.2⟩⟩]) rfl (by kernel_rfl) rfl fun b1 => ?_)
  refine Ok.op rfl (OpOk.box (v := .agg #[.int .i64 xb.1, .int .i64 xb.2.1, .string ⟨⟨xb.2.2⟩⟩]) (cs := #[.int .i64 xb.1, .int .i64 xb.2.1, .string ⟨⟨xb.2.2⟩⟩]) rfl (by kernel_rfl) rfl fun b2 => ?_)
  refine Ok.batch 1 [(0, .string ⟨⟨xsign⟩⟩), (4, .pointer (some ⟨b1, 0, none⟩)), (5, .pointer (some ⟨b2, 0, none⟩))] (by kernel_rfl) ?_
  refine Ok.nil ?_
  refine Ok.thenN ?_
  refine Ok.seq ?_
  refine Ok.region ?_
  refine Ok.batch 1 [(0, .string ⟨⟨xsign⟩⟩), (4, .pointer (some ⟨b1, 0, none⟩)), (5, .pointer (some ⟨b2, 0, none⟩)), (16, .string ⟨⟨xsign⟩⟩)] (by kernel_rfl) ?_
  refine Ok.op rfl (OpOk.step (v := .agg #[.int .i64 xa.1, .int .i64 xa.2.1, .string ⟨⟨xa.2.2⟩⟩]) (Yields.loadAgg 1 3 #[.int .i64 xa.1, .int .i64 xa.2.1, .string ⟨⟨xa.2.2⟩⟩] rfl rfl Tryd.underlying31 rfl (by kernel_rfl) (by kernel_rfl) (by kernel_rfl)) rfl rfl ?_)
  refine Ok.op rfl (OpOk.callG (v := .tuple #[.agg #[.int .i64 (((unaM xsign xa).1).1), .int .i64 ((((unaM xsign xa).1).2).1), .string ⟨⟨(((unaM xsign xa).1).2).2⟩⟩], .string ⟨⟨(unaM xsign xa).2⟩⟩]) (enters (by kernel_rfl) (fun _ => by kernel_rfl)) (fun W hW => una_c xsign xa) rfl ?_)
  refine Ok.batch 3 [(0, .string ⟨⟨xsign⟩⟩), (4, .pointer (some ⟨b1, 0, none⟩)), (5, .pointer (some ⟨b2, 0, none⟩)), (19, .agg #[.int .i64 (((unaM xsign xa).1).1), .int .i64 ((((unaM xsign xa).1).2).1), .string ⟨⟨(((unaM xsign xa).1).2).2⟩⟩]), (20, .string ⟨⟨(unaM xsign xa).2⟩⟩)] (by kernel_rfl) ?_
  refine Ok.op rfl (OpOk.alloc (z := .agg #[.int .i64 0, .int .i64 0, .string ⟨⟨([] : List UInt8)⟩⟩]) (cs := #[.int .i64 0, .int .i64 0, .string ⟨⟨([] : List UInt8)⟩⟩]) (by kernel_rfl) (by kernel_rfl) rfl fun b3 => ?_)
  refine Ok.op rfl (OpOk.store (k := 3) (v := .agg #[.int .i64 (((unaM xsign xa).1).1), .int .i64 ((((unaM xsign xa).1).2).1), .string ⟨⟨(((unaM xsign xa).1).2).2⟩⟩]) (H' := [.blk b3 (.cells #[.int .i64 (((unaM xsign xa).1).1), .int .i64 ((((unaM xsign xa).1).2).1), .string ⟨⟨(((unaM xsign xa).1).2).2⟩⟩] 31), .blk b2 (.cells #[.int .i64 xb.1, .int .i64 xb.2.1, .string ⟨⟨xb.2.2⟩⟩] 31), .blk b1 (.cells #[.int .i64 xa.1, .int .i64 xa.2.1, .string ⟨⟨xa.2.2⟩⟩] 31)]) 0 rfl rfl rfl (by kernel_rfl) (by kernel_rfl) (by kernel_rfl) (by kernel_rfl) (by kernel_rfl) ?_)
  refine Ok.batch 1 [(0, .string ⟨⟨xsign⟩⟩), (4, .pointer (some ⟨b1, 0, none⟩)), (5, .pointer (some ⟨b2, 0, none⟩)), (7, .pointer (some ⟨b3, 0, none⟩)), (8, .string ⟨⟨(unaM xsign xa).2⟩⟩)] (by kernel_rfl) ?_
  refine Ok.nil ?_
  refine Ok.thenN ?_
  refine Ok.seq ?_
  refine Ok.region ?_
  refine Ok.batch 1 [(0, .string ⟨⟨xsign⟩⟩), (4, .pointer (some ⟨b1, 0, none⟩)), (5, .pointer (some ⟨b2, 0, none⟩)), (7, .pointer (some ⟨b3, 0, none⟩)), (8, .string ⟨⟨(unaM xsign xa).2⟩⟩), (22, .string ⟨⟨xsign⟩⟩)] (by kernel_rfl) ?_
  refine Ok.op rfl (OpOk.step (v := .agg #[.int .i64 xa.1, .int .i64 xa.2.1, .string ⟨⟨xa.2.2⟩⟩]) (Yields.loadAgg 2 3 #[.int .i64 xa.1, .int .i64 xa.2.1, .string ⟨⟨xa.2.2⟩⟩] rfl rfl Tryd.underlying31 rfl (by kernel_rfl) (by kernel_rfl) (by kernel_rfl)) rfl rfl ?_)
  refine Ok.op rfl (OpOk.step (v := .agg #[.int .i64 xb.1, .int .i64 xb.2.1, .string ⟨⟨xb.2.2⟩⟩]) (Yields.loadAgg 1 3 #[.int .i64 xb.1, .int .i64 xb.2.1, .string ⟨⟨xb.2.2⟩⟩] rfl rfl Tryd.underlying31 rfl (by kernel_rfl) (by kernel_rfl) (by kernel_rfl)) rfl rfl ?_)
  obtain ⟨hp4, hF⟩ := hF
  refine Ok.op rfl (OpOk.callG (v := .tuple #[.agg #[.int .i64 (((binM xsign xa xb).1).1), .int .i64 ((((binM xsign xa xb).1).2).1), .string ⟨⟨(((binM xsign xa xb).1).2).2⟩⟩], .string ⟨⟨(binM xsign xa xb).2⟩⟩]) (enters (by kernel_rfl) (fun _ => by kernel_rfl)) (fun W hW => bin_c xsign xa xb (hG5.mono hW.sees) hp4) rfl ?_)
  refine Ok.batch 3 [(0, .string ⟨⟨xsign⟩⟩), (4, .pointer (some ⟨b1, 0, none⟩)), (5, .pointer (some ⟨b2, 0, none⟩)), (7, .pointer (some ⟨b3, 0, none⟩)), (8, .string ⟨⟨(unaM xsign xa).2⟩⟩), (26, .agg #[.int .i64 (((binM xsign xa xb).1).1), .int .i64 ((((binM xsign xa xb).1).2).1), .string ⟨⟨(((binM xsign xa xb).1).2).2⟩⟩]), (27, .string ⟨⟨(binM xsign xa xb).2⟩⟩)] (by kernel_rfl) ?_
  refine Ok.op rfl (OpOk.alloc (z := .agg #[.int .i64 0, .int .i64 0, .string ⟨⟨([] : List UInt8)⟩⟩]) (cs := #[.int .i64 0, .int .i64 0, .string ⟨⟨([] : List UInt8)⟩⟩]) (by kernel_rfl) (by kernel_rfl) rfl fun b5 => ?_)
  refine Ok.op rfl (OpOk.store (k := 3) (v := .agg #[.int .i64 (((binM xsign xa xb).1).1), .int .i64 ((((binM xsign xa xb).1).2).1), .string ⟨⟨(((binM xsign xa xb).1).2).2⟩⟩]) (H' := [.blk b5 (.cells #[.int .i64 (((binM xsign xa xb).1).1), .int .i64 ((((binM xsign xa xb).1).2).1), .string ⟨⟨(((binM xsign xa xb).1).2).2⟩⟩] 31), .blk b3 (.cells #[.int .i64 (((unaM xsign xa).1).1), .int .i64 ((((unaM xsign xa).1).2).1), .string ⟨⟨(((unaM xsign xa).1).2).2⟩⟩] 31), .blk b2 (.cells #[.int .i64 xb.1, .int .i64 xb.2.1, .string ⟨⟨xb.2.2⟩⟩] 31), .blk b1 (.cells #[.int .i64 xa.1, .int .i64 xa.2.1, .string ⟨⟨xa.2.2⟩⟩] 31)]) 0 rfl rfl rfl (by kernel_rfl) (by kernel_rfl) (by kernel_rfl) (by kernel_rfl) (by kernel_rfl) ?_)
  refine Ok.batch 1 [(0, .string ⟨⟨xsign⟩⟩), (4, .pointer (some ⟨b1, 0, none⟩)), (5, .pointer (some ⟨b2, 0, none⟩)), (7, .pointer (some ⟨b3, 0, none⟩)), (8, .string ⟨⟨(unaM xsign xa).2⟩⟩), (9, .pointer (some ⟨b5, 0, none⟩)), (10, .string ⟨⟨(binM xsign xa xb).2⟩⟩)] (by kernel_rfl) ?_
  refine Ok.nil ?_
  refine Ok.thenN ?_
  refine Ok.seq ?_
  refine Ok.region ?_
  refine Ok.batch 1 [(0, .string ⟨⟨xsign⟩⟩), (4, .pointer (some ⟨b1, 0, none⟩)), (5, .pointer (some ⟨b2, 0, none⟩)), (7, .pointer (some ⟨b3, 0, none⟩)), (8, .string ⟨⟨(unaM xsign xa).2⟩⟩), (9, .pointer (some ⟨b5, 0, none⟩)), (10, .string ⟨⟨(binM xsign xa xb).2⟩⟩), (29, .string ⟨⟨xsign⟩⟩)] (by kernel_rfl) ?_
  refine Ok.op rfl (OpOk.step (v := .agg #[.int .i64 xa.1, .int .i64 xa.2.1, .string ⟨⟨xa.2.2⟩⟩]) (Yields.loadAgg 3 3 #[.int .i64 xa.1, .int .i64 xa.2.1, .string ⟨⟨xa.2.2⟩⟩] rfl rfl Tryd.underlying31 rfl (by kernel_rfl) (by kernel_rfl) (by kernel_rfl)) rfl rfl ?_)
  refine Ok.op rfl (OpOk.callG (v := .tuple #[.agg #[.int .i64 (((oneM xsign xa).1).1), .int .i64 ((((oneM xsign xa).1).2).1), .string ⟨⟨(((oneM xsign xa).1).2).2⟩⟩], .string ⟨⟨(oneM xsign xa).2⟩⟩]) (enters (by kernel_rfl) (fun _ => by kernel_rfl)) (fun W hW => one_c xsign xa) rfl ?_)
  refine Ok.batch 3 [(0, .string ⟨⟨xsign⟩⟩), (4, .pointer (some ⟨b1, 0, none⟩)), (5, .pointer (some ⟨b2, 0, none⟩)), (7, .pointer (some ⟨b3, 0, none⟩)), (8, .string ⟨⟨(unaM xsign xa).2⟩⟩), (9, .pointer (some ⟨b5, 0, none⟩)), (10, .string ⟨⟨(binM xsign xa xb).2⟩⟩), (32, .agg #[.int .i64 (((oneM xsign xa).1).1), .int .i64 ((((oneM xsign xa).1).2).1), .string ⟨⟨(((oneM xsign xa).1).2).2⟩⟩]), (33, .string ⟨⟨(oneM xsign xa).2⟩⟩)] (by kernel_rfl) ?_
  refine Ok.op rfl (OpOk.alloc (z := .agg #[.int .i64 0, .int .i64 0, .string ⟨⟨([] : List UInt8)⟩⟩]) (cs := #[.int .i64 0, .int .i64 0, .string ⟨⟨([] : List UInt8)⟩⟩]) (by kernel_rfl) (by kernel_rfl) rfl fun b6 => ?_)
  refine Ok.op rfl (OpOk.store (k := 3) (v := .agg #[.int .i64 (((oneM xsign xa).1).1), .int .i64 ((((oneM xsign xa).1).2).1), .string ⟨⟨(((oneM xsign xa).1).2).2⟩⟩]) (H' := [.blk b6 (.cells #[.int .i64 (((oneM xsign xa).1).1), .int .i64 ((((oneM xsign xa).1).2).1), .string ⟨⟨(((oneM xsign xa).1).2).2⟩⟩] 31), .blk b5 (.cells #[.int .i64 (((binM xsign xa xb).1).1), .int .i64 ((((binM xsign xa xb).1).2).1), .string ⟨⟨(((binM xsign xa xb).1).2).2⟩⟩] 31), .blk b3 (.cells #[.int .i64 (((unaM xsign xa).1).1), .int .i64 ((((unaM xsign xa).1).2).1), .string ⟨⟨(((unaM xsign xa).1).2).2⟩⟩] 31), .blk b2 (.cells #[.int .i64 xb.1, .int .i64 xb.2.1, .string ⟨⟨xb.2.2⟩⟩] 31), .blk b1 (.cells #[.int .i64 xa.1, .int .i64 xa.2.1, .string ⟨⟨xa.2.2⟩⟩] 31)]) 0 rfl rfl rfl (by kernel_rfl) (by kernel_rfl) (by kernel_rfl) (by kernel_rfl) (by kernel_rfl) ?_)
  refine Ok.batch 1 [(0, .string ⟨⟨xsign⟩⟩), (4, .pointer (some ⟨b1, 0, none⟩)), (5, .pointer (some ⟨b2, 0, none⟩)), (7, .pointer (some ⟨b3, 0, none⟩)), (8, .string ⟨⟨(unaM xsign xa).2⟩⟩), (9, .pointer (some ⟨b5, 0, none⟩)), (10, .string ⟨⟨(binM xsign xa xb).2⟩⟩), (11, .pointer (some ⟨b6, 0, none⟩)), (12, .string ⟨⟨(oneM xsign xa).2⟩⟩)] (by kernel_rfl) ?_
  refine Ok.nil ?_
  refine Ok.thenN ?_
  refine Ok.seq ?_
  refine Ok.region ?_
  refine Ok.batch 1 [(4, .pointer (some ⟨b1, 0, none⟩)), (5, .pointer (some ⟨b2, 0, none⟩)), (7, .pointer (some ⟨b3, 0, none⟩)), (8, .string ⟨⟨(unaM xsign xa).2⟩⟩), (9, .pointer (some ⟨b5, 0, none⟩)), (10, .string ⟨⟨(binM xsign xa xb).2⟩⟩), (11, .pointer (some ⟨b6, 0, none⟩)), (12, .string ⟨⟨(oneM xsign xa).2⟩⟩), (35, .string ⟨⟨xsign⟩⟩)] (by kernel_rfl) ?_
  refine Ok.op rfl (OpOk.step (v := .agg #[.int .i64 xa.1, .int .i64 xa.2.1, .string ⟨⟨xa.2.2⟩⟩]) (Yields.loadAgg 4 3 #[.int .i64 xa.1, .int .i64 xa.2.1, .string ⟨⟨xa.2.2⟩⟩] rfl rfl Tryd.underlying31 rfl (by kernel_rfl) (by kernel_rfl) (by kernel_rfl)) rfl rfl ?_)
  refine Ok.op rfl (OpOk.step (v := .agg #[.int .i64 xb.1, .int .i64 xb.2.1, .string ⟨⟨xb.2.2⟩⟩]) (Yields.loadAgg 3 3 #[.int .i64 xb.1, .int .i64 xb.2.1, .string ⟨⟨xb.2.2⟩⟩] rfl rfl Tryd.underlying31 rfl (by kernel_rfl) (by kernel_rfl) (by kernel_rfl)) rfl rfl ?_)
  obtain ⟨hp7, hF⟩ := hF
  refine Ok.op rfl (OpOk.callG (v := .tuple #[.agg #[.int .i64 (((twoM xsign xa xb).1).1), .int .i64 ((((twoM xsign xa xb).1).2).1), .string ⟨⟨(((twoM xsign xa xb).1).2).2⟩⟩], .string ⟨⟨(twoM xsign xa xb).2⟩⟩]) (enters (by kernel_rfl) (fun _ => by kernel_rfl)) (fun W hW => two_c xsign xa xb hp7) rfl ?_)
  refine Ok.batch 3 [(7, .pointer (some ⟨b3, 0, none⟩)), (8, .string ⟨⟨(unaM xsign xa).2⟩⟩), (9, .pointer (some ⟨b5, 0, none⟩)), (10, .string ⟨⟨(binM xsign xa xb).2⟩⟩), (11, .pointer (some ⟨b6, 0, none⟩)), (12, .string ⟨⟨(oneM xsign xa).2⟩⟩), (39, .agg #[.int .i64 (((twoM xsign xa xb).1).1), .int .i64 ((((twoM xsign xa xb).1).2).1), .string ⟨⟨(((twoM xsign xa xb).1).2).2⟩⟩]), (40, .string ⟨⟨(twoM xsign xa xb).2⟩⟩)] (by kernel_rfl) ?_
  refine Ok.op rfl (OpOk.alloc (z := .agg #[.int .i64 0, .int .i64 0, .string ⟨⟨([] : List UInt8)⟩⟩]) (cs := #[.int .i64 0, .int .i64 0, .string ⟨⟨([] : List UInt8)⟩⟩]) (by kernel_rfl) (by kernel_rfl) rfl fun b8 => ?_)
  refine Ok.op rfl (OpOk.store (k := 3) (v := .agg #[.int .i64 (((twoM xsign xa xb).1).1), .int .i64 ((((twoM xsign xa xb).1).2).1), .string ⟨⟨(((twoM xsign xa xb).1).2).2⟩⟩]) (H' := [.blk b8 (.cells #[.int .i64 (((twoM xsign xa xb).1).1), .int .i64 ((((twoM xsign xa xb).1).2).1), .string ⟨⟨(((twoM xsign xa xb).1).2).2⟩⟩] 31), .blk b6 (.cells #[.int .i64 (((oneM xsign xa).1).1), .int .i64 ((((oneM xsign xa).1).2).1), .string ⟨⟨(((oneM xsign xa).1).2).2⟩⟩] 31), .blk b5 (.cells #[.int .i64 (((binM xsign xa xb).1).1), .int .i64 ((((binM xsign xa xb).1).2).1), .string ⟨⟨(((binM xsign xa xb).1).2).2⟩⟩] 31), .blk b3 (.cells #[.int .i64 (((unaM xsign xa).1).1), .int .i64 ((((unaM xsign xa).1).2).1), .string ⟨⟨(((unaM xsign xa).1).2).2⟩⟩] 31), .blk b2 (.cells #[.int .i64 xb.1, .int .i64 xb.2.1, .string ⟨⟨xb.2.2⟩⟩] 31), .blk b1 (.cells #[.int .i64 xa.1, .int .i64 xa.2.1, .string ⟨⟨xa.2.2⟩⟩] 31)]) 0 rfl rfl rfl (by kernel_rfl) (by kernel_rfl) (by kernel_rfl) (by kernel_rfl) (by kernel_rfl) ?_)
  refine Ok.batch 1 [(7, .pointer (some ⟨b3, 0, none⟩)), (8, .string ⟨⟨(unaM xsign xa).2⟩⟩), (9, .pointer (some ⟨b5, 0, none⟩)), (10, .string ⟨⟨(binM xsign xa xb).2⟩⟩), (11, .pointer (some ⟨b6, 0, none⟩)), (12, .string ⟨⟨(oneM xsign xa).2⟩⟩), (13, .pointer (some ⟨b8, 0, none⟩)), (14, .string ⟨⟨(twoM xsign xa xb).2⟩⟩)] (by kernel_rfl) ?_
  refine Ok.nil ?_
  refine Ok.thenN ?_
  refine Ok.cut (fun a W => StA 59 [(6, .bool (([((((unaM xsign xa).1).1) == (((oneM xsign xa).1).1)), (((((unaM xsign xa).1).2).1) == ((((oneM xsign xa).1).2).1)), (((((unaM xsign xa).1).2).2) == ((((oneM xsign xa).1).2).2))].all id) && ((((unaM xsign xa).2) == ((oneM xsign xa).2)) && (([((((binM xsign xa xb).1).1) == (((twoM xsign xa xb).1).1)), (((((binM xsign xa xb).1).2).1) == ((((twoM xsign xa xb).1).2).1)), (((((binM xsign xa xb).1).2).2) == ((((twoM xsign xa xb).1).2).2))].all id) && (((binM xsign xa xb).2) == ((twoM xsign xa xb).2))))))] a ∧ StW w0 [] g W ∧ lawj11 xsign xa xb K) ?_ ?_
  ·
    refine Ok.region ?_
    refine Ok.op rfl (OpOk.step (v := .agg #[.int .i64 (((unaM xsign xa).1).1), .int .i64 ((((unaM xsign xa).1).2).1), .string ⟨⟨(((unaM xsign xa).1).2).2⟩⟩]) (Yields.loadAgg 3 3 #[.int .i64 (((unaM xsign xa).1).1), .int .i64 ((((unaM xsign xa).1).2).1), .string ⟨⟨(((unaM xsign xa).1).2).2⟩⟩] rfl rfl Tryd.underlying31 rfl (by kernel_rfl) (by kernel_rfl) (by kernel_rfl)) rfl rfl ?_)
    refine Ok.op rfl (OpOk.step (v := .agg #[.int .i64 (((oneM xsign xa).1).1), .int .i64 ((((oneM xsign xa).1).2).1), .string ⟨⟨(((oneM xsign xa).1).2).2⟩⟩]) (Yields.loadAgg 1 3 #[.int .i64 (((oneM xsign xa).1).1), .int .i64 ((((oneM xsign xa).1).2).1), .string ⟨⟨(((oneM xsign xa).1).2).2⟩⟩] rfl rfl Tryd.underlying31 rfl (by kernel_rfl) (by kernel_rfl) (by kernel_rfl)) rfl rfl ?_)
    refine Ok.op rfl (OpOk.step (v := .bool ([((((unaM xsign xa).1).1) == (((oneM xsign xa).1).1)), (((((unaM xsign xa).1).2).1) == ((((oneM xsign xa).1).2).1)), (((((unaM xsign xa).1).2).2) == ((((oneM xsign xa).1).2).2))].all id)) (Yields.eqAgg (k := 2) rfl rfl (.struct (k := 1) Tryd.underlying31 (by kernel_rfl) ⟨by decide, ⟨.int .i64 (((unaM xsign xa).1).1), .int .i64 (((oneM xsign xa).1).1), fun _ => by kernel_rfl, fun _ => by kernel_rfl, EqR.mono (k := 1) (.int Tryd.underlying3) (by decide)⟩, ⟨by decide, ⟨.int .i64 ((((unaM xsign xa).1).2).1), .int .i64 ((((oneM xsign xa).1).2).1), fun _ => by kernel_rfl, fun _ => by kernel_rfl, EqR.mono (k := 1) (.int Tryd.underlying3) (by decide)⟩, ⟨by decide, ⟨.string ⟨⟨(((unaM xsign xa).1).2).2⟩⟩, .string ⟨⟨(((oneM xsign xa).1).2).2⟩⟩, fun _ => by kernel_rfl, fun _ => by kernel_rfl, EqR.mono (k := 1) (.str Tryd.underlying9) (by decide)⟩, trivial⟩⟩⟩) rfl (by kernel_rfl)) rfl rfl ?_)
    refine Ok.batch 1 [(8, .string ⟨⟨(unaM xsign xa).2⟩⟩), (9, .pointer (some ⟨b5, 0, none⟩)), (10, .string ⟨⟨(binM xsign xa xb).2⟩⟩), (12, .string ⟨⟨(oneM xsign xa).2⟩⟩), (13, .pointer (some ⟨b8, 0, none⟩)), (14, .string ⟨⟨(twoM xsign xa xb).2⟩⟩), (44, .bool ([((((unaM xsign xa).1).1) == (((oneM xsign xa).1).1)), (((((unaM xsign xa).1).2).1) == ((((oneM xsign xa).1).2).1)), (((((unaM xsign xa).1).2).2) == ((((oneM xsign xa).1).2).2))].all id))] (by kernel_rfl) ?_
    refine Ok.boolAt 44 (([((((unaM xsign xa).1).1) == (((oneM xsign xa).1).1)), (((((unaM xsign xa).1).2).1) == ((((oneM xsign xa).1).2).1)), (((((unaM xsign xa).1).2).2) == ((((oneM xsign xa).1).2).2))].all id)) rfl (fun hc9 => ?_) (fun hc9 => ?_)
    · replace hF := hF.1 hc9
      refine Ok.batch 2 [(9, .pointer (some ⟨b5, 0, none⟩)), (10, .string ⟨⟨(binM xsign xa xb).2⟩⟩), (13, .pointer (some ⟨b8, 0, none⟩)), (14, .string ⟨⟨(twoM xsign xa xb).2⟩⟩), (44, .bool true), (45, .string ⟨⟨(unaM xsign xa).2⟩⟩), (46, .string ⟨⟨(oneM xsign xa).2⟩⟩)] (by kernel_rfl) ?_
      refine Ok.opYes (j := 3) (d := 44) (want := true) (b := true) rfl (by kernel_rfl) (by kernel_rfl) rfl (OpOk.step (v := .bool (((unaM xsign xa).2) == ((oneM xsign xa).2))) (Yields.strCmp (f := .eql) (a := ((unaM xsign xa).2)) (b := ((oneM xsign xa).2)) (by kernel_rfl) (by kernel_rfl) rfl) rfl rfl ?_)
      refine Ok.batch 2 [(9, .pointer (some ⟨b5, 0, none⟩)), (10, .string ⟨⟨(binM xsign xa xb).2⟩⟩), (13, .pointer (some ⟨b8, 0, none⟩)), (14, .string ⟨⟨(twoM xsign xa xb).2⟩⟩), (49, .bool (((unaM xsign xa).2) == ((oneM xsign xa).2)))] (by kernel_rfl) ?_
      refine Ok.boolAt 49 ((((unaM xsign xa).2) == ((oneM xsign xa).2))) rfl (fun hc10 => ?_) (fun hc10 => ?_)
      · replace hF := hF.1 hc10
        refine Ok.opYes (j := 8) (d := 49) (want := true) (b := true) rfl (by kernel_rfl) (by kernel_rfl) rfl (OpOk.step (v := .agg #[.int .i64 (((binM xsign xa xb).1).1), .int .i64 ((((binM xsign xa xb).1).2).1), .string ⟨⟨(((binM xsign xa xb).1).2).2⟩⟩]) (Yields.loadAgg 2 3 #[.int .i64 (((binM xsign xa xb).1).1), .int .i64 ((((binM xsign xa xb).1).2).1), .string ⟨⟨(((binM xsign xa xb).1).2).2⟩⟩] rfl rfl Tryd.underlying31 rfl (by kernel_rfl) (by kernel_rfl) (by kernel_rfl)) rfl rfl ?_)
        refine Ok.opYes (j := 8) (d := 49) (want := true) (b := true) rfl (by kernel_rfl) (by kernel_rfl) rfl (OpOk.step (v := .agg #[.int .i64 (((twoM xsign xa xb).1).1), .int .i64 ((((twoM xsign xa xb).1).2).1), .string ⟨⟨(((twoM xsign xa xb).1).2).2⟩⟩]) (Yields.loadAgg 0 3 #[.int .i64 (((twoM xsign xa xb).1).1), .int .i64 ((((twoM xsign xa xb).1).2).1), .string ⟨⟨(((twoM xsign xa xb).1).2).2⟩⟩] rfl rfl Tryd.underlying31 rfl (by kernel_rfl) (by kernel_rfl) (by kernel_rfl)) rfl rfl ?_)
        refine Ok.opYes (j := 8) (d := 49) (want := true) (b := true) rfl (by kernel_rfl) (by kernel_rfl) rfl (OpOk.step (v := .bool ([((((binM xsign xa xb).1).1) == (((twoM xsign xa xb).1).1)), (((((binM xsign xa xb).1).2).1) == ((((twoM xsign xa xb).1).2).1)), (((((binM xsign xa xb).1).2).2) == ((((twoM xsign xa xb).1).2).2))].all id)) (Yields.eqAgg (k := 2) rfl rfl (.struct (k := 1) Tryd.underlying31 (by kernel_rfl) ⟨by decide, ⟨.int .i64 (((binM xsign xa xb).1).1), .int .i64 (((twoM xsign xa xb).1).1), fun _ => by kernel_rfl, fun _ => by kernel_rfl, EqR.mono (k := 1) (.int Tryd.underlying3) (by decide)⟩, ⟨by decide, ⟨.int .i64 ((((binM xsign xa xb).1).2).1), .int .i64 ((((twoM xsign xa xb).1).2).1), fun _ => by kernel_rfl, fun _ => by kernel_rfl, EqR.mono (k := 1) (.int Tryd.underlying3) (by decide)⟩, ⟨by decide, ⟨.string ⟨⟨(((binM xsign xa xb).1).2).2⟩⟩, .string ⟨⟨(((twoM xsign xa xb).1).2).2⟩⟩, fun _ => by kernel_rfl, fun _ => by kernel_rfl, EqR.mono (k := 1) (.str Tryd.underlying9) (by decide)⟩, trivial⟩⟩⟩) rfl (by kernel_rfl)) rfl rfl ?_)
        refine Ok.batch 2 [(10, .string ⟨⟨(binM xsign xa xb).2⟩⟩), (14, .string ⟨⟨(twoM xsign xa xb).2⟩⟩), (54, .bool ([((((binM xsign xa xb).1).1) == (((twoM xsign xa xb).1).1)), (((((binM xsign xa xb).1).2).1) == ((((twoM xsign xa xb).1).2).1)), (((((binM xsign xa xb).1).2).2) == ((((twoM xsign xa xb).1).2).2))].all id))] (by kernel_rfl) ?_
        refine Ok.boolAt 54 (([((((binM xsign xa xb).1).1) == (((twoM xsign xa xb).1).1)), (((((binM xsign xa xb).1).2).1) == ((((twoM xsign xa xb).1).2).1)), (((((binM xsign xa xb).1).2).2) == ((((twoM xsign xa xb).1).2).2))].all id)) rfl (fun hc11 => ?_) (fun hc11 => ?_)
        · replace hF := hF.1 hc11
          refine Ok.batch 2 [(54, .bool true), (55, .string ⟨⟨(binM xsign xa xb).2⟩⟩), (56, .string ⟨⟨(twoM xsign xa xb).2⟩⟩)] (by kernel_rfl) ?_
          refine Ok.opYes (j := 13) (d := 54) (want := true) (b := true) rfl (by kernel_rfl) (by kernel_rfl) rfl (OpOk.step (v := .bool (((binM xsign xa xb).2) == ((twoM xsign xa xb).2))) (Yields.strCmp (f := .eql) (a := ((binM xsign xa xb).2)) (b := ((twoM xsign xa xb).2)) (by kernel_rfl) (by kernel_rfl) rfl) rfl rfl ?_)
          refine Ok.batch 2 [(6, .bool (((binM xsign xa xb).2) == ((twoM xsign xa xb).2)))] (by kernel_rfl) ?_
          refine Ok.nil ?_
          refine Ok.thenN ?_
          refine Ok.reval 6 rfl (show (.bool (((binM xsign xa xb).2) == ((twoM xsign xa xb).2)) : Value) = .bool (([((((unaM xsign xa).1).1) == (((oneM xsign xa).1).1)), (((((unaM xsign xa).1).2).1) == ((((oneM xsign xa).1).2).1)), (((((unaM xsign xa).1).2).2) == ((((oneM xsign xa).1).2).2))].all id) && ((((unaM xsign xa).2) == ((oneM xsign xa).2)) && (([((((binM xsign xa xb).1).1) == (((twoM xsign xa xb).1).1)), (((((binM xsign xa xb).1).2).1) == ((((twoM xsign xa xb).1).2).1)), (((((binM xsign xa xb).1).2).2) == ((((twoM xsign xa xb).1).2).2))].all id) && (((binM xsign xa xb).2) == ((twoM xsign xa xb).2))))) from congrArg (Value.bool) ((Eq.trans ((Eq.trans (mand_t hc11) (mand_t hc10))) (mand_t hc9)))) ?_
          exact fun a W hA hW => ⟨hA.sub (by kernel_rfl), hW.sub (.cons _ (.cons _ (.cons _ (.cons _ (.cons _ (.cons _ .slnil)))))), hF⟩
        · replace hF := hF.2 hc11
          refine Ok.batch 5 [(6, .bool false)] (by kernel_rfl) ?_
          refine Ok.nil ?_
          refine Ok.thenN ?_
          refine Ok.reval 6 rfl (show (.bool false : Value) = .bool (([((((unaM xsign xa).1).1) == (((oneM xsign xa).1).1)), (((((unaM xsign xa).1).2).1) == ((((oneM xsign xa).1).2).1)), (((((unaM xsign xa).1).2).2) == ((((oneM xsign xa).1).2).2))].all id) && ((((unaM xsign xa).2) == ((oneM xsign xa).2)) && (([((((binM xsign xa xb).1).1) == (((twoM xsign xa xb).1).1)), (((((binM xsign xa xb).1).2).1) == ((((twoM xsign xa xb).1).2).1)), (((((binM xsign xa xb).1).2).2) == ((((twoM xsign xa xb).1).2).2))].all id) && (((binM xsign xa xb).2) == ((twoM xsign xa xb).2))))) from congrArg (Value.bool) ((Eq.trans ((Eq.trans (mand_f hc11) (mand_t hc10))) (mand_t hc9)))) ?_
          exact fun a W hA hW => ⟨hA.sub (by kernel_rfl), hW.sub (.cons _ (.cons _ (.cons _ (.cons _ (.cons _ (.cons _ .slnil)))))), hF⟩
      · replace hF := hF.2 hc10
        refine Ok.batch 10 [(6, .bool false)] (by kernel_rfl) ?_
        refine Ok.nil ?_
        refine Ok.thenN ?_
        refine Ok.reval 6 rfl (show (.bool false : Value) = .bool (([((((unaM xsign xa).1).1) == (((oneM xsign xa).1).1)), (((((unaM xsign xa).1).2).1) == ((((oneM xsign xa).1).2).1)), (((((unaM xsign xa).1).2).2) == ((((oneM xsign xa).1).2).2))].all id) && ((((unaM xsign xa).2) == ((oneM xsign xa).2)) && (([((((binM xsign xa xb).1).1) == (((twoM xsign xa xb).1).1)), (((((binM xsign xa xb).1).2).1) == ((((twoM xsign xa xb).1).2).1)), (((((binM xsign xa xb).1).2).2) == ((((twoM xsign xa xb).1).2).2))].all id) && (((binM xsign xa xb).2) == ((twoM xsign xa xb).2))))) from congrArg (Value.bool) ((Eq.trans (mand_f hc10) (mand_t hc9)))) ?_
        exact fun a W hA hW => ⟨hA.sub (by kernel_rfl), hW.sub (.cons _ (.cons _ (.cons _ (.cons _ (.cons _ (.cons _ .slnil)))))), hF⟩
    · replace hF := hF.2 hc9
      refine Ok.batch 15 [(6, .bool false)] (by kernel_rfl) ?_
      refine Ok.nil ?_
      refine Ok.thenN ?_
      refine Ok.reval 6 rfl (show (.bool false : Value) = .bool (([((((unaM xsign xa).1).1) == (((oneM xsign xa).1).1)), (((((unaM xsign xa).1).2).1) == ((((oneM xsign xa).1).2).1)), (((((unaM xsign xa).1).2).2) == ((((oneM xsign xa).1).2).2))].all id) && ((((unaM xsign xa).2) == ((oneM xsign xa).2)) && (([((((binM xsign xa xb).1).1) == (((twoM xsign xa xb).1).1)), (((((binM xsign xa xb).1).2).1) == ((((twoM xsign xa xb).1).2).1)), (((((binM xsign xa xb).1).2).2) == ((((twoM xsign xa xb).1).2).2))].all id) && (((binM xsign xa xb).2) == ((twoM xsign xa xb).2))))) from congrArg (Value.bool) (mand_f hc9)) ?_
      exact fun a W hA hW => ⟨hA.sub (by kernel_rfl), hW.sub (.cons _ (.cons _ (.cons _ (.cons _ (.cons _ (.cons _ .slnil)))))), hF⟩
  ·
    rintro a W ⟨hA, hW, hF⟩
    refine (?_ : Ok _ _ _ _ _ _) a W hA hW
    clear hA hW
    refine Ok.ret ?_
    exact Ok.resH (vs := [.bool (([((((unaM xsign xa).1).1) == (((oneM xsign xa).1).1)), (((((unaM xsign xa).1).2).1) == ((((oneM xsign xa).1).2).1)), (((((unaM xsign xa).1).2).2) == ((((oneM xsign xa).1).2).2))].all id) && ((((unaM xsign xa).2) == ((oneM xsign xa).2)) && (([((((binM xsign xa xb).1).1) == (((twoM xsign xa xb).1).1)), (((((binM xsign xa xb).1).2).1) == ((((twoM xsign xa xb).1).2).1)), (((((binM xsign xa xb).1).2).2) == ((((twoM xsign xa xb).1).2).2))].all id) && (((binM xsign xa xb).2) == ((twoM xsign xa xb).2)))))]) (.inl rfl) rfl (.cons (.tmp rfl) .nil) (Gext.refl w0 g) ⟨(([((((unaM xsign xa).1).1) == (((oneM xsign xa).1).1)), (((((unaM xsign xa).1).2).1) == ((((oneM xsign xa).1).2).1)), (((((unaM xsign xa).1).2).2) == ((((oneM xsign xa).1).2).2))].all id) && ((((unaM xsign xa).2) == ((oneM xsign xa).2)) && (([((((binM xsign xa xb).1).1) == (((twoM xsign xa xb).1).1)), (((((binM xsign xa xb).1).2).1) == ((((twoM xsign xa xb).1).2).1)), (((((binM xsign xa xb).1).2).2) == ((((twoM xsign xa xb).1).2).2))].all id) && (((binM xsign xa xb).2) == ((twoM xsign xa xb).2))))), rfl, rfl, hF⟩
def lawj11M (xsign : List UInt8) (xa : Int × Int × List UInt8) (xb : Int × Int × List UInt8) : Bool := (([((((unaM xsign xa).1).1) == (((oneM xsign xa).1).1)), (((((unaM xsign xa).1).2).1) == ((((oneM xsign xa).1).2).1)), (((((unaM xsign xa).1).2).2) == ((((oneM xsign xa).1).2).2))].all id) && ((((unaM xsign xa).2) == ((oneM xsign xa).2)) && (([((((binM xsign xa xb).1).1) == (((twoM xsign xa xb).1).1)), (((((binM xsign xa xb).1).2).1) == ((((twoM xsign xa xb).1).2).1)), (((((binM xsign xa xb).1).2).2) == ((((twoM xsign xa xb).1).2).2))].all id) && (((binM xsign xa xb).2) == ((twoM xsign xa xb).2)))))
set_option linter.unusedSimpArgs false in
set_option linter.unusedVariables false in
theorem lawj11_A (xsign : List UInt8) (xa : Int × Int × List UInt8) (xb : Int × Int × List UInt8) (P : Bool → Prop) (h : P (lawj11M xsign xa xb)) : lawj11 xsign xa xb (fun k0 => P k0) := by
  unfold lawj11M at h
  unfold lawj11
  exact h
def lawM (xsign : List UInt8) (xa : Int × Int × List UInt8) (xb : Int × Int × List UInt8) : Bool := (lawj11M xsign xa xb)
set_option linter.unusedSimpArgs false in
set_option linter.unusedVariables false in
theorem lawF_A (xsign : List UInt8) (xa : Int × Int × List UInt8) (xb : Int × Int × List UInt8) (hp : lawP xsign xa xb) (P : Bool → Prop) (h : P (lawM xsign xa xb)) : lawF xsign xa xb (fun k0 => P k0) := by
  unfold lawM at h
  unfold lawF
  refine ⟨?_, ?_⟩
  · first | exact lawP_bin hp | omega | assumption | exact trivial | (simp; omega) | (simp at *; omega)
  refine ⟨?_, ?_⟩
  · first | exact lawP_bin hp | omega | assumption | exact trivial | (simp; omega) | (simp at *; omega)
  refine ⟨fun hc0 => ?_, fun hc0 => ?_⟩
  · skip
    have hd0 := hc0; try simp only [Bool.and_eq_true, Bool.or_eq_true, Bool.and_eq_false_iff, Bool.or_eq_false_iff, Bool.not_eq_true', Bool.not_eq_false', decide_eq_true_eq, decide_eq_false_iff_not, beq_iff_eq, beq_eq_false_iff_ne, ne_eq] at hd0
    refine ⟨fun hc1 => ?_, fun hc1 => ?_⟩
    · skip
      have hd1 := hc1; try simp only [Bool.and_eq_true, Bool.or_eq_true, Bool.and_eq_false_iff, Bool.or_eq_false_iff, Bool.not_eq_true', Bool.not_eq_false', decide_eq_true_eq, decide_eq_false_iff_not, beq_iff_eq, beq_eq_false_iff_ne, ne_eq] at hd1
      refine ⟨fun hc2 => ?_, fun hc2 => ?_⟩
      · skip
        have hd2 := hc2; try simp only [Bool.and_eq_true, Bool.or_eq_true, Bool.and_eq_false_iff, Bool.or_eq_false_iff, Bool.not_eq_true', Bool.not_eq_false', decide_eq_true_eq, decide_eq_false_iff_not, beq_iff_eq, beq_eq_false_iff_ne, ne_eq] at hd2
        exact lawj11_A xsign xa xb _ h
      · skip
        have hd2 := hc2; try simp only [Bool.and_eq_true, Bool.or_eq_true, Bool.and_eq_false_iff, Bool.or_eq_false_iff, Bool.not_eq_true', Bool.not_eq_false', decide_eq_true_eq, decide_eq_false_iff_not, beq_iff_eq, beq_eq_false_iff_ne, ne_eq] at hd2
        exact lawj11_A xsign xa xb _ h
    · skip
      have hd1 := hc1; try simp only [Bool.and_eq_true, Bool.or_eq_true, Bool.and_eq_false_iff, Bool.or_eq_false_iff, Bool.not_eq_true', Bool.not_eq_false', decide_eq_true_eq, decide_eq_false_iff_not, beq_iff_eq, beq_eq_false_iff_ne, ne_eq] at hd1
      exact lawj11_A xsign xa xb _ h
  · skip
    have hd0 := hc0; try simp only [Bool.and_eq_true, Bool.or_eq_true, Bool.and_eq_false_iff, Bool.or_eq_false_iff, Bool.not_eq_true', Bool.not_eq_false', decide_eq_true_eq, decide_eq_false_iff_not, beq_iff_eq, beq_eq_false_iff_ne, ne_eq] at hd0
    exact lawj11_A xsign xa xb _ h
theorem law_F (xsign : List UInt8) (xa : Int × Int × List UInt8) (xb : Int × Int × List UInt8) (hp : lawP xsign xa xb) : lawF xsign xa xb (fun k0 => k0 = lawM xsign xa xb) :=
  lawF_A xsign xa xb hp (fun z => z = lawM xsign xa xb) rfl
theorem boolOf_tru (b : Bool) : boolOfM b = (truM b, []) := by cases b <;> rfl
theorem num_of (n : Int) : numM n true = numOfM n := by
  unfold numM numj4M numOfM btwM witM
  by_cases h : -9007199254740992 ≤ n ∧ n ≤ 9007199254740992
  · rw [if_f (by simp; omega), if_t (by simp; omega)]
  · rw [if_t (by simp; omega), if_f (by simp; omega)]
theorem num_false (n : Int) : numM n false = ((0, 0, []), [114, 97, 110, 103, 101]) := by
  unfold numM numj4M
  simp
theorem num_times {a b : Int} (h : prodP a b) : numM (prodM a b).1 (prodM a b).2 = numOfM (timesS a b) := by
  rw [prod_eq h]
  unfold prodS timesS
  by_cases h1 : -9007199254740992 ≤ a * b ∧ a * b ≤ 9007199254740992
  · rw [if_pos h1, if_pos (by omega), num_of]
  · rw [if_neg h1]
    simp only [num_false]
    split
    · unfold numOfM btwM
      rw [if_f (by simp; omega)]
    · rfl
theorem cmp_cases (a b : List UInt8) : (Lib.compareBytes a b = -1 ∧ Op.bytesLess a b = true ∧ (a == b) = false) ∨ (Lib.compareBytes a b = 0 ∧ Op.bytesLess a b = false ∧ (a == b) = true) ∨ (Lib.compareBytes a b = 1 ∧ Op.bytesLess a b = false ∧ (a == b) = false) := by
  induction a generalizing b with
  | nil => cases b <;> simp [Lib.compareBytes, Op.bytesLess]
  | cons x a ih =>
    cases b with
    | nil => simp [Lib.compareBytes, Op.bytesLess]
    | cons y b =>
      have := ih b
      rw [Lib.compareBytes, Op.bytesLess, List.cons_beq_cons]
      by_cases h1 : x < y
      · have h2 : x ≠ y := fun e => by subst e; exact absurd h1 (by simp)
        simp [h1, h2]
      · by_cases h2 : y < x
        · have h3 : x ≠ y := fun e => by subst e; exact absurd h2 (by simp)
          simp [h1, h2, h3]
        · have h3 : x = y := by
            have h1 : ¬ x.toNat < y.toNat := h1
            have h2 : ¬ y.toNat < x.toNat := h2
            exact UInt8.toNat_inj.1 (by omega)
          subst h3
          simpa using this
theorem cmpi_cases (a b : Int) : (cmpiM a b = -1 ∧ a < b) ∨ (cmpiM a b = 0 ∧ a = b) ∨ (cmpiM a b = 1 ∧ b < a) := by
  have e : ∀ x, isnanM x = false := fun x => by simp [isnanM]
  unfold cmpiM
  rw [if_f (e a), if_f (e b)]
  by_cases h1 : a < b
  · simp [h1]
  · by_cases h2 : b < a
    · simp [h1, h2]
    · simp [h1, h2]; omega
def ordK (k : Int) (n1 n2 : Int) (s1 s2 : List UInt8) : Bool := if (k == 3) = true then Op.bytesLess s1 s2 else decide (n1 < n2)
def ordG (k : Int) (n1 n2 : Int) (s1 s2 : List UInt8) : Bool := if (k == 3) = true then !(Op.bytesLess s1 s2 || s1 == s2) else decide (n1 > n2)
theorem ord_num {s : List UInt8} {n1 n2 : Int} (h : s = [60] ∨ s = [60, 61] ∨ s = [62] ∨ s = [62, 61]) : orddM s (cmpiM n1 n2) = (boolOfM ((s == [60] && decide (n1 < n2)) || (s == [62] && decide (n1 > n2)) || (s == [60, 61] && !decide (n1 > n2)) || (s == [62, 61] && !decide (n1 < n2)))).1 := by
  rw [boolOf_tru]
  unfold orddM
  have key : (cmpiM n1 n2 = -1 ∧ decide (n1 < n2) = true ∧ decide (n1 > n2) = false) ∨ (cmpiM n1 n2 = 0 ∧ decide (n1 < n2) = false ∧ decide (n1 > n2) = false) ∨ (cmpiM n1 n2 = 1 ∧ decide (n1 < n2) = false ∧ decide (n1 > n2) = true) := by
    rcases cmpi_cases n1 n2 with ⟨e, h1⟩ | ⟨e, h1⟩ | ⟨e, h1⟩
    · exact .inl ⟨e, by simp; omega, by simp; omega⟩
    · exact .inr (.inl ⟨e, by simp; omega, by simp; omega⟩)
    · exact .inr (.inr ⟨e, by simp; omega, by simp; omega⟩)
  rcases key with ⟨e, h1, h2⟩ | ⟨e, h1, h2⟩ | ⟨e, h1, h2⟩ <;> rw [e, h1, h2] <;> rcases h with rfl | rfl | rfl | rfl <;> simp
theorem ord_txt {s : List UInt8} {s1 s2 : List UInt8} (h : s = [60] ∨ s = [60, 61] ∨ s = [62] ∨ s = [62, 61]) : orddM s (Lib.compareBytes s1 s2) = (boolOfM ((s == [60] && Op.bytesLess s1 s2) || (s == [62] && !(Op.bytesLess s1 s2 || s1 == s2)) || (s == [60, 61] && !!(Op.bytesLess s1 s2 || s1 == s2)) || (s == [62, 61] && !Op.bytesLess s1 s2))).1 := by
  rw [boolOf_tru]
  unfold orddM
  rcases cmp_cases s1 s2 with ⟨e, h1, h2⟩ | ⟨e, h1, h2⟩ | ⟨e, h1, h2⟩ <;> rw [e, h1, h2] <;> rcases h with rfl | rfl | rfl | rfl <;> simp
theorem two58 {s : List UInt8} {a b : JV} (h : s = [60] ∨ s = [60, 61] ∨ s = [62] ∨ s = [62, 61]) : twoj58M s a b =
    boolOfM ((s == [60] && ordK (takenM a).1 (takenM a).2.1 (takenM b).2.1 (takenM a).2.2 (takenM b).2.2) || (s == [62] && ordG (takenM a).1 (takenM a).2.1 (takenM b).2.1 (takenM a).2.2 (takenM b).2.2)
      || (s == [60, 61] && !ordG (takenM a).1 (takenM a).2.1 (takenM b).2.1 (takenM a).2.2 (takenM b).2.2) || (s == [62, 61] && !ordK (takenM a).1 (takenM a).2.1 (takenM b).2.1 (takenM a).2.2 (takenM b).2.2)) := by
  unfold twoj58M
  have e1 : (if ((takenM a).1 == 3) = true then Op.bytesLess (takenM a).2.2 (takenM b).2.2 else decide ((takenM a).2.1 < (takenM b).2.1)) = ordK (takenM a).1 (takenM a).2.1 (takenM b).2.1 (takenM a).2.2 (takenM b).2.2 := rfl
  have e2 : (if ((takenM a).1 == 3) = true then !(Op.bytesLess (takenM a).2.2 (takenM b).2.2 || (takenM a).2.2 == (takenM b).2.2) else decide ((takenM a).2.1 > (takenM b).2.1)) = ordG (takenM a).1 (takenM a).2.1 (takenM b).2.1 (takenM a).2.2 (takenM b).2.2 := rfl
  simp only [e1, e2]
  generalize ordK _ _ _ _ _ = x
  generalize ordG _ _ _ _ _ = y
  rcases h with rfl | rfl | rfl | rfl <;> cases x <;> cases y <;> simp
theorem one_una {s : List UInt8} {a : JV} : unaM s a = oneM s a := by
  unfold unaM oneM
  simp only [boolOf_tru, right_taken, truth_ist, num_of]
theorem tmod_eq {a b : Int} (ha : numB a) (hb : numB b) (h0 : b ≠ 0) : IntKind.wrap .i64 (a - IntKind.wrap .i64 (IntKind.wrap .i64 (a.tdiv b) * b)) = a.tmod b := by
  unfold numB at ha hb
  have h1 := Int.tdiv_mul_add_tmod a b
  have h2 : (a.tdiv b).natAbs ≤ a.natAbs := by rw [Int.natAbs_tdiv]; exact Nat.div_le_self _ _
  have h3 : (a.tmod b).natAbs ≤ a.natAbs := by rw [Int.natAbs_tmod]; exact Nat.mod_le _ _
  rw [w64 (x := a.tdiv b) (by omega), w64 (x := a.tdiv b * b) (by omega), w64 (by omega)]
  omega
theorem bin_two {s : List UInt8} {a b : JV} : binM s a b = twoM s a b := by
  show binj11M s a b = twoj17M s a b
  unfold binj11M twoj17M
  by_cases h1 : s = [61, 61]
  · subst h1; simp [boolOf_tru, right_taken]
  by_cases h2 : s = [33, 61]
  · subst h2; simp [boolOf_tru, right_taken]
  rw [if_f (by simp [h1, h2]), if_f (by simp [h1]), if_f (by simp [h2])]
  unfold binj21M binj68M twoj35M twoj61M
  by_cases h3 : s = [60] ∨ s = [60, 61] ∨ s = [62] ∨ s = [62, 61]
  · have e3 : (s == [60] || (s == [60, 61] || (s == [62] || s == [62, 61]))) = true := by rcases h3 with rfl | rfl | rfl | rfl <;> rfl
    have e4 : (s == [43] || (s == [45] || (s == [42] || (s == [47] || s == [37])))) = false := by rcases h3 with rfl | rfl | rfl | rfl <;> rfl
    rw [if_f e4, if_t e3, if_t e3]
    rw [ord_num h3, ord_txt h3, two58 h3]
    simp only [boolOf_tru, right_taken]
    generalize rightM a = x
    generalize rightM b = y
    obtain ⟨k1, n1, s1⟩ := x
    obtain ⟨k2, n2, s2⟩ := y
    simp only
    by_cases c2 : k1 = 2 ∧ k2 = 2
    · obtain ⟨rfl, rfl⟩ := c2
      simp [ordK, ordG]
    by_cases c3 : k1 = 3 ∧ k2 = 3
    · obtain ⟨rfl, rfl⟩ := c3
      simp [ordK, ordG]
    rw [if_f (by simp; omega), if_f (by simp; omega), if_t (by simp; omega)]
  have hn3 : (s == [60] || (s == [60, 61] || (s == [62] || s == [62, 61]))) = false := by simpa using h3
  rw [hn3]
  simp only [Bool.false_eq_true, if_false]
  by_cases h4 : (s == [43] || (s == [45] || (s == [42] || (s == [47] || s == [37])))) = true
  · rw [if_t h4, if_t h4]
    unfold twoj85M binj48M
    rw [right_taken, right_taken]
    have ha := @right_num a
    have hb := @right_num b
    simp only [shown_text]
    generalize rightM a = x at ha ⊢
    generalize rightM b = y at hb ⊢
    obtain ⟨k1, n1, s1⟩ := x
    obtain ⟨k2, n2, s2⟩ := y
    simp only at ha hb ⊢
    by_cases c2 : k1 = 2 ∧ k2 = 2
    · obtain ⟨rfl, rfl⟩ := c2
      have hp : prodP n1 n2 := ⟨ha rfl, hb rfl⟩
      unfold reckM
      simp only [num_times hp, num_of]
      simp only [show ((2 : Int) == 2 && (2 : Int) == 2) = true from rfl, show ((2 : Int) == 3 || (2 : Int) == 3) = false from rfl, Bool.and_false, Bool.not_true, Bool.false_eq_true, if_false, if_true]
      by_cases h5 : n2 = 0
      · subst h5; simp
      · rw [tmod_eq hp.1 hp.2 h5]
    · rw [if_f (by simp; omega)]
      rw [if_t (c := (!_)) (by simp; omega)]
  · rw [if_f (by simpa using h4), if_f (by simpa using h4)]
theorem law_true (s : List UInt8) (a b : JV) : lawM s a b = true := by
  show lawj11M s a b = true
  unfold lawj11M
  rw [one_una, bin_two]
  simp
theorem law_all (s : List UInt8) (a b : JV) (h : lawP s a b) : lawF s a b (fun r => r = true) := by
  have := law_F s a b h
  rw [law_true s a b] at this
  exact this
set_option linter.unusedVariables false in
theorem law_c {g : Ghost} (xsign : List UInt8) (xa : Int × Int × List UInt8) (xb : Int × Int × List UInt8) (hG5 : GlobL g 5 (.int .u64) DPow)  (hp : lawP xsign xa xb) : CallsG Tryd.prog 4 #[.string ⟨⟨xsign⟩⟩, .agg #[.int .i64 xa.1, .int .i64 xa.2.1, .string ⟨⟨xa.2.2⟩⟩], .agg #[.int .i64 xb.1, .int .i64 xb.2.1, .string ⟨⟨xb.2.2⟩⟩]] g (.bool ((fun _ _ _=> true) xsign xa xb)) :=
  (law_ok xsign xa xb hG5 _ (law_all xsign xa xb hp)).gives (by rintro g' H' v _ ⟨r0, rfl, rfl, hK⟩; subst hK; rfl)
end Go.Proofs.YtabbinbmpeckkaaDoor.Vl
