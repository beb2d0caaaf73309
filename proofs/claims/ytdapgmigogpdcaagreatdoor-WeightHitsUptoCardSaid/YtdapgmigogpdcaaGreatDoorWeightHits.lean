/-
 WeightHits: of any node of any document and any selector,weight.Hit tells what the document says; of arguments of bulk at most 1048576.
-/
import Derived.Test.YtdapgmigogpdcaaGreatDoorMal
import Derived.Test.YtdapgmigogpdcaaGreatDoorTsu
import Derived.Test.YtdapgmigogpdcaaGreatDoorCards
import Derived.Test.YtdapgmigogpdcaaGreatDoorTie
import Derived.ProofKit
import Derived.Deep.DeepWitnessRowRef
import Derived.Great.CaseRows
import Derived.Lib.LaidIn
namespace Go.Proofs.YtdapgmigogpdcaaGreatDoor.weightHits
open Go Go.iT Go.Lib Go.Proofs Go.RowKit Go.ChangeShapes Go.WideShapes Go.ChangeAt tO Tk Se Do Me
abbrev iXs (k:IntKind) (l:List Int):Array Value:=(l.map (Value.int k)).toArray
theorem own:ownKnob Tryz.prog.godebug=none:=by kernel_rfl
set_option maxRecDepth 100000 in
noncomputable def zt (os:Os):World :=
 let N:=(World.settled Tryz.prog os).heap.size
 let w0:=World.holding Tryz.prog os ⟨#[.cells #[.string ⟨⟨[118,97,108,117,101,32,111,117,116,32,111,102,32,114,97,110,103,101]⟩⟩] 297,.cells #[.string ⟨⟨[105,110,118,97,108,105,100,32,115,121,110,116,97,120]⟩⟩] 297],#[],[]⟩
 { w0 with heap:=(((((((w0.heap.modify 4 (lay (iXs .u8 ([0,1,28,2,29,14,24,3,30,22,20,15,25,17,4,8,31,27,13,23,21,19,16,7,26,12,18,6,11,5,10,9])))).modify 5 (lay (iXs .u8 ([0,1,56,2,57,49,28,3,61,58,42,50,38,29,17,4,62,47,59,36,45,43,51,22,53,39,33,30,24,18,12,5,63,55,48,27,60,41,37,16,46,35,44,21,52,32,23,11,54,26,40,15,34,20,31,10,25,14,19,9,13,8,7,6])))).modify 3 (lay (iXs .u64 ([1,10,100,1000,10000,100000,1000000,10000000,100000000,1000000000,10000000000,100000000000,1000000000000,10000000000000,100000000000000,1000000000000000,10000000000000000,100000000000000000,1000000000000000000,10000000000000000000])))).modify 2 (lay (iXs .u8 ([128,191,160,191,128,159,144,191,128,143]++List.replicate 22 0)))).modify 7 (lay #[.iface 295 (.pointer (some ⟨N+0,0,none⟩))])).modify 6 (lay #[.iface 295 (.pointer (some ⟨N+1,0,none⟩))])).modify 1 (lay (iXs .u8 (List.replicate 128 240++List.replicate 66 241++List.replicate 30 2++[19]++List.replicate 12 3++[35,3,3,52,4,4,4,68]++List.replicate 11 241)))) }
set_option maxRecDepth 100000 in
theorem TL (os:Os) (args:Array Value):laidMet Tryz.prog Rows.weightHitsUptoRow.laid ((zt os).forCall (fun _ _=>0) ⟨#[],args,[]⟩).memory :=
 laidMet_of_run' 12 (by kernel_rfl) (by kernel_rfl)
theorem reads (os:Os) {H:Type} (enc:TypeId×Value→H):DataW.whole enc Tryz.prog ((zt os).forCall (fun _ _=>0) ⟨#[],#[.agg #[.slice none 0 0,.bool false],.int .i64 0,.slice none 0 0],[]⟩).memory Tryz.f5.params.toList Rows.weightHitsSpec.vars false #[.agg #[.slice none 0 0,.bool false],.int .i64 0,.slice none 0 0].toList 40=some ([.agg [.nil,.lit (.bool false)],.lit (.int .i64 0),.nil],[],[]):=by kernel_rfl
set_option maxRecDepth 100000 in
set_option linter.unusedVariables false in
theorem lifted (os:Os) (started:os.Started) (H:Type) (enc:TypeId×Value→H) (F:Stop.Interp) :
  ReturnsInHanded {} Tryz.checked os 5 .any ((Rows.OpenSpec.upto Rows.weightHitsSpec).preRow enc Tryz.prog Tryz.f5 Rows.weightHitsUptoRow.domain false Rows.weightHitsUptoRow.laid) (((Rows.OpenSpec.upto Rows.weightHitsSpec).at F).post enc Tryz.prog Tryz.f5 false true false false):=by
 refine H6 (C:=Tryz.checked) (s:=Rows.OpenSpec.upto Rows.weightHitsSpec) (sp:=Rows.weightHitsSpec) (tb:=4) own started (by kernel_rfl) Tryz.func5 (witness_row_atRef (enc:=enc) (C:=Tryz.checked) false (zt os) #[.agg #[.slice none 0 0,.bool false],.int .i64 0,.slice none 0 0] rfl (by kernel_rfl) (by kernel_rfl) (by kernel_rfl) (OpenSpec.preRow_of_cond 40 (reads os enc) (by kernel_rfl) (fun k hk=>by cases hk; kernel_rfl) (by kernel_rfl) (TL os _))) rfl rfl rfl rfl (fun ds hd=>?_) rfl Tryz.underlying4 (by kernel_rfl) (by kernel_rfl) (by kernel_rfl) ?_
 ·have hd:ds.length=3:=hd
  match ds,hd with
  | [_,_,_],_=>rfl
 intro W base args ds p hsh hL hval hA hsz hk
 have hu:Rows.uptoSmall H ds=true:=hk _ rfl
 rw [Tryz.params5] at hA hval hsz
 obtain ⟨v0,vs0,d0,ds0,p0,q0,hargs,rfl,rfl,h0,r0⟩:=trodAll_cons hA
 obtain ⟨v1,vs1,d1,ds1,p1,q1,rfl,rfl,rfl,h1,r1⟩:=trodAll_cons r0
 obtain ⟨v2,vs2,d2,ds2,p2,q2,rfl,rfl,rfl,h2,r2⟩:=trodAll_cons r1
 obtain ⟨rfl,rfl,rfl⟩:=trodAll_nil r2
 obtain rfl:args=#[v0,v1,v2]:=by cases args; simp_all
 obtain ⟨x0,hx0,arE⟩:=GD 40 (.pair (.slice (.pair (.int .i64) (.pair (.str) (.pair (.slice (.pair (.str) (.str))) (.pair (.str) (.pair (.int .i64) (.slice (.int .i64)))))))) (.bool)) (by kernel_rfl) (by kernel_rfl) h0 (EN hsz 0 rfl rfl) hu (by simp)
 obtain ⟨cs0,rfl,-⟩:=okWide_struct Tryz.underlying24 (hval 0 24 v0 rfl rfl)
 obtain ⟨l0,rfl⟩:∃ l:List Value,cs0=l.toArray:=⟨cs0.toList,by simp⟩
 have hx0:bE (eG W) (.pair (.slice (.pair (.int .i64) (.pair (.str) (.pair (.slice (.pair (.str) (.str))) (.pair (.str) (.pair (.int .i64) (.slice (.int .i64)))))))) (.bool)) l0 x0:=hx0
 obtain ⟨_,_,rfl,⟨a0,c0,rfl,hm0,hr0⟩,rfl⟩:=hx0
 have hR0:bE (eG W) (.slice (.pair (.int .i64) (.pair (.str) (.pair (.slice (.pair (.str) (.str))) (.pair (.str) (.pair (.int .i64) (.slice (.int .i64)))))))) [.slice a0 (x0.1).length c0] (x0.1):=⟨a0,c0,rfl,hm0,hr0⟩
 obtain ⟨x1,rfl,rfl,rfl,w1⟩:=open_int Tryz.underlying3 (hval 1 3 v1 rfl rfl) h1
 obtain ⟨x2,hx2,arD⟩:=Ev 60 (.pair (.int .i64) (.pair (.str) (.pair (.int .u8) (.pair (.str) (.pair (.int .i64) (.int .i64)))))) 40 (.slice (.pair (.slice (.slice (.tst (.pair (.int .i64) (.pair (.str) (.pair (.int .u8) (.pair (.str) (.pair (.int .i64) (.int .i64))))))))) (.slice (.int .u8)))) (by kernel_rfl) (by kernel_rfl) (by kernel_rfl) (by kernel_rfl) h2 (EN hsz 2 rfl rfl) hu (by simp)
 obtain ⟨a1,l1,c1,rfl⟩:=okWide_slice Tryz.underlying33 (hval 2 33 v2 rfl rfl)
 obtain ⟨_,_,hcs,hr1⟩:=hx2
 simp only [Value.cells,uW,Value.slice.injEq,nA] at hcs
 obtain ⟨rfl,rfl,rfl⟩:=hcs
 have AL:bE (eG W) (.slice (.pair (.slice (.slice (.tst (.pair (.int .i64) (.pair (.str) (.pair (.int .u8) (.pair (.str) (.pair (.int .i64) (.int .i64))))))))) (.slice (.int .u8)))) [.slice a1 x2.length c1] x2:=⟨_,_,rfl,hr1⟩
 have hG0:bR (eG W) 0:=xU (zero:=#[.int .i64 0]) (t:=3) hsh (by kernel_rfl) (by kernel_rfl) (by kernel_rfl) (by kernel_rfl) (by kernel_rfl) (by kernel_rfl)
 have hG3:mg (eG W) 3 (.int .u64) yZ:=QQ 40 hL (List.Mem.tail _ (List.Mem.tail _ (List.Mem.head _))) (by kernel_rfl) (by kernel_rfl) Tryz.underlying263 (by kernel_rfl) (by kernel_rfl) (by kernel_rfl) (by kernel_rfl)
 exact Ma.aiW x0 x1 x2 hR0 AL hG0 hG3 ⟨arE,w1,arD⟩ W (pq W)
theorem named:Tryz.prog.funcNamed Rows.weightHitsUptoRow.func=some 5:=by kernel_rfl
set_option maxHeartbeats 4000000 in
set_option maxRecDepth 100000 in
theorem closed:joinedFacts Tryz.prog 5 Tryz.f5 (Rows.OpenSpec.upto Rows.weightHitsSpec).bare Rows.weightHitsUptoRow=true:=by
 unfold joinedFacts
 repeat' (with_reducible refine (aH _ _).mpr ⟨?_,?_⟩)
 all_goals as_aux_lemma=>kernel_rfl
theorem over:Rows.weightHitsUptoRow.holds Tryz.pinned (Rows.OpenSpec.upto Rows.weightHitsSpec) :=
 OpenClaim.holds_of_cond 5 Tryz.f5 rfl rfl rfl rfl rfl rfl rfl ⟨rfl,rfl,rfl,rfl,rfl⟩ rfl rfl rfl rfl rfl named Tryz.func5 closed
  (df (by kernel_rfl)) (by unfold Func.isWrapper; first | (rw [bB (by decide +kernel)]; kernel_rfl) | (rw [aQ (by decide +kernel)]; exact ⟨rfl,rfl⟩))
  (fun os started H enc _ F=>by rw [OpenClaim.pre_eq_preRow]; exact lifted os started H enc F)
set_option maxRecDepth 100000 in
theorem wf:Rows.weightHitsUptoRow.wfByText (Rows.OpenSpec.upto Rows.weightHitsSpec)=true:=by kernel_rfl
set_option maxRecDepth 100000 in
theorem aiV : Tryz.pinned.checked.prog.mainIs = some (true, ("3dafcb6d8b16bd2a7f26de55e6bac447fa6e9373e649c68586eb05dd986e4ed5" : String).toList) := by kernel_rfl
set_option maxRecDepth 100000 in
theorem looking:true=Tryz.pinned.checked.prog.looks []:=by kernel_rfl
set_option maxRecDepth 100000 in
theorem goes:false=Rows.weightHitsUptoRow.goesBy Tryz.pinned.checked.prog:=by kernel_rfl
theorem plain (f:FuncId) (fn:Func) (hf:Tryz.pinned.checked.prog.funcNamed Rows.weightHitsUptoRow.func=some f) (hfn:Tryz.pinned.checked.prog.funcs[f]? = some fn) :
  true=Tryz.pinned.checked.prog.looks []∧∀ (j:Nat) t,fn.params[j]? = some t→Tryz.pinned.checked.prog.wantsStandIn t=false:=by
 obtain rfl:f=5:=uN (named.symm.trans hf) |>.symm
 obtain rfl:fn=Tryz.f5:=(uN (Tryz.func5.symm.trans hfn)).symm
 refine ⟨looking,fun j t ht=>?_⟩
 have key:(Tryz.f5.params.toList.all fun t=>!Tryz.prog.wantsStandIn t)=true:=by kernel_rfl
 have:=l7.1 key t (by rw [Array.mem_toList_iff]; exact Array.mem_of_getElem? ht)
 exact (show Tryz.prog.wantsStandIn t=false by simpa using this)
theorem proved:Rows.WeightHitsUptoCardSaid :=
 Claim7.holds_tied_plain_at .later [] [.data, .data, .data, .data, .sentinel, .sentinel, .pinned] true (true, "3dafcb6d8b16bd2a7f26de55e6bac447fa6e9373e649c68586eb05dd986e4ed5") true over (fun _ h => by cases h) wf (fun _ h => by cases h) weightHitsUpto_row_tie rfl ⟨rfl, rfl⟩ aiV rfl plain goes
#print axioms proved
end Go.Proofs.YtdapgmigogpdcaaGreatDoor.weightHits
