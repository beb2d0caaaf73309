/- csstok: Cut and Text. -/
import Derived.Test.YtdapgmigogpdcaaGreatDoorIdx
namespace Go.Proofs.YtdapgmigogpdcaaGreatDoor.Css
open _root_.Go.Proofs.Tryz Go Go.Eng Bld Trm
set_option linter.unusedVariables false
set_option linter.unusedSimpArgs false
set_option maxHeartbeats 4000000
set_option maxRecDepth 100000
def cutl7b (K:(List KT)→Prop) (z0:Bs) (v0:List KT) (C7:Bs→List KT→Prop):Prop :=
 ((!(z0==([]:Bs)))=true→firstP z0∧(v0++([((firstM z0).1,(firstM z0).2.1,(firstM z0).2.2.1,(firstM z0).2.2.2)]:List KT)).length≤2932031007402∧0≤(((firstM z0).2.1).length:Int)∧((((firstM z0).2.1).length:Int):Int)≤(z0.length:Int)∧(z0.length:Int)≤(z0.length:Int)∧C7 (z0.drop (Int.toNat (((firstM z0).2.1).length:Int))) (v0++([((firstM z0).1,(firstM z0).2.1,(firstM z0).2.2.1,(firstM z0).2.2.2)]:List KT)))∧((!(z0==([]:Bs)))=false→K v0)
def cutl7 (K:(List KT)→Prop):Nat→Bs→List KT→Prop
 | 0,_,_=>False
 | k+1,z0,v0=>cutl7b K z0 v0 (cutl7 K k)
def cutF (xs:Bs) (K:(List KT)→Prop):Prop :=
 ∃ k,cutl7 K k xs ([]:List KT)
theorem cut_ok {g:Ghost} (xs:Bs) (hG0:SomeInt g 0) (K:(List KT)→Prop)
  (hF:cutF xs K):CallsH prog 31 #[sv xs] g [] (fun g' H' v=>∃ (r0:List KT),∃ (j0:Option Addr) (x0:Nat),v=.slice j0 r0.length x0∧Rep g' (.slice yK) [.slice j0 r0.length x0] r0∧H'=[]∧K r0):=by
 refine CallsH.en 19 func31 rfl fun w0=>?_
 refine Ok.sr (Ok.B 1 [(0,sv xs)] kr (Ok.nt (Ok.sr (Ok.b 1 [0] [(3,.slice none 0 0)] ?_))))
 have hL1:RepL g yK [] []:=rfl
 refine Ok.ownNil 98 4 (Ok.nt (Ok.q (Ok.block ?_)))
 obtain ⟨k,hF⟩:=hF
 refine Ok.L (fun k a W=>∃ gl7:Ghost,Gext w0 g gl7∧∃ (z0:Bs) (q0:Option Addr) (k0:Nat) (v0:List KT) (y0:List Value),RepL gl7 yK y0 v0∧StA 19 [(0,sv z0),(3,.slice q0 v0.length k0)] a∧StW w0 [.own (.slice q0 v0.length k0) 98 4 v0.length y0] gl7 W∧cutl7 K k z0 v0) k ?_ ?_
 ·
  exact fun _ _ u v=>⟨g,Gext.r w0 g,xs,none,0,([]:List KT),[],hL1,fA u v hF⟩
 clear hF
 rintro (_ | k7) _ _ ⟨gl7,s0,z0,q0,k0,v0,y0,u0,q⟩
 exact (q.2.2:False).elim
 refine jn (fun hF=>?_) _ _ q
 replace hG0:=hG0.mono s0.1
 refine Ok.q (Ok.sr (Ok.b 1 [0,3] [(5,sv z0)] ?_))
 refine Ok.o (OpOk.s (v:=.bool (!(z0==([]:Bs)))) (Yields.sc (f:=.neq) (a:=z0) (b:=([]:Bs)) kr kr rfl) rfl rfl (Ok.nt (Ok.cw hF (fun hc2 hF=>?_) (fun hc2 hF=>?_))))
 ·refine Ok.k (Ok.t (Ok.block (Ok.sr (Ok.b 1 [0,3] [(7,sv z0)] ?_))))
  obtain ⟨hp3,hF⟩:=hF
  refine Ok.o (OpOk.f enr (fun W hW=>first_c z0 (hG0.mono hW.sees) hp3) rfl ?_)
  refine Ok.o (OpOk.aw zK fun bs4=>?_)
  refine Ok.o (OpOk.sw 0 (aK (firstM z0)) rfl rfl rfl ?_)
  refine Ok.nt (Ok.sr (Ok.b 1 [0] [(4,pv bs4 0),(9,.slice q0 v0.length k0)] ?_))
  refine Ok.o (OpOk.s (v:=.agg (aK (firstM z0))) (Yields.loadAgg 0 4 (aK (firstM z0)) rfl rfl underlying98 rfl kr kr kr) rfl rfl ?_)
  have hL5:RepL gl7 yK ((vK (firstM z0)):List Value) ([((firstM z0).1,(firstM z0).2.1,(firstM z0).2.2.1,(firstM z0).2.2.2)]:List KT):=(RepL.consN (c:=vK (firstM z0)) ⟨[iv (firstM z0).1],[sv ((firstM z0).2.1),sv ((firstM z0).2.2.1),iv (firstM z0).2.2.2],rfl,rfl,⟨[sv ((firstM z0).2.1)],[sv ((firstM z0).2.2.1),iv (firstM z0).2.2.2],rfl,rfl,⟨[sv ((firstM z0).2.2.1)],[iv (firstM z0).2.2.2],rfl,rfl,rfl⟩⟩⟩ rfl)
  refine Ok.o (OpOk.lit (E:=98) yK ([((firstM z0).1,(firstM z0).2.1,(firstM z0).2.2.1,(firstM z0).2.2.2)]:List KT) ((vK (firstM z0)):List Value) kr kr rfl kr hL5 rfl fun b5=>?_)
  obtain ⟨hb6,hF⟩:=hF
  refine Ok.o (OpOk.append' (e:=yK) 48 2932031007402 2 0 rfl rfl rfl rfl u0 hL5 underlying67 kr kr kr hb6 rfl fun a6 c6 xs6 hL6=>?_)
  refine Ok.b 1 [0,4] [(3,.slice a6 (v0++([((firstM z0).1,(firstM z0).2.1,(firstM z0).2.2.1,(firstM z0).2.2.2)]:List KT)).length c6)] ?_
  refine Ok.nt (Ok.r (Ok.rn 4 [.e 1] [3] [(13,sv z0),(16,iv (((firstM z0).2.1).length:Int))] ?_))
  obtain ⟨h07,h17,h27,hF⟩:=hF
  refine Ok.o (OpOk.s (Yields.ss (s:=z0) (l:=(((firstM z0).2.1).length:Int)) (h:=(z0.length:Int)) kr underlying9 (.inl ⟨_,_,rfl,rfl⟩) (.inr ⟨rfl,rfl⟩) h07 h17 h27 (z0.drop (Int.toNat (((firstM z0).2.1).length:Int))) (by rw [show (z0.length:Int).toNat=z0.length from tnc _,List.take_length])) rfl rfl (Ok.b 1 [3] [(0,sv (z0.drop (Int.toNat (((firstM z0).2.1).length:Int))))] ?_))
  refine Ok.j (Ok.kn (Ok.t ?_))
  exact fun _ _ u v=>⟨k7,nl,gl7,s0,z0.drop (Int.toNat (((firstM z0).2.1).length:Int)),a6,c6,(v0++([((firstM z0).1,(firstM z0).2.1,(firstM z0).2.2.1,(firstM z0).2.2.2)]:List KT)),xs6,hL6,fA u v hF⟩
 refine Ok.x (Ok.thenE (Ok.thenE (Ok.blockHit (Ok.t (Ok.sr (Ok.B 2 [(2,.slice q0 v0.length k0)] kr (Ok.nt (Ok.ret (Ok.frz 0 rfl u0 fun g8 hx8 hRf8=>?_)))))))))
 exact Ok.h1 (.slice q0 v0.length k0) (s0.trans hx8) ⟨v0,q0,k0,rfl,hRf8,rfl,hF⟩
end Go.Proofs.YtdapgmigogpdcaaGreatDoor.Css
