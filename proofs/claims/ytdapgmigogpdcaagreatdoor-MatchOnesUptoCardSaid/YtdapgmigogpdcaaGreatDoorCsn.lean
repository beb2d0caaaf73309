/- csstok: numbers, names, and the first token of a text. -/
import Derived.Test.YtdapgmigogpdcaaGreatDoorCss
import Derived.Test.YtdapgmigogpdcaaGreatDoorTrm
namespace Go.Proofs.YtdapgmigogpdcaaGreatDoor.Css
open _root_.Go.Proofs.Tryz Go Go.Eng Bld Trm
set_option linter.unusedVariables false
set_option linter.unusedSimpArgs false
set_option maxHeartbeats 4000000
set_option maxRecDepth 100000
def slhpj3 (xs:Bs) (xprefix:Bs) (K:Bool→Prop):Prop :=
 K ((decide ((xs.length:Int)≥(xprefix.length:Int)))&&((xs.take (Int.toNat (xprefix.length:Int)))==xprefix))
def slhpF (xs:Bs) (xprefix:Bs) (K:Bool→Prop):Prop :=
 ((decide ((xs.length:Int)≥(xprefix.length:Int)))=true→(0:Int)≤0∧0≤(xprefix.length:Int)∧(xprefix.length:Int)≤(xs.length:Int)∧slhpj3 xs xprefix K)∧((decide ((xs.length:Int)≥(xprefix.length:Int)))=false→slhpj3 xs xprefix K)
theorem slhp_ok {g:Ghost} (xs:Bs) (xprefix:Bs) (K:Bool→Prop)
  (hF:slhpF xs xprefix K):CallsH prog 142 #[sv xs,sv xprefix] g [] (fun g' H' v=>∃ (r0:Bool),v=.bool r0∧H'=[]∧K r0):=by
 refine CallsH.en 18 func142 rfl fun w0=>?_
 refine Ok.sr (Ok.B 1 [(0,sv xs),(1,sv xprefix)] kr (Ok.nt (Ok.ct [(4,.bool ((decide ((xs.length:Int)≥(xprefix.length:Int)))&&((xs.take (Int.toNat (xprefix.length:Int)))==xprefix)))] [] (slhpj3 xs xprefix K) ?_ (fun hF=>?_))))
 ·
  refine Ok.r (Ok.b 6 [0,1] [(10,.bool (decide ((xs.length:Int)≥(xprefix.length:Int))))] ?_)
  refine Ok.bw 10 hF (fun hc1 hF=>?_) (fun hc1 hF=>?_)
  ·refine Ok.b 3 [1] [(10,.bool true),(11,sv xs),(13,iv (xprefix.length:Int))] ?_
   obtain ⟨h02,h12,h22,hF⟩:=hF
   refine Ok.oy (OpOk.s (Yields.ss (s:=xs) (l:=0) (h:=(xprefix.length:Int)) kr underlying9 (.inr ⟨rfl,rfl⟩) (.inl ⟨_,_,rfl,rfl⟩) h02 h12 h22 (xs.take (Int.toNat (xprefix.length:Int))) (by simp)) rfl rfl (Ok.rn 4 [] [] [(4,.bool ((xs.take (Int.toNat (xprefix.length:Int)))==xprefix))] ?_))
   refine Ok.nt (Ok.rb 4 ((decide ((xs.length:Int)≥(xprefix.length:Int)))&&((xs.take (Int.toNat (xprefix.length:Int)))==xprefix)) (mand_t hc1) ?_)
   exact fz hF
  refine Ok.B 8 [(4,.bool false)] kr (Ok.nt (Ok.rb 4 ((decide ((xs.length:Int)≥(xprefix.length:Int)))&&((xs.take (Int.toNat (xprefix.length:Int)))==xprefix)) (mand_f hc1) ?_))
  exact fz hF
 refine Ok.ret ?_
 exact Ok.pb ((decide ((xs.length:Int)≥(xprefix.length:Int)))&&((xs.take (Int.toNat (xprefix.length:Int)))==xprefix)) hF
def slhpj3M (xs:Bs) (xprefix:Bs):Bool:=((decide ((xs.length:Int)≥(xprefix.length:Int)))&&((xs.take (Int.toNat (xprefix.length:Int)))==xprefix))
theorem slhpj3_A (xs:Bs) (xprefix:Bs) (P:Bool→Prop) (h:P (slhpj3M xs xprefix)):slhpj3 xs xprefix (fun k0=>P k0):=by
 unfold slhpj3M at h
 unfold slhpj3
 exact h
def slhpM (xs:Bs) (xprefix:Bs):Bool:=(slhpj3M xs xprefix)
theorem slhpF_A (xs:Bs) (xprefix:Bs) (P:Bool→Prop) (h:P (slhpM xs xprefix)):slhpF xs xprefix (fun k0=>P k0):=by
 unfold slhpM at h
 unfold slhpF
 refine ⟨fun hc0=>?_,fun hc0=>?_⟩
 ·skip
  have hd0:=of_decide_eq_true hc0
  refine ⟨?_,?_,?_,?_⟩
  ·first | omega | assumption | exact trivial | (have h0:=List.length_pos_iff.mpr asm; omega) | (simp; omega) | (simp at *; omega)
  ·first | omega | assumption | exact trivial | (have h0:=List.length_pos_iff.mpr asm; omega) | (simp; omega) | (simp at *; omega)
  ·first | omega | assumption | exact trivial | (have h0:=List.length_pos_iff.mpr asm; omega) | (simp; omega) | (simp at *; omega)
  exact slhpj3_A xs xprefix _ h
 skip
 have hd0:=of_decide_eq_false hc0
 exact slhpj3_A xs xprefix _ h
theorem slhp_F (xs:Bs) (xprefix:Bs):slhpF xs xprefix (fun k0=>k0=slhpM xs xprefix) :=
 slhpF_A xs xprefix (fun z=>z=slhpM xs xprefix) rfl
theorem slhp_c {g:Ghost} (xs:Bs) (xprefix:Bs)  : CallsG prog 142 #[sv xs,sv xprefix] g (.bool (slhpM xs xprefix)) :=
 (slhp_ok xs xprefix _ (slhp_F xs xprefix)).gv
def hpF (xs:Bs) (xprefix:Bs) (K:Bool→Prop):Prop :=
 K (slhpM xs xprefix)
theorem hp_ok {g:Ghost} (xs:Bs) (xprefix:Bs) (K:Bool→Prop)
  (hF:hpF xs xprefix K):CallsH prog 97 #[sv xs,sv xprefix] g [] (fun g' H' v=>∃ (r0:Bool),v=.bool r0∧H'=[]∧K r0):=by
 refine CallsH.en 8 func97 rfl fun w0=>?_
 refine Ok.sr (Ok.B 1 [(0,sv xs),(1,sv xprefix)] kr (Ok.nt (Ok.sr (Ok.rn 4 [.k (slhp_c xs xprefix)] [] [(4,.bool (slhpM xs xprefix))] ?_))))
 refine Ok.nt (Ok.ret ?_)
 exact Ok.pb (slhpM xs xprefix) hF
def hpM (xs:Bs) (xprefix:Bs):Bool:=(slhpM xs xprefix)
theorem hpF_A (xs:Bs) (xprefix:Bs) (P:Bool→Prop) (h:P (hpM xs xprefix)):hpF xs xprefix (fun k0=>P k0):=by
 unfold hpM at h
 unfold hpF
 exact h
theorem hp_F (xs:Bs) (xprefix:Bs):hpF xs xprefix (fun k0=>k0=hpM xs xprefix) :=
 hpF_A xs xprefix (fun z=>z=hpM xs xprefix) rfl
theorem hp_c {g:Ghost} (xs:Bs) (xprefix:Bs)  : CallsG prog 97 #[sv xs,sv xprefix] g (.bool (hpM xs xprefix)) :=
 (hp_ok xs xprefix _ (hp_F xs xprefix)).gv
theorem slhp_len {s p:Bs} (h:slhpM s p=true):p.length≤s.length:=by
 unfold slhpM slhpj3M at h
 simp at h
 omega
def slcpF (xs:Bs) (xprefix:Bs) (K:Bs→Bool→Prop):Prop :=
 ((!(slhpM xs xprefix))=true→K xs false)∧((!(slhpM xs xprefix))=false→0≤(xprefix.length:Int)∧((xprefix.length:Int):Int)≤(xs.length:Int)∧(xs.length:Int)≤(xs.length:Int)∧K (xs.drop (Int.toNat (xprefix.length:Int))) true)
theorem slcp_ok {g:Ghost} (xs:Bs) (xprefix:Bs) (K:Bs→Bool→Prop)
  (hF:slcpF xs xprefix K):CallsH prog 134 #[sv xs,sv xprefix] g [] (fun g' H' v=>∃ (r0:Bs),∃ (r1:Bool),v=.tuple #[sv r0,.bool r1]∧H'=[]∧K r0 r1):=by
 refine CallsH.en 15 func134 rfl fun w0=>?_
 refine Ok.sr (Ok.B 2 [(0,sv xs),(1,sv xprefix)] kr (Ok.nt (Ok.q (Ok.sr (Ok.rn 4 [.k (slhp_c xs xprefix)] [0,1] [(9,.bool (!(slhpM xs xprefix)))] ?_)))))
 refine Ok.nt (Ok.cw hF (fun hc1 hF=>?_) (fun hc1 hF=>?_))
 ·refine Ok.sr (Ok.B 3 [(4,sv xs),(5,.bool false)] kr (Ok.nt (Ok.ret (Ok.tr ?_))))
  exact Ok.resH (vs:=[sv xs,.bool false]) (.inl rfl) rfl (.cons (.tmp rfl) (.cons (.tmp rfl) .nil)) (Gext.r w0 g) ⟨xs,false,rfl,rfl,hF⟩
 refine Ok.k (Ok.t (Ok.sr (Ok.B 3 [(11,sv xs),(13,iv (xprefix.length:Int))] kr ?_)))
 obtain ⟨h02,h12,h22,hF⟩:=hF
 refine Ok.o (OpOk.s (Yields.ss (s:=xs) (l:=(xprefix.length:Int)) (h:=(xs.length:Int)) kr underlying9 (.inl ⟨_,_,rfl,rfl⟩) (.inr ⟨rfl,rfl⟩) h02 h12 h22 (xs.drop (Int.toNat (xprefix.length:Int))) (tkd _ _)) rfl rfl (Ok.B 2 [(4,sv (xs.drop (Int.toNat (xprefix.length:Int)))),(5,.bool true)] kr (Ok.nt (Ok.ret ?_))))
 exact Ok.resH (vs:=[sv (xs.drop (Int.toNat (xprefix.length:Int))),.bool true]) (.inl rfl) rfl (.cons (.tmp rfl) (.cons (.tmp rfl) .nil)) (Gext.r w0 g) ⟨(xs.drop (Int.toNat (xprefix.length:Int))),true,rfl,rfl,hF⟩
def slcpM (xs:Bs) (xprefix:Bs):Bs×Bool:=(if (!(slhpM xs xprefix))=true then (xs,false) else (xs.drop (Int.toNat (xprefix.length:Int)),true))
theorem slcpF_A (xs:Bs) (xprefix:Bs) (P:Bs×Bool→Prop) (h:P (slcpM xs xprefix)):slcpF xs xprefix (fun k0 k1=>P (k0,k1)):=by
 unfold slcpM at h
 unfold slcpF
 refine ⟨fun hc0=>?_,fun hc0=>?_⟩
 ·rw [if_t hc0] at h
  exact h
 rw [if_f hc0] at h
 refine ⟨?_,?_,?_,?_⟩
 ·first | (have h7:=slhp_len (by simpa using hc0); omega) | omega | assumption | exact trivial | (have h0:=List.length_pos_iff.mpr asm; omega) | (simp; omega) | (simp at *; omega)
 ·first | (have h7:=slhp_len (by simpa using hc0); omega) | omega | assumption | exact trivial | (have h0:=List.length_pos_iff.mpr asm; omega) | (simp; omega) | (simp at *; omega)
 ·first | (have h7:=slhp_len (by simpa using hc0); omega) | omega | assumption | exact trivial | (have h0:=List.length_pos_iff.mpr asm; omega) | (simp; omega) | (simp at *; omega)
 exact h
theorem slcp_F (xs:Bs) (xprefix:Bs):slcpF xs xprefix (fun k0 k1=>(k0,k1)=slcpM xs xprefix) :=
 slcpF_A xs xprefix (fun z=>z=slcpM xs xprefix) rfl
theorem slcp_c {g:Ghost} (xs:Bs) (xprefix:Bs)  : CallsG prog 134 #[sv xs,sv xprefix] g (.tuple #[sv ((slcpM xs xprefix).1),.bool (slcpM xs xprefix).2]) :=
 (slcp_ok xs xprefix _ (slcp_F xs xprefix)).gives (by rintro g' H' v _ ⟨r0,r1,rfl,rfl,hK⟩; obtain ⟨rfl,rfl⟩:r0=(slcpM xs xprefix).1∧r1=(slcpM xs xprefix).2:=⟨congrArg (fun z=>z.1) hK,congrArg (fun z=>z.2) hK⟩; rfl)
def cpF (xs:Bs) (xprefix:Bs) (K:Bs→Bool→Prop):Prop :=
 K (slcpM xs xprefix).1 (slcpM xs xprefix).2
theorem cp_ok {g:Ghost} (xs:Bs) (xprefix:Bs) (K:Bs→Bool→Prop)
  (hF:cpF xs xprefix K):CallsH prog 88 #[sv xs,sv xprefix] g [] (fun g' H' v=>∃ (r0:Bs),∃ (r1:Bool),v=.tuple #[sv r0,.bool r1]∧H'=[]∧K r0 r1):=by
 refine CallsH.en 11 func88 rfl fun w0=>?_
 refine Ok.sr (Ok.B 2 [(0,sv xs),(1,sv xprefix)] kr (Ok.nt (Ok.sr (Ok.rn 7 [.k (slcp_c xs xprefix)] [] [(4,sv ((slcpM xs xprefix).1)),(5,.bool (slcpM xs xprefix).2)] ?_))))
 refine Ok.nt (Ok.ret ?_)
 exact Ok.resH (vs:=[sv ((slcpM xs xprefix).1),.bool (slcpM xs xprefix).2]) (.inl rfl) rfl (.cons (.tmp rfl) (.cons (.tmp rfl) .nil)) (Gext.r w0 g) ⟨(slcpM xs xprefix).1,(slcpM xs xprefix).2,rfl,rfl,hF⟩
def cpM (xs:Bs) (xprefix:Bs):Bs×Bool:=((slcpM xs xprefix).1,(slcpM xs xprefix).2)
theorem cpF_A (xs:Bs) (xprefix:Bs) (P:Bs×Bool→Prop) (h:P (cpM xs xprefix)):cpF xs xprefix (fun k0 k1=>P (k0,k1)):=by
 unfold cpM at h
 unfold cpF
 exact h
theorem cp_F (xs:Bs) (xprefix:Bs):cpF xs xprefix (fun k0 k1=>(k0,k1)=cpM xs xprefix) :=
 cpF_A xs xprefix (fun z=>z=cpM xs xprefix) rfl
theorem cp_c {g:Ghost} (xs:Bs) (xprefix:Bs)  : CallsG prog 88 #[sv xs,sv xprefix] g (.tuple #[sv ((cpM xs xprefix).1),.bool (cpM xs xprefix).2]) :=
 (cp_ok xs xprefix _ (cp_F xs xprefix)).gives (by rintro g' H' v _ ⟨r0,r1,rfl,rfl,hK⟩; obtain ⟨rfl,rfl⟩:r0=(cpM xs xprefix).1∧r1=(cpM xs xprefix).2:=⟨congrArg (fun z=>z.1) hK,congrArg (fun z=>z.2) hK⟩; rfl)
def digitsF (xs:Bs) (K:Int→Prop):Prop :=
 tlP xs ([48,49,50,51,52,53,54,55,56,57]:Bs)∧K (w6 ((xs.length:Int) - ((tlS xs ([48,49,50,51,52,53,54,55,56,57]:Bs)).length:Int)))
theorem digits_ok {g:Ghost} (xs:Bs) (K:Int→Prop)
  (hF:digitsF xs K):CallsH prog 139 #[sv xs] g [] (fun g' H' v=>∃ (r0:Int),v=iv r0∧H'=[]∧K r0):=by
 refine CallsH.en 9 func139 rfl fun w0=>?_
 refine Ok.sr (Ok.B 1 [(0,sv xs)] kr (Ok.nt (Ok.q (Ok.r ?_))))
 obtain ⟨hp1,hF⟩:=hF
 refine Ok.rn 7 [.k (tl_c xs ([48,49,50,51,52,53,54,55,56,57]:Bs) hp1)] [] [(2,iv (w6 ((xs.length:Int) - ((tlS xs ([48,49,50,51,52,53,54,55,56,57]:Bs)).length:Int))))] ?_
 refine Ok.nt (Ok.ret ?_)
 exact Ok.h0 (iv (w6 ((xs.length:Int) - ((tlS xs ([48,49,50,51,52,53,54,55,56,57]:Bs)).length:Int)))) ⟨_,rfl,rfl,hF⟩
def digitsM (xs:Bs):Int:=(w6 ((xs.length:Int) - ((tlS xs ([48,49,50,51,52,53,54,55,56,57]:Bs)).length:Int)))
theorem digitsF_A (xs:Bs) (P:Int→Prop) (h:P (digitsM xs)):digitsF xs (fun k0=>P k0):=by
 unfold digitsM at h
 unfold digitsF
 refine ⟨?_,?_⟩
 ·first | exact ⟨by decide,by decide,by decide⟩ | omega | assumption | exact trivial | (have h0:=List.length_pos_iff.mpr asm; omega) | (simp; omega) | (simp at *; omega)
 exact h
theorem digits_F (xs:Bs):digitsF xs (fun k0=>k0=digitsM xs) :=
 digitsF_A xs (fun z=>z=digitsM xs) rfl
theorem digits_c {g:Ghost} (xs:Bs)  : CallsG prog 139 #[sv xs] g (iv (digitsM xs)) :=
 (digits_ok xs _ (digits_F xs)).gv
def numbV0 (xs:Bs):Bool :=
 ((!(xs==([]:Bs)))&&((((xs.getD (Int.toNat 0) 0).toNat:Int)==43)||(((xs.getD (Int.toNat 0) 0).toNat:Int)==45)))
def numbV1 (xs:Bs):Int :=
 (if (numbV0 xs)=true then 1 else 0)
def numbV2 (xs:Bs):Int :=
 (if (hpM (xs.drop (Int.toNat (w6 ((numbV1 xs)+(digitsM (xs.drop (Int.toNat (numbV1 xs)))))))) ([46]:Bs))=true then (digitsM ((xs.drop (Int.toNat (w6 ((numbV1 xs)+(digitsM (xs.drop (Int.toNat (numbV1 xs)))))))).drop (Int.toNat 1))) else 0)
def numbV3 (xs:Bs):Int :=
 (if (decide ((numbV2 xs)>0))=true then w6 ((w6 ((numbV1 xs)+(digitsM (xs.drop (Int.toNat (numbV1 xs))))))+(w6 (1+(numbV2 xs)))) else w6 ((numbV1 xs)+(digitsM (xs.drop (Int.toNat (numbV1 xs))))))
def numbV4 (xs:Bs):Bs :=
 (if (decide ((numbV2 xs)>0))=true then (xs.take (Int.toNat (w6 ((w6 ((w6 ((numbV1 xs)+(digitsM (xs.drop (Int.toNat (numbV1 xs))))))+1))+(numbV2 xs))))).drop (Int.toNat (w6 ((w6 ((numbV1 xs)+(digitsM (xs.drop (Int.toNat (numbV1 xs))))))+1))) else ([]:Bs))
def numbV6 (xs:Bs) (q0:Int) (z0:Int):Int :=
 (if (decide (q0<((numbV4 xs).length:Int)))=true then (if 1000000000<(w6 ((w6 (10 * z0))+(w6 (IntKind.wrap .u8 ((((numbV4 xs).getD q0.toNat 0).toNat:Int) - 48))))) then 1000000000 else (w6 ((w6 (10 * z0))+(w6 (IntKind.wrap .u8 ((((numbV4 xs).getD q0.toNat 0).toNat:Int) - 48)))))) else (if 1000000000<(w6 ((w6 (10 * z0))+(w6 (IntKind.wrap .u8 (48 - 48))))) then 1000000000 else (w6 ((w6 (10 * z0))+(w6 (IntKind.wrap .u8 (48 - 48)))))))
def numbV9 (xs:Bs) (z0:Int):Int :=
 (if (((xs.getD (Int.toNat 0) 0).toNat:Int)==45)=true then w6 (0 - z0) else z0)
def numbj75 (xs:Bs) (q0:Int) (z0:Int) (C68:Int→Int→Prop):Prop :=
 C68 (w6 (q0+1)) (numbV6 xs q0 z0)
def numbj85 (xs:Bs) (K:Int→Int→Prop) (z0:Int):Prop :=
 K (numbV9 xs z0) (numbV3 xs)
def numbl68b (xs:Bs) (K:Int→Int→Prop) (q0:Int) (z0:Int) (C68:Int→Int→Prop):Prop :=
 (decide (q0<3)=true→((decide (q0<((numbV4 xs).length:Int)))=true→0≤q0∧q0.toNat<(numbV4 xs).length∧numbj75 xs q0 z0 C68)∧((decide (q0<((numbV4 xs).length:Int)))=false→numbj75 xs q0 z0 C68))∧(decide (q0<3)=false→(0:Int)≤0∧Int.toNat 0<xs.length∧((((xs.getD (Int.toNat 0) 0).toNat:Int)==45)=true→numbj85 xs K z0)∧((((xs.getD (Int.toNat 0) 0).toNat:Int)==45)=false→numbj85 xs K z0))
def numbl68 (xs:Bs) (K:Int→Int→Prop):Nat→Int→Int→Prop
 | 0,_,_=>False
 | k+1,q0,z0=>numbl68b xs K q0 z0 (numbl68 xs K k)
def numbj56 (xs:Bs) (K:Int→Int→Prop) (v0:Int):Prop :=
 ∃ k,numbl68 xs K k 0 v0
def numbl39b (xs:Bs) (K:Int→Int→Prop) (y0:Int) (v0:Int) (C39:Int→Int→Prop):Prop :=
 ((decide (y0<((intsOf ((xs.take (Int.toNat (w6 ((numbV1 xs)+(digitsM (xs.drop (Int.toNat (numbV1 xs)))))))).drop (Int.toNat (numbV1 xs)))).length:Int)))=true→0≤y0∧y0.toNat<(intsOf ((xs.take (Int.toNat (w6 ((numbV1 xs)+(digitsM (xs.drop (Int.toNat (numbV1 xs)))))))).drop (Int.toNat (numbV1 xs)))).length∧C39 (w6 (y0+1)) (if 1000000000<(w6 ((w6 (10 * v0))+(w6 (IntKind.wrap .u8 (((intsOf ((xs.take (Int.toNat (w6 ((numbV1 xs)+(digitsM (xs.drop (Int.toNat (numbV1 xs)))))))).drop (Int.toNat (numbV1 xs)))).getD y0.toNat default) - 48))))) then 1000000000 else (w6 ((w6 (10 * v0))+(w6 (IntKind.wrap .u8 (((intsOf ((xs.take (Int.toNat (w6 ((numbV1 xs)+(digitsM (xs.drop (Int.toNat (numbV1 xs)))))))).drop (Int.toNat (numbV1 xs)))).getD y0.toNat default) - 48)))))))∧((decide (y0<((intsOf ((xs.take (Int.toNat (w6 ((numbV1 xs)+(digitsM (xs.drop (Int.toNat (numbV1 xs)))))))).drop (Int.toNat (numbV1 xs)))).length:Int)))=false→((decide ((numbV2 xs)>0))=true→0≤(w6 ((w6 ((numbV1 xs)+(digitsM (xs.drop (Int.toNat (numbV1 xs))))))+1))∧((w6 ((w6 ((numbV1 xs)+(digitsM (xs.drop (Int.toNat (numbV1 xs))))))+1)):Int)≤(w6 ((w6 ((w6 ((numbV1 xs)+(digitsM (xs.drop (Int.toNat (numbV1 xs))))))+1))+(numbV2 xs)))∧(w6 ((w6 ((w6 ((numbV1 xs)+(digitsM (xs.drop (Int.toNat (numbV1 xs))))))+1))+(numbV2 xs)))≤(xs.length:Int)∧numbj56 xs K v0)∧((decide ((numbV2 xs)>0))=false→numbj56 xs K v0))
def numbl39 (xs:Bs) (K:Int→Int→Prop):Nat→Int→Int→Prop
 | 0,_,_=>False
 | k+1,y0,v0=>numbl39b xs K y0 v0 (numbl39 xs K k)
def numbj15 (xs:Bs) (K:Int→Int→Prop):Prop :=
 (((w6 ((digitsM (xs.drop (Int.toNat (numbV1 xs))))+(numbV2 xs)))==0)=true→K 0 0)∧(((w6 ((digitsM (xs.drop (Int.toNat (numbV1 xs))))+(numbV2 xs)))==0)=false→0≤numbV1 xs∧((numbV1 xs):Int)≤(w6 ((numbV1 xs)+(digitsM (xs.drop (Int.toNat (numbV1 xs))))))∧(w6 ((numbV1 xs)+(digitsM (xs.drop (Int.toNat (numbV1 xs))))))≤(xs.length:Int)∧((xs.take (Int.toNat (w6 ((numbV1 xs)+(digitsM (xs.drop (Int.toNat (numbV1 xs)))))))).drop (Int.toNat (numbV1 xs))).length≤maxLen∧∃ k,numbl39 xs K k 0 0)
def numbj5 (xs:Bs) (K:Int→Int→Prop):Prop :=
 0≤numbV1 xs∧((numbV1 xs):Int)≤(xs.length:Int)∧(xs.length:Int)≤(xs.length:Int)∧0≤(w6 ((numbV1 xs)+(digitsM (xs.drop (Int.toNat (numbV1 xs))))))∧((w6 ((numbV1 xs)+(digitsM (xs.drop (Int.toNat (numbV1 xs)))))):Int)≤(xs.length:Int)∧(xs.length:Int)≤(xs.length:Int)∧((hpM (xs.drop (Int.toNat (w6 ((numbV1 xs)+(digitsM (xs.drop (Int.toNat (numbV1 xs)))))))) ([46]:Bs))=true→(0:Int)≤1∧(1:Int)≤((xs.drop (Int.toNat (w6 ((numbV1 xs)+(digitsM (xs.drop (Int.toNat (numbV1 xs)))))))).length:Int)∧((xs.drop (Int.toNat (w6 ((numbV1 xs)+(digitsM (xs.drop (Int.toNat (numbV1 xs)))))))).length:Int)≤((xs.drop (Int.toNat (w6 ((numbV1 xs)+(digitsM (xs.drop (Int.toNat (numbV1 xs)))))))).length:Int)∧numbj15 xs K)∧((hpM (xs.drop (Int.toNat (w6 ((numbV1 xs)+(digitsM (xs.drop (Int.toNat (numbV1 xs)))))))) ([46]:Bs))=false→numbj15 xs K)
def numbj6 (xs:Bs) (K:Int→Int→Prop):Prop :=
 (numbV0 xs=true→numbj5 xs K)∧(numbV0 xs=false→numbj5 xs K)
def numbF (xs:Bs) (K:Int→Int→Prop):Prop :=
 ((!(xs==([]:Bs)))=true→(0:Int)≤0∧Int.toNat 0<xs.length∧((((xs.getD (Int.toNat 0) 0).toNat:Int)==43)=true→numbj6 xs K)∧((((xs.getD (Int.toNat 0) 0).toNat:Int)==43)=false→numbj6 xs K))∧((!(xs==([]:Bs)))=false→numbj6 xs K)
abbrev nd (xs:Bs):Bs:=xs.drop (Int.toNat (numbV1 xs))
abbrev nw (xs:Bs):Int:=w6 ((numbV1 xs)+(digitsM (nd xs)))
theorem numb_ok {g:Ghost} (xs:Bs) (K:Int→Int→Prop)
  (hF:numbF xs K):CallsH prog 95 #[sv xs] g [] (fun g' H' v=>∃ (r0:Int),∃ (r1:Int),v=.tuple #[iv r0,iv r1]∧H'=[]∧K r0 r1):=by
 refine CallsH.en 101 func95 rfl fun w0=>?_
 refine Ok.sr (Ok.B 2 [(0,sv xs)] kr (Ok.nt (Ok.sr (Ok.b 1 [0] [(4,iv 0)] ?_))))
 refine Ok.nt (Ok.cg g [(0,sv xs),(4,iv (numbV1 xs))] [] (numbj5 xs K) ?_ (fun gj5 i0 hF=>?_))
 ·
  refine Ok.cg g [(0,sv xs),(4,iv 0),(26,.bool (numbV0 xs))] [] (numbj6 xs K) ?_ (fun gj6 Z0 hF=>?_)
  ·
   refine Ok.r (Ok.rn 3 [] [0,4] [(17,.bool (!(xs==([]:Bs))))] ?_)
   refine Ok.bw 17 hF (fun d0 hF=>?_) (fun d0 hF=>?_)
   ·refine Ok.b 1 [0,4] [(17,.bool true),(18,sv xs)] ?_
    obtain ⟨V0,h121,hF⟩:=hF
    have g0:=get_of (l:=xs) (0:UInt8) h121
    generalize Q0:(xs.getD (Int.toNat 0) 0)=e21 at g0 hF ⊢
    refine Ok.oy (OpOk.s (v:=.int .u8 (e21.toNat:Int)) (Yields.ix (k:=.i64) (i:=0) (s:=xs) (b:=e21) kr kr underlying9 V0 g0) rfl rfl (Ok.b 2 [0,4,17] [(21,.bool ((e21.toNat:Int)==43))] ?_))
    refine Ok.a 21 ((e21.toNat:Int)==43) rfl (fun x0=>?_) (fun x0=>?_)
    ·replace hF:=hF.1 x0
     refine Ok.b 5 [0,4] [(26,.bool true)] ?_
     refine Ok.j (Ok.t ?_)
     subst Q0
     refine Ok.rb 26 (numbV0 xs) (Eq.trans (mor_t x0) (mand_t d0)) ?_
     exact fg hF
    replace hF:=hF.2 x0
    refine Ok.b 1 [0,4,17] [(21,.bool false),(22,sv xs)] ?_
    refine Ok.oy (OpOk.s (v:=.int .u8 (e21.toNat:Int)) (Yields.ix (k:=.i64) (i:=0) (s:=xs) (b:=e21) kr kr underlying9 V0 g0) rfl rfl (Ok.b 3 [0,4] [(26,.bool ((e21.toNat:Int)==45))] ?_))
    refine Ok.j (Ok.t ?_)
    subst Q0
    refine Ok.rb 26 (numbV0 xs) (Eq.trans (mor_f x0) (mand_t d0)) ?_
    exact fg hF
   refine Ok.b 9 [0,4] [(26,.bool false)] ?_
   refine Ok.nt (Ok.rb 26 (numbV0 xs) (mand_f d0) ?_)
   exact fg hF
  refine Ok.cw hF (fun m0 hF=>?_) (fun m0 hF=>?_)
  ·refine Ok.r (Ok.b 1 [0] [(4,iv 1)] ?_)
   refine Ok.nt (Ok.v 4 rfl (show (iv 1:Value)=iv (numbV1 xs) from congrArg (Value.int .i64) ((if_t m0).symm)) ?_)
   exact fun _ _ u v=>⟨gj6,Z0,fA u v hF⟩
  refine Ok.k (Ok.t (Ok.v 4 rfl (show (iv 0:Value)=iv (numbV1 xs) from congrArg (Value.int .i64) ((if_f m0).symm)) ?_))
  exact fun _ _ u v=>⟨gj6,Z0,fA u v hF⟩
 refine Ok.sr (Ok.b 2 [0,4] [(27,sv xs),(28,iv (numbV1 xs))] ?_)
 obtain ⟨h01,h11,h21,hF⟩:=hF
 refine Ok.o (OpOk.s (Yields.ss (s:=xs) (l:=numbV1 xs) (h:=(xs.length:Int)) kr underlying9 (.inl ⟨_,_,rfl,rfl⟩) (.inr ⟨rfl,rfl⟩) h01 h11 h21 (nd xs) (tkd _ _)) rfl rfl (Ok.rn 2 [.k (digits_c (nd xs))] [0,4] [(5,iv (digitsM (nd xs)))] ?_))
 refine Ok.nt (Ok.sr (Ok.b 1 [0,4,5] [(6,iv 0)] ?_))
 refine Ok.nt (Ok.cg gj5 [(0,sv xs),(4,iv (numbV1 xs)),(5,iv (digitsM (nd xs))),(6,iv (numbV2 xs))] [] (numbj15 xs K) ?_ (fun gj15 e0 hF=>?_))
 ·
  refine Ok.sr (Ok.b 4 [0,4,5,6] [(31,sv xs),(34,iv (nw xs))] ?_)
  obtain ⟨h016,h116,h216,hF⟩:=hF
  refine Ok.o (OpOk.s (Yields.ss (s:=xs) (l:=nw xs) (h:=(xs.length:Int)) kr underlying9 (.inl ⟨_,_,rfl,rfl⟩) (.inr ⟨rfl,rfl⟩) h016 h116 h216 (xs.drop (Int.toNat (nw xs))) (tkd _ _)) rfl rfl (Ok.b 1 [0,4,5,6] [(7,sv (xs.drop (Int.toNat (nw xs))))] ?_))
  refine Ok.nt (Ok.sr (Ok.b 1 [0,4,5,6,7] [(36,sv (xs.drop (Int.toNat (nw xs))))] ?_))
  refine Ok.o (OpOk.f enr (fun W hW=>hp_c (xs.drop (Int.toNat (nw xs))) ([46]:Bs)) rfl ?_)
  refine Ok.nt (Ok.cw hF (fun n0 hF=>?_) (fun n0 hF=>?_))
  ·refine Ok.r (Ok.b 1 [0,4,5] [(38,sv (xs.drop (Int.toNat (nw xs))))] ?_)
   obtain ⟨h018,h118,h218,hF⟩:=hF
   refine Ok.o (OpOk.s (Yields.ss (s:=(xs.drop (Int.toNat (nw xs)))) (l:=1) (h:=((xs.drop (Int.toNat (nw xs))).length:Int)) kr underlying9 (.inl ⟨_,_,rfl,rfl⟩) (.inr ⟨rfl,rfl⟩) h018 h118 h218 ((xs.drop (Int.toNat (nw xs))).drop (Int.toNat 1)) (by rw [show ((xs.drop (Int.toNat (nw xs))).length:Int).toNat=(xs.drop (Int.toNat (nw xs))).length from tnc _,List.take_length])) rfl rfl (Ok.rn 2 [.k (digits_c ((xs.drop (Int.toNat (nw xs))).drop (Int.toNat 1)))] [0,4,5] [(6,iv (digitsM ((xs.drop (Int.toNat (nw xs))).drop (Int.toNat 1))))] ?_))
   refine Ok.nt (Ok.v 6 rfl (show (iv (digitsM ((xs.drop (Int.toNat (nw xs))).drop (Int.toNat 1))):Value)=iv (numbV2 xs) from congrArg (Value.int .i64) ((if_t n0).symm)) ?_)
   exact fg hF
  refine Ok.k (Ok.t (Ok.v 6 rfl (show (iv 0:Value)=iv (numbV2 xs) from congrArg (Value.int .i64) ((if_f n0).symm)) ?_))
  exact fg hF
 refine Ok.q (Ok.sr (Ok.b 4 [0,4,5,6] [(44,.bool ((w6 ((digitsM (nd xs))+(numbV2 xs)))==0))] ?_))
 refine Ok.nt (Ok.cw hF (fun hc2 hF=>?_) (fun hc2 hF=>?_))
 ·refine Ok.sr (Ok.B 2 [(2,iv 0),(3,iv 0)] kr (Ok.nt (Ok.ret (Ok.tr ?_))))
  exact Ok.resH (vs:=[iv 0,iv 0]) (.inl rfl) rfl (.cons (.tmp rfl) (.cons (.tmp rfl) .nil)) (i0.trans e0) ⟨0,0,rfl,rfl,hF⟩
 refine Ok.k (Ok.t (Ok.sr (Ok.o (OpOk.a (z:=iv 0) (cs:=#[iv 0]) kr kr rfl fun bs8=>?_))))
 refine Ok.o (OpOk.s1 0 (iv 0) rfl rfl rfl ?_)
 refine Ok.nt (Ok.sr (Ok.b 2 [0,4,5,6] [(8,pv bs8 0),(9,.func (.func 140) #[] #[pv bs8 0])] ?_))
 refine Ok.nt (Ok.q (Ok.sr (Ok.b 5 [0,4,5,6,8,9] [(46,sv xs),(47,iv (numbV1 xs)),(50,iv (nw xs))] ?_)))
 obtain ⟨h04,h14,h24,hF⟩:=hF
 refine Ok.o (OpOk.s (Yields.ss (s:=xs) (l:=numbV1 xs) (h:=nw xs) kr underlying9 (.inl ⟨_,_,rfl,rfl⟩) (.inl ⟨_,_,rfl,rfl⟩) h04 h14 h24 ((xs.take (Int.toNat (nw xs))).drop (Int.toNat (numbV1 xs))) rfl) rfl rfl ?_)
 obtain ⟨hm5,hF⟩:=hF
 refine Ok.o (OpOk.bytesRo (s:=(xs.take (Int.toNat (nw xs))).drop (Int.toNat (numbV1 xs))) kr underlying9 underlying26 underlying5 hm5 rfl fun g5 a5 c5 hx5 hR5=>?_)
 refine Ok.b 2 [0,4,5,6,8,9] [(52,.slice a5 (intsOf ((xs.take (Int.toNat (nw xs))).drop (Int.toNat (numbV1 xs)))).length c5),(53,iv ((intsOf ((xs.take (Int.toNat (nw xs))).drop (Int.toNat (numbV1 xs)))).length:Int)),(54,iv 0)] ?_
 refine Ok.nt (Ok.block ?_)
 obtain ⟨k,hF⟩:=hF
 refine Ok.L (fun k a W=>∃ j0:Ghost,Gext w0 g5 j0∧∃ (y0:Int) (v0:Int),StA 101 [(0,sv xs),(4,iv (numbV1 xs)),(5,iv (digitsM (nd xs))),(6,iv (numbV2 xs)),(8,pv bs8 0),(9,.func (.func 140) #[] #[pv bs8 0]),(52,.slice a5 (intsOf ((xs.take (Int.toNat (nw xs))).drop (Int.toNat (numbV1 xs)))).length c5),(53,iv ((intsOf ((xs.take (Int.toNat (nw xs))).drop (Int.toNat (numbV1 xs)))).length:Int)),(54,iv y0)] a∧StW w0 [.blk bs8 (.cells #[iv v0] 3)] j0 W∧numbl39 xs K k y0 v0) k ?_ ?_
 ·
  exact fun _ _ u v=>⟨g5,Gext.r w0 g5,0,0,fA u v hF⟩
 clear hF
 rintro (_ | k39) _ _ ⟨j0,s0,y0,v0,q⟩
 exact (q.2.2:False).elim
 refine jn (fun hF=>?_) _ _ q
 replace hR5:=hR5.mono s0.1
 refine Ok.sr (Ok.b 1 [0,4,5,6,8,9,52,53,54] [(55,.bool (decide (y0<((intsOf ((xs.take (Int.toNat (nw xs))).drop (Int.toNat (numbV1 xs)))).length:Int))))] ?_)
 refine Ok.nt (Ok.q (Ok.cw hF (fun hc6 hF=>?_) (fun hc6 hF=>?_)))
 ·refine Ok.k (Ok.t (Ok.q (Ok.block (Ok.q (Ok.r ?_)))))
  obtain ⟨h08,h18,hF⟩:=hF
  have he8:=get_of (l:=(intsOf ((xs.take (Int.toNat (nw xs))).drop (Int.toNat (numbV1 xs))))) default h18
  generalize hg8:((intsOf ((xs.take (Int.toNat (w6 ((numbV1 xs)+(digitsM (xs.drop (Int.toNat (numbV1 xs)))))))).drop (Int.toNat (numbV1 xs)))).getD y0.toNat default)=e8 at he8 hF ⊢
  refine Ok.o (OpOk.indexRo (e:=.int .u8) rfl rfl underlying26 kr hR5 h08 he8 rfl fun q7 o7 cs7 _ o0 hr7=>?_)
  obtain rfl:=hr7
  replace o0:At j0 q7 o7 [.int .u8 e8]:=o0
  refine Ok.rn 2 [.a 0 o0] [0,4,5,6,8,9,52,53,54] [(11,.int .u8 e8)] ?_
  refine Ok.nt (Ok.r (Ok.b 2 [0,4,5,6,8,9,52,53,54] [(58,.func (.func 140) #[] #[pv bs8 0]),(59,.int .u8 e8)] ?_))
  refine Ok.o (OpOk.i (args:=#[.int .u8 e8,pv bs8 0]) 10 [(0,.int .u8 e8),(1,pv bs8 0)] enr func140 rfl rfl rfl rfl (Ok.r (Ok.rn 7 [.e 0] [] [(1,pv bs8 0),(9,iv (if 1000000000<(w6 ((w6 (10 * v0))+(w6 (IntKind.wrap .u8 (e8 - 48))))) then 1000000000 else (w6 ((w6 (10 * v0))+(w6 (IntKind.wrap .u8 (e8 - 48)))))))] ?_)))
  refine Ok.o (OpOk.s1 0 (iv (if 1000000000<(w6 ((w6 (10 * v0))+(w6 (IntKind.wrap .u8 (e8 - 48))))) then 1000000000 else (w6 ((w6 (10 * v0))+(w6 (IntKind.wrap .u8 (e8 - 48))))))) rfl rfl rfl ?_)
  refine Ok.j (Ok.back (vs:=[]) (.inr rfl) rfl .nil rfl (Ok.j (Ok.kn (Ok.t (Ok.r (Ok.B 2 [(0,sv xs),(4,iv (numbV1 xs)),(5,iv (digitsM (nd xs))),(6,iv (numbV2 xs)),(8,pv bs8 0),(9,.func (.func 140) #[] #[pv bs8 0]),(52,.slice a5 (intsOf ((xs.take (Int.toNat (nw xs))).drop (Int.toNat (numbV1 xs)))).length c5),(53,iv ((intsOf ((xs.take (Int.toNat (nw xs))).drop (Int.toNat (numbV1 xs)))).length:Int)),(54,iv (w6 (y0+1)))] kr (Ok.j (Ok.t ?_))))))))
  subst hg8
  exact fun _ _ u v=>⟨k39,nl,j0,s0,w6 (y0+1),(if 1000000000<(w6 ((w6 (10 * v0))+(w6 (IntKind.wrap .u8 (((intsOf ((xs.take (Int.toNat (nw xs))).drop (Int.toNat (numbV1 xs)))).getD y0.toNat default) - 48))))) then 1000000000 else (w6 ((w6 (10 * v0))+(w6 (IntKind.wrap .u8 (((intsOf ((xs.take (Int.toNat (nw xs))).drop (Int.toNat (numbV1 xs)))).getD y0.toNat default) - 48)))))),fA u v hF⟩
 refine Ok.x (Ok.thenE (Ok.thenE (Ok.blockHit (Ok.t (Ok.sr (Ok.b 4 [0,6,8,9] [(12,iv (nw xs))] ?_))))))
 refine Ok.nt (Ok.sr (Ok.b 1 [0,6,8,9,12] [(13,sv ([]:Bs))] ?_))
 refine Ok.nt (Ok.cg j0 [(0,sv xs),(8,pv bs8 0),(9,.func (.func 140) #[] #[pv bs8 0]),(12,iv (numbV3 xs)),(13,sv (numbV4 xs))] [.blk bs8 (.cells #[iv v0] 3)] (numbj56 xs K v0) ?_ (fun t0 hxj56 hF=>?_))
 ·
  refine Ok.sr (Ok.b 2 [0,6,8,9,12,13] [(66,.bool (decide ((numbV2 xs)>0)))] ?_)
  refine Ok.nt (Ok.cw hF (fun b0 hF=>?_) (fun b0 hF=>?_))
  ·refine Ok.sr (Ok.b 7 [0,6,8,9,12] [(67,sv xs),(69,iv (w6 ((nw xs)+1))),(73,iv (w6 ((w6 ((nw xs)+1))+(numbV2 xs))))] ?_)
   obtain ⟨h015,h115,h215,hF⟩:=hF
   refine Ok.o (OpOk.s (Yields.ss (s:=xs) (l:=(w6 ((nw xs)+1))) (h:=(w6 ((w6 ((nw xs)+1))+(numbV2 xs)))) kr underlying9 (.inl ⟨_,_,rfl,rfl⟩) (.inl ⟨_,_,rfl,rfl⟩) h015 h115 h215 ((xs.take (Int.toNat (w6 ((w6 ((nw xs)+1))+(numbV2 xs))))).drop (Int.toNat (w6 ((nw xs)+1)))) rfl) rfl rfl (Ok.b 1 [0,6,8,9,12] [(13,sv ((xs.take (Int.toNat (w6 ((w6 ((nw xs)+1))+(numbV2 xs))))).drop (Int.toNat (w6 ((nw xs)+1)))))] ?_))
   refine Ok.nt (Ok.r (Ok.b 5 [0,8,9,13] [(12,iv (w6 ((nw xs)+(w6 (1+(numbV2 xs))))))] ?_))
   refine Ok.nt (Ok.v 12 rfl (show (iv (w6 ((nw xs)+(w6 (1+(numbV2 xs))))):Value)=iv (numbV3 xs) from congrArg (Value.int .i64) ((if_t b0).symm)) (Ok.v 13 rfl (show (sv ((xs.take (Int.toNat (w6 ((w6 ((nw xs)+1))+(numbV2 xs))))).drop (Int.toNat (w6 ((nw xs)+1)))):Value)=sv (numbV4 xs) from congrArg (fun s:Bs=>Value.string ⟨⟨s⟩⟩) ((if_t b0).symm)) ?_))
   exact fg hF
  refine Ok.k (Ok.t (Ok.v 12 rfl (show (iv (nw xs):Value)=iv (numbV3 xs) from congrArg (Value.int .i64) ((if_f b0).symm)) (Ok.v 13 rfl (show (sv ([]:Bs):Value)=sv (numbV4 xs) from congrArg (fun s:Bs=>Value.string ⟨⟨s⟩⟩) ((if_f b0).symm)) ?_)))
  exact fg hF
 refine Ok.q (Ok.sr (Ok.b 1 [0,8,9,12,13] [(79,iv 0)] ?_))
 refine Ok.nt (Ok.block ?_)
 obtain ⟨k,hF⟩:=hF
 refine Ok.L (fun k a W=>∃ u0:Ghost,Gext w0 t0 u0∧∃ (q0:Int) (z0:Int),StA 101 [(0,sv xs),(8,pv bs8 0),(9,.func (.func 140) #[] #[pv bs8 0]),(12,iv (numbV3 xs)),(13,sv (numbV4 xs)),(79,iv q0)] a∧StW w0 [.blk bs8 (.cells #[iv z0] 3)] u0 W∧numbl68 xs K k q0 z0) k ?_ ?_
 ·
  exact fun _ _ u v=>⟨t0,Gext.r w0 t0,0,v0,fA u v hF⟩
 clear hF
 rintro (_ | k68) _ _ ⟨u0,f0,q0,z0,q⟩
 exact (q.2.2:False).elim
 refine jn (fun hF=>?_) _ _ q
 refine Ok.sr (Ok.b 1 [0,8,9,12,13,79] [(80,.bool (decide (q0<3)))] ?_)
 refine Ok.nt (Ok.q (Ok.cw hF (fun hc9 hF=>?_) (fun hc9 hF=>?_)))
 ·refine Ok.k (Ok.t (Ok.cg u0 [(0,sv xs),(8,pv bs8 0),(9,.func (.func 140) #[] #[pv bs8 0]),(12,iv (numbV3 xs)),(13,sv (numbV4 xs)),(79,iv q0)] [.blk bs8 (.cells #[iv (numbV6 xs q0 z0)] 3)] (numbj75 xs q0 z0 (numbl68 xs K k68)) ?_ (fun gj75 hxj75 hF=>?_)))
  ·
   refine Ok.block (Ok.sr (Ok.b 2 [0,8,9,12,13,79] [(14,iv q0)] ?_))
   refine Ok.nt (Ok.sr (Ok.b 4 [0,8,9,12,13,14,79] [(85,.bool (decide (q0<((numbV4 xs).length:Int))))] ?_))
   refine Ok.nt (Ok.cw hF (fun a0 hF=>?_) (fun a0 hF=>?_))
   ·refine Ok.r (Ok.b 3 [0,8,9,12,13,79] [(86,.func (.func 140) #[] #[pv bs8 0]),(87,sv (numbV4 xs)),(88,iv q0)] ?_)
    obtain ⟨h011,h111,hF⟩:=hF
    have K0:=get_of (l:=numbV4 xs) (0:UInt8) h111
    generalize hg11:((numbV4 xs).getD q0.toNat 0)=e11 at K0 hF ⊢
    refine Ok.o (OpOk.s (v:=.int .u8 (e11.toNat:Int)) (Yields.ix (k:=.i64) (i:=q0) (s:=numbV4 xs) (b:=e11) kr kr underlying9 h011 K0) rfl rfl (Ok.o (OpOk.i (args:=#[.int .u8 (e11.toNat:Int),pv bs8 0]) 10 [(0,.int .u8 (e11.toNat:Int)),(1,pv bs8 0)] enr func140 rfl rfl rfl rfl (Ok.r (Ok.rn 7 [.e 0] [] [(1,pv bs8 0),(9,iv (if 1000000000<(w6 ((w6 (10 * z0))+(w6 (IntKind.wrap .u8 ((e11.toNat:Int) - 48))))) then 1000000000 else (w6 ((w6 (10 * z0))+(w6 (IntKind.wrap .u8 ((e11.toNat:Int) - 48)))))))] ?_)))))
    refine Ok.o (OpOk.s1 0 (iv (if 1000000000<(w6 ((w6 (10 * z0))+(w6 (IntKind.wrap .u8 ((e11.toNat:Int) - 48))))) then 1000000000 else (w6 ((w6 (10 * z0))+(w6 (IntKind.wrap .u8 ((e11.toNat:Int) - 48))))))) rfl rfl rfl ?_)
    refine Ok.j (Ok.back (vs:=[]) (.inr rfl) rfl .nil rfl (Ok.j (Ok.kn (Ok.t ?_))))
    subst hg11
    refine Ok.heapEq (H':=[.blk bs8 (.cells #[iv (numbV6 xs q0 z0)] 3)]) (econs (congrArg (fun l:List Value=>Ent.blk bs8 (.cells ⟨l⟩ 3)) (lcons (congrArg (Value.int .i64) ((if_t a0).symm)) rfl)) rfl) ?_
    exact fg hF
   refine Ok.r (Ok.b 1 [0,8,9,12,13,79] [(91,.func (.func 140) #[] #[pv bs8 0])] ?_)
   refine Ok.o (OpOk.i (args:=#[.int .u8 48,pv bs8 0]) 10 [(0,.int .u8 48),(1,pv bs8 0)] enr func140 rfl rfl rfl rfl (Ok.r (Ok.rn 7 [.e 0] [] [(1,pv bs8 0),(9,iv (if 1000000000<(w6 ((w6 (10 * z0))+(w6 (IntKind.wrap .u8 (48 - 48))))) then 1000000000 else (w6 ((w6 (10 * z0))+(w6 (IntKind.wrap .u8 (48 - 48)))))))] ?_)))
   refine Ok.o (OpOk.s1 0 (iv (if 1000000000<(w6 ((w6 (10 * z0))+(w6 (IntKind.wrap .u8 (48 - 48))))) then 1000000000 else (w6 ((w6 (10 * z0))+(w6 (IntKind.wrap .u8 (48 - 48))))))) rfl rfl rfl ?_)
   refine Ok.j (Ok.back (vs:=[]) (.inr rfl) rfl .nil rfl (Ok.j (Ok.kn (Ok.t (Ok.heapEq (H':=[.blk bs8 (.cells #[iv (numbV6 xs q0 z0)] 3)]) (econs (congrArg (fun l:List Value=>Ent.blk bs8 (.cells ⟨l⟩ 3)) (lcons (congrArg (Value.int .i64) ((if_f a0).symm)) rfl)) rfl) ?_)))))
   exact fg hF
  refine Ok.r (Ok.b 2 [0,8,9,12,13] [(79,iv (w6 (q0+1)))] ?_)
  refine Ok.j (Ok.t ?_)
  exact fun _ _ u v=>⟨k68,nl,gj75,f0.trans hxj75,w6 (q0+1),numbV6 xs q0 z0,fA u v hF⟩
 refine Ok.x (Ok.thenE (Ok.thenE (Ok.blockHit (Ok.t (Ok.cg u0 [(8,pv bs8 0),(12,iv (numbV3 xs))] [.blk bs8 (.cells #[iv (numbV9 xs z0)] 3)] (numbj85 xs K z0) ?_ (fun gj85 hxj85 hF=>?_))))))
 ·
  refine Ok.sr (Ok.b 1 [8,12] [(94,sv xs)] ?_)
  obtain ⟨h012,h112,hF⟩:=hF
  have Y0:=get_of (l:=xs) (0:UInt8) h112
  generalize U0:(xs.getD (Int.toNat 0) 0)=e12 at Y0 hF ⊢
  refine Ok.o (OpOk.s (v:=.int .u8 (e12.toNat:Int)) (Yields.ix (k:=.i64) (i:=0) (s:=xs) (b:=e12) kr kr underlying9 h012 Y0) rfl rfl (Ok.b 1 [8,12] [(96,.bool ((e12.toNat:Int)==45))] ?_))
  refine Ok.nt (Ok.cn hF rfl (fun c0=>?_) (fun c0=>?_))
  ·replace hF:=hF.1 c0
   refine Ok.r (Ok.rn 2 [.e 0] [8,12] [(98,iv (w6 (0 - z0)))] ?_)
   refine Ok.o (OpOk.s1 0 (iv (w6 (0 - z0))) rfl rfl rfl ?_)
   refine Ok.j (Ok.t ?_)
   subst U0
   refine Ok.heapEq (H':=[.blk bs8 (.cells #[iv (numbV9 xs z0)] 3)]) (econs (congrArg (fun l:List Value=>Ent.blk bs8 (.cells ⟨l⟩ 3)) (lcons (congrArg (Value.int .i64) ((if_t c0).symm)) rfl)) rfl) ?_
   exact fg hF
  replace hF:=hF.2 c0
  refine Ok.k (Ok.t ?_)
  subst U0
  refine Ok.heapEq (H':=[.blk bs8 (.cells #[iv (numbV9 xs z0)] 3)]) (econs (congrArg (fun l:List Value=>Ent.blk bs8 (.cells ⟨l⟩ 3)) (lcons (congrArg (Value.int .i64) ((if_f c0).symm)) rfl)) rfl) ?_
  exact fg hF
 refine Ok.sr (Ok.rn 4 [.e 0] [] [(2,iv (numbV9 xs z0)),(3,iv (numbV3 xs))] ?_)
 refine Ok.nt (Ok.ret ?_)
 exact Ok.p (vs:=[iv (numbV9 xs z0),iv (numbV3 xs)]) [] [] dc rfl (.inl rfl) rfl (.cons (.tmp rfl) (.cons (.tmp rfl) .nil)) ((((((i0.trans e0).trans hx5).trans s0).trans hxj56).trans f0).trans hxj85) ⟨numbV9 xs z0,numbV3 xs,rfl,rfl,hF⟩
end Go.Proofs.YtdapgmigogpdcaaGreatDoor.Css
