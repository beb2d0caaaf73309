/- The tokens of a text: both cut it alike; the Raws of tokens. -/
import Derived.Test.YtdapgmigogpdcaaGreatDoorTrc
namespace Go.Proofs.YtdapgmigogpdcaaGreatDoor.Tk
open _root_.Go.Proofs.Tryz Go Go.Eng Bld Trm Css
set_option linter.unusedVariables false
set_option linter.unusedSimpArgs false
set_option maxHeartbeats 4000000
set_option maxRecDepth 100000
abbrev Tok:=Int×Bs×Bs×Int
theorem beg_some {s:Bs} (h:begM s=true):1≤(nmN s.length s).2:=by
 match s with
 | []=>cases h
 | c::r =>
  cases he:escM (c::r)
  ·have hs:signM (c.toNat:Int)=true:=by
    rw [beg_cons] at h
    split at h
    ·rename_i hc
     rw [Bool.and_eq_true] at hc
     have:c=45:=by simpa using hc.1
     subst this
     decide +kernel
    rw [he,Bool.or_false] at h
    unfold signM signj3M
    rw [h]; rfl
   show 1≤(nmN (r.length+1) (c::r)).2
   rw [nmN_cons _ c r he,if_t hs]
   simp
  have hl:=esc_len he
  match r,he,hl with
  | d::r,he,_ =>
   show 1≤(nmN (r.length+1+1) (c::d::r)).2
   rw [nmN_esc _ c d r he]
   simp
theorem take_len {s:Bs} {n:Nat} (h:1≤n) (hs:1≤s.length):1≤(s.take n).length∧(s.take n).length≤s.length:=by
 rw [List.length_take]; omega
theorem first_raw {s:Bs} (hp:firstP s):1≤(firstM s).2.1.length∧(firstM s).2.1.length≤s.length:=by
 obtain ⟨h,hne,hlt⟩:=hp
 have hs:1≤s.length:=List.length_pos_iff.mpr hne
 have hw:=sp_wrap h
 have hall:1≤s.length∧s.length≤s.length:=⟨hs,Nat.le_refl _⟩
 have nm:∀ (q:Int) (i:Nat),i≤s.length→(1≤i∨begM s=true∧i=0)→1≤(namedM q s (i:Int)).2.1.length∧(namedM q s (i:Int)).2.1.length≤s.length:=fun q i hi ho=>by
  rw [named_eq h q hi]
  refine take_len ?_ hs
  have h1:=nameS_len (nameP_drop h i)
  unfold rsaidS
  rw [tnc]
  rcases ho with ho | ⟨ho,rfl⟩
  ·simp only; omega
  have:=beg_some ho
  simp only [List.drop_zero]
  unfold nameS
  simp only
  omega
 have f88:∀ c,1≤(firstj88M s c).2.1.length∧(firstj88M s c).2.1.length≤s.length:=fun c=>by
  rw [tail_eq]; exact take_len dc hs
 have n0:=nm 1 0 (Nat.zero_le _)
 have n4:=nm 4 1 hs (.inl (Nat.le_refl _))
 have n3:=nm 3 1 hs (.inl (Nat.le_refl _))
 unfold firstM
 rw [hw]
 split
 ·rename_i hc
  have:=of_decide_eq_true hc
  exact take_len om hs
 split
 ·rename_i hc
  have e:=note_eq h hc
  have:(firstj21M s).2.1=(rnoteS s).2.1:=by rw [e]; rfl
  rw [this]
  unfold rnoteS
  simp only
  split
  ·exact take_len om hs
  exact hall
 split
 ·show 1≤(textS s).2.1.length∧_
  unfold textS txR
  simp only
  split
  ·exact take_len om hs
  split
  ·exact take_len om hs
  exact hall
 unfold firstj43M firstj49M
 split
 ·exact n4
 split
 ·exact n3
 split
 ·rename_i hc
  have hc:=of_decide_eq_true hc
  have:=numS_ok h
  show 1≤(numberM s (numS s).1 (numS s).2).2.1.length∧_
  obtain ⟨i,hi⟩:∃ k:Nat,(numS s).2=(k:Int):=⟨(numS s).2.toNat,by omega⟩
  rw [hi] at hc this ⊢
  have h1:=nameS_len (nameP_drop h i)
  rw [List.length_drop] at h1
  have h2:=h
  unfold nameP at h2
  unfold numberM numberj5M numberV0
  simp only
  rw [w64 (x:=(i:Int)+1) om,tnc,w64 om]
  split
  ·exact take_len om hs
  split <;> exact take_len om hs
 split
 ·rename_i hB
  have:=n0 (.inr ⟨hB,rfl⟩)
  have hn0:((0:Nat):Int)=0:=rfl
  rw [hn0] at this
  show 1≤(firstV4 s).length∧(firstV4 s).length≤s.length
  unfold firstV4
  split
  ·have h2:=h
   unfold nameP at h2
   rw [w64 om]
   exact take_len om hs
  exact this
 exact f88 _
/-- a text cut into tokens -/
def cutN:Nat→Bs→List Tok
 | 0,_=>[]
 | k+1,s=>if s=[] then [] else firstM s::cutN k (s.drop (firstM s).2.1.length)
def cutS (s:Bs):List Tok:=cutN s.length s
def cutP (s:Bs):Prop:=s.length<4294967281
theorem cut_first {s:Bs} (h:cutP s) (hne:s≠[]):firstP s:=⟨by unfold cutP at h; unfold nameP; omega,hne,h⟩
theorem cut_loop (K:List Tok→Prop):∀ (k:Nat) (s:Bs) (out:List Tok),s.length≤k→out.length+s.length<4294967281→K (out++cutN k s)→cutl7 K (k+1) s out:=by
 intro k
 induction k with
 | zero =>
  intro s out h1 h2 hK
  obtain rfl:s=[]:=List.eq_nil_of_length_eq_zero om
  refine ⟨(fun h=>by cases h),fun _=>?_⟩
  simpa [cutN] using hK
 | succ k ih =>
  intro s out h1 h2 hK
  by_cases hs:s=[]
  ·subst hs
   refine ⟨(fun h=>by cases h),fun _=>?_⟩
   simpa [cutN] using hK
  have hf:=cut_first (s:=s) (by unfold cutP; omega) hs
  have hr:=first_raw hf
  refine ⟨fun _=>⟨hf,by simp; omega,by omega,by omega,by omega,?_⟩,fun h=>absurd (by simpa using h) hs⟩
  rw [tnc]
  refine ih _ _ (by rw [List.length_drop]; omega) (by rw [List.length_drop]; simp; omega) ?_
  have e:cutN (k+1) s=firstM s::cutN k (s.drop (firstM s).2.1.length):=if_neg hs
  rw [e] at hK
  rw [List.append_assoc]
  exact hK
theorem cut_F (s:Bs) (hp:cutP s):cutF s (fun r=>r=cutS s) :=
 ⟨_,cut_loop _ s.length s [] (Nat.le_refl _) (by unfold cutP at hp; simpa using hp) (by simp [cutS])⟩
theorem cut_c {g:Ghost} (xs:Bs) (hG0:SomeInt g 0)  (hp:cutP xs):CallsH prog 31 #[sv xs] g [] (fun g' H' v=>∃ (y0:Option Addr) (u0:Nat),v=.slice y0 (cutS xs).length u0∧Rep g' (.slice yK) [.slice y0 (cutS xs).length u0] (cutS xs)∧H'=[]) :=
 (cut_ok xs hG0 _ (cut_F xs hp)).mono (by rintro g' H' v _ ⟨r0,y0,u0,rfl,s0,rfl,hK⟩; subst hK; exact ⟨y0,u0,rfl,s0,rfl⟩)
def rtoksl7b (K:(List KT)→Prop) (z0:Bs) (v0:List KT) (C7:Bs→List KT→Prop):Prop :=
 ((decide ((z0.length:Int)>0))=true→firstP z0∧(v0++([((firstM z0).1,(firstM z0).2.1,(firstM z0).2.2.1,(firstM z0).2.2.2)]:List KT)).length≤2932031007402∧0≤(((firstM z0).2.1).length:Int)∧((((firstM z0).2.1).length:Int):Int)≤(z0.length:Int)∧(z0.length:Int)≤(z0.length:Int)∧C7 (z0.drop (Int.toNat (((firstM z0).2.1).length:Int))) (v0++([((firstM z0).1,(firstM z0).2.1,(firstM z0).2.2.1,(firstM z0).2.2.2)]:List KT)))∧((decide ((z0.length:Int)>0))=false→K v0)
def rtoksl7 (K:(List KT)→Prop):Nat→Bs→List KT→Prop
 | 0,_,_=>False
 | k+1,z0,v0=>rtoksl7b K z0 v0 (rtoksl7 K k)
def rtoksF (xs:Bs) (K:(List KT)→Prop):Prop :=
 ∃ k,rtoksl7 K k xs ([]:List KT)
theorem rtoks_ok {g:Ghost} (xs:Bs) (K:(List KT)→Prop)
  (hF:rtoksF xs K):CallsH prog 104 #[sv xs] g [] (fun g' H' v=>∃ (r0:List KT),∃ (y0:Option Addr) (u0:Nat),v=.slice y0 r0.length u0∧Rep g' (.slice yK) [.slice y0 r0.length u0] r0∧H'=[]∧K r0):=by
 refine CallsH.en 20 func104 rfl fun w0=>?_
 refine Ok.sr (Ok.B 1 [(0,sv xs)] kr (Ok.nt (Ok.sr (Ok.b 1 [0] [(3,.slice none 0 0)] ?_))))
 have hL1:RepL g yK [] []:=rfl
 refine Ok.ownNil 98 4 (Ok.nt (Ok.q (Ok.block ?_)))
 obtain ⟨k,hF⟩:=hF
 refine Ok.L (fun k a W=>∃ gl7:Ghost,Gext w0 g gl7∧∃ (z0:Bs) (q0:Option Addr) (k0:Nat) (v0:List KT) (j0:List Value),RepL gl7 yK j0 v0∧StA 20 [(0,sv z0),(3,.slice q0 v0.length k0)] a∧StW w0 [.own (.slice q0 v0.length k0) 98 4 v0.length j0] gl7 W∧rtoksl7 K k z0 v0) k ?_ ?_
 ·
  exact fun _ _ u v=>⟨g,Gext.r w0 g,xs,none,0,([]:List KT),[],hL1,fA u v hF⟩
 clear hF
 rintro (_ | k7) _ _ ⟨gl7,b0,z0,q0,k0,v0,j0,x0,q⟩
 exact (q.2.2:False).elim
 refine jn (fun hF=>?_) _ _ q
 refine Ok.q (Ok.sr (Ok.b 3 [0,3] [(7,.bool (decide ((z0.length:Int)>0)))] ?_))
 refine Ok.nt (Ok.cw hF (fun hc2 hF=>?_) (fun hc2 hF=>?_))
 ·refine Ok.k (Ok.t (Ok.block (Ok.sr (Ok.b 1 [0,3] [(8,sv z0)] ?_))))
  obtain ⟨hp3,hF⟩:=hF
  refine Ok.o (OpOk.f enr (fun W hW=>rtok_c z0 hp3) rfl ?_)
  refine Ok.o (OpOk.aw zK fun bs4=>?_)
  refine Ok.o (OpOk.sw 0 (aK (firstM z0)) rfl rfl rfl ?_)
  refine Ok.nt (Ok.sr (Ok.b 1 [0] [(4,pv bs4 0),(10,.slice q0 v0.length k0)] ?_))
  refine Ok.o (OpOk.s (v:=.agg (aK (firstM z0))) (Yields.loadAgg 0 4 (aK (firstM z0)) rfl rfl underlying98 rfl kr kr kr) rfl rfl ?_)
  have hL5:RepL gl7 yK ((vK (firstM z0)):List Value) ([((firstM z0).1,(firstM z0).2.1,(firstM z0).2.2.1,(firstM z0).2.2.2)]:List KT):=(RepL.consN (c:=vK (firstM z0)) ⟨[iv (firstM z0).1],[sv ((firstM z0).2.1),sv ((firstM z0).2.2.1),iv (firstM z0).2.2.2],rfl,rfl,⟨[sv ((firstM z0).2.1)],[sv ((firstM z0).2.2.1),iv (firstM z0).2.2.2],rfl,rfl,⟨[sv ((firstM z0).2.2.1)],[iv (firstM z0).2.2.2],rfl,rfl,rfl⟩⟩⟩ rfl)
  refine Ok.o (OpOk.lit (E:=98) yK ([((firstM z0).1,(firstM z0).2.1,(firstM z0).2.2.1,(firstM z0).2.2.2)]:List KT) ((vK (firstM z0)):List Value) kr kr rfl kr hL5 rfl fun b5=>?_)
  obtain ⟨hb6,hF⟩:=hF
  refine Ok.o (OpOk.append' (e:=yK) 48 2932031007402 2 0 rfl rfl rfl rfl x0 hL5 underlying67 kr kr kr hb6 rfl fun a6 c6 xs6 hL6=>?_)
  refine Ok.b 1 [0,4] [(3,.slice a6 (v0++([((firstM z0).1,(firstM z0).2.1,(firstM z0).2.2.1,(firstM z0).2.2.2)]:List KT)).length c6)] ?_
  refine Ok.nt (Ok.r (Ok.rn 4 [.e 1] [3] [(14,sv z0),(17,iv (((firstM z0).2.1).length:Int))] ?_))
  obtain ⟨h07,h17,h27,hF⟩:=hF
  refine Ok.o (OpOk.s (Yields.ss (s:=z0) (l:=(((firstM z0).2.1).length:Int)) (h:=(z0.length:Int)) kr underlying9 (.inl ⟨_,_,rfl,rfl⟩) (.inr ⟨rfl,rfl⟩) h07 h17 h27 (z0.drop (Int.toNat (((firstM z0).2.1).length:Int))) (by rw [show (z0.length:Int).toNat=z0.length from tnc _,List.take_length])) rfl rfl (Ok.b 1 [3] [(0,sv (z0.drop (Int.toNat (((firstM z0).2.1).length:Int))))] ?_))
  refine Ok.j (Ok.kn (Ok.t ?_))
  exact fun _ _ u v=>⟨k7,nl,gl7,b0,z0.drop (Int.toNat (((firstM z0).2.1).length:Int)),a6,c6,(v0++([((firstM z0).1,(firstM z0).2.1,(firstM z0).2.2.1,(firstM z0).2.2.2)]:List KT)),xs6,hL6,fA u v hF⟩
 refine Ok.x (Ok.thenE (Ok.thenE (Ok.blockHit (Ok.t (Ok.sr (Ok.B 2 [(2,.slice q0 v0.length k0)] kr (Ok.nt (Ok.ret (Ok.frz 0 rfl x0 fun g8 hx8 hRf8=>?_)))))))))
 exact Ok.h1 (.slice q0 v0.length k0) (b0.trans hx8) ⟨v0,q0,k0,rfl,hRf8,rfl,hF⟩
theorem rtoks_loop (K:List Tok→Prop):∀ (k:Nat) (s:Bs) (out:List Tok),s.length≤k→out.length+s.length<4294967281→K (out++cutN k s)→rtoksl7 K (k+1) s out:=by
 intro k
 induction k with
 | zero =>
  intro s out h1 h2 hK
  obtain rfl:s=[]:=List.eq_nil_of_length_eq_zero om
  refine ⟨(fun h=>by cases h),fun _=>?_⟩
  simpa [cutN] using hK
 | succ k ih =>
  intro s out h1 h2 hK
  by_cases hs:s=[]
  ·subst hs
   refine ⟨(fun h=>by cases h),fun _=>?_⟩
   simpa [cutN] using hK
  have hf:=cut_first (s:=s) (by unfold cutP; omega) hs
  have hr:=first_raw hf
  refine ⟨fun _=>⟨hf,by simp; omega,by omega,by omega,by omega,?_⟩,fun h=>?_⟩
  ·rw [tnc]
   refine ih _ _ (by rw [List.length_drop]; omega) (by rw [List.length_drop]; simp; omega) ?_
   have e:cutN (k+1) s=firstM s::cutN k (s.drop (firstM s).2.1.length):=if_neg hs
   rw [e] at hK
   rw [List.append_assoc]
   exact hK
  have:=of_decide_eq_false h
  omega
theorem rtoks_F (s:Bs) (hp:cutP s):rtoksF s (fun r=>r=cutS s) :=
 ⟨_,rtoks_loop _ s.length s [] (Nat.le_refl _) (by unfold cutP at hp; simpa using hp) (by simp [cutS])⟩
theorem rtoks_c {g:Ghost} (xs:Bs)  (hp:cutP xs):CallsH prog 104 #[sv xs] g [] (fun g' H' v=>∃ (y0:Option Addr) (u0:Nat),v=.slice y0 (cutS xs).length u0∧Rep g' (.slice yK) [.slice y0 (cutS xs).length u0] (cutS xs)∧H'=[]) :=
 (rtoks_ok xs _ (rtoks_F xs hp)).mono (by rintro g' H' v _ ⟨r0,y0,u0,rfl,s0,rfl,hK⟩; subst hK; exact ⟨y0,u0,rfl,s0,rfl⟩)
/-- the Raws of tokens -/
def rawS (l:List Tok):Bs:=(l.map fun t=>t.2.1).flatten
def rawP (l:List Tok):Prop:=(rawS l).length≤140737488351232∧l.length≤140737488351232
end Go.Proofs.YtdapgmigogpdcaaGreatDoor.Tk
