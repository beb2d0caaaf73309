/- csstok: what text computes; numbers with units, and names. -/
import Derived.Test.YtdapgmigogpdcaaGreatDoorCsp
namespace Go.Proofs.YtdapgmigogpdcaaGreatDoor.Css
open _root_.Go.Proofs.Tryz Go Go.Eng Bld Trm
set_option linter.unusedVariables false
set_option linter.unusedSimpArgs false
theorem sdCsta {p:Prop} (h:p:=by first | exact hp.2.2 | exact hp.2.1 | exact (ahead_ok hp.1 hp.2.1 hp.2.2).2 | exact (ahead_ok hp.1 hp.2.1 hp.2.2).1 | exact nameP_drop hp.1 _ | omega | assumption | exact trivial | (have h0:=List.length_pos_iff.mpr asm; omega) | (simp; omega) | (simp at *; omega)):p:=h
set_option maxHeartbeats 4000000
set_option maxRecDepth 100000
/-- what a text between quotes says, how many bytes behind its first one are read, and how it ends: 0 closed, 1 by a line's end, 2 by the text's end -/
def txN:Nat→UInt8→Bs→Bs×Nat×Nat
 | 0,_,_=>([],0,2)
 | _+1,_,[]=>([],0,2)
 | k+1,q,c::r=>if c=q then ([],0,0) else if c=10 then ([],0,1) else
  match decide (c=92),r with
  | true,d::r'=>(d::(txN k q r').1,(txN k q r').2.1+2,(txN k q r').2.2)
  | _,_=>(c::(txN k q r).1,(txN k q r).2.1+1,(txN k q r).2.2)
def txR (s v:Bs) (n:Nat) (w:Nat):Int×Bs×Bs×Int :=
 if w=0 then (5,s.take (n+2),v,0) else if w=1 then (6,s.take (n+1),[],0) else (6,s,[],0)
def textS (s:Bs):Int×Bs×Bs×Int :=
 let t:=txN s.length (s.getD 0 0) (s.drop 1)
 txR s t.1 t.2.1 t.2.2
theorem txN_q (k:Nat) (q:UInt8) (r:Bs):txN (k+1) q (q::r)=([],0,0):=if_pos rfl
theorem txN_n (k:Nat) (q c:UInt8) (r:Bs) (h:c≠q) (h1:c=10):txN (k+1) q (c::r)=([],0,1):=by
 show (if c=q then _ else if c=10 then _ else _)=_
 rw [if_neg h,if_pos h1]
theorem txN_e (k:Nat) (q c d:UInt8) (r:Bs) (h:c≠q) (h1:c≠10) (h2:c=92):txN (k+1) q (c::d::r)=(d::(txN k q r).1,(txN k q r).2.1+2,(txN k q r).2.2):=by
 subst h2
 show (if _ then _ else if _ then _ else _)=_
 rw [if_neg h,if_neg h1]; rfl
theorem txN_c (k:Nat) (q c:UInt8) (r:Bs) (h:c≠q) (h1:c≠10) (h2:c≠92∨r=[]):txN (k+1) q (c::r)=(c::(txN k q r).1,(txN k q r).2.1+1,(txN k q r).2.2):=by
 show (if _ then _ else if _ then _ else _)=_
 rw [if_neg h,if_neg h1]
 rcases h2 with h2 | rfl
 ·rw [decide_eq_false h2]
 cases decide (c=92) <;> rfl
def textP (s:Bs):Prop:=s.length≤140737488351232∧s≠[]
theorem byte_eq (a b:UInt8):(((a.toNat:Int)==(b.toNat:Int))=true↔a=b):=by
 rw [beq_iff_eq]
 exact ⟨fun h=>UInt8.toNat_inj.1 om,fun h=>by rw [h]⟩
theorem text_loop (xs:Bs) (hP:textP xs) (K:KT→Prop):∀ (k i:Nat) (acc:List Int),xs.length≤i+k→1≤i→i≤xs.length→acc.length≤i→intsOf (bytesOf acc)=acc →
  K (txR xs (bytesOf acc++(txN k (xs.getD 0 0) (xs.drop i)).1) (i - 1+(txN k (xs.getD 0 0) (xs.drop i)).2.1) (txN k (xs.getD 0 0) (xs.drop i)).2.2)→textl9 xs K (k+1) (i:Int) acc:=by
 obtain ⟨hP,hne⟩:=hP
 have hpos:=List.length_pos_iff.mpr hne
 intro k
 induction k with
 | zero =>
  intro i acc h1 h0 h2 h3 h4 hK
  refine ⟨fun h=>od h,fun h=>?_⟩
  simpa [txN,txR] using hK
 | succ k ih =>
  intro i acc h1 h0 h2 h3 h4 hK
  refine ⟨fun h=>?_,fun h=>?_⟩
  ·have hi:i<xs.length:=od h
   have hd:=drop_get (l:=xs) (0:UInt8) hi
   rw [hd] at hK
   rw [tnc,Int.toNat_zero]
   refine ⟨by omega,by omega,by omega,by omega,fun hq=>?_,fun hq=>?_⟩
   ·have hq:=(byte_eq _ _).1 hq
    rw [hq,txN_q] at hK
    rw [w64 om]
    refine ⟨by omega,by omega,by omega,h4,?_⟩
    have e:((i:Int)+1).toNat=i - 1+0+2:=by omega
    rw [e]
    simpa [txR] using hK
   have hq:xs.getD i 0≠xs.getD 0 0:=fun e=>by rw [(byte_eq _ _).2 e] at hq; cases hq
   refine ⟨fun hn=>?_,fun hn=>?_⟩
   ·have hn:xs.getD i 0=10:=(byte_eq _ 10).1 hn
    rw [txN_n _ _ _ _ hq hn] at hK
    refine ⟨by omega,by omega,by omega,?_⟩
    have e:i=i - 1+0+1:=by omega
    rw [e]
    simpa [txR] using hK
   have hn:xs.getD i 0≠10:=fun e=>by rw [e] at hn; exact absurd hn dc
   unfold textj16
   rw [tnc]
   refine ⟨fun hc=>?_,fun hc=>?_⟩
   ·have hc':=hc
    rw [Bool.and_eq_true] at hc'
    have h92:xs.getD i 0=92:=(byte_eq _ 92).1 hc'.1
    have hlt:=of_decide_eq_true hc'.2
    rw [w64 om] at hlt
    have hd2:=drop_get (l:=xs) (0:UInt8) (show i+1<xs.length by omega)
    rw [hd2,txN_e _ _ _ _ _ hq hn h92] at hK
    rw [if_t hc,if_t hc,w64 (x:=(i:Int)+1) om,w64 om,show ((i:Int)+1).toNat=i+1 by omega]
    refine ⟨by omega,by omega,by unfold wbP; omega,?_⟩
    refine ih (i+2) (acc++[((xs.getD (i+1) 0).toNat:Int)]) om om om (by simp; omega) (by rw [st_snoc h4]) ?_
    rw [bytes_snoc,List.append_assoc,show i+2 - 1+(txN k (xs.getD 0 0) (xs.drop (i+2))).2.1=i - 1+((txN k (xs.getD 0 0) (xs.drop (i+2))).2.1+2) by omega]
    exact hK
   have h92:xs.getD i 0≠92∨xs.drop (i+1)=[]:=by
    rw [Bool.and_eq_false_iff] at hc
    rcases hc with hc | hc
    ·exact .inl fun e=>by rw [e] at hc; exact absurd hc dc
    have:=of_decide_eq_false hc
    rw [w64 om] at this
    exact .inr (List.drop_of_length_le om)
   rw [txN_c _ _ _ _ hq hn h92] at hK
   rw [if_f hc,if_f hc,w64 om]
   refine ⟨by unfold wbP; omega,?_⟩
   refine ih (i+1) (acc++[((xs.getD i 0).toNat:Int)]) om om om (by simp; omega) (by rw [st_snoc h4]) ?_
   rw [bytes_snoc,List.append_assoc,show i+1 - 1+(txN k (xs.getD 0 0) (xs.drop (i+1))).2.1=i - 1+((txN k (xs.getD 0 0) (xs.drop (i+1))).2.1+1) by omega]
   exact hK
  have hi:i=xs.length:=oe h
  subst hi
  rw [List.drop_length] at hK
  simpa [txN,txR] using hK
theorem text_F (s:Bs) (hp:textP s):textF s (fun r=>r=textS s):=by
 have hpos:=List.length_pos_iff.mpr hp.2
 exact ⟨s.length+1,text_loop s hp (fun r=>r=textS s) s.length 1 [] om om om (by simp) rfl (by simp [textS,bytesOf])⟩
theorem text_c {g:Ghost} (xs:Bs)  (hp:textP xs):CallsG prog 90 #[sv xs] g (.agg (aK (textS xs))) :=
 (text_ok xs _ (text_F xs hp)).gv
def namedP (_:Int) (s:Bs) (a:Int):Prop:=nameP s∧0≤a∧a≤s.length
theorem nameP_drop {s:Bs} (h:nameP s) (i:Nat):nameP (s.drop i):=by unfold nameP at h ⊢; rw [List.length_drop]; omega
theorem nameS_len {s:Bs} (h:nameP s):0≤(nameS s).2∧(nameS s).2≤s.length:=by
 have:=nmN_len s.length s
 unfold nameS
 simp only
 omega
theorem nameS_val {s:Bs} (h:nameP s):(nameS s).1.length≤140737488351232:=by
 have:=nmN_len s.length s
 unfold nameP at h
 unfold nameS
 simp only
 omega
theorem ahead_ok {s:Bs} {a:Int} (h:nameP s) (h0:0≤a) (h1:a≤s.length):0≤w6 (a+(nameS (s.drop a.toNat)).2)∧w6 (a+(nameS (s.drop a.toNat)).2)≤s.length:=by
 have:=nameS_len (nameP_drop h a.toNat)
 rw [List.length_drop] at this
 unfold nameP at h
 rw [w64 om]
 omega
def namedF (xkind:Int) (xs:Bs) (xahead:Int) (K:KT→Prop):Prop :=
 0≤xahead∧(xahead:Int)≤(xs.length:Int)∧(xs.length:Int)≤(xs.length:Int)∧nameP (xs.drop xahead.toNat)∧(0:Int)≤0∧0≤(w6 (xahead+(nameS (xs.drop xahead.toNat)).2))∧(w6 (xahead+(nameS (xs.drop xahead.toNat)).2))≤(xs.length:Int)∧K (xkind,xs.take (Int.toNat (w6 (xahead+(nameS (xs.drop xahead.toNat)).2))),(nameS (xs.drop xahead.toNat)).1,0)
theorem named_ok {g:Ghost} (xkind:Int) (xs:Bs) (xahead:Int) (K:KT→Prop)
  (hF:namedF xkind xs xahead K):CallsH prog 93 #[iv xkind,sv xs,iv xahead] g [] (fun g' H' v=>∃ (r0:Int×Bs×Bs×Int),v=.agg (aK r0)∧H'=[]∧K r0):=by
 refine CallsH.en 24 func93 rfl fun w0=>?_
 refine Ok.sr (Ok.o (OpOk.aw zK fun bs6=>?_))
 refine Ok.nt (Ok.sr (Ok.B 2 [(0,iv xkind),(1,sv xs),(2,iv xahead),(6,pv bs6 0),(10,sv xs),(11,iv xahead)] kr ?_))
 obtain ⟨h02,h12,h22,hF⟩:=hF
 refine Ok.o (OpOk.s (Yields.ss (s:=xs) (l:=xahead) (h:=(xs.length:Int)) kr underlying9 (.inl ⟨_,_,rfl,rfl⟩) (.inr ⟨rfl,rfl⟩) h02 h12 h22 (xs.drop xahead.toNat) (tkd _ _)) rfl rfl ?_)
 obtain ⟨hp3,hF⟩:=hF
 refine Ok.rn 6 [.k (name_c (xs.drop xahead.toNat) hp3)] [0,1,2,6] [(7,sv ((nameS (xs.drop xahead.toNat)).1)),(8,iv (nameS (xs.drop xahead.toNat)).2)] ?_
 refine Ok.nt (Ok.sr (Ok.b 5 [6,7] [(16,iv xkind),(17,sv xs),(20,iv (w6 (xahead+(nameS (xs.drop xahead.toNat)).2)))] ?_))
 obtain ⟨h04,h14,h24,hF⟩:=hF
 refine Ok.o (OpOk.s (Yields.ss (s:=xs) (l:=0) (h:=(w6 (xahead+(nameS (xs.drop xahead.toNat)).2))) kr underlying9 (.inr ⟨rfl,rfl⟩) (.inl ⟨_,_,rfl,rfl⟩) h04 h14 h24 (xs.take (Int.toNat (w6 (xahead+(nameS (xs.drop xahead.toNat)).2)))) (by simp)) rfl rfl (Ok.b 2 [6] [(23,.agg #[iv xkind,sv (xs.take (Int.toNat (w6 (xahead+(nameS (xs.drop xahead.toNat)).2)))),sv ((nameS (xs.drop xahead.toNat)).1),iv 0])] ?_))
 refine Ok.o (OpOk.sw 0 #[iv xkind,sv (xs.take (Int.toNat (w6 (xahead+(nameS (xs.drop xahead.toNat)).2)))),sv ((nameS (xs.drop xahead.toNat)).1),iv 0] rfl rfl rfl ?_)
 refine Ok.nt (Ok.ret ?_)
 exact Ok.p (vs:=[.agg #[iv xkind,sv (xs.take (Int.toNat (w6 (xahead+(nameS (xs.drop xahead.toNat)).2)))),sv ((nameS (xs.drop xahead.toNat)).1),iv 0]]) [] [] dc rfl (.inl rfl) rfl (.cons (.cellAgg 0 4 #[iv xkind,sv (xs.take (Int.toNat (w6 (xahead+(nameS (xs.drop xahead.toNat)).2)))),sv ((nameS (xs.drop xahead.toNat)).1),iv 0] rfl rfl underlying98 rfl kr kr kr) .nil) (Gext.r w0 g) ⟨(xkind,xs.take (Int.toNat (w6 (xahead+(nameS (xs.drop xahead.toNat)).2))),(nameS (xs.drop xahead.toNat)).1,0),rfl,rfl,hF⟩
def namedM (xkind:Int) (xs:Bs) (xahead:Int):KT:=(xkind,xs.take (Int.toNat (w6 (xahead+(nameS (xs.drop xahead.toNat)).2))),(nameS (xs.drop xahead.toNat)).1,0)
theorem namedF_A (xkind:Int) (xs:Bs) (xahead:Int) (hp:namedP xkind xs xahead) (P:KT→Prop) (h:P (namedM xkind xs xahead)):namedF xkind xs xahead (fun k0=>P k0):=by
 unfold namedM at h
 unfold namedF
 refine ⟨?_,?_,?_,?_⟩
 ·exact sdCsta
 ·exact sdCsta
 ·exact sdCsta
 refine ⟨?_,?_⟩
 ·exact sdCsta
 refine ⟨?_,?_,?_,?_⟩
 ·exact sdCsta
 ·exact sdCsta
 ·exact sdCsta
 exact h
theorem named_F (xkind:Int) (xs:Bs) (xahead:Int) (hp:namedP xkind xs xahead):namedF xkind xs xahead (fun k0=>k0=namedM xkind xs xahead) :=
 namedF_A xkind xs xahead hp (fun z=>z=namedM xkind xs xahead) rfl
theorem named_c {g:Ghost} (xkind:Int) (xs:Bs) (xahead:Int)  (hp:namedP xkind xs xahead):CallsG prog 93 #[iv xkind,sv xs,iv xahead] g (.agg (aK (namedM xkind xs xahead))) :=
 (named_ok xkind xs xahead _ (named_F xkind xs xahead hp)).gv
end Go.Proofs.YtdapgmigogpdcaaGreatDoor.Css
