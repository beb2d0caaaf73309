/- strings.Index. -/
import Derived.Test.YtdapgmigogpdcaaGreatDoorCsu
import Derived.Test.YtdapgmigogpdcaaGreatDoorLaid
namespace Go.Proofs.YtdapgmigogpdcaaGreatDoor.tF
open _root_.Go.Proofs.Tryz Go Go.iQ Go.RowKit jL BF
set_option linter.unusedVariables false
set_option linter.unusedSimpArgs false
theorem dw {p:Prop} (h:p:=by first | (have:=List.length_pos_iff.mpr hp.2.1; omega) | exact hp.1 | exact Int.ofNat_le.2 (Fa _ _) | exact (E_ hp.1 asm).2 | exact (E_ hp.1 asm).1 | exact ⟨hp.1,(Gr hp.1).1,(Gr hp.1).2⟩ | exact ⟨hp.1,om,by (have:=List.length_pos_iff.mpr hp.2.1; omega)⟩ | exact ⟨hp.1,hp.2.1⟩ | exact (Ol hp.1 asm asm).2 | exact (Ol hp.1 asm asm).1 | (have:=ad7 xs ([47,42]:Bs); have:=hp.2.2; unfold WM; omega) | exact (Yu hp.1 _).2 | exact (Yu hp.1 _).1 | exact ⟨by decide,by decide,by decide⟩ | omega | assumption | exact trivial | (have h0:=List.length_pos_iff.mpr asm; omega) | (simp; omega) | (simp at *; omega)):p:=h
set_option maxHeartbeats 4000000
set_option maxRecDepth 100000
def mV (s sub:Bs):Int:=Lib.index s sub
def WM (s _:Bs):Prop:=s.length<4294967281
theorem YN {g:ak} (s sub:Bs) (hG:bP g 0) (hp:WM s sub):bE prog 89 #[sv s,sv sub] g (iv (mV s sub)):=fun W hW=>by
 obtain ⟨cs,T,fz,m,h1,h2⟩:=hG
 refine (Tryz.strings_Index ⟨⟨s⟩⟩ ⟨⟨sub⟩⟩ m W hp (by rw [Lib.cell_of_heap (hW _ _ h1)]; exact h2)).mono fun e W' ⟨he,hw⟩=>⟨he,by subst hw; exact Below.refl _ _⟩
def oD (xs:Bs):Bs :=
 (if (decide ((mV (pO xs ([47,42]:Bs)).1 ([42,47]:Bs))≥0))=true then xs.take (Int.toNat (w6 ((mV (pO xs ([47,42]:Bs)).1 ([42,47]:Bs))+4))) else xs)
def mI (xs:Bs) (e10:UInt8):Bool :=
 (((e10.toNat:Int)==35)&&((decide ((xs.length:Int)>1))&&((kv ((xs.getD (Int.toNat 1) 0).toNat:Int))||(jG (xs.drop (Int.toNat 1))))))
def rZ (xs:Bs) (e10:UInt8):Bool :=
 (((e10.toNat:Int)==64)&&(mJ (xs.drop (Int.toNat 1))))
def nD (xs:Bs):Int :=
 (if (zw (xs.drop (Int.toNat ((cz 1 xs 0).2.1.length:Int))) ([40]:Bs))=true then 2 else (cz 1 xs 0).1)
def kP (xs:Bs):Bs :=
 (if (zw (xs.drop (Int.toNat ((cz 1 xs 0).2.1.length:Int))) ([40]:Bs))=true then xs.take (Int.toNat (w6 (((cz 1 xs 0).2.1.length:Int)+1))) else (cz 1 xs 0).2.1)
def oC (e10:UInt8):Bool :=
 (((e10.toNat:Int)==40)||(((e10.toNat:Int)==91)||((e10.toNat:Int)==123)))
def oz (e10:UInt8):Bool :=
 (((e10.toNat:Int)==41)||(((e10.toNat:Int)==93)||((e10.toNat:Int)==125)))
def uw (xs:Bs) (K:KT→Prop):Prop :=
 K (9,oD xs,([]:Bs),0)
def uq (xs:Bs) (K:KT→Prop):Prop :=
 K (nD xs,kP xs,(cz 1 xs 0).2.2.1,(cz 1 xs 0).2.2.2)
def oL (xs:Bs) (K:KT→Prop) (e10:UInt8):Prop :=
 (oz e10=true→(0:Int)≤0∧(0:Int)≤1∧1≤(xs.length:Int)∧K (11,xs.take (Int.toNat 1),([]:Bs),0))∧(oz e10=false→(((e10.toNat:Int)==92)=true→(0:Int)≤0∧(0:Int)≤1∧1≤(xs.length:Int)∧K (6,xs.take (Int.toNat 1),([]:Bs),0))∧(((e10.toNat:Int)==92)=false→(0:Int)≤0∧(0:Int)≤1∧1≤(xs.length:Int)∧K (12,xs.take (Int.toNat 1),([]:Bs),0)))
def ry (xs:Bs) (K:KT→Prop) (e10:UInt8):Prop :=
 (oC e10=true→(0:Int)≤0∧(0:Int)≤1∧1≤(xs.length:Int)∧K (10,xs.take (Int.toNat 1),([]:Bs),0))∧(oC e10=false→(((e10.toNat:Int)==41)=true→oL xs K e10)∧(((e10.toNat:Int)==41)=false→(((e10.toNat:Int)==93)=true→oL xs K e10)∧(((e10.toNat:Int)==93)=false→oL xs K e10)))
def uu (xs:Bs) (K:KT→Prop) (e10:UInt8):Prop :=
 (rZ xs e10=true→zi 3 xs 1∧K (cz 3 xs 1))∧(rZ xs e10=false→fP xs∧((decide ((iY xs).2>0))=true→A_ xs (iY xs).1 (iY xs).2∧K (ky xs (iY xs).1 (iY xs).2))∧((decide ((iY xs).2>0))=false→(mJ xs=true→zi 1 xs 0∧0≤((cz 1 xs 0).2.1.length:Int)∧(((cz 1 xs 0).2.1.length:Int):Int)≤(xs.length:Int)∧(xs.length:Int)≤(xs.length:Int)∧((zw (xs.drop (Int.toNat ((cz 1 xs 0).2.1.length:Int))) ([40]:Bs))=true→(0:Int)≤0∧0≤(w6 (((cz 1 xs 0).2.1.length:Int)+1))∧(w6 (((cz 1 xs 0).2.1.length:Int)+1))≤(xs.length:Int)∧uq xs K)∧((zw (xs.drop (Int.toNat ((cz 1 xs 0).2.1.length:Int))) ([40]:Bs))=false→uq xs K))∧(mJ xs=false→(((e10.toNat:Int)==40)=true→ry xs K e10)∧(((e10.toNat:Int)==40)=false→(((e10.toNat:Int)==91)=true→ry xs K e10)∧(((e10.toNat:Int)==91)=false→ry xs K e10)))))
def pg (xs:Bs) (K:KT→Prop) (e10:UInt8):Prop :=
 (mI xs e10=true→zi 4 xs 1∧K (cz 4 xs 1))∧(mI xs e10=false→(((e10.toNat:Int)==64)=true→(0:Int)≤1∧(1:Int)≤(xs.length:Int)∧(xs.length:Int)≤(xs.length:Int)∧uu xs K e10)∧(((e10.toNat:Int)==64)=false→uu xs K e10))
def Ik (xs:Bs) (K:KT→Prop):Prop :=
 tlP xs ([32,9,10,12,13]:Bs)∧((decide ((w6 ((xs.length:Int) - ((mZ xs ([32,9,10,12,13]:Bs)).length:Int)))>0))=true→(0:Int)≤0∧0≤(w6 ((xs.length:Int) - ((mZ xs ([32,9,10,12,13]:Bs)).length:Int)))∧(w6 ((xs.length:Int) - ((mZ xs ([32,9,10,12,13]:Bs)).length:Int)))≤(xs.length:Int)∧K (8,xs.take (Int.toNat (w6 ((xs.length:Int) - ((mZ xs ([32,9,10,12,13]:Bs)).length:Int)))),([]:Bs),0))∧((decide ((w6 ((xs.length:Int) - ((mZ xs ([32,9,10,12,13]:Bs)).length:Int)))>0))=false→((pO xs ([47,42]:Bs)).2=true→WM (pO xs ([47,42]:Bs)).1 ([42,47]:Bs)∧((decide ((mV (pO xs ([47,42]:Bs)).1 ([42,47]:Bs))≥0))=true→(0:Int)≤0∧0≤(w6 ((mV (pO xs ([47,42]:Bs)).1 ([42,47]:Bs))+4))∧(w6 ((mV (pO xs ([47,42]:Bs)).1 ([42,47]:Bs))+4))≤(xs.length:Int)∧uw xs K)∧((decide ((mV (pO xs ([47,42]:Bs)).1 ([42,47]:Bs))≥0))=false→uw xs K))∧((pO xs ([47,42]:Bs)).2=false→(0:Int)≤0∧Int.toNat 0<xs.length∧(((((xs.getD (Int.toNat 0) 0).toNat:Int)==39)||(((xs.getD (Int.toNat 0) 0).toNat:Int)==34))=true→NH xs∧K (qJ xs))∧(((((xs.getD (Int.toNat 0) 0).toNat:Int)==39)||(((xs.getD (Int.toNat 0) 0).toNat:Int)==34))=false→((((xs.getD (Int.toNat 0) 0).toNat:Int)==35)=true→((decide ((xs.length:Int)>1))=true→(0:Int)≤1∧Int.toNat 1<xs.length∧((kv ((xs.getD (Int.toNat 1) 0).toNat:Int))=true→pg xs K (xs.getD (Int.toNat 0) 0))∧((kv ((xs.getD (Int.toNat 1) 0).toNat:Int))=false→(0:Int)≤1∧(1:Int)≤(xs.length:Int)∧(xs.length:Int)≤(xs.length:Int)∧pg xs K (xs.getD (Int.toNat 0) 0)))∧((decide ((xs.length:Int)>1))=false→pg xs K (xs.getD (Int.toNat 0) 0)))∧((((xs.getD (Int.toNat 0) 0).toNat:Int)==35)=false→pg xs K (xs.getD (Int.toNat 0) 0)))))
theorem Uh {g:ak} (xs:Bs) (hG0:bP g 0) (K:KT→Prop)
  (hF:Ik xs K):az prog 53 #[sv xs] g [] (fun g' H' v=>∃ (r0:Int×Bs×Bs×Int),v=.agg (aK r0)∧H'=[]∧K r0):=by
 refine aP 132 func53 rfl fun w0=>?_
 refine ae (ai (af.box (v:=sv xs) (cs:=#[sv xs]) rfl kr rfl fun jg=>?_))
 refine ai (bK zK fun eO=>?_)
 refine aa (ae (av 2 [(1,pv jg 0),(2,pv eO 0),(3,.func (.func 86) #[] #[pv jg 0])] kr (aa (aH (aH (gu kr kr (dX.op rfl (fM.s (v:=sv xs) (aR 1 rfl rfl underlying9 rfl kr) rfl rfl (fe 1 [1,2,3] [(15,iv (xs.length:Int))] ?_)))))))))
 refine dX.op rfl (fM.s (v:=sv xs) (aR 1 rfl rfl underlying9 rfl kr) rfl rfl ?_)
 obtain ⟨hp3,hF⟩:=hF
 refine dX.op rfl (fM.f gT (fun W hW=>Zp xs ([32,9,10,12,13]:Bs) hp3) rfl ?_)
 let B:=mZ xs ([32,9,10,12,13]:Bs)
 refine fe 3 [1,2,3] [(4,iv (w6 ((xs.length:Int) - (B.length:Int))))] ?_
 refine kU (Ok.t (ae (ag 2 [1,2,3,4] [(21,.bool (decide ((w6 ((xs.length:Int) - (B.length:Int)))>0)))] ?_)))
 refine aa (aM hF (fun hc4 hF=>?_) (fun hc4 hF=>?_))
 ·refine ae (aj 2 [.e 1] [2] [(22,sv xs),(23,iv (w6 ((xs.length:Int) - (B.length:Int))))] ?_)
  obtain ⟨Ei,H_,h25,hF⟩:=hF
  refine ai (af.s (bZ (s:=xs) (l:=0) (h:=(w6 ((xs.length:Int) - (B.length:Int)))) kr underlying9 (.inr ⟨rfl,rfl⟩) (.inl ⟨_,_,rfl,rfl⟩) Ei H_ h25 (xs.take (Int.toNat (w6 ((xs.length:Int) - (B.length:Int))))) (by simp)) rfl rfl (ag 1 [2] [(25,.agg #[iv 8,sv (xs.take (Int.toNat (w6 ((xs.length:Int) - (B.length:Int))))),sv ([]:Bs),iv 0])] ?_))
  refine ai (af.w 0 ?_)
  refine aa (Ok.ret (aC ?_))
  exact jc 0 [] (bq w0 g) ⟨(8,xs.take (Int.toNat (w6 ((xs.length:Int) - (B.length:Int)))),([]:Bs),0),rfl,rfl,hF⟩
 let E:=pO xs ([47,42]:Bs)
 refine Ok.k (Ok.t (aH (ae (aj 7 [.e 1,.k (aqc xs ([47,42]:Bs))] [1,2,3] [(5,sv (E.1)),(6,.bool E.2)] ?_))))
 refine aa (ae (ag 1 [1,2,3,5] [(31,.bool E.2)] ?_))
 refine aa (aM hF (fun hc6 hF=>?_) (fun hc6 hF=>?_))
 ·let G:=(.cells #[sv (oD xs)] 9:Obj)
  refine gD [(1,pv jg 0),(2,pv eO 0)] [.blk eO (.cells zK 98),.blk jg G] (uw xs K) ?_ (fun hF=>?_)
  ·
   refine aH (aS ?_)
   obtain ⟨Md,hF⟩:=hF
   let C:=mV E.1 ([42,47]:Bs)
   refine aj 3 [.k (YN E.1 ([42,47]:Bs) hG0 Md)] [1,2] [(7,iv C)] ?_
   refine aa (ae (ag 2 [1,2,7] [(35,.bool (decide (C≥0)))] ?_))
   refine aa (aM hF (fun hc8 hF=>?_) (fun hc8 hF=>?_))
   ·refine aS (aj 3 [.e 1] [1,2] [(36,sv xs),(38,iv (w6 (C+4)))] ?_)
    obtain ⟨Eh,h19,P_,hF⟩:=hF
    refine ai (af.s (bZ (s:=xs) (l:=0) (h:=(w6 (C+4))) kr underlying9 (.inr ⟨rfl,rfl⟩) (.inl ⟨_,_,rfl,rfl⟩) Eh h19 P_ (xs.take (Int.toNat (w6 (C+4)))) (by simp)) rfl rfl (ai (dz 1 ?_)))
    refine aa (jZ (E':=.blk jg G) 1 (ay (fun l:List Value=>b_.blk jg (.cells ⟨l⟩ 9)) (iw (ay (fun s:Bs=>Value.string ⟨⟨s⟩⟩) ((aT hc8).symm)) rfl)) ?_)
    exact fz hF
   refine Ok.k (Ok.t (jZ (E':=.blk jg G) 1 (ay (fun l:List Value=>b_.blk jg (.cells ⟨l⟩ 9)) (iw (ay (fun s:Bs=>Value.string ⟨⟨s⟩⟩) ((aF hc8).symm)) rfl)) ?_))
   exact fz hF
  refine ae (aj 2 [.e 1] [2] [(41,.agg #[iv 9,sv (oD xs),sv ([]:Bs),iv 0])] ?_)
  refine ai (af.w 0 ?_)
  refine aa (Ok.ret (aC ?_))
  exact jc 0 [] (bq w0 g) ⟨(9,oD xs,([]:Bs),0),rfl,rfl,hF⟩
 refine Ok.k (Ok.t (aH (ae (ai (af.s (v:=sv xs) (aR 1 rfl rfl underlying9 rfl kr) rfl rfl ?_)))))
 obtain ⟨f0,MF,hF⟩:=hF
 have c0:=aV (l:=xs) (0:UInt8) MF
 generalize atw:(xs.getD (Int.toNat 0) 0)=e10 at c0 hF ⊢
 let A:=(e10.toNat:Int)
 refine ai (af.s (v:=.int .u8 A) (dO (k:=.i64) (i:=0) (s:=xs) (b:=e10) kr kr underlying9 f0 c0) rfl rfl (ag 1 [1,2,3] [(8,.int .u8 A)] ?_))
 refine aa (Ok.block (ae (ag 3 [1,2,3,8] [(47,.bool (A==39))] ?_)))
 let D:=(A==39)||(A==34)
 refine Ok.w 3 [(1,pv jg 0),(2,pv eO 0),(3,.func (.func 86) #[] #[pv jg 0]),(8,.int .u8 A),(50,.bool D)] (fun g0=>?_) ?_
 ·refine Ok.a 47 (A==39) rfl (fun d0=>?_) (fun d0=>?_)
  ·skip
   refine ag 3 [1,2,3,8] [(50,.bool true)] ?_
   refine aB 50 D (df d0) (ag 0 [1,2,3,8] [(50,.bool D)] ?_)
   exact g0
  skip
  refine ag 3 [1,2,3,8] [(50,.bool (A==34))] ?_
  refine aB 50 D (bR d0) (ag 0 [1,2,3,8] [(50,.bool D)] ?_)
  exact g0
 refine ag 1 [1,2,3,8] [(44,.bool D)] ?_
 refine aa (aM hF (fun TG hF=>?_) (fun TG hF=>?_))
 ·refine ae (ai (af.s (v:=sv xs) (aR 1 rfl rfl underlying9 rfl kr) rfl rfl ?_))
  obtain ⟨Tx,hF⟩:=hF
  refine ai (af.f gT (fun W hW=>Zq xs Tx) rfl ?_)
  refine ai (af.w 0 ?_)
  refine aa (Ok.ret (aU (aC ?_)))
  exact jc 0 [] (bq w0 g) ⟨qJ xs,rfl,rfl,hF⟩
 let F:=(.cells zK 98:Obj)
 refine gD [(1,pv jg 0),(2,pv eO 0),(3,.func (.func 86) #[] #[pv jg 0]),(8,.int .u8 A),(53,.bool (mI xs e10))] [.blk eO F,.blk jg (.cells #[sv xs] 9)] (pg xs K e10) ?_ (fun hF=>?_)
 ·
  refine aS (ag 3 [1,2,3,8] [(56,.bool (A==35))] ?_)
  refine bN 56 hF (fun v0 hF=>?_) (fun v0 hF=>?_)
  ·refine aj 5 [.e 1] [1,2,3,8] [(61,.bool (decide ((xs.length:Int)>1)))] ?_
   refine bN 61 hF (fun x0 hF=>?_) (fun x0 hF=>?_)
   ·refine dW (af.s (v:=sv xs) (aR 1 rfl rfl underlying9 rfl kr) rfl rfl ?_)
    obtain ⟨apI,apt,hF⟩:=hF
    have m0:=aV (l:=xs) (0:UInt8) apt
    generalize n0:(xs.getD (Int.toNat 1) 0)=e47 at m0 hF ⊢
    let I:=(e47.toNat:Int)
    refine dW (af.s (v:=.int .u8 I) (dO (k:=.i64) (i:=1) (s:=xs) (b:=e47) kr kr underlying9 apI m0) rfl rfl (aj 2 [.k (Rh I)] [1,2,3,8] [(61,.bool true),(65,.bool (kv I))] ?_))
    refine Ok.a 65 (kv I) rfl (fun q0=>?_) (fun q0=>?_)
    ·replace hF:=hF.1 q0
     refine ag 6 [1,2,3,8] [(53,.bool true)] ?_
     refine bY (Ok.t ?_)
     subst n0
     refine aB 53 (mI xs e10) (au (au (df q0) (aZ x0)) (aZ v0)) ?_
     exact fz hF
    replace hF:=hF.2 q0
    refine dW (af.s (v:=sv xs) (aR 1 rfl rfl underlying9 rfl kr) rfl rfl ?_)
    obtain ⟨apH,aps,apb,hF⟩:=hF
    let H:=xs.drop (Int.toNat 1)
    refine dW (af.s (bZ (s:=xs) (l:=1) (h:=(xs.length:Int)) kr underlying9 (.inl ⟨_,_,rfl,rfl⟩) (.inr ⟨rfl,rfl⟩) apH aps apb H (QW _ _)) rfl rfl (aj 4 [.k (OM H)] [1,2,3,8] [(53,.bool (jG H))] ?_))
    refine bY (Ok.t ?_)
    subst n0
    refine aB 53 (mI xs e10) (au (au (bR q0) (aZ x0)) (aZ v0)) ?_
    exact fz hF
   refine ag 10 [1,2,3,8] [(53,.bool false)] ?_
   refine aa (aB 53 (mI xs e10) (au (bW x0) (aZ v0)) ?_)
   exact fz hF
  refine ag 15 [1,2,3,8] [(53,.bool false)] ?_
  refine aa (aB 53 (mI xs e10) (bW v0) ?_)
  exact fz hF
 refine aM hF (fun HV hF=>?_) (fun HV hF=>?_)
 ·refine ae (ai (af.s (v:=sv xs) (aR 1 rfl rfl underlying9 rfl kr) rfl rfl ?_))
  obtain ⟨Mg,hF⟩:=hF
  refine ai (af.f gT (fun W hW=>Gw 4 xs 1 Mg) rfl ?_)
  refine ai (af.w 0 ?_)
  refine aa (Ok.ret (aU (aC ?_)))
  exact jc 0 [] (bq w0 g) ⟨cz 4 xs 1,rfl,rfl,hF⟩
 refine gD [(1,pv jg 0),(2,pv eO 0),(3,.func (.func 86) #[] #[pv jg 0]),(73,.bool (rZ xs e10))] [.blk eO F,.blk jg (.cells #[sv xs] 9)] (uu xs K e10) ?_ (fun hF=>?_)
 ·
  refine aS (ag 3 [1,2,3] [(76,.bool ((e10.toNat:Int)==64))] ?_)
  refine bN 76 hF (fun e0 hF=>?_) (fun e0 hF=>?_)
  ·refine dW (af.s (v:=sv xs) (aR 1 rfl rfl underlying9 rfl kr) rfl rfl ?_)
   obtain ⟨apK,apv,apc,hF⟩:=hF
   refine dW (af.s (bZ (s:=xs) (l:=1) (h:=(xs.length:Int)) kr underlying9 (.inl ⟨_,_,rfl,rfl⟩) (.inr ⟨rfl,rfl⟩) apK apv apc (xs.drop (Int.toNat 1)) (QW _ _)) rfl rfl (aj 3 [.k (UN (xs.drop (Int.toNat 1)))] [1,2,3] [(73,.bool (mJ (xs.drop (Int.toNat 1))))] ?_))
   refine aa (aB 73 (rZ xs e10) (aZ e0) ?_)
   exact fz hF
  refine ag 5 [1,2,3] [(73,.bool false)] ?_
  refine aa (aB 73 (rZ xs e10) (bW e0) ?_)
  exact fz hF
 refine aM hF (fun hc17 hF=>?_) (fun hc17 hF=>?_)
 ·refine ae (ai (af.s (v:=sv xs) (aR 1 rfl rfl underlying9 rfl kr) rfl rfl ?_))
  obtain ⟨abB,hF⟩:=hF
  refine ai (af.f gT (fun W hW=>Gw 3 xs 1 abB) rfl ?_)
  refine ai (af.w 0 ?_)
  refine aa (Ok.ret (aU (aC ?_)))
  exact jc 0 [] (bq w0 g) ⟨cz 3 xs 1,rfl,rfl,hF⟩
 refine Ok.k (bJ (Ok.t (aH (aH (aS ?_)))))
 obtain ⟨Tv,hF⟩:=hF
 refine aj 7 [.e 1,.k (aax xs Tv)] [1,2,3] [(9,iv (iY xs).1),(10,iv (iY xs).2)] ?_
 refine aa (ae (ag 2 [1,2,3,9,10] [(89,.bool (decide ((iY xs).2>0)))] ?_))
 refine aa (aM hF (fun Mq hF=>?_) (fun Mq hF=>?_))
 ·refine ae (aj 3 [.e 1] [2] [(90,sv xs),(91,iv (iY xs).1),(92,iv (iY xs).2)] ?_)
  obtain ⟨Tu,hF⟩:=hF
  refine ai (af.f gT (fun W hW=>RQ xs (iY xs).1 (iY xs).2 Tu) rfl ?_)
  refine ai (af.w 0 ?_)
  refine aa (Ok.ret (aC ?_))
  exact jc 0 [] (bq w0 g) ⟨ky xs (iY xs).1 (iY xs).2,rfl,rfl,hF⟩
 refine Ok.k (Ok.t (aH (ae (ai (af.s (v:=sv xs) (aR 1 rfl rfl underlying9 rfl kr) rfl rfl (ai (af.f gT (fun W hW=>UN xs) rfl ?_)))))))
 refine aa (aM hF (fun hc22 hF=>?_) (fun hc22 hF=>?_))
 ·refine ae (ai (af.s (v:=sv xs) (aR 1 rfl rfl underlying9 rfl kr) rfl rfl ?_))
  obtain ⟨Tt,hF⟩:=hF
  refine ai (af.f gT (fun W hW=>Gw 1 xs 0 Tt) rfl ?_)
  refine ai (bK zK fun z0=>?_)
  refine ai (af.w 0 ?_)
  refine aa (gD [(2,pv eO 0),(11,pv z0 0)] [.blk z0 (.cells #[iv (nD xs),sv (kP xs),sv ((cz 1 xs 0).2.2.1),iv (cz 1 xs 0).2.2.2] 98),.blk eO F] (uq xs K) ?_ (fun hF=>?_))
  ·
   refine ae (aj 4 [.e 0] [1,2] [(11,pv z0 0),(12,iv ((cz 1 xs 0).2.1.length:Int))] ?_)
   refine aa (ae (aj 2 [.e 2] [1,2,11,12] [(101,sv xs),(102,iv ((cz 1 xs 0).2.1.length:Int))] ?_))
   obtain ⟨DD,Ia,acT,hF⟩:=hF
   refine ai (af.s (bZ (s:=xs) (l:=((cz 1 xs 0).2.1.length:Int)) (h:=(xs.length:Int)) kr underlying9 (.inl ⟨_,_,rfl,rfl⟩) (.inr ⟨rfl,rfl⟩) DD Ia acT (xs.drop (Int.toNat ((cz 1 xs 0).2.1.length:Int))) (QW _ _)) rfl rfl (ai (af.f gT (fun W hW=>abv (xs.drop (Int.toNat ((cz 1 xs 0).2.1.length:Int))) ([40]:Bs)) rfl ?_)))
   refine aa (aM hF (fun y0 hF=>?_) (fun y0 hF=>?_))
   ·refine wz [] [] [0,1,1] [(0,true),(1,true),(2,true),(3,true),(4,true),(5,false),(6,true),(7,false)] ?_
    refine eF.hd (fM.s (v:=sv xs) (aR 1 rfl rfl underlying9 rfl kr) rfl rfl ?_)
    refine iI 2 [2,11] [(105,sv xs),(107,iv (w6 (((cz 1 xs 0).2.1.length:Int)+1)))] ?_
    obtain ⟨T9,h127,acS,hF⟩:=hF
    refine eF.hd (fM.s (v:=sv (xs.take (Int.toNat (w6 (((cz 1 xs 0).2.1.length:Int)+1))))) (bZ (s:=xs) (l:=0) (h:=(w6 (((cz 1 xs 0).2.1.length:Int)+1))) kr underlying9 (.inr ⟨rfl,rfl⟩) (.inl ⟨_,_,rfl,rfl⟩) T9 h127 acS (xs.take (Int.toNat (w6 (((cz 1 xs 0).2.1.length:Int)+1)))) (by simp)) rfl rfl ?_)
    refine iI 1 [2,11] [(108,sv (xs.take (Int.toNat (w6 (((cz 1 xs 0).2.1.length:Int)+1))))),(109,pv z0 0)] ?_
    refine eF.t rfl rfl (dz 0 ?_)
    refine g_ (lC.refl _) (iI 1 [2,11,108] [(110,pv z0 1)] ?_)
    refine eF.t rfl rfl (dz 0 ?_)
    refine g_ (lC.refl _) (eF.nil (Ok.t (jZ (E':=.blk z0 (.cells #[iv (nD xs),sv (kP xs),sv ((cz 1 xs 0).2.2.1),iv (cz 1 xs 0).2.2.2] 98)) 0 (ay (fun l:List Value=>b_.blk z0 (.cells ⟨l⟩ 98)) (iw (ay (Value.int .i64) ((aT y0).symm)) (iw (ay (fun s:Bs=>Value.string ⟨⟨s⟩⟩) ((aT y0).symm)) (iw (rfl) (iw (rfl) rfl))))) ?_)))
    exact fz hF
   refine Ok.k (Ok.t (jZ (E':=.blk z0 (.cells #[iv (nD xs),sv (kP xs),sv ((cz 1 xs 0).2.2.1),iv (cz 1 xs 0).2.2.2] 98)) 0 (ay (fun l:List Value=>b_.blk z0 (.cells ⟨l⟩ 98)) (iw (ay (Value.int .i64) ((aF y0).symm)) (iw (ay (fun s:Bs=>Value.string ⟨⟨s⟩⟩) ((aF y0).symm)) (iw (rfl) (iw (rfl) rfl))))) ?_))
   exact fz hF
  refine ae (ai (af.s (v:=.agg #[iv (nD xs),sv (kP xs),sv ((cz 1 xs 0).2.2.1),iv (cz 1 xs 0).2.2.2]) (a_ 0 4 #[iv (nD xs),sv (kP xs),sv ((cz 1 xs 0).2.2.1),iv (cz 1 xs 0).2.2.2] rfl rfl underlying98 rfl kr kr kr) rfl rfl (ai (af.w 1 ?_))))
  refine aa (Ok.ret (aC ?_))
  exact jc 1 [] (bq w0 g) ⟨(nD xs,kP xs,(cz 1 xs 0).2.2.1,(cz 1 xs 0).2.2.2),rfl,rfl,hF⟩
 refine Ok.k (Ok.t (aH (ae (ai (af.s (v:=sv xs) (aR 1 rfl rfl underlying9 rfl kr) rfl rfl (ai (af.s (v:=.int .u8 (e10.toNat:Int)) (dO (k:=.i64) (i:=0) (s:=xs) (b:=e10) kr kr underlying9 f0 c0) rfl rfl (aa (Ok.block (gD [(2,pv eO 0),(3,.func (.func 86) #[] #[pv jg 0]),(113,.int .u8 (e10.toNat:Int)),(114,.bool (oC e10))] [.blk eO F,.blk jg (.cells #[sv xs] 9)] (ry xs K e10) ?_ (fun hF=>?_)))))))))))
 ·
  refine ae (ag 2 [2,3] [(113,.int .u8 (e10.toNat:Int)),(114,.bool ((e10.toNat:Int)==40))] ?_)
  refine aa (aM hF (fun u0 hF=>?_) (fun u0 hF=>?_))
  ·refine Ok.k (Ok.t (aB 114 (oC e10) (au (u0) (df u0)) ?_))
   exact fz hF
  refine ae (ag 2 [2,3,113] [(114,.bool ((e10.toNat:Int)==91))] ?_)
  refine aa (aM hF (fun s0 hF=>?_) (fun s0 hF=>?_))
  ·refine Ok.k (Ok.t (aB 114 (oC e10) (au (au (s0) (df s0)) (bR u0)) ?_))
   exact fz hF
  refine aS (ag 2 [2,3,113] [(114,.bool ((e10.toNat:Int)==123))] ?_)
  refine aa (aB 114 (oC e10) (au (bR s0) (bR u0)) ?_)
  exact fz hF
 refine aM hF (fun hc28 hF=>?_) (fun hc28 hF=>?_)
 ·refine ae (ag 1 [2] [(118,.func (.func 86) #[] #[pv jg 0])] ?_)
  refine ai (bM (args:=#[iv 10,pv jg 0]) 8 [(0,iv 10),(1,pv jg 0)] gT func86 rfl rfl rfl rfl (ae (ai (bK zK fun XY=>?_))))
  refine aa (ae (av 1 [(1,pv jg 0),(3,pv XY 0),(4,iv 10)] kr (ai (af.s (v:=sv xs) (aR 2 rfl rfl underlying9 rfl kr) rfl rfl ?_))))
  obtain ⟨apO,apA,apg,hF⟩:=hF
  refine ai (af.s (bZ (s:=xs) (l:=0) (h:=1) kr underlying9 (.inr ⟨rfl,rfl⟩) (.inl ⟨_,_,rfl,rfl⟩) apO apA apg (xs.take (Int.toNat 1)) (by simp)) rfl rfl (ag 1 [3] [(7,.agg #[iv 10,sv (xs.take (Int.toNat 1)),sv ([]:Bs),iv 0])] ?_))
  refine ai (af.w 0 ?_)
  refine aa (Ok.ret (bu (vs:=[.agg #[iv 10,sv (xs.take (Int.toNat 1)),sv ([]:Bs),iv 0]]) (.inl rfl) rfl (.cons (.iK 0 4 #[iv 10,sv (xs.take (Int.toNat 1)),sv ([]:Bs),iv 0] rfl rfl underlying98 rfl kr kr kr) .nil) rfl (ai (af.w 1 ?_))))
  refine aa (Ok.ret (aU (aC ?_)))
  exact jc 1 [] (bq w0 g) ⟨(10,xs.take (Int.toNat 1),([]:Bs),0),rfl,rfl,hF⟩
 refine gD [(2,pv eO 0),(3,.func (.func 86) #[] #[pv jg 0]),(113,.int .u8 (e10.toNat:Int)),(120,.bool (oz e10))] [.blk eO F,.blk jg (.cells #[sv xs] 9)] (oL xs K e10) ?_ (fun hF=>?_)
 ·
  refine ae (ag 2 [2,3,113] [(120,.bool ((e10.toNat:Int)==41))] ?_)
  refine aa (aM hF (fun j0 hF=>?_) (fun j0 hF=>?_))
  ·refine Ok.k (Ok.t (aB 120 (oz e10) (au (j0) (df j0)) ?_))
   exact fz hF
  refine ae (ag 2 [2,3,113] [(120,.bool ((e10.toNat:Int)==93))] ?_)
  refine aa (aM hF (fun b0 hF=>?_) (fun b0 hF=>?_))
  ·refine Ok.k (Ok.t (aB 120 (oz e10) (au (au (b0) (df b0)) (bR j0)) ?_))
   exact fz hF
  refine aS (ag 2 [2,3,113] [(120,.bool ((e10.toNat:Int)==125))] ?_)
  refine aa (aB 120 (oz e10) (au (bR b0) (bR j0)) ?_)
  exact fz hF
 refine aM hF (fun hc31 hF=>?_) (fun hc31 hF=>?_)
 ·refine ae (ag 1 [2] [(124,.func (.func 86) #[] #[pv jg 0])] ?_)
  refine ai (bM (args:=#[iv 11,pv jg 0]) 8 [(0,iv 11),(1,pv jg 0)] gT func86 rfl rfl rfl rfl (ae (ai (bK zK fun XX=>?_))))
  refine aa (ae (av 1 [(1,pv jg 0),(3,pv XX 0),(4,iv 11)] kr (ai (af.s (v:=sv xs) (aR 2 rfl rfl underlying9 rfl kr) rfl rfl ?_))))
  obtain ⟨ade,ac2,apf,hF⟩:=hF
  refine ai (af.s (bZ (s:=xs) (l:=0) (h:=1) kr underlying9 (.inr ⟨rfl,rfl⟩) (.inl ⟨_,_,rfl,rfl⟩) ade ac2 apf (xs.take (Int.toNat 1)) (by simp)) rfl rfl (ag 1 [3] [(7,.agg #[iv 11,sv (xs.take (Int.toNat 1)),sv ([]:Bs),iv 0])] ?_))
  refine ai (af.w 0 ?_)
  refine aa (Ok.ret (bu (vs:=[.agg #[iv 11,sv (xs.take (Int.toNat 1)),sv ([]:Bs),iv 0]]) (.inl rfl) rfl (.cons (.iK 0 4 #[iv 11,sv (xs.take (Int.toNat 1)),sv ([]:Bs),iv 0] rfl rfl underlying98 rfl kr kr kr) .nil) rfl (ai (af.w 1 ?_))))
  refine aa (Ok.ret (aU (aC ?_)))
  exact jc 1 [] (bq w0 g) ⟨(11,xs.take (Int.toNat 1),([]:Bs),0),rfl,rfl,hF⟩
 refine ae (ag 2 [2,3] [(126,.bool ((e10.toNat:Int)==92))] ?_)
 refine aa (aM hF (fun hc34 hF=>?_) (fun hc34 hF=>?_))
 ·refine ae (ag 1 [2] [(128,.func (.func 86) #[] #[pv jg 0])] ?_)
  refine ai (bM (args:=#[iv 6,pv jg 0]) 8 [(0,iv 6),(1,pv jg 0)] gT func86 rfl rfl rfl rfl (ae (ai (bK zK fun XW=>?_))))
  refine aa (ae (av 1 [(1,pv jg 0),(3,pv XW 0),(4,iv 6)] kr (ai (af.s (v:=sv xs) (aR 2 rfl rfl underlying9 rfl kr) rfl rfl ?_))))
  obtain ⟨apM,apy,ape,hF⟩:=hF
  refine ai (af.s (bZ (s:=xs) (l:=0) (h:=1) kr underlying9 (.inr ⟨rfl,rfl⟩) (.inl ⟨_,_,rfl,rfl⟩) apM apy ape (xs.take (Int.toNat 1)) (by simp)) rfl rfl (ag 1 [3] [(7,.agg #[iv 6,sv (xs.take (Int.toNat 1)),sv ([]:Bs),iv 0])] ?_))
  refine ai (af.w 0 ?_)
  refine aa (Ok.ret (bu (vs:=[.agg #[iv 6,sv (xs.take (Int.toNat 1)),sv ([]:Bs),iv 0]]) (.inl rfl) rfl (.cons (.iK 0 4 #[iv 6,sv (xs.take (Int.toNat 1)),sv ([]:Bs),iv 0] rfl rfl underlying98 rfl kr kr kr) .nil) rfl (ai (af.w 1 ?_))))
  refine aa (Ok.ret (aU (aC ?_)))
  exact jc 1 [] (bq w0 g) ⟨(6,xs.take (Int.toNat 1),([]:Bs),0),rfl,rfl,hF⟩
 refine Ok.k (bJ (Ok.t (ae (ag 1 [2] [(130,.func (.func 86) #[] #[pv jg 0])] ?_))))
 refine ai (bM (args:=#[iv 12,pv jg 0]) 8 [(0,iv 12),(1,pv jg 0)] gT func86 rfl rfl rfl rfl (ae (ai (bK zK fun XV=>?_))))
 refine aa (ae (av 1 [(1,pv jg 0),(3,pv XV 0),(4,iv 12)] kr (ai (af.s (v:=sv xs) (aR 2 rfl rfl underlying9 rfl kr) rfl rfl ?_))))
 obtain ⟨ac9,acZ,acR,hF⟩:=hF
 refine ai (af.s (bZ (s:=xs) (l:=0) (h:=1) kr underlying9 (.inr ⟨rfl,rfl⟩) (.inl ⟨_,_,rfl,rfl⟩) ac9 acZ acR (xs.take (Int.toNat 1)) (by simp)) rfl rfl (ag 1 [3] [(7,.agg #[iv 12,sv (xs.take (Int.toNat 1)),sv ([]:Bs),iv 0])] ?_))
 refine ai (af.w 0 ?_)
 refine aa (Ok.ret (bu (vs:=[.agg #[iv 12,sv (xs.take (Int.toNat 1)),sv ([]:Bs),iv 0]]) (.inl rfl) rfl (.cons (.iK 0 4 #[iv 12,sv (xs.take (Int.toNat 1)),sv ([]:Bs),iv 0] rfl rfl underlying98 rfl kr kr kr) .nil) rfl (ai (af.w 1 ?_))))
 refine aa (Ok.ret ?_)
 exact jc 1 [] (bq w0 g) ⟨(12,xs.take (Int.toNat 1),([]:Bs),0),rfl,rfl,hF⟩
def nZ (s:Bs):Prop:=fP s∧s≠[]∧s.length<4294967281
theorem Yu {s:Bs} (h:fP s) (c:Bs):0≤w6 ((s.length:Int) - ((mZ s c).length:Int))∧w6 ((s.length:Int) - ((mZ s c).length:Int))≤s.length:=by
 have:=FQ s c
 unfold fP at h
 rw [gp om]
 omega
theorem Gr {s:Bs} (h:fP s):0≤(iY s).2∧(iY s).2≤s.length:=by
 have h1:=MV h
 have h2:=Ym h
 unfold iY
 split
 ·simp
 unfold kX
 unfold fP at h
 generalize w6 ((aX s)+(bS (s.drop (Int.toNat (aX s)))))=e at h1 h2 ⊢
 split
 ·rename_i hc
  have:=h2.2 (dn hc)
  rw [gp (x:=1+numbV2 s) om,gp om]
  omega
 omega
theorem ad7 (s p:Bs):(pO s p).1.length≤s.length:=by
 unfold pO ku
 split <;> simp
theorem Ht:∀ (s sub:Bs),0≤Lib.index s sub→Lib.index s sub+sub.length≤s.length
 | [],sub=>by
  unfold Lib.index
  split
  ·rename_i h; intro _; rw [List.isEmpty_iff.1 h]; simp
  intro h; omega
 | b::l,sub=>by
  unfold Lib.index
  split
  ·rename_i h
   intro _
   have:=(List.isPrefixOf_iff_prefix.1 h).length_le
   omega
  split
  ·intro h; omega
  rename_i h1 h2
  intro h
  have h3:=Lib.index_ge l sub
  have:Lib.index l sub≠-1:=by simpa using h2
  have:=Ht l sub om
  simp only [cK]
  omega
theorem Ol {s:Bs} (h:fP s) (h1:(pO s ([47,42]:Bs)).2=true) (h2:decide ((mV (pO s ([47,42]:Bs)).1 ([42,47]:Bs))≥0)=true) :
  0≤w6 ((mV (pO s ([47,42]:Bs)).1 ([42,47]:Bs))+4)∧w6 ((mV (pO s ([47,42]:Bs)).1 ([42,47]:Bs))+4)≤s.length:=by
 have h2:=dn h2
 have h3:=Ht (pO s ([47,42]:Bs)).1 ([42,47]:Bs) h2
 have h4:(pO s ([47,42]:Bs)).1.length+2=s.length:=by
  unfold pO ku at h1 ⊢
  cases hc:kE s ([47,42]:Bs)
  ·rw [hc,aT (show (!false)=true from rfl)] at h1; cases h1
  rw [aF (show (!true)=false from rfl)]
  have:=nJ hc
  simp at this
  simp
  omega
 unfold mV at h2 ⊢
 unfold fP at h
 simp only [cK,jT] at h3
 rw [gp om]
 omega
theorem Fa (k:Int) (s:Bs):((cz k s 0).2.1).length≤s.length:=by
 unfold cz
 simp only [gz]
 omega
theorem E_ {k:Int} {s:Bs} (h:fP s) (h1:zw (s.drop (Int.toNat (((cz k s 0).2.1).length:Int))) ([40]:Bs)=true) :
  0≤w6 ((((cz k s 0).2.1).length:Int)+1)∧w6 ((((cz k s 0).2.1).length:Int)+1)≤s.length:=by
 have h2:=Fa k s
 have h3:=nJ (s:=s.drop (Int.toNat (((cz k s 0).2.1).length:Int))) (p:=[40]) h1
 rw [gJ] at h3
 simp at h3
 unfold fP at h
 rw [gp om]
 omega
set_option maxHeartbeats 4000000
def rz (xs:Bs):KT:=(9,oD xs,([]:Bs),0)
theorem DN (xs:Bs) (hp:nZ xs) (P:KT→Prop) (h:P (rz xs)):uw xs (fun k0=>P k0):=by
 unfold rz at h
 unfold uw
 exact h
def l_ (xs:Bs):KT:=(nD xs,kP xs,(cz 1 xs 0).2.2.1,(cz 1 xs 0).2.2.2)
theorem DK (xs:Bs) (hp:nZ xs) (P:KT→Prop) (h:P (l_ xs)):uq xs (fun k0=>P k0):=by
 unfold l_ at h
 unfold uq
 exact h
def kI (xs:Bs) (e10:UInt8):KT:=(if (oz e10)=true then (11,xs.take (Int.toNat 1),([]:Bs),0) else (if ((e10.toNat:Int)==92)=true then (6,xs.take (Int.toNat 1),([]:Bs),0) else (12,xs.take (Int.toNat 1),([]:Bs),0)))
theorem uy (xs:Bs) (e10:UInt8) (hp:nZ xs) (P:KT→Prop) (h:P (kI xs e10)):oL xs (fun k0=>P k0) e10:=by
 unfold kI at h
 unfold oL
 refine ⟨fun hc0=>?_,fun hc0=>?_⟩
 ·rw [aT hc0] at h
  refine ⟨?_,?_,?_,?_⟩
  ·exact dw
  ·exact dw
  ·exact dw
  exact h
 rw [aF hc0] at h
 refine ⟨fun hc1=>?_,fun hc1=>?_⟩
 ·rw [aT hc1] at h
  have hd1:=hc1; try simp only [aG,dU,fw,dC,dA,eT,dH,eQ,dI,dR,fV] at hd1
  refine ⟨?_,?_,?_,?_⟩
  ·exact dw
  ·exact dw
  ·exact dw
  exact h
 rw [aF hc1] at h
 have hd1:=hc1; try simp only [aG,dU,fw,dC,dA,eT,dH,eQ,dI,dR,fV] at hd1
 refine ⟨?_,?_,?_,?_⟩
 ·exact dw
 ·exact dw
 ·exact dw
 exact h
def jf (xs:Bs) (e10:UInt8):KT:=(if (oC e10)=true then (10,xs.take (Int.toNat 1),([]:Bs),0) else (kI xs e10))
theorem wX (xs:Bs) (e10:UInt8) (hp:nZ xs) (P:KT→Prop) (h:P (jf xs e10)):ry xs (fun k0=>P k0) e10:=by
 unfold jf at h
 unfold ry
 refine ⟨fun hc0=>?_,fun hc0=>?_⟩
 ·rw [aT hc0] at h
  refine ⟨?_,?_,?_,?_⟩
  ·exact dw
  ·exact dw
  ·exact dw
  exact h
 rw [aF hc0] at h
 refine ⟨fun hc1=>?_,fun hc1=>?_⟩
 ·skip
  have hd1:=hc1; try simp only [aG,dU,fw,dC,dA,eT,dH,eQ,dI,dR,fV] at hd1
  exact uy xs e10 (by exact dw) _ h
 skip
 have hd1:=hc1; try simp only [aG,dU,fw,dC,dA,eT,dH,eQ,dI,dR,fV] at hd1
 refine ⟨fun hc2=>?_,fun hc2=>?_⟩
 ·skip
  have hd2:=hc2; try simp only [aG,dU,fw,dC,dA,eT,dH,eQ,dI,dR,fV] at hd2
  exact uy xs e10 (by exact dw) _ h
 skip
 have hd2:=hc2; try simp only [aG,dU,fw,dC,dA,eT,dH,eQ,dI,dR,fV] at hd2
 exact uy xs e10 (by exact dw) _ h
def oK (xs:Bs) (e10:UInt8):KT:=(if (rZ xs e10)=true then (cz 3 xs 1) else (if (decide ((iY xs).2>0))=true then (ky xs (iY xs).1 (iY xs).2) else (if (mJ xs)=true then (l_ xs) else (jf xs e10))))
theorem DL (xs:Bs) (e10:UInt8) (hp:nZ xs) (P:KT→Prop) (h:P (oK xs e10)):uu xs (fun k0=>P k0) e10:=by
 unfold oK at h
 unfold uu
 refine ⟨fun hc0=>?_,fun hc0=>?_⟩
 ·rw [aT hc0] at h
  refine ⟨?_,?_⟩
  ·exact dw
  exact h
 rw [aF hc0] at h
 refine ⟨?_,?_⟩
 ·exact dw
 refine ⟨fun hc1=>?_,fun hc1=>?_⟩
 ·rw [aT hc1] at h
  have hd1:=dn hc1
  refine ⟨?_,?_⟩
  ·exact dw
  exact h
 rw [aF hc1] at h
 have hd1:=fZ hc1
 refine ⟨fun hc2=>?_,fun hc2=>?_⟩
 ·rw [aT hc2] at h
  refine ⟨?_,?_⟩
  ·exact dw
  refine ⟨?_,?_,?_,?_⟩
  ·exact dw
  ·exact dw
  ·exact dw
  refine ⟨fun hc3=>?_,fun hc3=>?_⟩
  ·skip
   refine ⟨?_,?_,?_,?_⟩
   ·exact dw
   ·exact dw
   ·exact dw
   exact DK xs (by exact dw) _ h
  skip
  exact DK xs (by exact dw) _ h
 rw [aF hc2] at h
 refine ⟨fun hc3=>?_,fun hc3=>?_⟩
 ·skip
  have hd3:=hc3; try simp only [aG,dU,fw,dC,dA,eT,dH,eQ,dI,dR,fV] at hd3
  exact wX xs e10 (by exact dw) _ h
 skip
 have hd3:=hc3; try simp only [aG,dU,fw,dC,dA,eT,dH,eQ,dI,dR,fV] at hd3
 refine ⟨fun hc4=>?_,fun hc4=>?_⟩
 ·skip
  have hd4:=hc4; try simp only [aG,dU,fw,dC,dA,eT,dH,eQ,dI,dR,fV] at hd4
  exact wX xs e10 (by exact dw) _ h
 skip
 have hd4:=hc4; try simp only [aG,dU,fw,dC,dA,eT,dH,eQ,dI,dR,fV] at hd4
 exact wX xs e10 (by exact dw) _ h
def nu (xs:Bs) (e10:UInt8):KT:=(if (mI xs e10)=true then (cz 4 xs 1) else (oK xs e10))
theorem rY (xs:Bs) (e10:UInt8) (hp:nZ xs) (P:KT→Prop) (h:P (nu xs e10)):pg xs (fun k0=>P k0) e10:=by
 unfold nu at h
 unfold pg
 refine ⟨fun hc0=>?_,fun hc0=>?_⟩
 ·rw [aT hc0] at h
  refine ⟨?_,?_⟩
  ·exact dw
  exact h
 rw [aF hc0] at h
 refine ⟨fun hc1=>?_,fun hc1=>?_⟩
 ·skip
  have hd1:=hc1; try simp only [aG,dU,fw,dC,dA,eT,dH,eQ,dI,dR,fV] at hd1
  refine ⟨?_,?_,?_,?_⟩
  ·exact dw
  ·exact dw
  ·exact dw
  exact DL xs e10 (by exact dw) _ h
 skip
 have hd1:=hc1; try simp only [aG,dU,fw,dC,dA,eT,dH,eQ,dI,dR,fV] at hd1
 exact DL xs e10 (by exact dw) _ h
def firstM (xs:Bs):KT:=(if (decide ((w6 ((xs.length:Int) - ((mZ xs ([32,9,10,12,13]:Bs)).length:Int)))>0))=true then (8,xs.take (Int.toNat (w6 ((xs.length:Int) - ((mZ xs ([32,9,10,12,13]:Bs)).length:Int)))),([]:Bs),0) else (if (pO xs ([47,42]:Bs)).2=true then (rz xs) else (if ((((xs.getD (Int.toNat 0) 0).toNat:Int)==39)||(((xs.getD (Int.toNat 0) 0).toNat:Int)==34))=true then (qJ xs) else (nu xs (xs.getD (Int.toNat 0) 0)))))
theorem Ui (xs:Bs) (hp:nZ xs) (P:KT→Prop) (h:P (firstM xs)):Ik xs (fun k0=>P k0):=by
 unfold firstM at h
 unfold Ik
 refine ⟨?_,?_⟩
 ·exact dw
 refine ⟨fun hc0=>?_,fun hc0=>?_⟩
 ·rw [aT hc0] at h
  have hd0:=hc0; try simp only [aG,dU,fw,dC,dA,eT,dH,eQ,dI,dR,fV] at hd0
  refine ⟨?_,?_,?_,?_⟩
  ·exact dw
  ·exact dw
  ·exact dw
  exact h
 rw [aF hc0] at h
 have hd0:=hc0; try simp only [aG,dU,fw,dC,dA,eT,dH,eQ,dI,dR,fV] at hd0
 refine ⟨fun hc1=>?_,fun hc1=>?_⟩
 ·rw [aT hc1] at h
  refine ⟨?_,?_⟩
  ·exact dw
  refine ⟨fun hc2=>?_,fun hc2=>?_⟩
  ·skip
   have hd2:=hc2; try simp only [aG,dU,fw,dC,dA,eT,dH,eQ,dI,dR,fV] at hd2
   refine ⟨?_,?_,?_,?_⟩
   ·exact dw
   ·exact dw
   ·exact dw
   exact DN xs (by exact dw) _ h
  skip
  have hd2:=hc2; try simp only [aG,dU,fw,dC,dA,eT,dH,eQ,dI,dR,fV] at hd2
  exact DN xs (by exact dw) _ h
 rw [aF hc1] at h
 refine ⟨?_,?_,?_⟩
 ·exact dw
 ·exact dw
 refine ⟨fun hc2=>?_,fun hc2=>?_⟩
 ·rw [aT hc2] at h
  have hd2:=hc2; try simp only [aG,dU,fw,dC,dA,eT,dH,eQ,dI,dR,fV] at hd2
  refine ⟨?_,?_⟩
  ·exact dw
  exact h
 rw [aF hc2] at h
 have hd2:=hc2; try simp only [aG,dU,fw,dC,dA,eT,dH,eQ,dI,dR,fV] at hd2
 refine ⟨fun hc3=>?_,fun hc3=>?_⟩
 ·skip
  have hd3:=hc3; try simp only [aG,dU,fw,dC,dA,eT,dH,eQ,dI,dR,fV] at hd3
  refine ⟨fun hc4=>?_,fun hc4=>?_⟩
  ·skip
   have hd4:=dn hc4
   refine ⟨?_,?_,?_⟩
   ·exact dw
   ·exact dw
   refine ⟨fun j4=>?_,fun j4=>?_⟩
   ·skip
    exact rY xs (xs.getD (Int.toNat 0) 0) (by exact dw) _ h
   skip
   refine ⟨?_,?_,?_,?_⟩
   ·exact dw
   ·exact dw
   ·exact dw
   exact rY xs (xs.getD (Int.toNat 0) 0) (by exact dw) _ h
  skip
  have hd4:=fZ hc4
  exact rY xs (xs.getD (Int.toNat 0) 0) (by exact dw) _ h
 skip
 have hd3:=hc3; try simp only [aG,dU,fw,dC,dA,eT,dH,eQ,dI,dR,fV] at hd3
 exact rY xs (xs.getD (Int.toNat 0) 0) (by exact dw) _ h
theorem Xk (xs:Bs) (hp:nZ xs):Ik xs (fun k0=>k0=firstM xs) :=
 Ui xs hp (fun z=>z=firstM xs) rfl
theorem Xj {g:ak} (xs:Bs) (hG0:bP g 0)  (hp:nZ xs):bE prog 53 #[sv xs] g (.agg (aK (firstM xs))) :=
 (Uh xs hG0 _ (Xk xs hp)).gv
end Go.Proofs.YtdapgmigogpdcaaGreatDoor.tF
namespace Go.Proofs.YtdapgmigogpdcaaGreatDoor.tF
open _root_.Go.Proofs.Tryz Go Go.iQ jL BF
set_option linter.unusedVariables false
set_option linter.unusedSimpArgs false
set_option maxHeartbeats 4000000
set_option maxRecDepth 100000
def adX (K:(List KT)→Prop) (v0:Bs) (z0:List KT) (C7:Bs→List KT→Prop):Prop :=
 ((!(v0==([]:Bs)))=true→nZ v0∧(z0++([firstM v0]:List KT)).length≤2932031007402∧0≤((firstM v0).2.1.length:Int)∧(((firstM v0).2.1.length:Int):Int)≤(v0.length:Int)∧(v0.length:Int)≤(v0.length:Int)∧C7 (v0.drop (Int.toNat ((firstM v0).2.1.length:Int))) (z0++([firstM v0]:List KT)))∧((!(v0==([]:Bs)))=false→K z0)
def O8 (K:(List KT)→Prop):Nat→Bs→List KT→Prop
 | 0,_,_=>False
 | k+1,v0,z0=>adX K v0 z0 (O8 K k)
def ajp (xs:Bs) (K:(List KT)→Prop):Prop :=
 ∃ k,O8 K k xs ([]:List KT)
theorem adY {g:ak} (xs:Bs) (hG0:bP g 0) (K:(List KT)→Prop)
  (hF:ajp xs K):az prog 31 #[sv xs] g [] (fun g' H' v=>∃ (r0:List KT),∃ (j0:Option Addr) (x0:Nat),v=.slice j0 r0.length x0∧bG g' (.slice yK) [.slice j0 r0.length x0] r0∧H'=[]∧K r0):=by
 refine aP 19 func31 rfl fun w0=>?_
 refine ae (av 1 [(0,sv xs)] kr (aa (ae (ag 1 [0] [(3,.slice none 0 0)] ?_))))
 have hL1:aW g yK [] []:=rfl
 refine fO 98 4 (aa (aH (Ok.block ?_)))
 obtain ⟨k,hF⟩:=hF
 refine gF (fun k a W=>∃ Uc:ak,aY w0 g Uc∧∃ (v0:Bs) (q0:Option Addr) (k0:Nat) (z0:List KT) (y0:List Value),aW Uc yK y0 z0∧fJ 19 [(0,sv v0),(3,.slice q0 z0.length k0)] a∧dh w0 [.own (.slice q0 z0.length k0) 98 4 z0.length y0] Uc W∧O8 K k v0 z0) k ?_ ?_
 ·
  exact fun _ _ u v=>⟨g,bq w0 g,xs,none,0,([]:List KT),[],hL1,fA u v hF⟩
 clear hF
 rintro (_ | k7) _ _ ⟨Uc,s0,v0,q0,k0,z0,y0,u0,q⟩
 exact (q.2.2:False).elim
 refine jn (fun hF=>?_) _ _ q
 replace hG0:=hG0.mono s0.1
 refine aH (ae (ag 1 [0,3] [(5,sv v0)] ?_))
 refine ai (af.s (v:=.bool (!(v0==([]:Bs)))) (iE (f:=.neq) (a:=v0) (b:=([]:Bs)) kr kr rfl) rfl rfl (aa (aM hF (fun hc2 hF=>?_) (fun hc2 hF=>?_))))
 ·refine Ok.k (Ok.t (Ok.block (ae (ag 1 [0,3] [(7,sv v0)] ?_))))
  obtain ⟨hp3,hF⟩:=hF
  refine ai (af.f gT (fun W hW=>Xj v0 (hG0.mono hW.sees) hp3) rfl ?_)
  refine ai (bK zK fun kZ=>?_)
  refine ai (af.w 0 ?_)
  refine aa (ae (ag 1 [0] [(4,pv kZ 0),(9,.slice q0 z0.length k0)] ?_))
  refine ai (af.s (v:=.agg (aK (firstM v0))) (a_ 0 4 (aK (firstM v0)) rfl rfl underlying98 rfl kr kr kr) rfl rfl ?_)
  let B:=([firstM v0]:List KT)
  let C:=(firstM v0).2.2.1
  have hL5:aW Uc yK ((vK (firstM v0)):List Value) B:=(dB (c:=vK (firstM v0)) ⟨[iv (firstM v0).1],[sv ((firstM v0).2.1),sv C,iv (firstM v0).2.2.2],rfl,rfl,⟨[sv ((firstM v0).2.1)],[sv C,iv (firstM v0).2.2.2],rfl,rfl,⟨[sv C],[iv (firstM v0).2.2.2],rfl,rfl,rfl⟩⟩⟩ rfl)
  refine ai (gG hL5 fun b5=>?_)
  obtain ⟨hb6,hF⟩:=hF
  refine ai (eZ (e:=yK) 48 2932031007402 2 0 rfl rfl rfl rfl u0 hL5 underlying67 kr kr kr hb6 rfl fun a6 c6 xs6 hL6=>?_)
  refine ag 1 [0,4] [(3,.slice a6 (z0++B).length c6)] ?_
  let A:=((firstM v0).2.1.length:Int)
  refine aa (aS (aj 4 [.e 1] [3] [(13,sv v0),(16,iv A)] ?_))
  obtain ⟨QF,TV,h27,hF⟩:=hF
  let D:=v0.drop (Int.toNat A)
  refine ai (af.s (bZ (s:=v0) (l:=A) (h:=(v0.length:Int)) kr underlying9 (.inl ⟨_,_,rfl,rfl⟩) (.inr ⟨rfl,rfl⟩) QF TV h27 D (by rw [show (v0.length:Int).toNat=v0.length from eB _,iV])) rfl rfl (ag 1 [3] [(0,sv D)] ?_))
  refine bY (bJ (Ok.t ?_))
  exact fun _ _ u v=>⟨k7,nl,Uc,s0,v0.drop (Int.toNat A),a6,c6,(z0++B),xs6,hL6,fA u v hF⟩
 refine fU (aA (aA (aO (Ok.t (ae (av 2 [(2,.slice q0 z0.length k0)] kr (aa (Ok.ret (sM 0 rfl u0 fun g8 hx8 aok=>?_)))))))))
 exact qd (.slice q0 z0.length k0) (s0.trans hx8) ⟨z0,q0,k0,rfl,aok,rfl,hF⟩
end Go.Proofs.YtdapgmigogpdcaaGreatDoor.tF
namespace Go.Proofs.YtdapgmigogpdcaaGreatDoor.Tk
open _root_.Go.Proofs.Tryz Go Go.iQ jL BF tF
set_option linter.unusedVariables false
set_option linter.unusedSimpArgs false
set_option maxHeartbeats 4000000
set_option maxRecDepth 100000
def IE (xc:Int) (K:Bool→Prop):Prop :=
 K (((((xc==32)||(xc==9))||(xc==10))||(xc==12))||(xc==13))
theorem UI {g:ak} (xc:Int) (K:Bool→Prop)
  (hF:IE xc K):az prog 121 #[.int .u8 xc] g [] (fun g' H' v=>∃ (r0:Bool),v=.bool r0∧H'=[]∧K r0):=by
 refine aP 21 func121 rfl fun w0=>?_
 refine ae (av 1 [(0,.int .u8 xc)] kr (aa (ae (ag 3 [0] [(5,.bool (xc==32))] ?_))))
 let C:=(xc==32)||(xc==9)
 refine Ok.w 3 [(0,.int .u8 xc),(8,.bool C)] (fun AA=>?_) ?_
 ·refine Ok.a 5 (xc==32) rfl (fun hc2=>?_) (fun hc2=>?_)
  ·skip
   refine ag 3 [0] [(8,.bool true)] ?_
   refine aB 8 C (df hc2) (ag 0 [0] [(8,.bool C)] ?_)
   exact AA
  skip
  refine ag 3 [0] [(8,.bool (xc==9))] ?_
  refine aB 8 C (bR hc2) (ag 0 [0] [(8,.bool C)] ?_)
  exact AA
 refine ag 1 [0] [(9,.bool C)] ?_
 let A:=C||(xc==10)
 refine Ok.w 3 [(0,.int .u8 xc),(12,.bool A)] (fun HY=>?_) ?_
 ·refine Ok.a 9 C rfl (fun hc4=>?_) (fun hc4=>?_)
  ·skip
   refine ag 3 [0] [(12,.bool true)] ?_
   refine aB 12 A (df hc4) (ag 0 [0] [(12,.bool A)] ?_)
   exact HY
  skip
  refine ag 3 [0] [(12,.bool (xc==10))] ?_
  refine aB 12 A (bR hc4) (ag 0 [0] [(12,.bool A)] ?_)
  exact HY
 refine ag 1 [0] [(13,.bool A)] ?_
 refine Ok.w 3 [(0,.int .u8 xc),(16,.bool (A||(xc==12)))] (fun Bl=>?_) ?_
 ·refine Ok.a 13 A rfl (fun hc6=>?_) (fun hc6=>?_)
  ·skip
   refine ag 3 [0] [(16,.bool true)] ?_
   refine aB 16 (A||(xc==12)) (df hc6) (ag 0 [0] [(16,.bool (A||(xc==12)))] ?_)
   exact Bl
  skip
  refine ag 3 [0] [(16,.bool (xc==12))] ?_
  refine aB 16 (A||(xc==12)) (bR hc6) (ag 0 [0] [(16,.bool (A||(xc==12)))] ?_)
  exact Bl
 refine ag 1 [0] [(17,.bool (A||(xc==12)))] ?_
 let B:=(A||(xc==12))||(xc==13)
 refine Ok.w 3 [(20,.bool B)] (fun YS=>?_) ?_
 ·refine Ok.a 17 (A||(xc==12)) rfl (fun hc8=>?_) (fun hc8=>?_)
  ·skip
   refine av 3 [(20,.bool true)] kr (aB 20 B (df hc8) (av 0 [(20,.bool B)] kr ?_))
   exact YS
  skip
  refine av 3 [(20,.bool (xc==13))] kr (aB 20 B (bR hc8) (av 0 [(20,.bool B)] kr ?_))
  exact YS
 refine av 1 [(2,.bool B)] kr (aa (Ok.ret ?_))
 exact dD B hF
def sj (xc:Int):Bool:=(((((xc==32)||(xc==9))||(xc==10))||(xc==12))||(xc==13))
theorem UJ (xc:Int) (P:Bool→Prop) (h:P (sj xc)):IE xc (fun k0=>P k0):=by
 unfold sj at h
 unfold IE
 exact h
theorem X6 (xc:Int):IE xc (fun k0=>k0=sj xc) :=
 UJ xc (fun z=>z=sj xc) rfl
theorem X5 {g:ak} (xc:Int)  : bE prog 121 #[.int .u8 xc] g (.bool (sj xc)) :=
 (UI xc _ (X6 xc)).gv
theorem uC {p:UInt8→Bool} (h:(List.range 256).all (fun n=>p (UInt8.ofNat n))=true) (c:UInt8):p c=true:=by
 have h1:=l5.1 h c.toNat (by simpa using c.toNat_lt)
 simpa using h1
theorem yG (a b:UInt8):(((a.toNat:Int)==(b.toNat:Int))=(a==b)):=by
 by_cases h:a=b
 ·subst h; simp
 have:¬ ((a.toNat:Int)==(b.toNat:Int))=true:=fun e=>h ((yF a b).1 e)
 rw [Bool.not_eq_true] at this
 rw [this]; simpa using h
theorem UM (c:UInt8) (r:Bs):mJ (c::r)=if (c==45&&decide (r≠[]))=true then (r.getD 0 0==45||(dE ((r.getD 0 0).toNat:Int)||jG r)) else (dE (c.toNat:Int)||jG (c::r)):=by
 unfold mJ vG qa
 have e1:((((c::r).getD (Int.toNat 0) 0).toNat:Int)==45)=(c==45):=yG c 45
 have e2:decide (((c::r).length:Int)>1)=decide (r≠[]):=by
  apply decide_eq_decide.2
  cases r
  ·simp
  simp only [cK,fV,reduceCtorEq,not_false_eq_true,iff_true]; omega
 have e3:((((c::r).getD (Int.toNat 1) 0).toNat:Int)==45)=(r.getD 0 0==45):=yG (r.getD 0 0) 45
 rw [aF (show (c::r==([]:Bs))=false from rfl),e1,e2,e3]
 rfl
def wH (s:Bs) (i:Int):Bs×Int:=((d_ (s.drop i.toNat)).1,i+(d_ (s.drop i.toNat)).2)
set_option linter.unusedVariables false
set_option linter.unusedSimpArgs false
set_option maxHeartbeats 4000000
set_option maxRecDepth 100000
set_option linter.unusedVariables false
set_option linter.unusedSimpArgs false
set_option maxHeartbeats 4000000
set_option maxRecDepth 100000
theorem Rj {s:Bs} (h:fP s) {i:Nat} (hi:i≤s.length):(wH s (i:Int)).2=w6 ((i:Int)+(d_ (s.drop i)).2)∧(i:Int)≤(wH s (i:Int)).2∧(wH s (i:Int)).2≤s.length:=by
 have h1:=ve (iT h i)
 rw [gJ] at h1
 unfold fP at h
 unfold wH
 rw [eB]
 simp only
 rw [gp om]
 omega
def F8 (s:Bs):Int×Bs×Bs×Int:=(9,(if 0≤Lib.index (s.drop 2) [42,47] then s.take ((Lib.index (s.drop 2) [42,47]).toNat+4) else s),[],0)
def Rm (e2:UInt8):Int :=
 (if ((((e2.toNat:Int)==40)||((e2.toNat:Int)==91))||((e2.toNat:Int)==123))=true then 10 else 12)
def Rl (e2:UInt8):Int :=
 (if ((((e2.toNat:Int)==41)||((e2.toNat:Int)==93))||((e2.toNat:Int)==125))=true then 11 else (Rm e2))
def Rk (e2:UInt8):Int :=
 (if ((e2.toNat:Int)==92)=true then 6 else (Rl e2))
def spN (s:Bs):Nat:=s.length - (mZ s [32,9,10,12,13]).length
theorem Vx {s:Bs} (h:fP s):w6 ((s.length:Int) - ((mZ s ([32,9,10,12,13]:Bs)).length:Int))=(spN s:Int):=by
 have:=FQ s [32,9,10,12,13]
 unfold fP at h
 unfold spN
 rw [gp om]; omega
theorem XR {s:Bs} (h:(pO s ([47,42]:Bs)).2=true):(pO s ([47,42]:Bs)).1=s.drop 2:=by
 unfold pO ku at h ⊢
 cases hc:kE s ([47,42]:Bs)
 ·rw [hc] at h; cases h
 rfl
theorem Wj {s:Bs} (h:fP s) (hc:(pO s ([47,42]:Bs)).2=true):F8 s=(9,oD s,[],0):=by
 have hl:=Ht (s.drop 2) [42,47]
 unfold F8 oD mV
 rw [XR hc]
 rw [gJ] at hl
 unfold fP at h
 by_cases h0:0≤Lib.index (s.drop 2) [42,47]
 ·have:=hl h0
  simp only [cK,jT] at this
  rw [bn h0,aT (by simpa using h0),gp om,show (Lib.index (s.drop 2) [42,47]+4).toNat=(Lib.index (s.drop 2) [42,47]).toNat+4 by omega]
 rw [aQ h0,aF (by simpa using h0)]
theorem R3 {s:Bs} (h:fP s) (q:Int) {i:Nat} (hi:i≤s.length):cz q s (i:Int)=(q,s.take (wH s (i:Int)).2.toNat,(wH s (i:Int)).1,0):=by
 unfold cz
 rw [(Rj h hi).1,eB]
 rfl
theorem b35 (c:UInt8):((c.toNat:Int)==35)=(c==35):=yG c 35
theorem Vo (xs:Bs) (c:UInt8):jf xs c=(Rk c,xs.take (Int.toNat 1),[],0):=by
 unfold jf kI oC oz Rk Rl Rm
 have e:∀ n:UInt8,((c.toNat:Int)==(n.toNat:Int))=(c==n):=yG c
 have e40:((c.toNat:Int)==40)=(c==40):=e 40
 have e41:((c.toNat:Int)==41)=(c==41):=e 41
 have e91:((c.toNat:Int)==91)=(c==91):=e 91
 have e93:((c.toNat:Int)==93)=(c==93):=e 93
 have apX:((c.toNat:Int)==123)=(c==123):=e 123
 have e125:((c.toNat:Int)==125)=(c==125):=e 125
 have e92:((c.toNat:Int)==92)=(c==92):=e 92
 rw [e40,e41,e91,e93,apX,e125,e92]
 by_cases h40:c=40
 ·subst h40; rfl
 by_cases h91:c=91
 ·subst h91; rfl
 by_cases J0:c=123
 ·subst J0; rfl
 by_cases h41:c=41
 ·subst h41; rfl
 by_cases h93:c=93
 ·subst h93; rfl
 by_cases W0:c=125
 ·subst W0; rfl
 by_cases QE:c=92
 ·subst QE; rfl
 simp [h40,h91,J0,h41,h93,W0,QE]
set_option linter.unusedVariables false
set_option linter.unusedSimpArgs false
set_option maxHeartbeats 4000000
set_option maxRecDepth 100000
abbrev Tok:=Int×Bs×Bs×Int
theorem UL {s:Bs} (h:mJ s=true):1≤(xu s.length s).2:=by
 match s with
 | []=>cases h
 | c::r =>
  cases he:jG (c::r)
  ·have hs:kv (c.toNat:Int)=true:=by
    rw [UM] at h
    split at h
    ·rename_i hc
     rw [aG] at hc
     have:c=45:=by simpa using hc.1
     subst this
     decide +kernel
    rw [he,oo] at h
    unfold kv AV
    rw [h]; rfl
   show 1≤(xu (r.length+1) (c::r)).2
   rw [mG _ c r he,aT hs]
   simp
  have hl:=Bo he
  match r,he,hl with
  | d::r,he,_ =>
   show 1≤(xu (r.length+1+1) (c::d::r)).2
   rw [Bc _ c d r he]
   simp
theorem take_len {s:Bs} {n:Nat} (h:1≤n) (hs:1≤s.length):1≤(s.take n).length∧(s.take n).length≤s.length:=by
 rw [gz]; omega
theorem Qd {s:Bs} (hp:nZ s):1≤(firstM s).2.1.length∧(firstM s).2.1.length≤s.length:=by
 obtain ⟨h,hne,hlt⟩:=hp
 have hs:1≤s.length:=List.length_pos_iff.mpr hne
 have hw:=Vx h
 have hall:1≤s.length∧s.length≤s.length:=⟨hs,fK _⟩
 have nm:∀ (q:Int) (i:Nat),i≤s.length→(1≤i∨mJ s=true∧i=0)→1≤(cz q s (i:Int)).2.1.length∧(cz q s (i:Int)).2.1.length≤s.length:=fun q i hi ho=>by
  rw [R3 h q hi]
  refine take_len ?_ hs
  have h1:=ve (iT h i)
  unfold wH
  rw [eB]
  rcases ho with ho | ⟨ho,rfl⟩
  ·simp only; omega
  have:=UL ho
  simp only [iG]
  unfold d_
  simp only
  omega
 have f88:∀ c,1≤(jf s c).2.1.length∧(jf s c).2.1.length≤s.length:=fun c=>by
  rw [Vo]; exact take_len dc hs
 have n0:=nm 1 0 (ik _)
 have n4:=nm 4 1 hs (.inl (fK _))
 have n3:=nm 3 1 hs (.inl (fK _))
 unfold firstM
 rw [hw]
 split
 ·rename_i hc
  have:=dn hc
  exact take_len om hs
 split
 ·rename_i hc
  have e:=Wj h hc
  have:(rz s).2.1=(F8 s).2.1:=by rw [e]; rfl
  rw [this]
  unfold F8
  simp only
  split
  ·exact take_len om hs
  exact hall
 split
 ·show 1≤(qJ s).2.1.length∧_
  unfold qJ Vh
  simp only
  split
  ·exact take_len om hs
  split
  ·exact take_len om hs
  exact hall
 unfold nu oK
 split
 ·exact n4
 split
 ·exact n3
 split
 ·rename_i hc
  have hc:=dn hc
  have:=Gr h
  show 1≤(ky s (iY s).1 (iY s).2).2.1.length∧_
  obtain ⟨i,hi⟩:∃ k:Nat,(iY s).2=(k:Int):=⟨(iY s).2.toNat,om⟩
  rw [hi] at hc this ⊢
  have h1:=ve (iT h i)
  rw [gJ] at h1
  have h2:=h
  unfold fP at h2
  unfold ky m_ jm
  simp only
  rw [gp (x:=(i:Int)+1) om,eB,gp om]
  split
  ·exact take_len om hs
  split <;> exact take_len om hs
 split
 ·rename_i hB
  have:=n0 (.inr ⟨hB,rfl⟩)
  have hn0:((0:Nat):Int)=0:=rfl
  rw [hn0] at this
  show 1≤(kP s).length∧(kP s).length≤s.length
  unfold kP
  split
  ·have h2:=h
   unfold fP at h2
   rw [gp om]
   exact take_len om hs
  exact this
 exact f88 _
def cutN:Nat→Bs→List Tok
 | 0,_=>[]
 | k+1,s=>if s=[] then [] else firstM s::cutN k (s.drop (firstM s).2.1.length)
def iZ (s:Bs):List Tok:=cutN s.length s
def r_ (s:Bs):Prop:=s.length<4294967281
theorem Qi {s:Bs} (h:r_ s) (hne:s≠[]):nZ s:=⟨by unfold r_ at h; unfold fP; omega,hne,h⟩
theorem UB (K:List Tok→Prop):∀ (k:Nat) (s:Bs) (out:List Tok),s.length≤k→out.length+s.length<4294967281→K (out++cutN k s)→O8 K (k+1) s out:=by
 intro k
 induction k with
 | zero =>
  intro s out h1 h2 hK
  obtain rfl:s=[]:=iL om
  refine ⟨(fun h=>by cases h),fun _=>?_⟩
  simpa [cutN] using hK
 | succ k ih =>
  intro s out h1 h2 hK
  by_cases hs:s=[]
  ·subst hs
   refine ⟨(fun h=>by cases h),fun _=>?_⟩
   simpa [cutN] using hK
  have hf:=Qi (s:=s) (by unfold r_; omega) hs
  have hr:=Qd hf
  refine ⟨fun _=>⟨hf,by simp; omega,om,om,om,?_⟩,fun h=>absurd (by simpa using h) hs⟩
  rw [eB]
  refine ih _ _ (by rw [gJ]; omega) (by rw [gJ]; simp; omega) ?_
  have e:cutN (k+1) s=firstM s::cutN k (s.drop (firstM s).2.1.length):=aQ hs
  rw [e] at hK
  rw [dL]
  exact hK
theorem ajo (s:Bs) (hp:r_ s):ajp s (fun r=>r=iZ s) :=
 ⟨_,UB _ s.length s [] (fK _) (by unfold r_ at hp; simpa using hp) (by simp [iZ])⟩
theorem YZ {g:ak} (xs:Bs) (hG0:bP g 0)  (hp:r_ xs):az prog 31 #[sv xs] g [] (fun g' H' v=>∃ (y0:Option Addr) (u0:Nat),v=.slice y0 (iZ xs).length u0∧bG g' (.slice yK) [.slice y0 (iZ xs).length u0] (iZ xs)∧H'=[]) :=
 (adY xs hG0 _ (ajo xs hp)).mono (by rintro g' H' v _ ⟨r0,y0,u0,rfl,s0,rfl,hK⟩; subst hK; exact ⟨y0,u0,rfl,s0,rfl⟩)
def alR (l:List Tok):Bs:=(l.map fun t=>t.2.1).flatten
def vJ (l:List Tok):Prop:=(alR l).length≤140737488351232∧l.length≤140737488351232
theorem Dp (a b:Bs):intsOf a++intsOf b=intsOf (a++b):=by simp [intsOf]
end Go.Proofs.YtdapgmigogpdcaaGreatDoor.Tk
