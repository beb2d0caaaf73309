/- strings.Index. -/
import Derived.Test.YtdapgmigogpdcaaGreatDoorCsu
import Derived.Test.YtdapgmigogpdcaaGreatDoorLaid
set_option linter.unusedSimpArgs false
set_option linter.unusedVariables false
namespace Go.Proofs.YtdapgmigogpdcaaGreatDoor.tO
open _root_.Go.Proofs.Tryz Go Go.iT Go.RowKit jN BI
theorem dw {p:Prop} (h:p:=by first | (have:=List.length_pos_iff.mpr hp.2.1; omega) | exact hp.1 | exact Int.ofNat_le.2 (Fw _ _) | exact (Fv hp.1 asm).2 | exact (Fv hp.1 asm).1 | exact ⟨hp.1,(GY hp.1).1,(GY hp.1).2⟩ | exact ⟨hp.1,om,by (have:=List.length_pos_iff.mpr hp.2.1; omega)⟩ | exact ⟨hp.1,hp.2.1⟩ | exact (Pb hp.1 asm asm).2 | exact (Pb hp.1 asm asm).1 | (have:=ae9 xs ([47,42]:Bs); have:=hp.2.2; unfold XO; omega) | exact (Zo hp.1 _).2 | exact (Zo hp.1 _).1 | exact ⟨by decide,by decide,by decide⟩ | omega | assumption | exact trivial | (have h0:=List.length_pos_iff.mpr asm; omega) | (simp; omega) | (simp at *; omega)):p:=h
set_option maxHeartbeats 4000000
set_option maxRecDepth 100000
def mX (s sub:Bs):Int:=Lib.index s sub
def XO (s _:Bs):Prop:=s.length<4294967281
theorem ZN {g:ak} (s sub:Bs) (hG:bR g 0) (hp:XO s sub):bC prog 89 #[sv s,sv sub] g (iv (mX s sub)):=fun W hW=>by
 obtain ⟨cs,T,fz,m,h1,h2⟩:=hG;refine (Tryz.strings_Index ⟨⟨s⟩⟩ ⟨⟨sub⟩⟩ m W hp (by rw [Lib.cell_of_heap (hW _ _ h1)]; exact h2)).mono fun e W' ⟨he,hw⟩=>⟨he,by subst hw; exact Below.refl _ _⟩
def oF (xs:Bs):Bs :=
 (if (decide ((mX (pV xs ([47,42]:Bs)).1 ([42,47]:Bs))≥0))=true then xs.take (Int.toNat (w6 ((mX (pV xs ([47,42]:Bs)).1 ([42,47]:Bs))+4))) else xs)
def mK (xs:Bs) (e10:UInt8):Bool :=
 (((e10.toNat:Int)==35)&&((decide ((xs.length:Int)>1))&&((kz ((xs.getD (Int.toNat 1) 0).toNat:Int))||(jJ (xs.drop (Int.toNat 1))))))
def sj (xs:Bs) (e10:UInt8):Bool :=
 (((e10.toNat:Int)==64)&&(mM (xs.drop (Int.toNat 1))))
def nG (xs:Bs):Int :=
 (if (zC (xs.drop (Int.toNat ((cZ 1 xs 0).2.1.length:Int))) ([40]:Bs))=true then 2 else (cZ 1 xs 0).1)
def kU (xs:Bs):Bs :=
 (if (zC (xs.drop (Int.toNat ((cZ 1 xs 0).2.1.length:Int))) ([40]:Bs))=true then xs.take (Int.toNat (w6 (((cZ 1 xs 0).2.1.length:Int)+1))) else (cZ 1 xs 0).2.1)
def oD (e10:UInt8):Bool :=
 (((e10.toNat:Int)==40)||(((e10.toNat:Int)==91)||((e10.toNat:Int)==123)))
def oC (e10:UInt8):Bool :=
 (((e10.toNat:Int)==41)||(((e10.toNat:Int)==93)||((e10.toNat:Int)==125)))
def uE (xs:Bs) (K:KT→Prop):Prop :=
 K (9,oF xs,([]:Bs),0)
def uC (xs:Bs) (K:KT→Prop):Prop :=
 K (nG xs,kU xs,(cZ 1 xs 0).2.2.1,(cZ 1 xs 0).2.2.2)
def oM (xs:Bs) (K:KT→Prop) (e10:UInt8):Prop :=
 (oC e10=true→(0:Int)≤0∧(0:Int)≤1∧1≤(xs.length:Int)∧K (11,xs.take (Int.toNat 1),([]:Bs),0))∧(oC e10=false→(((e10.toNat:Int)==92)=true→(0:Int)≤0∧(0:Int)≤1∧1≤(xs.length:Int)∧K (6,xs.take (Int.toNat 1),([]:Bs),0))∧(((e10.toNat:Int)==92)=false→(0:Int)≤0∧(0:Int)≤1∧1≤(xs.length:Int)∧K (12,xs.take (Int.toNat 1),([]:Bs),0)))
def rA (xs:Bs) (K:KT→Prop) (e10:UInt8):Prop :=
 (oD e10=true→(0:Int)≤0∧(0:Int)≤1∧1≤(xs.length:Int)∧K (10,xs.take (Int.toNat 1),([]:Bs),0))∧(oD e10=false→(((e10.toNat:Int)==41)=true→oM xs K e10)∧(((e10.toNat:Int)==41)=false→(((e10.toNat:Int)==93)=true→oM xs K e10)∧(((e10.toNat:Int)==93)=false→oM xs K e10)))
def uD (xs:Bs) (K:KT→Prop) (e10:UInt8):Prop :=
 (sj xs e10=true→zn 3 xs 1∧K (cZ 3 xs 1))∧(sj xs e10=false→fV xs∧((decide ((jc xs).2>0))=true→Bd xs (jc xs).1 (jc xs).2∧K (kC xs (jc xs).1 (jc xs).2))∧((decide ((jc xs).2>0))=false→(mM xs=true→zn 1 xs 0∧0≤((cZ 1 xs 0).2.1.length:Int)∧(((cZ 1 xs 0).2.1.length:Int):Int)≤(xs.length:Int)∧(xs.length:Int)≤(xs.length:Int)∧((zC (xs.drop (Int.toNat ((cZ 1 xs 0).2.1.length:Int))) ([40]:Bs))=true→(0:Int)≤0∧0≤(w6 (((cZ 1 xs 0).2.1.length:Int)+1))∧(w6 (((cZ 1 xs 0).2.1.length:Int)+1))≤(xs.length:Int)∧uC xs K)∧((zC (xs.drop (Int.toNat ((cZ 1 xs 0).2.1.length:Int))) ([40]:Bs))=false→uC xs K))∧(mM xs=false→(((e10.toNat:Int)==40)=true→rA xs K e10)∧(((e10.toNat:Int)==40)=false→(((e10.toNat:Int)==91)=true→rA xs K e10)∧(((e10.toNat:Int)==91)=false→rA xs K e10)))))
def pE (xs:Bs) (K:KT→Prop) (e10:UInt8):Prop :=
 (mK xs e10=true→zn 4 xs 1∧K (cZ 4 xs 1))∧(mK xs e10=false→(((e10.toNat:Int)==64)=true→(0:Int)≤1∧(1:Int)≤(xs.length:Int)∧(xs.length:Int)≤(xs.length:Int)∧uD xs K e10)∧(((e10.toNat:Int)==64)=false→uD xs K e10))
def IV (xs:Bs) (K:KT→Prop):Prop :=
 tlP xs ([32,9,10,12,13]:Bs)∧((decide ((w6 ((xs.length:Int) - ((m_ xs ([32,9,10,12,13]:Bs)).length:Int)))>0))=true→(0:Int)≤0∧0≤(w6 ((xs.length:Int) - ((m_ xs ([32,9,10,12,13]:Bs)).length:Int)))∧(w6 ((xs.length:Int) - ((m_ xs ([32,9,10,12,13]:Bs)).length:Int)))≤(xs.length:Int)∧K (8,xs.take (Int.toNat (w6 ((xs.length:Int) - ((m_ xs ([32,9,10,12,13]:Bs)).length:Int)))),([]:Bs),0))∧((decide ((w6 ((xs.length:Int) - ((m_ xs ([32,9,10,12,13]:Bs)).length:Int)))>0))=false→((pV xs ([47,42]:Bs)).2=true→XO (pV xs ([47,42]:Bs)).1 ([42,47]:Bs)∧((decide ((mX (pV xs ([47,42]:Bs)).1 ([42,47]:Bs))≥0))=true→(0:Int)≤0∧0≤(w6 ((mX (pV xs ([47,42]:Bs)).1 ([42,47]:Bs))+4))∧(w6 ((mX (pV xs ([47,42]:Bs)).1 ([42,47]:Bs))+4))≤(xs.length:Int)∧uE xs K)∧((decide ((mX (pV xs ([47,42]:Bs)).1 ([42,47]:Bs))≥0))=false→uE xs K))∧((pV xs ([47,42]:Bs)).2=false→(0:Int)≤0∧Int.toNat 0<xs.length∧(((((xs.getD (Int.toNat 0) 0).toNat:Int)==39)||(((xs.getD (Int.toNat 0) 0).toNat:Int)==34))=true→Oy xs∧K (qM xs))∧(((((xs.getD (Int.toNat 0) 0).toNat:Int)==39)||(((xs.getD (Int.toNat 0) 0).toNat:Int)==34))=false→((((xs.getD (Int.toNat 0) 0).toNat:Int)==35)=true→((decide ((xs.length:Int)>1))=true→(0:Int)≤1∧Int.toNat 1<xs.length∧((kz ((xs.getD (Int.toNat 1) 0).toNat:Int))=true→pE xs K (xs.getD (Int.toNat 0) 0))∧((kz ((xs.getD (Int.toNat 1) 0).toNat:Int))=false→(0:Int)≤1∧(1:Int)≤(xs.length:Int)∧(xs.length:Int)≤(xs.length:Int)∧pE xs K (xs.getD (Int.toNat 0) 0)))∧((decide ((xs.length:Int)>1))=false→pE xs K (xs.getD (Int.toNat 0) 0)))∧((((xs.getD (Int.toNat 0) 0).toNat:Int)==35)=false→pE xs K (xs.getD (Int.toNat 0) 0)))))
theorem Vg {g:ak} (xs:Bs) (hG0:bR g 0) (K:KT→Prop)
  (hF:IV xs K):az prog 53 #[sv xs] g [] (fun g' H' v=>∃ (r0:Int×Bs×Bs×Int),v=.agg (aK r0)∧H'=[]∧K r0):=by
 refine aP 132 func53 rfl fun w0=>?_;refine ae (ai (af.box (v:=sv xs) (cs:=#[sv xs]) rfl kr rfl fun iC=>?_));refine ai (bI zK fun eT=>?_);refine aa (ae (av 2 [(1,pv iC 0),(2,pv eT 0),(3,.func (.func 86) #[] #[pv iC 0])] kr (aa (aF (aF (gq kr kr (dS.op rfl (fK.s (v:=sv xs) (aS 1 rfl rfl underlying9 rfl kr) rfl rfl (eZ 1 [1,2,3] [(15,iv (xs.length:Int))] ?_)))))))));refine dS.op rfl (fK.s (v:=sv xs) (aS 1 rfl rfl underlying9 rfl kr) rfl rfl ?_);obtain ⟨hp3,hF⟩:=hF;refine dS.op rfl (fK.f gU (fun W hW=>aat xs ([32,9,10,12,13]:Bs) hp3) rfl ?_);let B:=m_ xs ([32,9,10,12,13]:Bs);refine eZ 3 [1,2,3] [(4,iv (w6 ((xs.length:Int) - (B.length:Int))))] ?_;refine kQ (Ok.t (ae (ag 2 [1,2,3,4] [(21,.bool (decide ((w6 ((xs.length:Int) - (B.length:Int)))>0)))] ?_)));refine aa (aJ hF (fun hc4 hF=>?_) (fun hc4 hF=>?_))
 ·refine ae (aj 2 [.e 1] [2] [(22,sv xs),(23,iv (w6 ((xs.length:Int) - (B.length:Int))))] ?_);obtain ⟨Ep,IE,h25,hF⟩:=hF;refine ai (af.s (b_ (s:=xs) (l:=0) (h:=(w6 ((xs.length:Int) - (B.length:Int)))) kr underlying9 (.inr ⟨rfl,rfl⟩) (.inl ⟨_,_,rfl,rfl⟩) Ep IE h25 (xs.take (Int.toNat (w6 ((xs.length:Int) - (B.length:Int))))) (by simp)) rfl rfl (ag 1 [2] [(25,.agg #[iv 8,sv (xs.take (Int.toNat (w6 ((xs.length:Int) - (B.length:Int))))),sv ([]:Bs),iv 0])] ?_));refine ai (af.w 0 ?_);refine aa (Ok.ret (aC ?_));exact jf 0 [] (bu w0 g) ⟨(8,xs.take (Int.toNat (w6 ((xs.length:Int) - (B.length:Int)))),([]:Bs),0),rfl,rfl,hF⟩
 let E:=pV xs ([47,42]:Bs);refine Ok.k (Ok.t (aF (ae (aj 7 [.e 1,.k (arR xs ([47,42]:Bs))] [1,2,3] [(5,sv (E.1)),(6,.bool E.2)] ?_))));refine aa (ae (ag 1 [1,2,3,5] [(31,.bool E.2)] ?_));refine aa (aJ hF (fun hc6 hF=>?_) (fun hc6 hF=>?_))
 ·let G:=(.cells #[sv (oF xs)] 9:Obj);refine gB [(1,pv iC 0),(2,pv eT 0)] [.blk eT (.cells zK 98),.blk iC G] (uE xs K) ?_ (fun hF=>?_)
  ·
   refine aF (aR ?_);obtain ⟨Im,hF⟩:=hF;let C:=mX E.1 ([42,47]:Bs);refine aj 3 [.k (ZN E.1 ([42,47]:Bs) hG0 Im)] [1,2] [(7,iv C)] ?_;refine aa (ae (ag 2 [1,2,7] [(35,.bool (decide (C≥0)))] ?_));refine aa (aJ hF (fun hc8 hF=>?_) (fun hc8 hF=>?_))
   ·refine aR (aj 3 [.e 1] [1,2] [(36,sv xs),(38,iv (w6 (C+4)))] ?_);obtain ⟨Eo,h19,QX,hF⟩:=hF;refine ai (af.s (b_ (s:=xs) (l:=0) (h:=(w6 (C+4))) kr underlying9 (.inr ⟨rfl,rfl⟩) (.inl ⟨_,_,rfl,rfl⟩) Eo h19 QX (xs.take (Int.toNat (w6 (C+4)))) (by simp)) rfl rfl (ai (dA 1 ?_)));refine aa (kg (E':=.blk iC G) 1 (aA (fun l:List Value=>cu.blk iC (.cells ⟨l⟩ 9)) (iy (aA (fun s:Bs=>Value.string ⟨⟨s⟩⟩) ((aU hc8).symm)) rfl)) ?_);exact fz hF
   refine Ok.k (Ok.t (kg (E':=.blk iC G) 1 (aA (fun l:List Value=>cu.blk iC (.cells ⟨l⟩ 9)) (iy (aA (fun s:Bs=>Value.string ⟨⟨s⟩⟩) ((aG hc8).symm)) rfl)) ?_));exact fz hF
  refine ae (aj 2 [.e 1] [2] [(41,.agg #[iv 9,sv (oF xs),sv ([]:Bs),iv 0])] ?_);refine ai (af.w 0 ?_);refine aa (Ok.ret (aC ?_));exact jf 0 [] (bu w0 g) ⟨(9,oF xs,([]:Bs),0),rfl,rfl,hF⟩
 refine Ok.k (Ok.t (aF (ae (ai (af.s (v:=sv xs) (aS 1 rfl rfl underlying9 rfl kr) rfl rfl ?_)))));obtain ⟨f0,Nn,hF⟩:=hF;have c0:=aT (l:=xs) (0:UInt8) Nn;generalize ave:(xs.getD (Int.toNat 0) 0)=e10 at c0 hF ⊢;let A:=(e10.toNat:Int);refine ai (af.s (v:=.int .u8 A) (dQ (k:=.i64) (i:=0) (s:=xs) (b:=e10) kr kr underlying9 f0 c0) rfl rfl (ag 1 [1,2,3] [(8,.int .u8 A)] ?_));refine aa (Ok.block (ae (ag 3 [1,2,3,8] [(47,.bool (A==39))] ?_)));let D:=(A==39)||(A==34);refine Ok.w 3 [(1,pv iC 0),(2,pv eT 0),(3,.func (.func 86) #[] #[pv iC 0]),(8,.int .u8 A),(50,.bool D)] (fun g0=>?_) ?_
 ·refine Ok.a 47 (A==39) rfl (fun d0=>?_) (fun d0=>?_)
  ·skip;refine ag 3 [1,2,3,8] [(50,.bool true)] ?_;refine aB 50 D (cK d0) (ag 0 [1,2,3,8] [(50,.bool D)] ?_);exact g0
  skip;refine ag 3 [1,2,3,8] [(50,.bool (A==34))] ?_;refine aB 50 D (bN d0) (ag 0 [1,2,3,8] [(50,.bool D)] ?_);exact g0
 refine ag 1 [1,2,3,8] [(44,.bool D)] ?_;refine aa (aJ hF (fun UK hF=>?_) (fun UK hF=>?_))
 ·refine ae (ai (af.s (v:=sv xs) (aS 1 rfl rfl underlying9 rfl kr) rfl rfl ?_));obtain ⟨acG,hF⟩:=hF;refine ai (af.f gU (fun W hW=>aau xs acG) rfl ?_);refine ai (af.w 0 ?_);refine aa (Ok.ret (aV (aC ?_)));exact jf 0 [] (bu w0 g) ⟨qM xs,rfl,rfl,hF⟩
 let F:=(.cells zK 98:Obj);refine gB [(1,pv iC 0),(2,pv eT 0),(3,.func (.func 86) #[] #[pv iC 0]),(8,.int .u8 A),(53,.bool (mK xs e10))] [.blk eT F,.blk iC (.cells #[sv xs] 9)] (pE xs K e10) ?_ (fun hF=>?_)
 ·
  refine aR (ag 3 [1,2,3,8] [(56,.bool (A==35))] ?_);refine bP 56 hF (fun v0 hF=>?_) (fun v0 hF=>?_)
  ·refine aj 5 [.e 1] [1,2,3,8] [(61,.bool (decide ((xs.length:Int)>1)))] ?_;refine bP 61 hF (fun x0 hF=>?_) (fun x0 hF=>?_)
   ·refine dZ (af.s (v:=sv xs) (aS 1 rfl rfl underlying9 rfl kr) rfl rfl ?_);obtain ⟨ark,aq3,hF⟩:=hF;have m0:=aT (l:=xs) (0:UInt8) aq3;generalize n0:(xs.getD (Int.toNat 1) 0)=e47 at m0 hF ⊢;let I:=(e47.toNat:Int);refine dZ (af.s (v:=.int .u8 I) (dQ (k:=.i64) (i:=1) (s:=xs) (b:=e47) kr kr underlying9 ark m0) rfl rfl (aj 2 [.k (Sk I)] [1,2,3,8] [(61,.bool true),(65,.bool (kz I))] ?_));refine Ok.a 65 (kz I) rfl (fun q0=>?_) (fun q0=>?_)
    ·replace hF:=hF.1 q0;refine ag 6 [1,2,3,8] [(53,.bool true)] ?_;refine bV (Ok.t ?_);subst n0;refine aB 53 (mK xs e10) (au (au (cK q0) (bn x0)) (bn v0)) ?_;exact fz hF
    replace hF:=hF.2 q0;refine dZ (af.s (v:=sv xs) (aS 1 rfl rfl underlying9 rfl kr) rfl rfl ?_);obtain ⟨arj,aq2,aqM,hF⟩:=hF;let H:=xs.drop (Int.toNat 1);refine dZ (af.s (b_ (s:=xs) (l:=1) (h:=(xs.length:Int)) kr underlying9 (.inl ⟨_,_,rfl,rfl⟩) (.inr ⟨rfl,rfl⟩) arj aq2 aqM H (RZ _ _)) rfl rfl (aj 4 [.k (PK H)] [1,2,3,8] [(53,.bool (jJ H))] ?_));refine bV (Ok.t ?_);subst n0;refine aB 53 (mK xs e10) (au (au (bN q0) (bn x0)) (bn v0)) ?_;exact fz hF
   refine ag 10 [1,2,3,8] [(53,.bool false)] ?_;refine aa (aB 53 (mK xs e10) (au (bZ x0) (bn v0)) ?_);exact fz hF
  refine ag 15 [1,2,3,8] [(53,.bool false)] ?_;refine aa (aB 53 (mK xs e10) (bZ v0) ?_);exact fz hF
 refine aJ hF (fun Ir hF=>?_) (fun Ir hF=>?_)
 ·refine ae (ai (af.s (v:=sv xs) (aS 1 rfl rfl underlying9 rfl kr) rfl rfl ?_));obtain ⟨M6,hF⟩:=hF;refine ai (af.f gU (fun W hW=>G8 4 xs 1 M6) rfl ?_);refine ai (af.w 0 ?_);refine aa (Ok.ret (aV (aC ?_)));exact jf 0 [] (bu w0 g) ⟨cZ 4 xs 1,rfl,rfl,hF⟩
 refine gB [(1,pv iC 0),(2,pv eT 0),(3,.func (.func 86) #[] #[pv iC 0]),(73,.bool (sj xs e10))] [.blk eT F,.blk iC (.cells #[sv xs] 9)] (uD xs K e10) ?_ (fun hF=>?_)
 ·
  refine aR (ag 3 [1,2,3] [(76,.bool ((e10.toNat:Int)==64))] ?_);refine bP 76 hF (fun e0 hF=>?_) (fun e0 hF=>?_)
  ·refine dZ (af.s (v:=sv xs) (aS 1 rfl rfl underlying9 rfl kr) rfl rfl ?_);obtain ⟨arn,aq5,aqN,hF⟩:=hF;refine dZ (af.s (b_ (s:=xs) (l:=1) (h:=(xs.length:Int)) kr underlying9 (.inl ⟨_,_,rfl,rfl⟩) (.inr ⟨rfl,rfl⟩) arn aq5 aqN (xs.drop (Int.toNat 1)) (RZ _ _)) rfl rfl (aj 3 [.k (VJ (xs.drop (Int.toNat 1)))] [1,2,3] [(73,.bool (mM (xs.drop (Int.toNat 1))))] ?_));refine aa (aB 73 (sj xs e10) (bn e0) ?_);exact fz hF
  refine ag 5 [1,2,3] [(73,.bool false)] ?_;refine aa (aB 73 (sj xs e10) (bZ e0) ?_);exact fz hF
 refine aJ hF (fun hc17 hF=>?_) (fun hc17 hF=>?_)
 ·refine ae (ai (af.s (v:=sv xs) (aS 1 rfl rfl underlying9 rfl kr) rfl rfl ?_));obtain ⟨acE,hF⟩:=hF;refine ai (af.f gU (fun W hW=>G8 3 xs 1 acE) rfl ?_);refine ai (af.w 0 ?_);refine aa (Ok.ret (aV (aC ?_)));exact jf 0 [] (bu w0 g) ⟨cZ 3 xs 1,rfl,rfl,hF⟩
 refine Ok.k (bG (Ok.t (aF (aF (aR ?_)))));obtain ⟨M5,hF⟩:=hF;refine aj 7 [.e 1,.k (abA xs M5)] [1,2,3] [(9,iv (jc xs).1),(10,iv (jc xs).2)] ?_;refine aa (ae (ag 2 [1,2,3,9,10] [(89,.bool (decide ((jc xs).2>0)))] ?_));refine aa (aJ hF (fun Na hF=>?_) (fun Na hF=>?_))
 ·refine ae (aj 3 [.e 1] [2] [(90,sv xs),(91,iv (jc xs).1),(92,iv (jc xs).2)] ?_);obtain ⟨Uz,hF⟩:=hF;refine ai (af.f gU (fun W hW=>Tf xs (jc xs).1 (jc xs).2 Uz) rfl ?_);refine ai (af.w 0 ?_);refine aa (Ok.ret (aC ?_));exact jf 0 [] (bu w0 g) ⟨kC xs (jc xs).1 (jc xs).2,rfl,rfl,hF⟩
 refine Ok.k (Ok.t (aF (ae (ai (af.s (v:=sv xs) (aS 1 rfl rfl underlying9 rfl kr) rfl rfl (ai (af.f gU (fun W hW=>VJ xs) rfl ?_)))))));refine aa (aJ hF (fun hc22 hF=>?_) (fun hc22 hF=>?_))
 ·refine ae (ai (af.s (v:=sv xs) (aS 1 rfl rfl underlying9 rfl kr) rfl rfl ?_));obtain ⟨Uy,hF⟩:=hF;refine ai (af.f gU (fun W hW=>G8 1 xs 0 Uy) rfl ?_);refine ai (bI zK fun z0=>?_);refine ai (af.w 0 ?_);refine aa (gB [(2,pv eT 0),(11,pv z0 0)] [.blk z0 (.cells #[iv (nG xs),sv (kU xs),sv ((cZ 1 xs 0).2.2.1),iv (cZ 1 xs 0).2.2.2] 98),.blk eT F] (uC xs K) ?_ (fun hF=>?_))
  ·
   refine ae (aj 4 [.e 0] [1,2] [(11,pv z0 0),(12,iv ((cZ 1 xs 0).2.1.length:Int))] ?_);refine aa (ae (aj 2 [.e 2] [1,2,11,12] [(101,sv xs),(102,iv ((cZ 1 xs 0).2.1.length:Int))] ?_));obtain ⟨DN,IG,adV,hF⟩:=hF;refine ai (af.s (b_ (s:=xs) (l:=((cZ 1 xs 0).2.1.length:Int)) (h:=(xs.length:Int)) kr underlying9 (.inl ⟨_,_,rfl,rfl⟩) (.inr ⟨rfl,rfl⟩) DN IG adV (xs.drop (Int.toNat ((cZ 1 xs 0).2.1.length:Int))) (RZ _ _)) rfl rfl (ai (af.f gU (fun W hW=>acy (xs.drop (Int.toNat ((cZ 1 xs 0).2.1.length:Int))) ([40]:Bs)) rfl ?_)));refine aa (aJ hF (fun y0 hF=>?_) (fun y0 hF=>?_))
   ·refine wH [] [] [0,1,1] [(0,true),(1,true),(2,true),(3,true),(4,true),(5,false),(6,true),(7,false)] ?_;refine eH.hd (fK.s (v:=sv xs) (aS 1 rfl rfl underlying9 rfl kr) rfl rfl ?_);refine iJ 2 [2,11] [(105,sv xs),(107,iv (w6 (((cZ 1 xs 0).2.1.length:Int)+1)))] ?_;obtain ⟨U7,h127,adU,hF⟩:=hF;refine eH.hd (fK.s (v:=sv (xs.take (Int.toNat (w6 (((cZ 1 xs 0).2.1.length:Int)+1))))) (b_ (s:=xs) (l:=0) (h:=(w6 (((cZ 1 xs 0).2.1.length:Int)+1))) kr underlying9 (.inr ⟨rfl,rfl⟩) (.inl ⟨_,_,rfl,rfl⟩) U7 h127 adU (xs.take (Int.toNat (w6 (((cZ 1 xs 0).2.1.length:Int)+1)))) (by simp)) rfl rfl ?_);refine iJ 1 [2,11] [(108,sv (xs.take (Int.toNat (w6 (((cZ 1 xs 0).2.1.length:Int)+1))))),(109,pv z0 0)] ?_;refine eH.t rfl rfl (dA 0 ?_);refine h_ (lG.refl _) (iJ 1 [2,11,108] [(110,pv z0 1)] ?_);refine eH.t rfl rfl (dA 0 ?_);refine h_ (lG.refl _) (eH.nil (Ok.t (kg (E':=.blk z0 (.cells #[iv (nG xs),sv (kU xs),sv ((cZ 1 xs 0).2.2.1),iv (cZ 1 xs 0).2.2.2] 98)) 0 (aA (fun l:List Value=>cu.blk z0 (.cells ⟨l⟩ 98)) (iy (aA (Value.int .i64) ((aU y0).symm)) (iy (aA (fun s:Bs=>Value.string ⟨⟨s⟩⟩) ((aU y0).symm)) (iy (rfl) (iy (rfl) rfl))))) ?_)));exact fz hF
   refine Ok.k (Ok.t (kg (E':=.blk z0 (.cells #[iv (nG xs),sv (kU xs),sv ((cZ 1 xs 0).2.2.1),iv (cZ 1 xs 0).2.2.2] 98)) 0 (aA (fun l:List Value=>cu.blk z0 (.cells ⟨l⟩ 98)) (iy (aA (Value.int .i64) ((aG y0).symm)) (iy (aA (fun s:Bs=>Value.string ⟨⟨s⟩⟩) ((aG y0).symm)) (iy (rfl) (iy (rfl) rfl))))) ?_));exact fz hF
  refine ae (ai (af.s (v:=.agg #[iv (nG xs),sv (kU xs),sv ((cZ 1 xs 0).2.2.1),iv (cZ 1 xs 0).2.2.2]) (aZ 0 4 #[iv (nG xs),sv (kU xs),sv ((cZ 1 xs 0).2.2.1),iv (cZ 1 xs 0).2.2.2] rfl rfl underlying98 rfl kr kr kr) rfl rfl (ai (af.w 1 ?_))));refine aa (Ok.ret (aC ?_));exact jf 1 [] (bu w0 g) ⟨(nG xs,kU xs,(cZ 1 xs 0).2.2.1,(cZ 1 xs 0).2.2.2),rfl,rfl,hF⟩
 refine Ok.k (Ok.t (aF (ae (ai (af.s (v:=sv xs) (aS 1 rfl rfl underlying9 rfl kr) rfl rfl (ai (af.s (v:=.int .u8 (e10.toNat:Int)) (dQ (k:=.i64) (i:=0) (s:=xs) (b:=e10) kr kr underlying9 f0 c0) rfl rfl (aa (Ok.block (gB [(2,pv eT 0),(3,.func (.func 86) #[] #[pv iC 0]),(113,.int .u8 (e10.toNat:Int)),(114,.bool (oD e10))] [.blk eT F,.blk iC (.cells #[sv xs] 9)] (rA xs K e10) ?_ (fun hF=>?_)))))))))))
 ·
  refine ae (ag 2 [2,3] [(113,.int .u8 (e10.toNat:Int)),(114,.bool ((e10.toNat:Int)==40))] ?_);refine aa (aJ hF (fun u0 hF=>?_) (fun u0 hF=>?_))
  ·refine Ok.k (Ok.t (aB 114 (oD e10) (au (u0) (cK u0)) ?_));exact fz hF
  refine ae (ag 2 [2,3,113] [(114,.bool ((e10.toNat:Int)==91))] ?_);refine aa (aJ hF (fun s0 hF=>?_) (fun s0 hF=>?_))
  ·refine Ok.k (Ok.t (aB 114 (oD e10) (au (au (s0) (cK s0)) (bN u0)) ?_));exact fz hF
  refine aR (ag 2 [2,3,113] [(114,.bool ((e10.toNat:Int)==123))] ?_);refine aa (aB 114 (oD e10) (au (bN s0) (bN u0)) ?_);exact fz hF
 refine aJ hF (fun hc28 hF=>?_) (fun hc28 hF=>?_)
 ·refine ae (ag 1 [2] [(118,.func (.func 86) #[] #[pv iC 0])] ?_);refine ai (bO (args:=#[iv 10,pv iC 0]) 8 [(0,iv 10),(1,pv iC 0)] gU func86 rfl rfl rfl rfl (ae (ai (bI zK fun YR=>?_))));refine aa (ae (av 1 [(1,pv iC 0),(3,pv YR 0),(4,iv 10)] kr (ai (af.s (v:=sv xs) (aS 2 rfl rfl underlying9 rfl kr) rfl rfl ?_))));obtain ⟨ars,ara,aqR,hF⟩:=hF;refine ai (af.s (b_ (s:=xs) (l:=0) (h:=1) kr underlying9 (.inr ⟨rfl,rfl⟩) (.inl ⟨_,_,rfl,rfl⟩) ars ara aqR (xs.take (Int.toNat 1)) (by simp)) rfl rfl (ag 1 [3] [(7,.agg #[iv 10,sv (xs.take (Int.toNat 1)),sv ([]:Bs),iv 0])] ?_));refine ai (af.w 0 ?_);refine aa (Ok.ret (bA (vs:=[.agg #[iv 10,sv (xs.take (Int.toNat 1)),sv ([]:Bs),iv 0]]) (.inl rfl) rfl (.cons (.iM 0 4 #[iv 10,sv (xs.take (Int.toNat 1)),sv ([]:Bs),iv 0] rfl rfl underlying98 rfl kr kr kr) .nil) rfl (ai (af.w 1 ?_))));refine aa (Ok.ret (aV (aC ?_)));exact jf 1 [] (bu w0 g) ⟨(10,xs.take (Int.toNat 1),([]:Bs),0),rfl,rfl,hF⟩
 refine gB [(2,pv eT 0),(3,.func (.func 86) #[] #[pv iC 0]),(113,.int .u8 (e10.toNat:Int)),(120,.bool (oC e10))] [.blk eT F,.blk iC (.cells #[sv xs] 9)] (oM xs K e10) ?_ (fun hF=>?_)
 ·
  refine ae (ag 2 [2,3,113] [(120,.bool ((e10.toNat:Int)==41))] ?_);refine aa (aJ hF (fun j0 hF=>?_) (fun j0 hF=>?_))
  ·refine Ok.k (Ok.t (aB 120 (oC e10) (au (j0) (cK j0)) ?_));exact fz hF
  refine ae (ag 2 [2,3,113] [(120,.bool ((e10.toNat:Int)==93))] ?_);refine aa (aJ hF (fun b0 hF=>?_) (fun b0 hF=>?_))
  ·refine Ok.k (Ok.t (aB 120 (oC e10) (au (au (b0) (cK b0)) (bN j0)) ?_));exact fz hF
  refine aR (ag 2 [2,3,113] [(120,.bool ((e10.toNat:Int)==125))] ?_);refine aa (aB 120 (oC e10) (au (bN b0) (bN j0)) ?_);exact fz hF
 refine aJ hF (fun hc31 hF=>?_) (fun hc31 hF=>?_)
 ·refine ae (ag 1 [2] [(124,.func (.func 86) #[] #[pv iC 0])] ?_);refine ai (bO (args:=#[iv 11,pv iC 0]) 8 [(0,iv 11),(1,pv iC 0)] gU func86 rfl rfl rfl rfl (ae (ai (bI zK fun YQ=>?_))));refine aa (ae (av 1 [(1,pv iC 0),(3,pv YQ 0),(4,iv 11)] kr (ai (af.s (v:=sv xs) (aS 2 rfl rfl underlying9 rfl kr) rfl rfl ?_))));obtain ⟨aeg,ad6,aqQ,hF⟩:=hF;refine ai (af.s (b_ (s:=xs) (l:=0) (h:=1) kr underlying9 (.inr ⟨rfl,rfl⟩) (.inl ⟨_,_,rfl,rfl⟩) aeg ad6 aqQ (xs.take (Int.toNat 1)) (by simp)) rfl rfl (ag 1 [3] [(7,.agg #[iv 11,sv (xs.take (Int.toNat 1)),sv ([]:Bs),iv 0])] ?_));refine ai (af.w 0 ?_);refine aa (Ok.ret (bA (vs:=[.agg #[iv 11,sv (xs.take (Int.toNat 1)),sv ([]:Bs),iv 0]]) (.inl rfl) rfl (.cons (.iM 0 4 #[iv 11,sv (xs.take (Int.toNat 1)),sv ([]:Bs),iv 0] rfl rfl underlying98 rfl kr kr kr) .nil) rfl (ai (af.w 1 ?_))));refine aa (Ok.ret (aV (aC ?_)));exact jf 1 [] (bu w0 g) ⟨(11,xs.take (Int.toNat 1),([]:Bs),0),rfl,rfl,hF⟩
 refine ae (ag 2 [2,3] [(126,.bool ((e10.toNat:Int)==92))] ?_);refine aa (aJ hF (fun hc34 hF=>?_) (fun hc34 hF=>?_))
 ·refine ae (ag 1 [2] [(128,.func (.func 86) #[] #[pv iC 0])] ?_);refine ai (bO (args:=#[iv 6,pv iC 0]) 8 [(0,iv 6),(1,pv iC 0)] gU func86 rfl rfl rfl rfl (ae (ai (bI zK fun YP=>?_))));refine aa (ae (av 1 [(1,pv iC 0),(3,pv YP 0),(4,iv 6)] kr (ai (af.s (v:=sv xs) (aS 2 rfl rfl underlying9 rfl kr) rfl rfl ?_))));obtain ⟨arp,aq8,aqP,hF⟩:=hF;refine ai (af.s (b_ (s:=xs) (l:=0) (h:=1) kr underlying9 (.inr ⟨rfl,rfl⟩) (.inl ⟨_,_,rfl,rfl⟩) arp aq8 aqP (xs.take (Int.toNat 1)) (by simp)) rfl rfl (ag 1 [3] [(7,.agg #[iv 6,sv (xs.take (Int.toNat 1)),sv ([]:Bs),iv 0])] ?_));refine ai (af.w 0 ?_);refine aa (Ok.ret (bA (vs:=[.agg #[iv 6,sv (xs.take (Int.toNat 1)),sv ([]:Bs),iv 0]]) (.inl rfl) rfl (.cons (.iM 0 4 #[iv 6,sv (xs.take (Int.toNat 1)),sv ([]:Bs),iv 0] rfl rfl underlying98 rfl kr kr kr) .nil) rfl (ai (af.w 1 ?_))));refine aa (Ok.ret (aV (aC ?_)));exact jf 1 [] (bu w0 g) ⟨(6,xs.take (Int.toNat 1),([]:Bs),0),rfl,rfl,hF⟩
 refine Ok.k (bG (Ok.t (ae (ag 1 [2] [(130,.func (.func 86) #[] #[pv iC 0])] ?_))));refine ai (bO (args:=#[iv 12,pv iC 0]) 8 [(0,iv 12),(1,pv iC 0)] gU func86 rfl rfl rfl rfl (ae (ai (bI zK fun YO=>?_))));refine aa (ae (av 1 [(1,pv iC 0),(3,pv YO 0),(4,iv 12)] kr (ai (af.s (v:=sv xs) (aS 2 rfl rfl underlying9 rfl kr) rfl rfl ?_))));obtain ⟨aed,ad2,adT,hF⟩:=hF;refine ai (af.s (b_ (s:=xs) (l:=0) (h:=1) kr underlying9 (.inr ⟨rfl,rfl⟩) (.inl ⟨_,_,rfl,rfl⟩) aed ad2 adT (xs.take (Int.toNat 1)) (by simp)) rfl rfl (ag 1 [3] [(7,.agg #[iv 12,sv (xs.take (Int.toNat 1)),sv ([]:Bs),iv 0])] ?_));refine ai (af.w 0 ?_);refine aa (Ok.ret (bA (vs:=[.agg #[iv 12,sv (xs.take (Int.toNat 1)),sv ([]:Bs),iv 0]]) (.inl rfl) rfl (.cons (.iM 0 4 #[iv 12,sv (xs.take (Int.toNat 1)),sv ([]:Bs),iv 0] rfl rfl underlying98 rfl kr kr kr) .nil) rfl (ai (af.w 1 ?_))));refine aa (Ok.ret ?_);exact jf 1 [] (bu w0 g) ⟨(12,xs.take (Int.toNat 1),([]:Bs),0),rfl,rfl,hF⟩
def nZ (s:Bs):Prop:=fV s∧s≠[]∧s.length<4294967281
theorem Zo {s:Bs} (h:fV s) (c:Bs):0≤w6 ((s.length:Int) - ((m_ s c).length:Int))∧w6 ((s.length:Int) - ((m_ s c).length:Int))≤s.length:=by
 have:=Gc s c;unfold fV at h;rw [fU om];omega
theorem GY {s:Bs} (h:fV s):0≤(jc s).2∧(jc s).2≤s.length:=by
 have h1:=NF h;have h2:=Zh h;unfold jc
 split
 ·simp
 unfold lg;unfold fV at h;generalize w6 ((aY s)+(bU (s.drop (Int.toNat (aY s)))))=e at h1 h2 ⊢
 split
 ·rename_i hc
  have:=h2.2 (df hc);rw [fU (x:=1+numbV2 s) om,fU om];omega
 omega
theorem ae9 (s p:Bs):(pV s p).1.length≤s.length:=by
 unfold pV ky
 split <;> simp
theorem Ij:∀ (s sub:Bs),0≤Lib.index s sub→Lib.index s sub+sub.length≤s.length
 | [],sub=>by
  unfold Lib.index
  split
  ·rename_i h; intro _; rw [List.isEmpty_iff.1 h]; simp
  intro h; omega
 | b::l,sub=>by
  unfold Lib.index
  split
  ·rename_i h
   intro _;have:=(List.isPrefixOf_iff_prefix.1 h).length_le;omega
  split
  ·intro h; omega
  rename_i h1 h2
  intro h;have h3:=Lib.index_ge l sub
  have:Lib.index l sub≠-1:=by simpa using h2
  have:=Ij l sub om;simp only [di];omega
theorem Pb {s:Bs} (h:fV s) (h1:(pV s ([47,42]:Bs)).2=true) (h2:decide ((mX (pV s ([47,42]:Bs)).1 ([42,47]:Bs))≥0)=true) :
  0≤w6 ((mX (pV s ([47,42]:Bs)).1 ([42,47]:Bs))+4)∧w6 ((mX (pV s ([47,42]:Bs)).1 ([42,47]:Bs))+4)≤s.length:=by
 have h2:=df h2;have h3:=Ij (pV s ([47,42]:Bs)).1 ([42,47]:Bs) h2
 have h4:(pV s ([47,42]:Bs)).1.length+2=s.length:=by
  unfold pV ky at h1 ⊢;cases hc:kH s ([47,42]:Bs)
  ·rw [hc,aU (show (!false)=true from rfl)] at h1; cases h1
  rw [aG (show (!true)=false from rfl)];have:=nL hc;simp at this;simp;omega
 unfold mX at h2 ⊢;unfold fV at h;simp only [di,jW] at h3;rw [fU om];omega
theorem Fw (k:Int) (s:Bs):((cZ k s 0).2.1).length≤s.length:=by
 unfold cZ;simp only [gG];omega
theorem Fv {k:Int} {s:Bs} (h:fV s) (h1:zC (s.drop (Int.toNat (((cZ k s 0).2.1).length:Int))) ([40]:Bs)=true) :
  0≤w6 ((((cZ k s 0).2.1).length:Int)+1)∧w6 ((((cZ k s 0).2.1).length:Int)+1)≤s.length:=by
 have h2:=Fw k s;have h3:=nL (s:=s.drop (Int.toNat (((cZ k s 0).2.1).length:Int))) (p:=[40]) h1;rw [gJ] at h3;simp at h3;unfold fV at h;rw [fU om];omega
set_option maxHeartbeats 4000000
def rC (xs:Bs):KT:=(9,oF xs,([]:Bs),0)
theorem DX (xs:Bs) (hp:nZ xs) (P:KT→Prop) (h:P (rC xs)):uE xs (fun k0=>P k0):=by
 unfold rC at h;unfold uE;exact h
def mf (xs:Bs):KT:=(nG xs,kU xs,(cZ 1 xs 0).2.2.1,(cZ 1 xs 0).2.2.2)
theorem DV (xs:Bs) (hp:nZ xs) (P:KT→Prop) (h:P (mf xs)):uC xs (fun k0=>P k0):=by
 unfold mf at h;unfold uC;exact h
def kM (xs:Bs) (e10:UInt8):KT:=(if (oC e10)=true then (11,xs.take (Int.toNat 1),([]:Bs),0) else (if ((e10.toNat:Int)==92)=true then (6,xs.take (Int.toNat 1),([]:Bs),0) else (12,xs.take (Int.toNat 1),([]:Bs),0)))
theorem uF (xs:Bs) (e10:UInt8) (hp:nZ xs) (P:KT→Prop) (h:P (kM xs e10)):oM xs (fun k0=>P k0) e10:=by
 unfold kM at h;unfold oM;refine ⟨fun hc0=>?_,fun hc0=>?_⟩
 ·rw [aU hc0] at h;refine ⟨?_,?_,?_,?_⟩
  ·exact dw
  ·exact dw
  ·exact dw
  exact h
 rw [aG hc0] at h;refine ⟨fun hc1=>?_,fun hc1=>?_⟩
 ·rw [aU hc1] at h
  have hd1:=hc1; try simp only [aH,dY,fF,dB,dC,eX,dI,eP,dJ,dX,gp] at hd1
  refine ⟨?_,?_,?_,?_⟩
  ·exact dw
  ·exact dw
  ·exact dw
  exact h
 rw [aG hc1] at h
 have hd1:=hc1; try simp only [aH,dY,fF,dB,dC,eX,dI,eP,dJ,dX,gp] at hd1
 refine ⟨?_,?_,?_,?_⟩
 ·exact dw
 ·exact dw
 ·exact dw
 exact h
def ji (xs:Bs) (e10:UInt8):KT:=(if (oD e10)=true then (10,xs.take (Int.toNat 1),([]:Bs),0) else (kM xs e10))
theorem xg (xs:Bs) (e10:UInt8) (hp:nZ xs) (P:KT→Prop) (h:P (ji xs e10)):rA xs (fun k0=>P k0) e10:=by
 unfold ji at h;unfold rA;refine ⟨fun hc0=>?_,fun hc0=>?_⟩
 ·rw [aU hc0] at h;refine ⟨?_,?_,?_,?_⟩
  ·exact dw
  ·exact dw
  ·exact dw
  exact h
 rw [aG hc0] at h;refine ⟨fun hc1=>?_,fun hc1=>?_⟩
 ·skip
  have hd1:=hc1; try simp only [aH,dY,fF,dB,dC,eX,dI,eP,dJ,dX,gp] at hd1
  exact uF xs e10 (by exact dw) _ h
 skip
 have hd1:=hc1; try simp only [aH,dY,fF,dB,dC,eX,dI,eP,dJ,dX,gp] at hd1
 refine ⟨fun hc2=>?_,fun hc2=>?_⟩
 ·skip
  have hd2:=hc2; try simp only [aH,dY,fF,dB,dC,eX,dI,eP,dJ,dX,gp] at hd2
  exact uF xs e10 (by exact dw) _ h
 skip
 have hd2:=hc2; try simp only [aH,dY,fF,dB,dC,eX,dI,eP,dJ,dX,gp] at hd2
 exact uF xs e10 (by exact dw) _ h
def oL (xs:Bs) (e10:UInt8):KT:=(if (sj xs e10)=true then (cZ 3 xs 1) else (if (decide ((jc xs).2>0))=true then (kC xs (jc xs).1 (jc xs).2) else (if (mM xs)=true then (mf xs) else (ji xs e10))))
theorem DW (xs:Bs) (e10:UInt8) (hp:nZ xs) (P:KT→Prop) (h:P (oL xs e10)):uD xs (fun k0=>P k0) e10:=by
 unfold oL at h;unfold uD;refine ⟨fun hc0=>?_,fun hc0=>?_⟩
 ·rw [aU hc0] at h;refine ⟨?_,?_⟩
  ·exact dw
  exact h
 rw [aG hc0] at h;refine ⟨?_,?_⟩
 ·exact dw
 refine ⟨fun hc1=>?_,fun hc1=>?_⟩
 ·rw [aU hc1] at h;have hd1:=df hc1;refine ⟨?_,?_⟩
  ·exact dw
  exact h
 rw [aG hc1] at h;have hd1:=fq hc1;refine ⟨fun hc2=>?_,fun hc2=>?_⟩
 ·rw [aU hc2] at h;refine ⟨?_,?_⟩
  ·exact dw
  refine ⟨?_,?_,?_,?_⟩
  ·exact dw
  ·exact dw
  ·exact dw
  refine ⟨fun hc3=>?_,fun hc3=>?_⟩
  ·skip;refine ⟨?_,?_,?_,?_⟩
   ·exact dw
   ·exact dw
   ·exact dw
   exact DV xs (by exact dw) _ h
  skip;exact DV xs (by exact dw) _ h
 rw [aG hc2] at h;refine ⟨fun hc3=>?_,fun hc3=>?_⟩
 ·skip
  have hd3:=hc3; try simp only [aH,dY,fF,dB,dC,eX,dI,eP,dJ,dX,gp] at hd3
  exact xg xs e10 (by exact dw) _ h
 skip
 have hd3:=hc3; try simp only [aH,dY,fF,dB,dC,eX,dI,eP,dJ,dX,gp] at hd3
 refine ⟨fun hc4=>?_,fun hc4=>?_⟩
 ·skip
  have hd4:=hc4; try simp only [aH,dY,fF,dB,dC,eX,dI,eP,dJ,dX,gp] at hd4
  exact xg xs e10 (by exact dw) _ h
 skip
 have hd4:=hc4; try simp only [aH,dY,fF,dB,dC,eX,dI,eP,dJ,dX,gp] at hd4
 exact xg xs e10 (by exact dw) _ h
def nz (xs:Bs) (e10:UInt8):KT:=(if (mK xs e10)=true then (cZ 4 xs 1) else (oL xs e10))
theorem si (xs:Bs) (e10:UInt8) (hp:nZ xs) (P:KT→Prop) (h:P (nz xs e10)):pE xs (fun k0=>P k0) e10:=by
 unfold nz at h;unfold pE;refine ⟨fun hc0=>?_,fun hc0=>?_⟩
 ·rw [aU hc0] at h;refine ⟨?_,?_⟩
  ·exact dw
  exact h
 rw [aG hc0] at h;refine ⟨fun hc1=>?_,fun hc1=>?_⟩
 ·skip
  have hd1:=hc1; try simp only [aH,dY,fF,dB,dC,eX,dI,eP,dJ,dX,gp] at hd1
  refine ⟨?_,?_,?_,?_⟩
  ·exact dw
  ·exact dw
  ·exact dw
  exact DW xs e10 (by exact dw) _ h
 skip
 have hd1:=hc1; try simp only [aH,dY,fF,dB,dC,eX,dI,eP,dJ,dX,gp] at hd1
 exact DW xs e10 (by exact dw) _ h
def firstM (xs:Bs):KT:=(if (decide ((w6 ((xs.length:Int) - ((m_ xs ([32,9,10,12,13]:Bs)).length:Int)))>0))=true then (8,xs.take (Int.toNat (w6 ((xs.length:Int) - ((m_ xs ([32,9,10,12,13]:Bs)).length:Int)))),([]:Bs),0) else (if (pV xs ([47,42]:Bs)).2=true then (rC xs) else (if ((((xs.getD (Int.toNat 0) 0).toNat:Int)==39)||(((xs.getD (Int.toNat 0) 0).toNat:Int)==34))=true then (qM xs) else (nz xs (xs.getD (Int.toNat 0) 0)))))
theorem Vh (xs:Bs) (hp:nZ xs) (P:KT→Prop) (h:P (firstM xs)):IV xs (fun k0=>P k0):=by
 unfold firstM at h;unfold IV;refine ⟨?_,?_⟩
 ·exact dw
 refine ⟨fun hc0=>?_,fun hc0=>?_⟩
 ·rw [aU hc0] at h
  have hd0:=hc0; try simp only [aH,dY,fF,dB,dC,eX,dI,eP,dJ,dX,gp] at hd0
  refine ⟨?_,?_,?_,?_⟩
  ·exact dw
  ·exact dw
  ·exact dw
  exact h
 rw [aG hc0] at h
 have hd0:=hc0; try simp only [aH,dY,fF,dB,dC,eX,dI,eP,dJ,dX,gp] at hd0
 refine ⟨fun hc1=>?_,fun hc1=>?_⟩
 ·rw [aU hc1] at h;refine ⟨?_,?_⟩
  ·exact dw
  refine ⟨fun hc2=>?_,fun hc2=>?_⟩
  ·skip
   have hd2:=hc2; try simp only [aH,dY,fF,dB,dC,eX,dI,eP,dJ,dX,gp] at hd2
   refine ⟨?_,?_,?_,?_⟩
   ·exact dw
   ·exact dw
   ·exact dw
   exact DX xs (by exact dw) _ h
  skip
  have hd2:=hc2; try simp only [aH,dY,fF,dB,dC,eX,dI,eP,dJ,dX,gp] at hd2
  exact DX xs (by exact dw) _ h
 rw [aG hc1] at h;refine ⟨?_,?_,?_⟩
 ·exact dw
 ·exact dw
 refine ⟨fun hc2=>?_,fun hc2=>?_⟩
 ·rw [aU hc2] at h
  have hd2:=hc2; try simp only [aH,dY,fF,dB,dC,eX,dI,eP,dJ,dX,gp] at hd2
  refine ⟨?_,?_⟩
  ·exact dw
  exact h
 rw [aG hc2] at h
 have hd2:=hc2; try simp only [aH,dY,fF,dB,dC,eX,dI,eP,dJ,dX,gp] at hd2
 refine ⟨fun hc3=>?_,fun hc3=>?_⟩
 ·skip
  have hd3:=hc3; try simp only [aH,dY,fF,dB,dC,eX,dI,eP,dJ,dX,gp] at hd3
  refine ⟨fun hc4=>?_,fun hc4=>?_⟩
  ·skip;have hd4:=df hc4;refine ⟨?_,?_,?_⟩
   ·exact dw
   ·exact dw
   refine ⟨fun jy=>?_,fun jy=>?_⟩
   ·skip;exact si xs (xs.getD (Int.toNat 0) 0) (by exact dw) _ h
   skip;refine ⟨?_,?_,?_,?_⟩
   ·exact dw
   ·exact dw
   ·exact dw
   exact si xs (xs.getD (Int.toNat 0) 0) (by exact dw) _ h
  skip;have hd4:=fq hc4;exact si xs (xs.getD (Int.toNat 0) 0) (by exact dw) _ h
 skip
 have hd3:=hc3; try simp only [aH,dY,fF,dB,dC,eX,dI,eP,dJ,dX,gp] at hd3
 exact si xs (xs.getD (Int.toNat 0) 0) (by exact dw) _ h
theorem Yf (xs:Bs) (hp:nZ xs):IV xs (fun k0=>k0=firstM xs) :=
 Vh xs hp (fun z=>z=firstM xs) rfl
theorem Ye {g:ak} (xs:Bs) (hG0:bR g 0)  (hp:nZ xs):bC prog 53 #[sv xs] g (.agg (aK (firstM xs))) :=
 (Vg xs hG0 _ (Yf xs hp)).gv
end Go.Proofs.YtdapgmigogpdcaaGreatDoor.tO
namespace Go.Proofs.YtdapgmigogpdcaaGreatDoor.tO
open _root_.Go.Proofs.Tryz Go Go.iT jN BI
set_option maxHeartbeats 4000000
set_option maxRecDepth 100000
def aeZ (K:(List KT)→Prop) (v0:Bs) (z0:List KT) (C7:Bs→List KT→Prop):Prop :=
 ((!(v0==([]:Bs)))=true→nZ v0∧(z0++([firstM v0]:List KT)).length≤2932031007402∧0≤((firstM v0).2.1.length:Int)∧(((firstM v0).2.1.length:Int):Int)≤(v0.length:Int)∧(v0.length:Int)≤(v0.length:Int)∧C7 (v0.drop (Int.toNat ((firstM v0).2.1.length:Int))) (z0++([firstM v0]:List KT)))∧((!(v0==([]:Bs)))=false→K z0)
def P6 (K:(List KT)→Prop):Nat→Bs→List KT→Prop
 | 0,_,_=>False
 | k+1,v0,z0=>aeZ K v0 z0 (P6 K k)
def ak0 (xs:Bs) (K:(List KT)→Prop):Prop :=
 ∃ k,P6 K k xs ([]:List KT)
theorem ae0 {g:ak} (xs:Bs) (hG0:bR g 0) (K:(List KT)→Prop)
  (hF:ak0 xs K):az prog 31 #[sv xs] g [] (fun g' H' v=>∃ (r0:List KT),∃ (j0:Option Addr) (x0:Nat),v=.slice j0 r0.length x0∧bE g' (.slice yK) [.slice j0 r0.length x0] r0∧H'=[]∧K r0):=by
 refine aP 19 func31 rfl fun w0=>?_;refine ae (av 1 [(0,sv xs)] kr (aa (ae (ag 1 [0] [(3,.slice none 0 0)] ?_))));have hL1:aW g yK [] []:=rfl;refine fT 98 4 (aa (aF (Ok.block ?_)));obtain ⟨k,hF⟩:=hF;refine fQ (fun k a W=>∃ Va:ak,bf w0 g Va∧∃ (v0:Bs) (q0:Option Addr) (k0:Nat) (z0:List KT) (y0:List Value),aW Va yK y0 z0∧fC 19 [(0,sv v0),(3,.slice q0 z0.length k0)] a∧dm w0 [.own (.slice q0 z0.length k0) 98 4 z0.length y0] Va W∧P6 K k v0 z0) k ?_ ?_
 ·
  exact fun _ _ u v=>⟨g,bu w0 g,xs,none,0,([]:List KT),[],hL1,fA u v hF⟩
 clear hF;rintro (_ | k7) _ _ ⟨Va,s0,v0,q0,k0,z0,y0,u0,q⟩;exact (q.2.2:False).elim;refine jn (fun hF=>?_) _ _ q;replace hG0:=hG0.mono s0.1;refine aF (ae (ag 1 [0,3] [(5,sv v0)] ?_));refine ai (af.s (v:=.bool (!(v0==([]:Bs)))) (iG (f:=.neq) (a:=v0) (b:=([]:Bs)) kr kr rfl) rfl rfl (aa (aJ hF (fun hc2 hF=>?_) (fun hc2 hF=>?_))))
 ·refine Ok.k (Ok.t (Ok.block (ae (ag 1 [0,3] [(7,sv v0)] ?_))));obtain ⟨hp3,hF⟩:=hF;refine ai (af.f gU (fun W hW=>Ye v0 (hG0.mono hW.sees) hp3) rfl ?_);refine ai (bI zK fun ll=>?_);refine ai (af.w 0 ?_);refine aa (ae (ag 1 [0] [(4,pv ll 0),(9,.slice q0 z0.length k0)] ?_));refine ai (af.s (v:=.agg (aK (firstM v0))) (aZ 0 4 (aK (firstM v0)) rfl rfl underlying98 rfl kr kr kr) rfl rfl ?_);let B:=([firstM v0]:List KT);let C:=(firstM v0).2.2.1;have hL5:aW Va yK ((vK (firstM v0)):List Value) B:=(dx (c:=vK (firstM v0)) ⟨[iv (firstM v0).1],[sv ((firstM v0).2.1),sv C,iv (firstM v0).2.2.2],rfl,rfl,⟨[sv ((firstM v0).2.1)],[sv C,iv (firstM v0).2.2.2],rfl,rfl,⟨[sv C],[iv (firstM v0).2.2.2],rfl,rfl,rfl⟩⟩⟩ rfl);refine ai (gz hL5 fun b5=>?_);obtain ⟨hb6,hF⟩:=hF;refine ai (fu (e:=yK) 48 2932031007402 2 0 rfl rfl rfl rfl u0 hL5 underlying67 kr kr kr hb6 rfl fun a6 c6 xs6 hL6=>?_);refine ag 1 [0,4] [(3,.slice a6 (z0++B).length c6)] ?_;let A:=((firstM v0).2.1.length:Int);refine aa (aR (aj 4 [.e 1] [3] [(13,sv v0),(16,iv A)] ?_));obtain ⟨PG,QY,h27,hF⟩:=hF;let D:=v0.drop (Int.toNat A);refine ai (af.s (b_ (s:=v0) (l:=A) (h:=(v0.length:Int)) kr underlying9 (.inl ⟨_,_,rfl,rfl⟩) (.inr ⟨rfl,rfl⟩) PG QY h27 D (by rw [show (v0.length:Int).toNat=v0.length from dR _,iX])) rfl rfl (ag 1 [3] [(0,sv D)] ?_));refine bV (bG (Ok.t ?_));exact fun _ _ u v=>⟨k7,nl,Va,s0,v0.drop (Int.toNat A),a6,c6,(z0++B),xs6,hL6,fA u v hF⟩
 refine fw (ay (ay (aM (Ok.t (ae (av 2 [(2,.slice q0 z0.length k0)] kr (aa (Ok.ret (sQ 0 rfl u0 fun g8 hx8 apU=>?_)))))))));exact qg (.slice q0 z0.length k0) (s0.trans hx8) ⟨z0,q0,k0,rfl,apU,rfl,hF⟩
end Go.Proofs.YtdapgmigogpdcaaGreatDoor.tO
namespace Go.Proofs.YtdapgmigogpdcaaGreatDoor.Tk
open _root_.Go.Proofs.Tryz Go Go.iT jN BI tO
set_option maxHeartbeats 4000000
set_option maxRecDepth 100000
def Jd (xc:Int) (K:Bool→Prop):Prop :=
 K (((((xc==32)||(xc==9))||(xc==10))||(xc==12))||(xc==13))
theorem VE {g:ak} (xc:Int) (K:Bool→Prop)
  (hF:Jd xc K):az prog 121 #[.int .u8 xc] g [] (fun g' H' v=>∃ (r0:Bool),v=.bool r0∧H'=[]∧K r0):=by
 refine aP 21 func121 rfl fun w0=>?_;refine ae (av 1 [(0,.int .u8 xc)] kr (aa (ae (ag 3 [0] [(5,.bool (xc==32))] ?_))));let C:=(xc==32)||(xc==9);refine Ok.w 3 [(0,.int .u8 xc),(8,.bool C)] (fun AL=>?_) ?_
 ·refine Ok.a 5 (xc==32) rfl (fun hc2=>?_) (fun hc2=>?_)
  ·skip;refine ag 3 [0] [(8,.bool true)] ?_;refine aB 8 C (cK hc2) (ag 0 [0] [(8,.bool C)] ?_);exact AL
  skip;refine ag 3 [0] [(8,.bool (xc==9))] ?_;refine aB 8 C (bN hc2) (ag 0 [0] [(8,.bool C)] ?_);exact AL
 refine ag 1 [0] [(9,.bool C)] ?_;let A:=C||(xc==10);refine Ok.w 3 [(0,.int .u8 xc),(12,.bool A)] (fun Iu=>?_) ?_
 ·refine Ok.a 9 C rfl (fun hc4=>?_) (fun hc4=>?_)
  ·skip;refine ag 3 [0] [(12,.bool true)] ?_;refine aB 12 A (cK hc4) (ag 0 [0] [(12,.bool A)] ?_);exact Iu
  skip;refine ag 3 [0] [(12,.bool (xc==10))] ?_;refine aB 12 A (bN hc4) (ag 0 [0] [(12,.bool A)] ?_);exact Iu
 refine ag 1 [0] [(13,.bool A)] ?_;refine Ok.w 3 [(0,.int .u8 xc),(16,.bool (A||(xc==12)))] (fun Bp=>?_) ?_
 ·refine Ok.a 13 A rfl (fun hc6=>?_) (fun hc6=>?_)
  ·skip;refine ag 3 [0] [(16,.bool true)] ?_;refine aB 16 (A||(xc==12)) (cK hc6) (ag 0 [0] [(16,.bool (A||(xc==12)))] ?_);exact Bp
  skip;refine ag 3 [0] [(16,.bool (xc==12))] ?_;refine aB 16 (A||(xc==12)) (bN hc6) (ag 0 [0] [(16,.bool (A||(xc==12)))] ?_);exact Bp
 refine ag 1 [0] [(17,.bool (A||(xc==12)))] ?_;let B:=(A||(xc==12))||(xc==13);refine Ok.w 3 [(20,.bool B)] (fun hR7=>?_) ?_
 ·refine Ok.a 17 (A||(xc==12)) rfl (fun hc8=>?_) (fun hc8=>?_)
  ·skip;refine av 3 [(20,.bool true)] kr (aB 20 B (cK hc8) (av 0 [(20,.bool B)] kr ?_));exact hR7
  skip;refine av 3 [(20,.bool (xc==13))] kr (aB 20 B (bN hc8) (av 0 [(20,.bool B)] kr ?_));exact hR7
 refine av 1 [(2,.bool B)] kr (aa (Ok.ret ?_));exact dE B hF
def sG (xc:Int):Bool:=(((((xc==32)||(xc==9))||(xc==10))||(xc==12))||(xc==13))
theorem VF (xc:Int) (P:Bool→Prop) (h:P (sG xc)):Jd xc (fun k0=>P k0):=by
 unfold sG at h;unfold Jd;exact h
theorem YV (xc:Int):Jd xc (fun k0=>k0=sG xc) :=
 VF xc (fun z=>z=sG xc) rfl
theorem YU {g:ak} (xc:Int)  : bC prog 121 #[.int .u8 xc] g (.bool (sG xc)) :=
 (VE xc _ (YV xc)).gv
theorem uJ {p:UInt8→Bool} (h:(List.range 256).all (fun n=>p (UInt8.ofNat n))=true) (c:UInt8):p c=true:=by
 have h1:=l7.1 h c.toNat (by simpa using c.toNat_lt);simpa using h1
theorem yQ (a b:UInt8):(((a.toNat:Int)==(b.toNat:Int))=(a==b)):=by
 by_cases h:a=b
 ·subst h; simp
 have:¬ ((a.toNat:Int)==(b.toNat:Int))=true:=fun e=>h ((yO a b).1 e);rw [Bool.not_eq_true] at this;rw [this]; simpa using h
theorem VI (c:UInt8) (r:Bs):mM (c::r)=if (c==45&&decide (r≠[]))=true then (r.getD 0 0==45||(dF ((r.getD 0 0).toNat:Int)||jJ r)) else (dF (c.toNat:Int)||jJ (c::r)):=by
 unfold mM vQ qc;have e1:((((c::r).getD (Int.toNat 0) 0).toNat:Int)==45)=(c==45):=yQ c 45
 have e2:decide (((c::r).length:Int)>1)=decide (r≠[]):=by
  apply decide_eq_decide.2;cases r
  ·simp
  simp only [di,gp,reduceCtorEq,not_false_eq_true,iff_true]; omega
 have e3:((((c::r).getD (Int.toNat 1) 0).toNat:Int)==45)=(r.getD 0 0==45):=yQ (r.getD 0 0) 45;rw [aG (show (c::r==([]:Bs))=false from rfl),e1,e2,e3];rfl
def wM (s:Bs) (i:Int):Bs×Int:=((ek (s.drop i.toNat)).1,i+(ek (s.drop i.toNat)).2)
set_option maxHeartbeats 4000000
set_option maxRecDepth 100000
set_option maxHeartbeats 4000000
set_option maxRecDepth 100000
theorem Sn {s:Bs} (h:fV s) {i:Nat} (hi:i≤s.length):(wM s (i:Int)).2=w6 ((i:Int)+(ek (s.drop i)).2)∧(i:Int)≤(wM s (i:Int)).2∧(wM s (i:Int)).2≤s.length:=by
 have h1:=vB (iV h i);rw [gJ] at h1;unfold fV at h;unfold wM;rw [dR];simp only;rw [fU om];omega
def Gx (s:Bs):Int×Bs×Bs×Int:=(9,(if 0≤Lib.index (s.drop 2) [42,47] then s.take ((Lib.index (s.drop 2) [42,47]).toNat+4) else s),[],0)
def Sy (e2:UInt8):Int :=
 (if ((((e2.toNat:Int)==40)||((e2.toNat:Int)==91))||((e2.toNat:Int)==123))=true then 10 else 12)
def Sw (e2:UInt8):Int :=
 (if ((((e2.toNat:Int)==41)||((e2.toNat:Int)==93))||((e2.toNat:Int)==125))=true then 11 else (Sy e2))
def Sv (e2:UInt8):Int :=
 (if ((e2.toNat:Int)==92)=true then 6 else (Sw e2))
def spN (s:Bs):Nat:=s.length - (m_ s [32,9,10,12,13]).length
theorem Wz {s:Bs} (h:fV s):w6 ((s.length:Int) - ((m_ s ([32,9,10,12,13]:Bs)).length:Int))=(spN s:Int):=by
 have:=Gc s [32,9,10,12,13];unfold fV at h;unfold spN;rw [fU om]; omega
theorem YL {s:Bs} (h:(pV s ([47,42]:Bs)).2=true):(pV s ([47,42]:Bs)).1=s.drop 2:=by
 unfold pV ky at h ⊢;cases hc:kH s ([47,42]:Bs)
 ·rw [hc] at h; cases h
 rfl
theorem Xn {s:Bs} (h:fV s) (hc:(pV s ([47,42]:Bs)).2=true):Gx s=(9,oF s,[],0):=by
 have hl:=Ij (s.drop 2) [42,47];unfold Gx oF mX;rw [YL hc];rw [gJ] at hl;unfold fV at h
 by_cases h0:0≤Lib.index (s.drop 2) [42,47]
 ·have:=hl h0;simp only [di,jW] at this;rw [bB h0,aU (by simpa using h0),fU om,show (Lib.index (s.drop 2) [42,47]+4).toNat=(Lib.index (s.drop 2) [42,47]).toNat+4 by omega]
 rw [aQ h0,aG (by simpa using h0)]
theorem Tt {s:Bs} (h:fV s) (q:Int) {i:Nat} (hi:i≤s.length):cZ q s (i:Int)=(q,s.take (wM s (i:Int)).2.toNat,(wM s (i:Int)).1,0):=by
 unfold cZ;rw [(Sn h hi).1,dR];rfl
theorem b35 (c:UInt8):((c.toNat:Int)==35)=(c==35):=yQ c 35
theorem Wp (xs:Bs) (c:UInt8):ji xs c=(Sv c,xs.take (Int.toNat 1),[],0):=by
 unfold ji kM oD oC Sv Sw Sy;have e:∀ n:UInt8,((c.toNat:Int)==(n.toNat:Int))=(c==n):=yQ c;have e40:((c.toNat:Int)==40)=(c==40):=e 40;have e41:((c.toNat:Int)==41)=(c==41):=e 41;have e91:((c.toNat:Int)==91)=(c==91):=e 91;have e93:((c.toNat:Int)==93)=(c==93):=e 93;have arC:((c.toNat:Int)==123)=(c==123):=e 123;have e125:((c.toNat:Int)==125)=(c==125):=e 125;have e92:((c.toNat:Int)==92)=(c==92):=e 92;rw [e40,e41,e91,e93,arC,e125,e92]
 by_cases h40:c=40
 ·subst h40; rfl
 by_cases h91:c=91
 ·subst h91; rfl
 by_cases J0:c=123
 ·subst J0; rfl
 by_cases h41:c=41
 ·subst h41; rfl
 by_cases h93:c=93
 ·subst h93; rfl
 by_cases W0:c=125
 ·subst W0; rfl
 by_cases Rx:c=92
 ·subst Rx; rfl
 simp [h40,h91,J0,h41,h93,W0,Rx]
set_option maxHeartbeats 4000000
set_option maxRecDepth 100000
abbrev Tok:=Int×Bs×Bs×Int
theorem VH {s:Bs} (h:mM s=true):1≤(xE s.length s).2:=by
 match s with
 | []=>cases h
 | c::r =>
  cases he:jJ (c::r)
  ·have hs:kz (c.toNat:Int)=true:=by
    rw [VI] at h
    split at h
    ·rename_i hc
     rw [aH] at hc
     have:c=45:=by simpa using hc.1
     subst this;decide +kernel
    rw [he,nD] at h;unfold kz A7;rw [h]; rfl
   show 1≤(xE (r.length+1) (c::r)).2;rw [mI _ c r he,aU hs];simp
  have hl:=Br he
  match r,he,hl with
  | d::r,he,_ =>
   show 1≤(xE (r.length+1+1) (c::d::r)).2;rw [Bg _ c d r he];simp
theorem take_len {s:Bs} {n:Nat} (h:1≤n) (hs:1≤s.length):1≤(s.take n).length∧(s.take n).length≤s.length:=by
 rw [gG]; omega
theorem Q6 {s:Bs} (hp:nZ s):1≤(firstM s).2.1.length∧(firstM s).2.1.length≤s.length:=by
 obtain ⟨h,hne,hlt⟩:=hp;have hs:1≤s.length:=List.length_pos_iff.mpr hne;have hw:=Wz h;have hall:1≤s.length∧s.length≤s.length:=⟨hs,fP _⟩
 have nm:∀ (q:Int) (i:Nat),i≤s.length→(1≤i∨mM s=true∧i=0)→1≤(cZ q s (i:Int)).2.1.length∧(cZ q s (i:Int)).2.1.length≤s.length:=fun q i hi ho=>by
  rw [Tt h q hi];refine take_len ?_ hs;have h1:=vB (iV h i);unfold wM;rw [dR]
  rcases ho with ho | ⟨ho,rfl⟩
  ·simp only; omega
  have:=VH ho;simp only [gm];unfold ek;simp only;omega
 have f88:∀ c,1≤(ji s c).2.1.length∧(ji s c).2.1.length≤s.length:=fun c=>by
  rw [Wp]; exact take_len dc hs
 have n0:=nm 1 0 (ik _);have n4:=nm 4 1 hs (.inl (fP _));have n3:=nm 3 1 hs (.inl (fP _));unfold firstM;rw [hw]
 split
 ·rename_i hc
  have:=df hc;exact take_len om hs
 split
 ·rename_i hc
  have e:=Xn h hc
  have:(rC s).2.1=(Gx s).2.1:=by rw [e]; rfl
  rw [this];unfold Gx;simp only
  split
  ·exact take_len om hs
  exact hall
 split
 ·show 1≤(qM s).2.1.length∧_;unfold qM Wh;simp only
  split
  ·exact take_len om hs
  split
  ·exact take_len om hs
  exact hall
 unfold nz oL
 split
 ·exact n4
 split
 ·exact n3
 split
 ·rename_i hc
  have hc:=df hc;have:=GY h;show 1≤(kC s (jc s).1 (jc s).2).2.1.length∧_;obtain ⟨i,hi⟩:∃ k:Nat,(jc s).2=(k:Int):=⟨(jc s).2.toNat,om⟩;rw [hi] at hc this ⊢;have h1:=vB (iV h i);rw [gJ] at h1;have h2:=h;unfold fV at h2;unfold kC ng jq;simp only;rw [fU (x:=(i:Int)+1) om,dR,fU om]
  split
  ·exact take_len om hs
  split <;> exact take_len om hs
 split
 ·rename_i hB
  have:=n0 (.inr ⟨hB,rfl⟩);have hn0:((0:Nat):Int)=0:=rfl;rw [hn0] at this;show 1≤(kU s).length∧(kU s).length≤s.length;unfold kU
  split
  ·have h2:=h;unfold fV at h2;rw [fU om];exact take_len om hs
  exact this
 exact f88 _
def cutN:Nat→Bs→List Tok
 | 0,_=>[]
 | k+1,s=>if s=[] then [] else firstM s::cutN k (s.drop (firstM s).2.1.length)
def jd (s:Bs):List Tok:=cutN s.length s
def sD (s:Bs):Prop:=s.length<4294967281
theorem Ra {s:Bs} (h:sD s) (hne:s≠[]):nZ s:=⟨by unfold sD at h; unfold fV; omega,hne,h⟩
theorem Vz (K:List Tok→Prop):∀ (k:Nat) (s:Bs) (out:List Tok),s.length≤k→out.length+s.length<4294967281→K (out++cutN k s)→P6 K (k+1) s out:=by
 intro k
 induction k with
 | zero =>
  intro s out h1 h2 hK;obtain rfl:s=[]:=iO om;refine ⟨(fun h=>by cases h),fun _=>?_⟩;simpa [cutN] using hK
 | succ k ih =>
  intro s out h1 h2 hK
  by_cases hs:s=[]
  ·subst hs;refine ⟨(fun h=>by cases h),fun _=>?_⟩;simpa [cutN] using hK
  have hf:=Ra (s:=s) (by unfold sD; omega) hs;have hr:=Q6 hf;refine ⟨fun _=>⟨hf,by simp; omega,om,om,om,?_⟩,fun h=>absurd (by simpa using h) hs⟩;rw [dR];refine ih _ _ (by rw [gJ]; omega) (by rw [gJ]; simp; omega) ?_;have e:cutN (k+1) s=firstM s::cutN k (s.drop (firstM s).2.1.length):=aQ hs;rw [e] at hK;rw [dM];exact hK
theorem akZ (s:Bs) (hp:sD s):ak0 s (fun r=>r=jd s) :=
 ⟨_,Vz _ s.length s [] (fP _) (by unfold sD at hp; simpa using hp) (by simp [jd])⟩
theorem ZV {g:ak} (xs:Bs) (hG0:bR g 0)  (hp:sD xs):az prog 31 #[sv xs] g [] (fun g' H' v=>∃ (y0:Option Addr) (u0:Nat),v=.slice y0 (jd xs).length u0∧bE g' (.slice yK) [.slice y0 (jd xs).length u0] (jd xs)∧H'=[]) :=
 (ae0 xs hG0 _ (akZ xs hp)).mono (by rintro g' H' v _ ⟨r0,y0,u0,rfl,s0,rfl,hK⟩; subst hK; exact ⟨y0,u0,rfl,s0,rfl⟩)
def anv (l:List Tok):Bs:=(l.map fun t=>t.2.1).flatten
def vS (l:List Tok):Prop:=(anv l).length≤140737488351232∧l.length≤140737488351232
theorem Dr (a b:Bs):intsOf a++intsOf b=intsOf (a++b):=by simp [intsOf]
end Go.Proofs.YtdapgmigogpdcaaGreatDoor.Tk
