/- selector: its numbers; strings.Cut, strconv.Atoi where it is right. -/
import Derived.Test.YtdapgmigogpdcaaGreatDoorSyc
import Derived.Test.YtdapgmigogpdcaaGreatDoorSha
import Derived.Test.YtdapgmigogpdcaaGreatDoorCsu
import Derived.Test.YtdapgmigogpdcaaGreatDoorDob
import Derived.Lib.AtoiErrMem
import Derived.Test.YtdapgmigogpdcaaGreatDoorSta
namespace Go.Proofs.YtdapgmigogpdcaaGreatDoor.Se
open _root_.Go.Proofs.Tryz Go Go.iQ Go.RowKit Go.Shelf Go.Proofs jL BF tF Tk Rp Qu Me Ti
set_option linter.unusedVariables false
set_option linter.unusedSimpArgs false
set_option maxHeartbeats 4000000
set_option maxRecDepth 100000
def wS (s:Bs):Prop:=∃ n:Int,(-1000≤n∧n≤1000)∧(s=Lib.itoa n∨0≤n∧s=43::Lib.itoa n)
def MP (s:Bs) (n:Int):Bool:=decide (s.length≤18)&&(Lib.atoi s==some n)&&(vI s==n)&&decide (1≤s.length)&&(Lib.trimS (mZ (s.take 1) [43,45]++s.drop 1) [48,49,50,51,52,53,54,55,56,57]==[])&&(aJ s==s)&&(!(s==[45]))&&(!(s.headD 0==111))&&(!(s.headD 0==101))&&((s.headD 0==45)||decide (0≤n))
theorem vz:∀ n:Int,-1000≤n∧n≤1000→MP (Lib.itoa n) n=true∧(0≤n→MP (43::Lib.itoa n) n=true):=fun n h=>by
 have:∀ k:Fin 2001,MP (Lib.itoa ((k.val:Int) - 1000)) ((k.val:Int) - 1000)=true∧(0≤(k.val:Int) - 1000→MP (43::Lib.itoa ((k.val:Int) - 1000)) ((k.val:Int) - 1000)=true):=by decide +kernel
 have:=this ⟨(n+1000).toNat,om⟩
 rw [show (((⟨(n+1000).toNat,om⟩:Fin 2001).val:Int) - 1000)=n by show (((n+1000).toNat:Nat):Int) - 1000=n; omega] at this
 exact this
theorem wS.fit {s:Bs} (h:wS s):∃ n,MP s n=true:=by
 obtain ⟨n,h1,rfl | ⟨h2,rfl⟩⟩:=h
 ·exact ⟨n,(vz n h1).1⟩
 exact ⟨n,(vz n h1).2 h2⟩
structure Yd (s:Bs) (n:Int):Prop where
 len:s.length≤18
 ato:Lib.atoi s=some n
 vI:vI s=n
 one:1≤s.length
 tri:Lib.trimS (mZ (s.take 1) [43,45]++s.drop 1) [48,49,50,51,52,53,54,55,56,57]=[]
 low:aJ s=s
 n45:s≠[45]
 n111:s.headD 0≠111
 n101:s.headD 0≠101
 sgn:s.headD 0=45∨0≤n
theorem LG {s:Bs} {n:Int} (hf:MP s n=true):Yd s n:=by
 unfold MP at hf
 simp only [aG,dH,dI,dA,dR,dU] at hf
 obtain ⟨⟨⟨⟨⟨⟨⟨⟨⟨h1,h2⟩,h3⟩,h4⟩,h5⟩,h6⟩,h7⟩,h8⟩,h9⟩,h10⟩:=hf
 exact ⟨h1,h2,h3,h4,h5,h6,h7,h8,h9,h10⟩
theorem wS.facts {s:Bs} (h:wS s):∃ n,Yd s n:=by
 obtain ⟨n,hf⟩:=h.fit
 exact ⟨n,LG hf⟩
theorem wS.ato {s:Bs} (h:wS s):∃ n,s.length≤18∧Lib.atoi s=some n:=by
 obtain ⟨n,hf⟩:=h.facts
 exact ⟨n,hf.len,hf.ato⟩
def tC (s:Bs):Int×Bool:=((Lib.atoi s).getD 0,true)
theorem akn {g:ak} (s:Bs) (hp:wS s) :
  az prog 250 #[sv s] g [] (fun g' H' v=>∃ (ir1:Value),v=.tuple #[iv (tC s).1,ir1]∧IfV ir1 (tC s).2∧H'=[]):=fun W hW=>by
 obtain ⟨n,h1,h2⟩:=hp.ato
 refine (Tryz.strconv_Atoi ⟨⟨s⟩⟩ n h1 h2 W).mono fun e W' ⟨he,t,hw⟩=>?_
 refine ⟨_,g,[],he,⟨_,by unfold tC; rw [h2]; rfl,rfl,rfl⟩,bq _ g,?_⟩
 subst hw
 exact hW.of_below (Lib.bytesWorld_below _ _ _)
def ae7 (xs:Bs) (K:Int→Bool→Prop):Prop :=
 wS xs∧((tC xs).2=true→(0:Int)≤0∧(0:Int)≤1∧1≤(xs.length:Int)∧tlP (xs.take (Int.toNat 1)) ([43,45]:Bs)∧(0:Int)≤1∧(1:Int)≤(xs.length:Int)∧(xs.length:Int)≤(xs.length:Int)∧(mZ (xs.take (Int.toNat 1)) ([43,45]:Bs)).length+(xs.drop (Int.toNat 1)).length≤maxLen∧Nu ((mZ (xs.take (Int.toNat 1)) ([43,45]:Bs))++xs.drop (Int.toNat 1)) ([48,49,50,51,52,53,54,55,56,57]:Bs)∧K (tC xs).1 ((trimS ((mZ (xs.take (Int.toNat 1)) ([43,45]:Bs))++xs.drop (Int.toNat 1)) ([48,49,50,51,52,53,54,55,56,57]:Bs))==([]:Bs)))∧((tC xs).2=false→K (tC xs).1 false)
theorem Zg {g:ak} (xs:Bs) (K:Int→Bool→Prop)
  (hF:ae7 xs K):az prog 237 #[sv xs] g [] (fun g' H' v=>∃ (r0:Int),∃ (r1:Bool),v=.tuple #[iv r0,.bool r1]∧H'=[]∧K r0 r1):=by
 refine aP 24 func237 rfl fun w0=>?_
 refine ae (av 2 [(0,sv xs)] kr (aa (ae (ag 1 [0] [(7,sv xs)] ?_))))
 obtain ⟨hp1,hF⟩:=hF
 refine ai (bQ (akn xs hp1) fun g2 _ _ hx2 hV2=>?_)
 obtain ⟨amg,rfl,z0,rfl⟩:=hV2
 refine UW (tC xs).2 (fun hc3=>?_) (fun hc3=>?_)
 ·replace hF:=hF.1 hc3
  replace z0:amg=.nilIface:=by rw [hc3] at z0; exact z0
  subst z0
  refine av 5 [(0,sv xs),(4,iv (tC xs).1),(5,.nilIface)] kr (aa (aH (gu kr kr (fe 5 [0] [(11,iv (tC xs).1),(14,.bool true),(15,sv xs)] ?_))))
  obtain ⟨qA,ru,TU,hF⟩:=hF
  refine lM (j:=3) (d:=14) (want:=true) (b:=true) rfl kr kr rfl (fM.s (v:=sv (xs.take (Int.toNat 1))) (bZ (s:=xs) (l:=0) (h:=1) kr underlying9 (.inr ⟨rfl,rfl⟩) (.inl ⟨_,_,rfl,rfl⟩) qA ru TU (xs.take (Int.toNat 1)) (by simp)) rfl rfl ?_)
  obtain ⟨Kj,hF⟩:=hF
  refine lM (j:=3) (d:=14) (want:=true) (b:=true) rfl kr kr rfl (fM.f gT (fun W hW=>Zp (xs.take (Int.toNat 1)) ([43,45]:Bs) Kj) rfl ?_)
  refine fe 1 [11,14] [(17,sv (mZ (xs.take (Int.toNat 1)) ([43,45]:Bs))),(18,sv xs)] ?_
  obtain ⟨vY,h16,Xd,hF⟩:=hF
  refine lM (j:=3) (d:=14) (want:=true) (b:=true) rfl kr kr rfl (fM.s (v:=sv (xs.drop (Int.toNat 1))) (bZ (s:=xs) (l:=1) (h:=(xs.length:Int)) kr underlying9 (.inl ⟨_,_,rfl,rfl⟩) (.inr ⟨rfl,rfl⟩) vY h16 Xd (xs.drop (Int.toNat 1)) (QW _ _)) rfl rfl ?_)
  obtain ⟨hv,hF⟩:=hF
  refine lM (j:=3) (d:=14) (want:=true) (b:=true) rfl kr kr rfl (fM.s (v:=sv ((mZ (xs.take (Int.toNat 1)) ([43,45]:Bs))++xs.drop (Int.toNat 1))) (dx rfl rfl hv) rfl rfl ?_)
  obtain ⟨Md,hF⟩:=hF
  refine lM (j:=3) (d:=14) (want:=true) (b:=true) rfl kr kr rfl (fM.f gT (fun W hW=>trim_c ((mZ (xs.take (Int.toNat 1)) ([43,45]:Bs))++xs.drop (Int.toNat 1)) ([48,49,50,51,52,53,54,55,56,57]:Bs) Md) rfl ?_)
  refine lM (j:=3) (d:=14) (want:=true) (b:=true) rfl kr kr rfl (fM.s (v:=.bool ((trimS ((mZ (xs.take (Int.toNat 1)) ([43,45]:Bs))++xs.drop (Int.toNat 1)) ([48,49,50,51,52,53,54,55,56,57]:Bs))==([]:Bs))) (iE (f:=.eql) (a:=(trimS ((mZ (xs.take (Int.toNat 1)) ([43,45]:Bs))++xs.drop (Int.toNat 1)) ([48,49,50,51,52,53,54,55,56,57]:Bs))) (b:=([]:Bs)) kr kr rfl) rfl rfl (yO 3 [(2,iv (tC xs).1),(3,.bool ((trimS ((mZ (xs.take (Int.toNat 1)) ([43,45]:Bs))++xs.drop (Int.toNat 1)) ([48,49,50,51,52,53,54,55,56,57]:Bs))==([]:Bs)))] kr (kU (Ok.t (Ok.ret ?_)))))
  exact gH (vs:=[iv (tC xs).1,.bool ((trimS ((mZ (xs.take (Int.toNat 1)) ([43,45]:Bs))++xs.drop (Int.toNat 1)) ([48,49,50,51,52,53,54,55,56,57]:Bs))==([]:Bs))]) (.inl rfl) rfl (.cons (.tmp rfl) (.cons (.tmp rfl) .nil)) hx2 ⟨(tC xs).1,((trimS ((mZ (xs.take (Int.toNat 1)) ([43,45]:Bs))++xs.drop (Int.toNat 1)) ([48,49,50,51,52,53,54,55,56,57]:Bs))==([]:Bs)),rfl,rfl,hF⟩
 replace hF:=hF.2 hc3
 rw [hc3] at z0
 obtain ⟨alK,alW,rfl⟩:=z0
 refine av 5 [(0,sv xs),(4,iv (tC xs).1),(5,.iface alK alW)] kr (aa (aH (gu kr kr (yO 15 [(2,iv (tC xs).1),(3,.bool false)] kr (kU (Ok.t (Ok.ret ?_)))))))
 exact gH (vs:=[iv (tC xs).1,.bool false]) (.inl rfl) rfl (.cons (.tmp rfl) (.cons (.tmp rfl) .nil)) hx2 ⟨(tC xs).1,false,rfl,rfl,hF⟩
def jN (s:Bs):Int×Bool:=(vI s,true)
theorem ae6 (s:Bs) (hp:wS s):ae7 s (fun a b=>(a,b)=jN s):=by
 obtain ⟨n,hf⟩:=hp.facts
 have ho:=hf.one
 have hl:=hf.len
 have htl:(mZ (s.take 1) [43,45]).length≤1:=by
  have:(mZ (s.take 1) [43,45]).length≤(s.take 1).length:=(List.dropWhile_suffix _).length_le
  simp only [gz] at this
  omega
 refine ⟨hp,fun _=>⟨by decide,by decide,om,⟨by decide,by decide,by decide⟩,by decide,om,om,?_,⟨?_,by decide,by decide⟩,?_⟩,fun h=>(by cases h)⟩
 ·have:(s.drop 1).length≤17:=by rw [gJ]; omega
  show (mZ (s.take 1) [43,45]).length+(s.drop 1).length≤9223372036854775807
  omega
 ·have:(s.drop 1).length≤17:=by rw [gJ]; omega
  show (mZ (s.take 1) [43,45]++s.drop 1).length≤9223372036854775807
  rw [bC]
  omega
 show (_,_)=_
 unfold jN tC
 rw [hf.ato,hf.vI,show trimS (mZ (s.take (Int.toNat 1)) [43,45]++s.drop (Int.toNat 1)) [48,49,50,51,52,53,54,55,56,57]=[] from hf.tri]
 rfl
theorem QL {g:ak} (xs:Bs)  (hp:wS xs):bE prog 237 #[sv xs] g (.tuple #[iv (jN xs).1,.bool (jN xs).2]) :=
 (Zg xs _ (ae6 xs hp)).gives (by rintro g' H' v _ ⟨r0,r1,rfl,rfl,hK⟩; obtain ⟨rfl,rfl⟩:r0=(jN xs).1∧r1=(jN xs).2:=⟨ay (fun z=>z.1) hK,ay (fun z=>z.2) hK⟩; rfl)
def dM (s sep:Bs):Bs×Bs×Bool:=Lib.cut s sep
def O7 (s _:Bs):Prop:=s.length≤1000000
theorem adW {g:ak} (s sep:Bs) (hG:bP g 0) (hp:O7 s sep):bE prog 236 #[sv s,sv sep] g (.tuple #[sv ((dM s sep).1),sv ((dM s sep).2.1),.bool (dM s sep).2.2]):=fun W hW=>by
 obtain ⟨cs,T,fz,m,h1,h2⟩:=hG
 have hsz:(⟨⟨s⟩⟩:ByteArray).size=s.length:=rfl
 unfold O7 at hp
 refine (Tryz.strings_Cut ⟨⟨s⟩⟩ ⟨⟨sep⟩⟩ m W (by rw [hsz]; omega) (by rw [Lib.cell_of_heap (hW _ _ h1)]; exact h2)).mono fun e W' ⟨he,n,hw⟩=>⟨he,?_⟩
 subst hw
 exact ⟨rfl,rfl,rfl,fK _,fun _ _=>rfl⟩
def uf (xs:Bs):Int :=
 (if ((dM (aJ xs) ([110]:Bs)).1==([]:Bs))=true then 1 else (if ((dM (aJ xs) ([110]:Bs)).1==([45]:Bs))=true then -1 else (jN (dM (aJ xs) ([110]:Bs)).1).1))
def nL (xs:Bs):Bool :=
 (((dM (aJ xs) ([110]:Bs)).1==([]:Bs))||(((dM (aJ xs) ([110]:Bs)).1==([45]:Bs))||(jN (dM (aJ xs) ([110]:Bs)).1).2))
def vU (xs:Bs):Bool :=
 (if (!((dM (aJ xs) ([110]:Bs)).2.1==([]:Bs)))=true then ((nL xs&&(jN (dM (aJ xs) ([110]:Bs)).2.1).2)&&(((((dM (aJ xs) ([110]:Bs)).2.1.getD (Int.toNat 0) 0).toNat:Int)==43)||((((dM (aJ xs) ([110]:Bs)).2.1.getD (Int.toNat 0) 0).toNat:Int)==45))) else (nL xs))
def vT (xs:Bs):Int :=
 (if (!((dM (aJ xs) ([110]:Bs)).2.1==([]:Bs)))=true then (jN (dM (aJ xs) ([110]:Bs)).2.1).1 else 0)
def zg (xs:Bs) (K:Int→Int→Bool→Prop):Prop :=
 K (uf xs) (vT xs) (vU xs)
def CR (xs:Bs) (K:Int→Int→Bool→Prop):Prop :=
 ((!((dM (aJ xs) ([110]:Bs)).2.1==([]:Bs)))=true→wS (dM (aJ xs) ([110]:Bs)).2.1∧((nL xs&&(jN (dM (aJ xs) ([110]:Bs)).2.1).2)=true→(0:Int)≤0∧Int.toNat 0<(dM (aJ xs) ([110]:Bs)).2.1.length∧(((((dM (aJ xs) ([110]:Bs)).2.1.getD (Int.toNat 0) 0).toNat:Int)==43)=true→zg xs K)∧(((((dM (aJ xs) ([110]:Bs)).2.1.getD (Int.toNat 0) 0).toNat:Int)==43)=false→zg xs K))∧((nL xs&&(jN (dM (aJ xs) ([110]:Bs)).2.1).2)=false→zg xs K))∧((!((dM (aJ xs) ([110]:Bs)).2.1==([]:Bs)))=false→zg xs K)
def Wh (xs:Bs) (K:Int→Int→Bool→Prop):Prop :=
 ig xs∧((aJ xs==([111,100,100]:Bs))=true→K 2 1 true)∧((aJ xs==([111,100,100]:Bs))=false→((aJ xs==([101,118,101,110]:Bs))=true→K 2 0 true)∧((aJ xs==([101,118,101,110]:Bs))=false→O7 (aJ xs) ([110]:Bs)∧((!(dM (aJ xs) ([110]:Bs)).2.2)=true→((aJ xs==([]:Bs))=true→K 0 0 false)∧((aJ xs==([]:Bs))=false→wS (aJ xs)∧K 0 (jN (aJ xs)).1 (jN (aJ xs)).2))∧((!(dM (aJ xs) ([110]:Bs)).2.2)=false→(((dM (aJ xs) ([110]:Bs)).1==([]:Bs))=true→CR xs K)∧(((dM (aJ xs) ([110]:Bs)).1==([]:Bs))=false→(((dM (aJ xs) ([110]:Bs)).1==([45]:Bs))=true→CR xs K)∧(((dM (aJ xs) ([110]:Bs)).1==([45]:Bs))=false→wS (dM (aJ xs) ([110]:Bs)).1∧CR xs K)))))
theorem aaz {g:ak} (xs:Bs) (hG0:bP g 0) (K:Int→Int→Bool→Prop)
  (hF:Wh xs K):az prog 225 #[sv xs] g [] (fun g' H' v=>∃ (r0:Int),∃ (r1:Int),∃ (r2:Bool),v=.tuple #[iv r0,iv r1,.bool r2]∧H'=[]∧K r0 r1 r2):=by
 refine aP 72 func225 rfl fun w0=>?_
 refine ae (av 3 [(0,sv xs)] kr (aa (aH (aS ?_))))
 obtain ⟨hp1,hF⟩:=hF
 refine aj 3 [.k (EM xs hp1)] [] [(0,sv (aJ xs))] ?_
 refine aa (aH (ae (ag 1 [0] [(16,sv (aJ xs))] ?_)))
 refine aa (Ok.block (ae (aj 2 [] [0,16] [(17,.bool (aJ xs==([111,100,100]:Bs)))] ?_)))
 refine aa (aM hF (fun hc2 hF=>?_) (fun hc2 hF=>?_))
 ·refine ae (av 3 [(2,iv 2),(3,iv 1),(4,.bool true)] kr (aa (Ok.ret (aU (aC ?_)))))
  exact gH (vs:=[iv 2,iv 1,.bool true]) (.inl rfl) rfl (.cons (.tmp rfl) (.cons (.tmp rfl) (.cons (.tmp rfl) .nil))) (bq w0 g) ⟨2,1,true,rfl,rfl,hF⟩
 refine ae (aj 2 [] [0] [(19,.bool (aJ xs==([101,118,101,110]:Bs)))] ?_)
 refine aa (aM hF (fun hc3 hF=>?_) (fun hc3 hF=>?_))
 ·refine ae (av 3 [(2,iv 2),(3,iv 0),(4,.bool true)] kr (aa (Ok.ret (aU (aC ?_)))))
  exact gH (vs:=[iv 2,iv 0,.bool true]) (.inl rfl) rfl (.cons (.tmp rfl) (.cons (.tmp rfl) (.cons (.tmp rfl) .nil))) (bq w0 g) ⟨2,0,true,rfl,rfl,hF⟩
 refine Ok.k (bJ (Ok.t (aH (aS ?_))))
 obtain ⟨Tp,hF⟩:=hF
 refine aj 9 [.k (adW (aJ xs) ([110]:Bs) hG0 Tp)] [0] [(5,sv ((dM (aJ xs) ([110]:Bs)).1)),(6,sv ((dM (aJ xs) ([110]:Bs)).2.1)),(7,.bool (dM (aJ xs) ([110]:Bs)).2.2)] ?_
 refine aa (aH (ae (ag 2 [0,5,6] [(28,.bool (!(dM (aJ xs) ([110]:Bs)).2.2))] ?_)))
 refine aa (aM hF (fun j4 hF=>?_) (fun j4 hF=>?_))
 ·refine aH (ae (ag 1 [0] [(29,sv (aJ xs))] ?_))
  refine ai (af.s (v:=.bool (aJ xs==([]:Bs))) (iE (f:=.eql) (a:=aJ xs) (b:=([]:Bs)) kr kr rfl) rfl rfl (aa (aM hF (fun hc6 hF=>?_) (fun hc6 hF=>?_))))
  ·refine ae (av 3 [(2,iv 0),(3,iv 0),(4,.bool false)] kr (aa (Ok.ret (aC (aC ?_)))))
   exact gH (vs:=[iv 0,iv 0,.bool false]) (.inl rfl) rfl (.cons (.tmp rfl) (.cons (.tmp rfl) (.cons (.tmp rfl) .nil))) (bq w0 g) ⟨0,0,false,rfl,rfl,hF⟩
  refine Ok.k (Ok.t (aH (aS ?_)))
  obtain ⟨Md,hF⟩:=hF
  refine aj 7 [.k (QL (aJ xs) Md)] [] [(8,iv (jN (aJ xs)).1),(9,.bool (jN (aJ xs)).2)] ?_
  refine aa (ae (av 5 [(2,iv 0),(3,iv (jN (aJ xs)).1),(4,.bool (jN (aJ xs)).2)] kr (aa (Ok.ret (aC ?_)))))
  exact gH (vs:=[iv 0,iv (jN (aJ xs)).1,.bool (jN (aJ xs)).2]) (.inl rfl) rfl (.cons (.tmp rfl) (.cons (.tmp rfl) (.cons (.tmp rfl) .nil))) (bq w0 g) ⟨0,(jN (aJ xs)).1,(jN (aJ xs)).2,rfl,rfl,hF⟩
 refine Ok.k (Ok.t (ae (ag 2 [5,6] [(10,iv 1),(11,.bool true)] ?_)))
 refine aa (gD [(6,sv ((dM (aJ xs) ([110]:Bs)).2.1)),(10,iv (uf xs)),(11,.bool (nL xs))] [] (CR xs K) ?_ (fun hF=>?_))
 ·
  refine ae (ag 1 [5,6,10,11] [(38,sv ((dM (aJ xs) ([110]:Bs)).1))] ?_)
  refine aa (Ok.block (ae (aj 2 [] [5,6,10,11,38] [(44,.bool ((dM (aJ xs) ([110]:Bs)).1==([]:Bs)))] ?_)))
  refine aa (aM hF (fun v0 hF=>?_) (fun v0 hF=>?_))
  ·refine Ok.k (bJ (Ok.t (gW 10 rfl (show (iv 1:Value)=iv (uf xs) from ay (Value.int .i64) ((aT v0).symm)) (aB 11 (nL xs) (df v0) ?_))))
   exact fz hF
  refine ae (aj 2 [] [5,6,11] [(46,.bool ((dM (aJ xs) ([110]:Bs)).1==([45]:Bs)))] ?_)
  refine aa (aM hF (fun q0 hF=>?_) (fun q0 hF=>?_))
  ·refine aS (ag 1 [6,11] [(10,iv (-1))] ?_)
   refine bY (bJ (Ok.t (gW 10 rfl (show (iv (-1):Value)=iv (uf xs) from ay (Value.int .i64) (au ((aT q0).symm) ((aF v0).symm))) (aB 11 (nL xs) (au (df q0) (bR v0)) ?_))))
   exact fz hF
  refine aS ?_
  obtain ⟨Tw,hF⟩:=hF
  refine aj 7 [.k (QL (dM (aJ xs) ([110]:Bs)).1 Tw)] [6] [(10,iv (jN (dM (aJ xs) ([110]:Bs)).1).1),(11,.bool (jN (dM (aJ xs) ([110]:Bs)).1).2)] ?_
  refine bY (bJ (Ok.t (gW 10 rfl (show (iv (jN (dM (aJ xs) ([110]:Bs)).1).1:Value)=iv (uf xs) from ay (Value.int .i64) (au ((aF q0).symm) ((aF v0).symm))) (aB 11 (nL xs) (au (bR q0) (bR v0)) ?_))))
  exact fz hF
 refine ae (ag 1 [6,10,11] [(12,iv 0)] ?_)
 refine aa (gD [(10,iv (uf xs)),(11,.bool (vU xs)),(12,iv (vT xs))] [] (zg xs K) ?_ (fun hF=>?_))
 ·
  refine ae (ag 1 [6,10,11,12] [(48,sv ((dM (aJ xs) ([110]:Bs)).2.1))] ?_)
  refine ai (af.s (v:=.bool (!((dM (aJ xs) ([110]:Bs)).2.1==([]:Bs)))) (iE (f:=.neq) (a:=(dM (aJ xs) ([110]:Bs)).2.1) (b:=([]:Bs)) kr kr rfl) rfl rfl (aa (aM hF (fun hc8 hF=>?_) (fun hc8 hF=>?_))))
  ·refine ae (ag 1 [6,10,11] [] ?_)
   refine aa (aH (aS ?_))
   obtain ⟨Tn,hF⟩:=hF
   refine aj 7 [.k (QL (dM (aJ xs) ([110]:Bs)).2.1 Tn)] [6,10,11] [(12,iv (jN (dM (aJ xs) ([110]:Bs)).2.1).1),(13,.bool (jN (dM (aJ xs) ([110]:Bs)).2.1).2)] ?_
   refine aa (aS (ag 2 [6,10,12,13] [(56,.bool (nL xs))] ?_))
   refine Ok.w 2 [(6,sv ((dM (aJ xs) ([110]:Bs)).2.1)),(10,iv (uf xs)),(12,iv (jN (dM (aJ xs) ([110]:Bs)).2.1).1),(58,.bool (nL xs&&(jN (dM (aJ xs) ([110]:Bs)).2.1).2))] (fun x0=>?_) ?_
   ·refine Ok.a 56 (nL xs) rfl (fun u0=>?_) (fun u0=>?_)
    ·skip
     refine ag 2 [6,10,12] [(58,.bool (jN (dM (aJ xs) ([110]:Bs)).2.1).2)] ?_
     refine aB 58 (nL xs&&(jN (dM (aJ xs) ([110]:Bs)).2.1).2) (aZ u0) (ag 0 [6,10,12] [(58,.bool (nL xs&&(jN (dM (aJ xs) ([110]:Bs)).2.1).2))] ?_)
     exact x0
    skip
    refine ag 2 [6,10,12] [(58,.bool false)] ?_
    refine aB 58 (nL xs&&(jN (dM (aJ xs) ([110]:Bs)).2.1).2) (bW u0) (ag 0 [6,10,12] [(58,.bool (nL xs&&(jN (dM (aJ xs) ([110]:Bs)).2.1).2))] ?_)
    exact x0
   refine ag 1 [6,10,12] [(59,.bool (nL xs&&(jN (dM (aJ xs) ([110]:Bs)).2.1).2))] ?_
   refine bN 59 hF (fun y0 hF=>?_) (fun y0 hF=>?_)
   ·refine ag 1 [6,10,12] [(59,.bool true),(60,sv ((dM (aJ xs) ([110]:Bs)).2.1))] ?_
    obtain ⟨s0,Ic,hF⟩:=hF
    have j0:=aV (l:=(dM (aJ xs) ([110]:Bs)).2.1) (0:UInt8) Ic
    generalize b0:((dM (aJ xs) ([110]:Bs)).2.1.getD (Int.toNat 0) 0)=e13 at j0 hF ⊢
    let A:=(e13.toNat:Int)
    refine dW (af.s (v:=.int .u8 A) (dO (k:=.i64) (i:=0) (s:=(dM (aJ xs) ([110]:Bs)).2.1) (b:=e13) kr kr underlying9 s0 j0) rfl rfl (ag 2 [6,10,12,59] [(63,.bool (A==43))] ?_))
    refine Ok.a 63 (A==43) rfl (fun k0=>?_) (fun k0=>?_)
    ·replace hF:=hF.1 k0
     refine ag 6 [10,12] [(11,.bool true)] ?_
     refine bY (Ok.t ?_)
     subst b0
     refine aB 11 (vU xs) (au (au (df k0) (aZ y0)) ((aT hc8).symm)) (gW 12 rfl (show (iv (jN (dM (aJ xs) ([110]:Bs)).2.1).1:Value)=iv (vT xs) from ay (Value.int .i64) ((aT hc8).symm)) ?_)
     exact fz hF
    replace hF:=hF.2 k0
    refine ag 1 [10,12,59] [(63,.bool false),(64,sv ((dM (aJ xs) ([110]:Bs)).2.1))] ?_
    refine dW (af.s (v:=.int .u8 A) (dO (k:=.i64) (i:=0) (s:=(dM (aJ xs) ([110]:Bs)).2.1) (b:=e13) kr kr underlying9 s0 j0) rfl rfl (ag 4 [10,12] [(11,.bool (A==45))] ?_))
    refine bY (Ok.t ?_)
    subst b0
    refine aB 11 (vU xs) (au (au (bR k0) (aZ y0)) ((aT hc8).symm)) (gW 12 rfl (show (iv (jN (dM (aJ xs) ([110]:Bs)).2.1).1:Value)=iv (vT xs) from ay (Value.int .i64) ((aT hc8).symm)) ?_)
    exact fz hF
   refine ag 10 [10,12] [(11,.bool false)] ?_
   refine aa (aB 11 (vU xs) (au (bW y0) ((aT hc8).symm)) (gW 12 rfl (show (iv (jN (dM (aJ xs) ([110]:Bs)).2.1).1:Value)=iv (vT xs) from ay (Value.int .i64) ((aT hc8).symm)) ?_))
   exact fz hF
  refine Ok.k (Ok.t (aB 11 (vU xs) ((aF hc8).symm) (gW 12 rfl (show (iv 0:Value)=iv (vT xs) from ay (Value.int .i64) ((aF hc8).symm)) ?_)))
  exact fz hF
 refine ae (av 6 [(2,iv (uf xs)),(3,iv (vT xs)),(4,.bool (vU xs))] kr (aa (Ok.ret ?_)))
 exact gH (vs:=[iv (uf xs),iv (vT xs),.bool (vU xs)]) (.inl rfl) rfl (.cons (.tmp rfl) (.cons (.tmp rfl) (.cons (.tmp rfl) .nil))) (bq w0 g) ⟨uf xs,vT xs,vU xs,rfl,rfl,hF⟩
def aaA (s:Bs):Prop:=∃ a b:Int,(-1000≤a∧a≤1000)∧(-1000≤b∧b≤1000)∧s=lW a b
theorem Fj {t:Bs}:∀ (x:Bs),(∀ c ∈ x,(!(c==110))=true)→Lib.index (x++110::t) [110]=x.length
 | [],_=>by
  rw [jS,Lib.index,bn (by simp [List.isPrefixOf])]; rfl
 | c::x,h=>by
  have ih:=Fj (t:=t) x (fun y hy=>h y (dS _ hy))
  have hc:=h c (cO ..)
  have hc:¬ (c=110):=by simpa using hc
  rw [iM,Lib.index,aQ (by simp [List.isPrefixOf]; exact fun e=>hc e.symm),ih,aQ (by simp),cK]
  omega
theorem XP {x t:Bs} (h:∀ c ∈ x,(!(c==110))=true):dM (x++110::t) [110]=(x,t,true):=by
 have:=Fj (t:=t) x h
 unfold dM Lib.cut
 rw [this,bn om]
 simp
theorem Oi {x t:Bs} {n m:Int} (hx:∀ c ∈ x,(!(c==110))=true) (hX:Yd x n) (hT:Yd t m) (wx:wS x) (wt:wS t) (h43:t.headD 0=43∨t.headD 0=45):Wh (x++110::t) (fun a b c=>(a,b,c)=(vI x,vI t,true)):=by
 have hlo:aJ (x++110::t)=x++110::t:=by rw [aJ,uN,jJ,show x.map Ay=x from hX.low,show t.map Ay=t from hT.low]; rfl
 have hc:=XP (t:=t) hx
 have hX0:¬ (x=[]):=fun e=>by have:=hX.one; rw [e] at this; simp at this
 have hT0:¬ (t=[]):=fun e=>by have:=hT.one; rw [e] at this; simp at this
 have l1:=hX.len
 have l2:=hT.len
 have hlp:ig (x++110::t):=by show (x++110::t).length≤140737488351232; simp only [bC,cK]; omega
 have hcp:O7 (x++110::t) [110]:=by show (x++110::t).length≤1000000; simp only [bC,cK]; omega
 have e1:¬ (x++110::t=[111,100,100]):=fun e=>by
  have h1:=hX.n111
  match x,hX0 with
  | c::x,_=>injection e with e1 e2; exact h1 e1
 have e2:¬ (x++110::t=[101,118,101,110]):=fun e=>by
  have h1:=hX.n101
  match x,hX0 with
  | c::x,_=>injection e with e1 e2; exact h1 e1
 have e3:¬ (x=[45]):=hX.n45
 have h0:0<t.length:=by have:=hT.one; omega
 have g:t.getD 0 0=43∨t.getD 0 0=45:=by
  match t,hT0 with
  | c::t,_=>exact h43
 have g':((t[0]'h0).toNat:Int)=43∨((t[0]'h0).toNat:Int)=45:=by
  rw [show t[0]'h0=t.getD 0 0 by simp [h0]]
  rcases g with g | g <;> rw [g] <;> decide
 simp only [Wh,CR,zg,uf,nL,vU,vT,hlo,hc,jN]
 simp [hlp,hcp,e1,e2,e3,hX0,hT0,wx,wt,h0]
 exact g'
theorem agS (s:Bs) (hp:aaA s):Wh s (fun a b c=>(a,b,c)=mf s):=by
 obtain ⟨a,b,ha,hb,rfl⟩:=hp
 have hv:∀ x t:Bs,(∀ c ∈ x,(!(c==110))=true)→mf (x++110::t)=(vI x,vI t,true):=fun x t h=>by
  obtain ⟨e1,e2⟩:=xK (p:=fun c=>!(c==110)) (b:=110) dc x t h
  unfold mf
  rw [e1,e2]; rfl
 have fa:=vz a ha
 have fb:=vz b hb
 unfold lW
 by_cases h:b<0
 ·rw [bn h,hv _ _ (vo a)]
  have hB:=LG fb.1
  exact Oi (vo a) (LG fa.1) hB ⟨a,ha,.inl rfl⟩ ⟨b,hb,.inl rfl⟩ (.inr (hB.sgn.resolve_right om))
 rw [aQ h,hv _ _ (vo a)]
 exact Oi (vo a) (LG fa.1) (LG (fb.2 om)) ⟨a,ha,.inl rfl⟩ ⟨b,hb,.inr ⟨om,rfl⟩⟩ (.inl rfl)
theorem agR {g:ak} (xs:Bs) (hG0:bP g 0)  (hp:aaA xs):bE prog 225 #[sv xs] g (.tuple #[iv (mf xs).1,iv (mf xs).2.1,.bool (mf xs).2.2]) :=
 (aaz xs hG0 _ (agS xs hp)).gives (by rintro g' H' v _ ⟨r0,r1,r2,rfl,rfl,hK⟩; obtain ⟨rfl,rfl,rfl⟩:r0=(mf xs).1∧r1=(mf xs).2.1∧r2=(mf xs).2.2:=⟨ay (fun z=>z.1) hK,ay (fun z=>z.2.1) hK,ay (fun z=>z.2.2) hK⟩; rfl)
end Go.Proofs.YtdapgmigogpdcaaGreatDoor.Se
namespace Go.Proofs.YtdapgmigogpdcaaGreatDoor.Se
open _root_.Go.Proofs.Tryz Go Go.iQ Go.RowKit Go.Shelf Go.Proofs jL BF tF Tk Rp Qu Me Ti
set_option linter.unusedVariables false
set_option linter.unusedSimpArgs false
set_option maxHeartbeats 4000000
set_option maxRecDepth 100000
def M4 (bV:Int) (K:(TS)→List KT→Prop) (v0:Bs) (z0:List KT) (C7:Bs→List KT→Prop):Prop :=
 vJ z0 ([41]:Bs)∧((!(fo z0 ([41]:Bs)).1)=true→(((ah (fo z0 ([41]:Bs)).2).1.1==0)=true→False)∧(((ah (fo z0 ([41]:Bs)).2).1.1==0)=false→(0:Int)≤1∧(1:Int)≤((ah (fo z0 ([41]:Bs)).2).2.length:Int)∧((ah (fo z0 ([41]:Bs)).2).2.length:Int)≤((ah (fo z0 ([41]:Bs)).2).2.length:Int)∧v0.length+(ah (fo z0 ([41]:Bs)).2).1.2.1.length≤maxLen∧C7 (v0++(ah (fo z0 ([41]:Bs)).2).1.2.1) ((ah (fo z0 ([41]:Bs)).2).2.drop (Int.toNat 1))))∧((!(fo z0 ([41]:Bs)).1)=false→aaA v0∧((!(mf v0).2.2)=true→False)∧((!(mf v0).2.2)=false→K (gL.mk (bV,([]:Bs),0,([]:Bs),(mf v0).1,(mf v0).2.1) ([])) (fo z0 ([41]:Bs)).2))
def Fz (bV:Int) (K:(TS)→List KT→Prop):Nat→Bs→List KT→Prop
 | 0,_,_=>False
 | k+1,v0,z0=>M4 bV K v0 z0 (Fz bV K k)
def cntF (xr:List KT) (bV:Int) (K:(TS)→List KT→Prop):Prop :=
 ∃ k,Fz bV K k ([]:Bs) xr
theorem ad9 {g:ak} {bF:Nat} {s0:Option Addr} {b0:Nat} (xr:List KT) (bV:Int) (c0:bG g (.slice yK) [.slice s0 xr.length b0] xr) (hG0:bP g 0) (K:(TS)→List KT→Prop)
  (hF:cntF xr bV K):az prog 209 #[pv bF 0,iv bV] g [.blk bF (.cells #[.slice s0 xr.length b0] 70)] (fun g' H' v=>∃ (r0:TS),∃ (kN:List KT),∃ (j0:Option Addr) (x0:Nat),∃ (q0:Option Addr) (k0:Nat),v=.agg (aL r0.lab j0 r0.kids.length x0)∧bG g' (.slice yP) [.slice j0 r0.kids.length x0] r0.kids∧bG g' (.slice yK) [.slice q0 kN.length k0] kN∧H'=[.blk bF (.cells #[.slice q0 kN.length k0] 70)]∧K r0 kN):=by
 refine aP 30 func209 rfl fun w0=>?_
 let C:=(#[iv 0,sv ([]:Bs),.int .u8 0,sv ([]:Bs),iv 0,iv 0,.slice none 0 0]:Array Value)
 refine ae (ai (bK C fun kZ=>?_))
 refine aa (ae (av 1 [(0,pv bF 0),(1,iv bV),(4,pv kZ 0),(5,sv ([]:Bs))] kr (aa (aH (Ok.block ?_)))))
 obtain ⟨k,hF⟩:=hF
 refine gF (fun k a W=>∃ Uc:ak,aY w0 g Uc∧∃ (v0:Bs) (y0:Option Addr) (u0:Nat) (z0:List KT),bG Uc (.slice yK) [.slice y0 z0.length u0] z0∧fJ 30 [(0,pv bF 0),(1,iv bV),(4,pv kZ 0),(5,sv v0)] a∧dh w0 [.blk kZ (.cells C 60),.blk bF (.cells #[.slice y0 z0.length u0] 70)] Uc W∧Fz bV K k v0 z0) k ?_ ?_
 ·
  exact fun _ _ u v=>⟨g,bq w0 g,([]:Bs),s0,b0,xr,c0,fA u v hF⟩
 clear hF
 rintro (_ | k7) _ _ ⟨Uc,e0,v0,y0,u0,z0,Ms,q⟩
 exact (q.2.2:False).elim
 refine jn (fun hF=>?_) _ _ q
 replace hG0:=hG0.mono e0.1
 refine aH (ae (ag 1 [0,1,4,5] [(9,pv bF 0)] ?_))
 obtain ⟨hp2,hF⟩:=hF
 refine jB [1,0] ?_
 refine ai (bQ (EW z0 ([41]:Bs) Ms hp2) fun g3 _ _ hx3 OI=>?_)
 obtain ⟨UU,UD,rfl,d0,rfl⟩:=OI
 replace hG0:=hG0.mono hx3.1
 let D:=fo z0 ([41]:Bs)
 refine ag 1 [0,1,4,5] [(11,.bool (! D.1))] ?_
 refine aa (aM hF (fun hc4 hF=>?_) (fun hc4 hF=>?_))
 ·refine Ok.k (Ok.t (Ok.block (aS (ag 2 [0,1,4] [(12,sv v0),(13,pv bF 0)] ?_))))
  refine ai (bM (args:=#[pv bF 0]) 20 [(0,pv bF 0)] gT func100 rfl rfl rfl rfl (ae (ai (bK zK fun aey=>?_))))
  refine aa (ae (ag 1 [0] [(2,pv aey 0),(4,pv bF 0)] ?_))
  refine jB [1,0,2] ?_
  refine ai (bQ (mY D.2 d0) fun g6 _ _ hx6 hV6=>?_)
  obtain ⟨UT,UC,rfl,Ag,rfl⟩:=hV6
  replace hG0:=hG0.mono hx6.1
  refine ai (bK zK fun aen=>?_)
  refine ai (af.w 0 ?_)
  let A:=ah D.2
  refine aa (aH (ae (aj 3 [.e 0] [0,2] [(3,pv aen 0),(8,.bool (A.1.1==0))] ?_)))
  refine aa (aM hF (fun hc8 hF=>?_) (fun hc8 hF=>?_))
  ·exact False.elim hF
  refine Ok.k (Ok.t (ae (ag 4 [2,3] [(11,pv bF 0),(14,pv bF 0)] ?_)))
  refine ai (af.s (v:=.slice UT A.2.length UC) (aR 1 rfl rfl underlying67 rfl kr) rfl rfl ?_)
  obtain ⟨Eh,h19,P_,hF⟩:=hF
  let E:=A.2.drop (Int.toNat 1)
  refine ai (af.ji (e:=yK) (l:=1) (h:=(A.2.length:Int)) rfl underlying67 kr (.inl ⟨_,_,rfl,rfl⟩) (.inr ⟨rfl,rfl⟩) Ag Eh h19 P_ rfl E (by rw [show (A.2.length:Int).toNat=A.2.length from eB _,iV]) fun a9 c9 Xc=>?_)
  refine ag 2 [2,3] [(16,.slice a9 E.length c9),(18,pv bF 0)] ?_
  refine ai (dz 1 ?_)
  let B:=(#[iv A.1.1,sv (A.1.2.1),sv (A.1.2.2.1),iv A.1.2.2.2]:Array Value)
  refine aa (ae (ai (af.s (v:=.agg B) (a_ 0 4 B rfl rfl underlying98 rfl kr kr kr) rfl rfl (ai (af.w 2 ?_)))))
  refine aa (Ok.ret (bu (vs:=[.agg B]) (.inl rfl) rfl (.cons (.iK 2 4 B rfl rfl underlying98 rfl kr kr kr) .nil) rfl (av 1 [(0,pv bF 0),(1,iv bV),(4,pv kZ 0),(12,sv v0),(15,sv (A.1.2.1))] kr ?_)))
  obtain ⟨hv,hF⟩:=hF
  refine ai (af.s (v:=sv (v0++A.1.2.1)) (dx rfl rfl hv) rfl rfl (ag 1 [0,1,4] [(5,sv (v0++A.1.2.1))] ?_))
  refine bY (bJ (Ok.t ?_))
  exact fun a W hA hW=>⟨k7,nl,g6,((e0.trans hx3).trans hx6),v0++A.1.2.1,a9,c9,E,Xc,hA.sub kr,hW.pick [3,1] _ dc rfl,hF⟩
 refine fU (aA (aA (aO (Ok.t (aH (aS ?_))))))
 obtain ⟨Hw,hF⟩:=hF
 refine aj 9 [.k (agR v0 hG0 Hw)] [0,1,4] [(6,iv (mf v0).1),(7,iv (mf v0).2.1),(8,.bool (mf v0).2.2)] ?_
 refine aa (ae (ag 2 [1,4,6,7] [(23,pv bF 0),(24,.bool (mf v0).2.2)] ?_))
 refine ai (bM (args:=#[pv bF 0,.bool (mf v0).2.2]) 8 [(0,pv bF 0),(1,.bool (mf v0).2.2)] gT func57 rfl rfl rfl rfl (ae (av 2 [(5,.bool (!(mf v0).2.2))] kr (aa (aM hF (fun abR hF=>?_) (fun abR hF=>?_))))))
 ·exact False.elim hF
 refine Ok.k (bu (vs:=[]) (.inr rfl) rfl .nil rfl (aa (ae (av 4 [(4,pv kZ 0),(29,.agg #[iv bV,sv ([]:Bs),.int .u8 0,sv ([]:Bs),iv (mf v0).1,iv (mf v0).2.1,.slice none 0 0])] kr (ai (af.w 1 ?_))))))
 refine aa (Ok.ret ?_)
 exact jc 1 [0] (e0.trans hx3) ⟨(gL.mk (bV,([]:Bs),0,([]:Bs),(mf v0).1,(mf v0).2.1) ([])),D.2,none,0,UU,UD,rfl,bG.nil,d0,rfl,hF⟩
def DZ (r:Rd) (k:Int):Prop:=∃ a b us rest,(-1000≤a∧a≤1000)∧(-1000≤b∧b≤1000)∧RunT (lW a b) us∧r=us++clT::rest
theorem RV {a b:Int} (ha : -1000≤a∧a≤1000) (hb : -1000≤b∧b≤1000):(lW a b).length≤100:=by
 have h1:=(LG (vz a ha).1).len
 have h2:=(LG (vz b hb).1).len
 unfold lW
 split
 ·simp only [bC,cK]; omega
 simp only [bC,cK]; omega
theorem ZQ (t:Tok) (r:Rd) {s:Bs} (h:t.2.1=s):fo (t::r) s=(true,r):=by
 unfold fo
 rw [JB,aQ (by simp [h])]; rfl
theorem VH (t:Tok) (r:Rd) {s:Bs} (h:t.2.1≠s):fo (t::r) s=(false,t::r):=by
 unfold fo
 rw [JB,bn (by simpa using h)]
theorem KD (k:Int) {a b:Int} (ha : -1000≤a∧a≤1000) (hb : -1000≤b∧b≤1000) (rest:Rd) (K:Ts→Rd→Prop) (hK:K (.mk (k,[],0,[],(mf (lW a b)).1,(mf (lW a b)).2.1) []) rest):∀ (us:List Tok) (acc:Bs),acc++(us.map fun t=>t.2.1).flatten=lW a b→(∀ t ∈ us,t.1≠0∧t.2.1≠[41])→Fz k K (us.length+1) acc (us++clT::rest)
 | [],acc,h,_=>by
  have h:acc=lW a b:=by simpa using h
  subst h
  rw [Fz,jS]
  unfold M4
  rw [ZQ clT rest rfl]
  exact ⟨by unfold vJ; simp,fun h=>(by cases h),fun _=>⟨⟨a,b,ha,hb,rfl⟩,fun h=>(by cases h),fun _=>hK⟩⟩
 | t::us,acc,h,hu=>by
  obtain ⟨h1,h2⟩:=hu t (cO ..)
  have hl:=RV ha hb
  rw [← h] at hl
  simp only [jJ,zO,bC] at hl
  have ih:=KD k ha hb rest K hK us (acc++t.2.1) (by rw [← h]; simp) (fun y hy=>hu y (dS _ hy))
  rw [Fz,iM]
  unfold M4
  rw [VH t _ h2]
  exact ⟨by unfold vJ; simp,fun _=>⟨fun h=>absurd (eq_of_beq h) h1,fun _=>⟨by decide,by show (1:Int)≤((t::(us++clT::rest)).length:Int); rw [cK]; omega,ll _,(by show acc.length+t.2.1.length≤9223372036854775807; omega),ih⟩⟩,fun h=>(by cases h)⟩
theorem ajF (r:Rd) (k:Int) (hp:DZ r k):cntF r k (fun a b=>(a,b)=mg r k):=by
 obtain ⟨a,b,us,rest,ha,hb,hu,rfl⟩:=hp
 refine ⟨_,KD k ha hb rest _ ?_ us [] hu.1 hu.2⟩
 unfold mg
 rw [run_read hu]
theorem FC {g:ak} {bF:Nat} {s0:Option Addr} {b0:Nat} (xr:List KT) (bV:Int) (c0:bG g (.slice yK) [.slice s0 xr.length b0] xr) (hG0:bP g 0)  (hp:DZ xr bV):az prog 209 #[pv bF 0,iv bV] g [.blk bF (.cells #[.slice s0 xr.length b0] 70)] (fun g' H' v=>∃ (j0:Option Addr) (x0:Nat),∃ (q0:Option Addr) (k0:Nat),v=.agg #[iv (mg xr bV).1.lab.1,sv ((mg xr bV).1.lab.2.1),.int .u8 (mg xr bV).1.lab.2.2.1,sv ((mg xr bV).1.lab.2.2.2.1),iv (mg xr bV).1.lab.2.2.2.2.1,iv (mg xr bV).1.lab.2.2.2.2.2,.slice j0 (mg xr bV).1.kids.length x0]∧bG g' (.slice yP) [.slice j0 (mg xr bV).1.kids.length x0] (mg xr bV).1.kids∧bG g' (.slice yK) [.slice q0 (mg xr bV).2.length k0] (mg xr bV).2∧H'=[.blk bF (.cells #[.slice q0 (mg xr bV).2.length k0] 70)]) :=
 (ad9 xr bV c0 hG0 _ (ajF xr bV hp)).mono (by rintro g' H' v _ ⟨r0,kN,j0,x0,q0,k0,rfl,rX,Xb,rfl,hK⟩; obtain ⟨rfl,rfl⟩:r0=(mg xr bV).1∧kN=(mg xr bV).2:=⟨ay (fun z=>z.1) hK,ay (fun z=>z.2) hK⟩; exact ⟨j0,x0,q0,k0,rfl,rX,Xb,rfl⟩)
end Go.Proofs.YtdapgmigogpdcaaGreatDoor.Se
namespace Go.Proofs.YtdapgmigogpdcaaGreatDoor.Se
open _root_.Go.Proofs.Tryz Go Go.iQ Go.RowKit Go.Shelf Go.Proofs jL BF tF Tk Rp Qu Me Ti
set_option linter.unusedVariables false
set_option linter.unusedSimpArgs false
set_option maxHeartbeats 4000000
set_option maxRecDepth 100000
abbrev fuel (r:Rd):Nat:=8 * r.length+8
def qw (r:Rd):Ts×Rd:=CJ (fuel r) r
def fH (r:Rd):Ts×Bool×Rd:=nW (fuel r) r
def mR (r:Rd):List Ts×Rd:=rJ (fuel r) r
def iB (r:Rd):Ph×Rd:=Eo (fuel r) r
def kg (r:Rd) (e:Bs):List Ph×Rd:=De (fuel r) r e
def qG (r:Rd):Prop:=r.length≤1000∧∀ t ∈ r,t.2.1.length≤1000
abbrev zP:Array Value:=#[.slice none ([]:List (List TS)).length 0,.slice none ([]:List Int).length 0]
theorem qG.tail {t:Tok} {r:Rd} (h:qG (t::r)):qG r:=⟨by have:=h.1; rw [cK] at this; omega,fun y hy=>h.2 y (dS _ hy)⟩
theorem qG.app {a r:Rd} (h:qG (a++r)):qG r:=⟨by have:=h.1; rw [bC] at this; omega,fun y hy=>h.2 y (List.mem_append_right _ hy)⟩
theorem qG.head {t:Tok} {r:Rd} (h:qG (t::r)):t.2.1.length≤1000:=h.2 t (cO ..)
def RG (N:Nat) (r:Rd):Prop:=∃ t i ts rest,xZ t i=true∧6≤t.lab.1∧QI t (sg 58::ts)∧r=ts++rest∧8 * ts.length+7<N∧qG r
def LD (N:Nat) (r:Rd):Prop:=(∃ t i ts rest,xZ t i=true∧QI t ts∧r=ts++rest∧8 * ts.length+1<N∧qG r)∨(Va r=true∧0<N)
def Pw (N:Nat) (r:Rd):Prop:=∃ s k ts rest,s≠[]∧ok1 s k=true∧KP s ts∧Va rest=true∧r=ts++rest∧8 * ts.length+3<N∧qG r
def PK (N:Nat) (r:Rd):Prop:=∃ p js ts rest,p≠[]∧t_ p=true∧(∀ z ∈ js,zn z=true)∧js.length+1=p.length∧IU p js ts∧wY rest=true∧r=ts++rest∧8 * ts.length+5<N∧qG r
def JR (N:Nat) (r:Rd) (e:Bs):Prop:=∃ l p js a b fin rest,tZ ((p,js)::l)=true∧IU p js a∧KO l b∧Yf e fin rest∧r=a++(b++fin)∧8 * (a.length+b.length)+8<N∧qG r
theorem uo (a b:Rd):fuel (a++b)=8 * (a.length+b.length)+8:=by show 8 * (a++b).length+8=_; rw [bC]
theorem RF {t:Ts} {i:Int} {ts:List Tok} (hi:xZ t i=true) (h:QI t (sg 58::ts)) (rest:Rd):qw (ts++rest)=(t,rest):=by
 obtain ⟨-,h2⟩:=zf t i hi _ h
 have h3:=h2 rest (fuel (ts++rest)+1) (by rw [uo,cK]; omega)
 have e:nW (fuel (ts++rest)+1) (sg 58::(ts++rest))=((CJ (fuel (ts++rest)) (ts++rest)).1,true,(CJ (fuel (ts++rest)) (ts++rest)).2):=by
  rw [nW]
  simp [ah]
 rw [iM,e] at h3
 have a1:=ay (fun q=>q.1) h3
 have a2:=ay (fun q=>q.2.2) h3
 exact Prod.ext a1 a2
theorem LC {t:Ts} {i:Int} {ts:List Tok} (hi:xZ t i=true) (h:QI t ts) (rest:Rd):fH (ts++rest)=(t,true,rest) :=
 (zf t i hi _ h).2 rest _ (by rw [uo]; omega)
theorem K_ {s:List Ts} {k:Int} {ts:List Tok} (hi:ok1 s k=true) (h:KP s ts) {rest:Rd} (hr:Va rest=true):mR (ts++rest)=(s,rest) :=
 xL (fun t _=>zf t) hi _ h rest hr _ (by rw [uo]; omega)
theorem Lt {p:List (List Ts)} {js:List Int} {ts:List Tok} (ho:t_ p=true) (hne:p≠[]) (hj:∀ z ∈ js,zn z=true) (hl:js.length+1=p.length) (h:IU p js ts) {rest:Rd} (hr:wY rest=true):iB (ts++rest)=((p,js),rest) :=
 Jy (fun _ _ t _=>zf t) ho hne hj hl ts h rest hr _ (by rw [uo]; omega)
theorem u_ {l:List Ph} {p:List (List Ts)} {js:List Int} (ho:tZ ((p,js)::l)=true):(p≠[]∧js.length+1=p.length)∧t_ p=true∧∀ z ∈ js,zn z=true:=by
 obtain ⟨h,q3,q4⟩:=kV ho (cO ..)
 exact ⟨h,q3,fun z hz=>l5.1 q4 z hz⟩
theorem Fp {l:List Ph} {p:List (List Ts)} {js:List Int} (ho:tZ ((p,js)::l)=true) {a:List Tok} (ha:IU p js a) (w:Rd):bD (a++w)=(false,a++w):=by
 obtain ⟨⟨r1,r2⟩,r3,r4⟩:=u_ ho
 obtain ⟨y,q,rfl,hy⟩:=xJ r1 r3 ha
 exact Ko hy
theorem G5 {l:List Ph} {p:List (List Ts)} {js:List Int} (ho:tZ ((p,js)::l)=true) {a b:List Tok} (ha:IU p js a) (hb:KO l b) {e:Bs} {fin rest:Rd} (hF:Yf e fin rest):kg (a++(b++fin)) e=((p,js)::l,rest) :=
 Db (fun _ _ _ _ t _=>zf t) ho a b ha hb e fin rest hF _ (by rw [Fp ho ha]) _ (by rw [uo,bC]; omega)
theorem OE {t:Ts} {i:Int} (hi:xZ t i=true) (hk:t.lab.1=10∨t.lab.1=11):∃ p js l,t.kids=(p,js)::l∧tZ ((p,js)::l)=true:=by
 rw [lU,aG] at hi
 have h2:=hi.2
 rw [bn (by rcases hk with h | h <;> rw [h] <;> rfl)] at h2
 simp only [nV,aG] at h2
 match hl:t.kids with
 | [] =>
  have:=dn h2.2
  rw [hl] at this
  simp at this
 | (p,js)::l=>rw [hl] at h2; exact ⟨p,js,l,rfl,h2.1⟩
def EZ (N:Nat):Prop:=∀ (g:ak) {bF:Nat} {g0:Option Addr} {m0:Nat} (xr:List KT) (K0:bG g (.slice yK) [.slice g0 xr.length m0] xr) (hG0:bP g 0)  (hp:RG N xr),az prog 184 #[pv bF 0] g [.blk bF (.cells #[.slice g0 xr.length m0] 70)] (fun g' H' v=>∃ (V0:Option Addr) (Q0:Nat),∃ (u0:Option Addr) (j0:Nat),v=.agg #[iv (qw xr).1.lab.1,sv ((qw xr).1.lab.2.1),.int .u8 (qw xr).1.lab.2.2.1,sv ((qw xr).1.lab.2.2.2.1),iv (qw xr).1.lab.2.2.2.2.1,iv (qw xr).1.lab.2.2.2.2.2,.slice V0 (qw xr).1.kids.length Q0]∧bG g' (.slice yP) [.slice V0 (qw xr).1.kids.length Q0] (qw xr).1.kids∧bG g' (.slice yK) [.slice u0 (qw xr).2.length j0] (qw xr).2∧H'=[.blk bF (.cells #[.slice u0 (qw xr).2.length j0] 70)])
def E9 (N:Nat):Prop:=∀ (g:ak) {bF:Nat} {g0:Option Addr} {m0:Nat} (xr:List KT) (K0:bG g (.slice yK) [.slice g0 xr.length m0] xr) (hG0:bP g 0)  (hp:LD N xr),az prog 143 #[pv bF 0] g [.blk bF (.cells #[.slice g0 xr.length m0] 70)] (fun g' H' v=>∃ (V0:Option Addr) (Q0:Nat),∃ (u0:Option Addr) (j0:Nat),v=.tuple #[.agg #[iv (fH xr).1.lab.1,sv ((fH xr).1.lab.2.1),.int .u8 (fH xr).1.lab.2.2.1,sv ((fH xr).1.lab.2.2.2.1),iv (fH xr).1.lab.2.2.2.2.1,iv (fH xr).1.lab.2.2.2.2.2,.slice V0 (fH xr).1.kids.length Q0],.bool (fH xr).2.1]∧bG g' (.slice yP) [.slice V0 (fH xr).1.kids.length Q0] (fH xr).1.kids∧bG g' (.slice yK) [.slice u0 (fH xr).2.2.length j0] (fH xr).2.2∧H'=[.blk bF (.cells #[.slice u0 (fH xr).2.2.length j0] 70)])
def EI (N:Nat):Prop:=∀ (g:ak) {bF:Nat} {g0:Option Addr} {m0:Nat} (xr:List KT) (K0:bG g (.slice yK) [.slice g0 xr.length m0] xr) (hG0:bP g 0)  (hp:Pw N xr),az prog 99 #[pv bF 0] g [.blk bF (.cells #[.slice g0 xr.length m0] 70)] (fun g' H' v=>∃ (V0:Option Addr) (Q0:Nat),∃ (u0:Option Addr) (j0:Nat),v=.slice V0 (mR xr).1.length Q0∧bG g' (.slice yS) [.slice V0 (mR xr).1.length Q0] (mR xr).1∧bG g' (.slice yK) [.slice u0 (mR xr).2.length j0] (mR xr).2∧H'=[.blk bF (.cells #[.slice u0 (mR xr).2.length j0] 70)])
def EY (N:Nat):Prop:=∀ (g:ak) {bF:Nat} {g0:Option Addr} {m0:Nat} (xr:List KT) (K0:bG g (.slice yK) [.slice g0 xr.length m0] xr) (hG0:bP g 0)  (hp:PK N xr),az prog 55 #[pv bF 0] g [.blk bF (.cells #[.slice g0 xr.length m0] 70)] (fun g' H' v=>∃ (V0:Option Addr) (Q0:Nat),∃ (d1:Option Addr) (e1:Nat),∃ (u0:Option Addr) (j0:Nat),v=.agg #[.slice V0 (iB xr).1.1.length Q0,.slice d1 (iB xr).1.2.length e1]∧bG g' (.slice (.slice yS)) [.slice V0 (iB xr).1.1.length Q0] (iB xr).1.1∧bG g' (.slice yb) [.slice d1 (iB xr).1.2.length e1] (iB xr).1.2∧bG g' (.slice yK) [.slice u0 (iB xr).2.length j0] (iB xr).2∧H'=[.blk bF (.cells #[.slice u0 (iB xr).2.length j0] 70)])
def Ff (N:Nat):Prop:=∀ (g:ak) {bF:Nat} {g0:Option Addr} {m0:Nat} (xr:List KT) (gq:Bs) (K0:bG g (.slice yK) [.slice g0 xr.length m0] xr) (hG0:bP g 0)  (hp:JR N xr gq),az prog 32 #[pv bF 0,sv gq] g [.blk bF (.cells #[.slice g0 xr.length m0] 70)] (fun g' H' v=>∃ (V0:Option Addr) (Q0:Nat),∃ (u0:Option Addr) (j0:Nat),v=.slice V0 (kg xr gq).1.length Q0∧bG g' (.slice yP) [.slice V0 (kg xr gq).1.length Q0] (kg xr gq).1∧bG g' (.slice yK) [.slice u0 (kg xr gq).2.length j0] (kg xr gq).2∧H'=[.blk bF (.cells #[.slice u0 (kg xr gq).2.length j0] 70)])
def tX (xr:List KT):Bool :=
 (((ah xr).1.1==2)&&((ah xr).1.2.1==((ah xr).1.2.2.1++([40]:Bs))))
def Oe:Prop :=
 False
def wQ (N:Nat) (xr:List KT) (K:(TS)→List KT→Prop):Prop :=
 (tX xr=true→((aJ (ah xr).1.2.2.1==([110,116,104,45,99,104,105,108,100]:Bs))=true→DZ ((ah xr).2.drop (Int.toNat 1)) 8∧K (mg ((ah xr).2.drop (Int.toNat 1)) 8).1 (mg ((ah xr).2.drop (Int.toNat 1)) 8).2)∧((aJ (ah xr).1.2.2.1==([110,116,104,45,99,104,105,108,100]:Bs))=false→((aJ (ah xr).1.2.2.1==([110,116,104,45,108,97,115,116,45,99,104,105,108,100]:Bs))=true→DZ ((ah xr).2.drop (Int.toNat 1)) 9∧K (mg ((ah xr).2.drop (Int.toNat 1)) 9).1 (mg ((ah xr).2.drop (Int.toNat 1)) 9).2)∧((aJ (ah xr).1.2.2.1==([110,116,104,45,108,97,115,116,45,99,104,105,108,100]:Bs))=false→((aJ (ah xr).1.2.2.1==([110,111,116]:Bs))=true→JR N ((ah xr).2.drop (Int.toNat 1)) ([41]:Bs)∧K (gL.mk (10,([]:Bs),0,([]:Bs),0,0) (kg ((ah xr).2.drop (Int.toNat 1)) ([41]:Bs)).1) (kg ((ah xr).2.drop (Int.toNat 1)) ([41]:Bs)).2)∧((aJ (ah xr).1.2.2.1==([110,111,116]:Bs))=false→((aJ (ah xr).1.2.2.1==([105,115]:Bs))=true→JR N ((ah xr).2.drop (Int.toNat 1)) ([41]:Bs)∧K (gL.mk (11,([]:Bs),0,([]:Bs),0,0) (kg ((ah xr).2.drop (Int.toNat 1)) ([41]:Bs)).1) (kg ((ah xr).2.drop (Int.toNat 1)) ([41]:Bs)).2)∧((aJ (ah xr).1.2.2.1==([105,115]:Bs))=false→Oe)))))∧(tX xr=false→Oe)
def xW (N:Nat) (xr:List KT) (K:(TS)→List KT→Prop):Prop :=
 ((((ah xr).1.1==1)&&((ah xr).1.2.1==(ah xr).1.2.2.1))=true→((aJ (ah xr).1.2.2.1==([114,111,111,116]:Bs))=true→K (gL.mk (6,([]:Bs),0,([]:Bs),0,0) ([])) ((ah xr).2.drop (Int.toNat 1)))∧((aJ (ah xr).1.2.2.1==([114,111,111,116]:Bs))=false→((aJ (ah xr).1.2.2.1==([101,109,112,116,121]:Bs))=true→K (gL.mk (7,([]:Bs),0,([]:Bs),0,0) ([])) ((ah xr).2.drop (Int.toNat 1)))∧((aJ (ah xr).1.2.2.1==([101,109,112,116,121]:Bs))=false→((aJ (ah xr).1.2.2.1==([102,105,114,115,116,45,99,104,105,108,100]:Bs))=true→K (gL.mk (8,([]:Bs),0,([]:Bs),0,1) ([])) ((ah xr).2.drop (Int.toNat 1)))∧((aJ (ah xr).1.2.2.1==([102,105,114,115,116,45,99,104,105,108,100]:Bs))=false→((aJ (ah xr).1.2.2.1==([108,97,115,116,45,99,104,105,108,100]:Bs))=true→K (gL.mk (9,([]:Bs),0,([]:Bs),0,1) ([])) ((ah xr).2.drop (Int.toNat 1)))∧((aJ (ah xr).1.2.2.1==([108,97,115,116,45,99,104,105,108,100]:Bs))=false→Oe)))))∧((((ah xr).1.1==1)&&((ah xr).1.2.1==(ah xr).1.2.2.1))=false→(((ah xr).1.1==2)=true→(ah xr).1.2.2.1.length+([40]:Bs).length≤maxLen∧wQ N xr K)∧(((ah xr).1.1==2)=false→wQ N xr K))
def JA (N:Nat) (xr:List KT) (K:(TS)→List KT→Prop):Prop :=
 (((ah xr).1.1==0)=true→False)∧(((ah xr).1.1==0)=false→(0:Int)≤1∧(1:Int)≤((ah xr).2.length:Int)∧((ah xr).2.length:Int)≤((ah xr).2.length:Int)∧ig (ah xr).1.2.2.1∧(((ah xr).1.1==1)=true→xW N xr K)∧(((ah xr).1.1==1)=false→xW N xr K))
theorem aaq {g:ak} (N:Nat) (Dt:EZ N) (zt:E9 N) (zo:EI N) (Dr:EY N) (zu:Ff N) {bF:Nat} {g0:Option Addr} {m0:Nat} (xr:List KT) (K0:bG g (.slice yK) [.slice g0 xr.length m0] xr) (hG0:bP g 0) (K:(TS)→List KT→Prop)
  (hF:JA N xr K):az prog 184 #[pv bF 0] g [.blk bF (.cells #[.slice g0 xr.length m0] 70)] (fun g' H' v=>∃ (r0:TS),∃ (kN:List KT),∃ (V0:Option Addr) (Q0:Nat),∃ (u0:Option Addr) (j0:Nat),v=.agg (aL r0.lab V0 r0.kids.length Q0)∧bG g' (.slice yP) [.slice V0 r0.kids.length Q0] r0.kids∧bG g' (.slice yK) [.slice u0 kN.length j0] kN∧H'=[.blk bF (.cells #[.slice u0 kN.length j0] 70)]∧K r0 kN):=by
 refine aP 67 func184 rfl fun w0=>?_
 let B:=(#[iv 0,sv ([]:Bs),.int .u8 0,sv ([]:Bs),iv 0,iv 0,.slice none 0 0]:Array Value)
 refine ae (ai (bK B fun eO=>?_))
 refine aa (ae (av 1 [(0,pv bF 0),(2,pv eO 0),(5,pv bF 0)] kr (ai (bM (args:=#[pv bF 0]) 20 [(0,pv bF 0)] gT func100 rfl rfl rfl rfl (ae (ai (bK zK fun akg=>?_)))))))
 refine aa (ae (ag 1 [0] [(2,pv akg 0),(4,pv bF 0)] ?_))
 refine jB [2,0,1] ?_
 refine ai (bQ (mY xr K0) fun g3 _ _ hx3 OI=>?_)
 obtain ⟨V2,Q2,rfl,v2,rfl⟩:=OI
 replace hG0:=hG0.mono hx3.1
 refine ai (bK zK fun ake=>?_)
 refine ai (af.w 0 ?_)
 refine aa (aH (ae (aj 3 [.e 0] [0,2] [(3,pv ake 0),(8,.bool ((ah xr).1.1==0))] ?_)))
 refine aa (aM hF (fun j4 hF=>?_) (fun j4 hF=>?_))
 ·exact False.elim hF
 refine Ok.k (Ok.t (ae (ag 4 [2,3] [(11,pv bF 0),(14,pv bF 0)] ?_)))
 refine ai (af.s (v:=.slice V2 (ah xr).2.length Q2) (aR 1 rfl rfl underlying67 rfl kr) rfl rfl ?_)
 obtain ⟨vY,h16,Xd,hF⟩:=hF
 let A:=(ah xr).2.drop (Int.toNat 1)
 let L:=((ah xr).2.length:Int)
 refine ai (af.ji (e:=yK) (l:=1) (h:=L) rfl underlying67 kr (.inl ⟨_,_,rfl,rfl⟩) (.inr ⟨rfl,rfl⟩) v2 vY h16 Xd rfl A (by rw [show L.toNat=(ah xr).2.length from eB _,iV]) fun a6 c6 OJ=>?_)
 refine ag 2 [2,3] [(16,.slice a6 A.length c6),(18,pv bF 0)] ?_
 refine ai (dz 1 ?_)
 let F:=aK (ah xr).1
 refine aa (ae (ai (af.s (v:=.agg F) (a_ 0 4 F rfl rfl underlying98 rfl kr kr kr) rfl rfl (ai (af.w 2 ?_)))))
 refine aa (Ok.ret (bu (vs:=[.agg F]) (.inl rfl) rfl (.cons (.iK 2 4 F rfl rfl underlying98 rfl kr kr kr) .nil) rfl (ai (bK zK fun dK=>?_))))
 refine ai (af.w 0 ?_)
 let E:=(.cells #[.slice a6 A.length c6] 70:Obj)
 refine aa (iO g3 [(2,pv eO 0)] [.blk bF E,.blk eO (.cells B 60)] (Oe) ?_ (fun Xf d3 hF=>?_))
 ·
  refine aH (aS ?_)
  obtain ⟨Mc,hF⟩:=hF
  let D:=aJ (ah xr).1.2.2.1
  refine aj 4 [.e 0,.k (EM (ah xr).1.2.2.1 Mc)] [] [(0,pv bF 0),(2,pv eO 0),(3,pv dK 0),(4,sv D)] ?_
  let G:=(ah xr).1.2.1==(ah xr).1.2.2.1
  let C:=((ah xr).1.1==1)&&G
  refine aa (Ok.block (iO g3 [(0,pv bF 0),(2,pv eO 0),(3,pv dK 0),(4,sv D),(10,.bool C)] [.blk dK (.cells F 98),.blk bF E,.blk eO (.cells B 60)] (xW N xr K) ?_ (fun gj9 K1 hF=>?_)))
  ·
   refine aS (aj 4 [.e 0] [0,2,3,4] [(14,.bool ((ah xr).1.1==1))] ?_)
   refine bN 14 hF (fun k2 hF=>?_) (fun k2 hF=>?_)
   ·refine aj 7 [.e 0,.e 0] [0,2,3,4] [(10,.bool G)] ?_
    refine aa (aB 10 C (aZ k2) ?_)
    exact fg hF
   refine ag 7 [0,2,3,4] [(10,.bool false)] ?_
   refine aa (aB 10 C (bW k2) ?_)
   exact fg hF
  replace OJ:=OJ.mono K1.1
  replace hG0:=hG0.mono K1.1
  refine aM hF (fun mW hF=>?_) (fun mW hF=>?_)
  ·refine ae (ag 1 [2] [(21,sv D)] ?_)
   refine aa (Ok.block (ae (aj 2 [] [2,21] [(22,.bool (aJ (ah xr).1.2.2.1==([114,111,111,116]:Bs)))] ?_)))
   refine aa (aM hF (fun y2 hF=>?_) (fun y2 hF=>?_))
   ·refine ae (ag 1 [2] [(24,.agg #[iv 6,sv ([]:Bs),.int .u8 0,sv ([]:Bs),iv 0,iv 0,.slice none 0 0])] ?_)
    refine ai (af.w 2 ?_)
    refine aa (Ok.ret (aU (aU (aC ?_))))
    exact jc 2 [1] (hx3.trans K1) ⟨(gL.mk (6,([]:Bs),0,([]:Bs),0,0) ([])),A,none,0,a6,c6,rfl,bG.nil,OJ,rfl,hF⟩
   refine ae (aj 2 [] [2,21] [(25,.bool (aJ (ah xr).1.2.2.1==([101,109,112,116,121]:Bs)))] ?_)
   refine aa (aM hF (fun G2 hF=>?_) (fun G2 hF=>?_))
   ·refine ae (ag 1 [2] [(27,.agg #[iv 7,sv ([]:Bs),.int .u8 0,sv ([]:Bs),iv 0,iv 0,.slice none 0 0])] ?_)
    refine ai (af.w 2 ?_)
    refine aa (Ok.ret (aU (aU (aC ?_))))
    exact jc 2 [1] (hx3.trans K1) ⟨(gL.mk (7,([]:Bs),0,([]:Bs),0,0) ([])),A,none,0,a6,c6,rfl,bG.nil,OJ,rfl,hF⟩
   refine ae (aj 2 [] [2,21] [(28,.bool (aJ (ah xr).1.2.2.1==([102,105,114,115,116,45,99,104,105,108,100]:Bs)))] ?_)
   refine aa (aM hF (fun P1 hF=>?_) (fun P1 hF=>?_))
   ·refine ae (ag 1 [2] [(30,.agg #[iv 8,sv ([]:Bs),.int .u8 0,sv ([]:Bs),iv 0,iv 1,.slice none 0 0])] ?_)
    refine ai (af.w 2 ?_)
    refine aa (Ok.ret (aU (aU (aC ?_))))
    exact jc 2 [1] (hx3.trans K1) ⟨(gL.mk (8,([]:Bs),0,([]:Bs),0,1) ([])),A,none,0,a6,c6,rfl,bG.nil,OJ,rfl,hF⟩
   refine ae (aj 2 [] [2] [(31,.bool (aJ (ah xr).1.2.2.1==([108,97,115,116,45,99,104,105,108,100]:Bs)))] ?_)
   refine aa (aM hF (fun H2 hF=>?_) (fun H2 hF=>?_))
   ·refine ae (ag 1 [2] [(33,.agg #[iv 9,sv ([]:Bs),.int .u8 0,sv ([]:Bs),iv 0,iv 1,.slice none 0 0])] ?_)
    refine ai (af.w 2 ?_)
    refine aa (Ok.ret (aU (aU (aC ?_))))
    exact jc 2 [1] (hx3.trans K1) ⟨(gL.mk (9,([]:Bs),0,([]:Bs),0,1) ([])),A,none,0,a6,c6,rfl,bG.nil,OJ,rfl,hF⟩
   refine Ok.k (bJ (bJ (Ok.t ?_)))
   exact fun _ _ u v=>⟨gj9,K1,fA u v hF⟩
  refine iO gj9 [(0,pv bF 0),(2,pv eO 0),(4,sv D),(34,.bool (tX xr))] [.blk bF E,.blk eO (.cells B 60)] (wQ N xr K) ?_ (fun e3 Y1 hF=>?_)
  ·
   refine aS (aj 4 [.e 0] [0,2,3,4] [(38,.bool ((ah xr).1.1==2))] ?_)
   refine bN 38 hF (fun M2 hF=>?_) (fun M2 hF=>?_)
   ·refine aj 3 [.e 0] [0,2,4] [(38,.bool true),(40,sv ((ah xr).1.2.1)),(41,pv dK 2)] ?_
    refine dW (af.s (v:=sv ((ah xr).1.2.2.1)) (aR 0 rfl rfl underlying9 rfl kr) rfl rfl ?_)
    obtain ⟨hv,hF⟩:=hF
    let J:=(ah xr).1.2.2.1++([40]:Bs)
    refine dW (af.s (v:=sv J) (dx rfl rfl hv) rfl rfl (aj 3 [] [0,2,4] [(34,.bool ((ah xr).1.2.1==J))] ?_))
    refine aa (aB 34 (tX xr) (aZ M2) ?_)
    exact fg hF
   refine ag 8 [0,2,4] [(34,.bool false)] ?_
   refine aa (aB 34 (tX xr) (bW M2) ?_)
   exact fg hF
  replace OJ:=OJ.mono Y1.1
  replace hG0:=hG0.mono Y1.1
  refine aM hF (fun N2 hF=>?_) (fun N2 hF=>?_)
  ·refine ae (ag 1 [0,2] [(46,sv D)] ?_)
   refine aa (Ok.block (ae (aj 2 [] [0,2,46] [(47,.bool (aJ (ah xr).1.2.2.1==([110,116,104,45,99,104,105,108,100]:Bs)))] ?_)))
   refine aa (aM hF (fun HV hF=>?_) (fun HV hF=>?_))
   ·refine ae (ag 1 [2] [(49,pv bF 0)] ?_)
    obtain ⟨Mg,hF⟩:=hF
    refine ai (bQ (FC A 8 OJ hG0 Mg) fun g17 _ _ f3 ab6=>?_)
    obtain ⟨akM,aj8,Y8,Y6,rfl,acB,TQ,rfl⟩:=ab6
    replace hG0:=hG0.mono f3.1
    refine ai (af.w 1 ?_)
    refine aa (Ok.ret (aU (aU (aC ?_))))
    exact jc 1 [0] (((hx3.trans K1).trans Y1).trans f3) ⟨(mg A 8).1,(mg A 8).2,akM,aj8,Y8,Y6,rfl,acB,TQ,rfl,hF⟩
   refine ae (aj 2 [] [0,2,46] [(51,.bool (aJ (ah xr).1.2.2.1==([110,116,104,45,108,97,115,116,45,99,104,105,108,100]:Bs)))] ?_)
   refine aa (aM hF (fun f1 hF=>?_) (fun f1 hF=>?_))
   ·refine ae (ag 1 [2] [(53,pv bF 0)] ?_)
    obtain ⟨O2,hF⟩:=hF
    refine ai (bQ (FC A 9 OJ hG0 O2) fun g20 _ _ D1 P2=>?_)
    obtain ⟨j2,x2,akI,aj4,rfl,R1,acy,rfl⟩:=P2
    replace hG0:=hG0.mono D1.1
    refine ai (af.w 1 ?_)
    refine aa (Ok.ret (aU (aU (aC ?_))))
    exact jc 1 [0] (((hx3.trans K1).trans Y1).trans D1) ⟨(mg A 9).1,(mg A 9).2,j2,x2,akI,aj4,rfl,R1,acy,rfl,hF⟩
   refine ae (aj 2 [] [0,2,46] [(55,.bool (aJ (ah xr).1.2.2.1==([110,111,116]:Bs)))] ?_)
   refine aa (aM hF (fun hc21 hF=>?_) (fun hc21 hF=>?_))
   ·refine ae (ag 1 [2] [(57,pv bF 0)] ?_)
    obtain ⟨abz,hF⟩:=hF
    refine ai (bQ (zu _ A ([41]:Bs) OJ hG0 abz) fun g23 _ _ m3 aoc=>?_)
    obtain ⟨S2,B2,akG,aj2,rfl,acx,acw,rfl⟩:=aoc
    replace hG0:=hG0.mono m3.1
    let H:=kg A ([41]:Bs)
    refine ag 1 [2] [(59,.agg #[iv 10,sv ([]:Bs),.int .u8 0,sv ([]:Bs),iv 0,iv 0,.slice S2 H.1.length B2])] ?_
    refine ai (af.w 1 ?_)
    refine aa (Ok.ret (aU (aU (aC ?_))))
    exact jc 1 [0] (((hx3.trans K1).trans Y1).trans m3) ⟨(gL.mk (10,([]:Bs),0,([]:Bs),0,0) H.1),H.2,S2,B2,akG,aj2,rfl,acx,acw,rfl,hF⟩
   refine ae (aj 2 [] [0,2] [(60,.bool (aJ (ah xr).1.2.2.1==([105,115]:Bs)))] ?_)
   refine aa (aM hF (fun hc24 hF=>?_) (fun hc24 hF=>?_))
   ·refine ae (ag 1 [2] [(62,pv bF 0)] ?_)
    obtain ⟨Mf,hF⟩:=hF
    refine ai (bQ (zu _ A ([41]:Bs) OJ hG0 Mf) fun g26 _ _ n3 ab5=>?_)
    obtain ⟨C2,D2,akE,aj0,rfl,Mt,acu,rfl⟩:=ab5
    let I:=kg A ([41]:Bs)
    refine ag 1 [2] [(64,.agg #[iv 11,sv ([]:Bs),.int .u8 0,sv ([]:Bs),iv 0,iv 0,.slice C2 I.1.length D2])] ?_
    refine ai (af.w 1 ?_)
    refine aa (Ok.ret (aU (aU (aC ?_))))
    exact jc 1 [0] (((hx3.trans K1).trans Y1).trans n3) ⟨(gL.mk (11,([]:Bs),0,([]:Bs),0,0) I.1),I.2,C2,D2,akE,aj0,rfl,Mt,acu,rfl,hF⟩
   refine Ok.k (bJ (bJ (Ok.t ?_)))
   exact fun _ _ u v=>⟨e3,K1.trans Y1,fA u v hF⟩
  refine Ok.k (bJ (Ok.t ?_))
  exact fun _ _ u v=>⟨e3,K1.trans Y1,fA u v hF⟩
 exact False.elim hF
theorem agI (r:Rd):¬ RG 0 r:=fun ⟨_,_,_,_,_,_,_,_,h,_⟩=>absurd h (jQ _)
theorem agH (N:Nat) (r:Rd) (h:RG (N+1) r):JA N r (fun a b=>(a,b)=qw r):=by
 obtain ⟨t,i,ts,rest,hi,h6,hts,rfl,hN,hB⟩:=h
 rw [RF hi hts]
 have hi':=hi
 rw [lU,aG] at hi'
 have hf:=ni hi'.1
 obtain ⟨hab,-,-⟩:=G9 hi'.1
 rw [lu] at hts
 rcases kinds hf with e | e | e | e | e | e | e | e | e | e | e
 iterate 5 exact absurd h6 om
 ·rw [I_ e] at hts
  obtain rfl:=(xh hts).2
  have ht:=lN hi om om om
  rw [e,hf.un om] at ht
  have hl:aJ sP=[114,111,111,116]:=by decide +kernel
  have hp:ig sP:=by unfold ig; decide +kernel
  simp [JA,xW,tX,ah,hl,hp,ht]
  omega
 ·rw [I9 e] at hts
  obtain rfl:=(xh hts).2
  have ht:=lN hi om om om
  rw [e,hf.un om] at ht
  have hl:aJ nR=[101,109,112,116,121]:=by decide +kernel
  have hp:ig nR:=by unfold ig; decide +kernel
  simp [JA,xW,tX,ah,hl,hp,ht]
  omega
 ·rw [I8 e] at hts
  obtain ⟨us,Af,h⟩:=hts
  obtain rfl:=(xh h).2
  have h2:=hi'.2
  rw [aQ (by rw [e]; decide)] at h2
  have zy:t.kids=[]:=iL (by have:=eq_of_beq h2; omega)
  have ho:t.lab.2.2.1=0:=oh fun ho=>absurd (hf.op ho).1 om
  have ht:gL.mk (8,[],0,[],t.lab.2.2.2.2.1,t.lab.2.2.2.2.2) []=t:=mk_eq (ng e (hf.un om) ho (hf.val ho) rfl rfl) zy
  have hl:aJ Nl=[110,116,104,45,99,104,105,108,100]:=by decide +kernel
  have hp:ig Nl:=by unfold ig; decide +kernel
  have hr:=run_read Af rest
  have hv:=Bb hab.1 hab.2
  have hc:DZ (us++clT::rest) 8:=⟨_,_,us,rest,hab.1,hab.2,Af,rfl⟩
  simp [JA,xW,tX,wQ,ah,hl,hp,hc,mg,hr,hv,ht,l9]
  omega
 ·rw [I7 e] at hts
  obtain ⟨us,Af,h⟩:=hts
  obtain rfl:=(xh h).2
  have h2:=hi'.2
  rw [aQ (by rw [e]; decide)] at h2
  have zy:t.kids=[]:=iL (by have:=eq_of_beq h2; omega)
  have ho:t.lab.2.2.1=0:=oh fun ho=>absurd (hf.op ho).1 om
  have ht:gL.mk (9,[],0,[],t.lab.2.2.2.2.1,t.lab.2.2.2.2.2) []=t:=mk_eq (ng e (hf.un om) ho (hf.val ho) rfl rfl) zy
  have hl:aJ Nk=[110,116,104,45,108,97,115,116,45,99,104,105,108,100]:=by decide +kernel
  have hp:ig Nk:=by unfold ig; decide +kernel
  have hr:=run_read Af rest
  have hv:=Bb hab.1 hab.2
  have hc:DZ (us++clT::rest) 9:=⟨_,_,us,rest,hab.1,hab.2,Af,rfl⟩
  simp [JA,xW,tX,wQ,ah,hl,hp,hc,mg,hr,hv,ht,l9]
  omega
 ·rw [BV e] at hts
  obtain ⟨us,Af,h⟩:=hts
  obtain rfl:=(xh h).2
  have ho:t.lab.2.2.1=0:=oh fun ho=>absurd (hf.op ho).1 om
  have hA:=hf.ab om
  have ht:gL.mk (10,[],0,[],0,0) t.kids=t:=mk_eq (ng e (hf.un om) ho (hf.val ho) hA.1 hA.2) rfl
  have hl:aJ xB=[110,111,116]:=by decide +kernel
  have hp:ig xB:=by unfold ig; decide +kernel
  obtain ⟨p,js,l,hk,hok⟩:=OE hi (.inl e)
  rw [hk,Qs] at Af
  obtain ⟨a,b,ha,hb,rfl⟩:=Af
  have hB':qG (a++(b++clT::rest)):=by simpa using hB.tail
  have hr:=G5 hok ha hb (e:=[41]) (fin:=clT::rest) (rest:=rest) (.inr ⟨rfl,rfl⟩)
  have hL:JR N (a++(b++clT::rest)) [41]:=⟨l,p,js,a,b,clT::rest,rest,hok,ha,hb,.inr ⟨rfl,rfl⟩,rfl,by simp at hN; omega,hB'⟩
  rw [hk] at ht
  simp [JA,xW,tX,wQ,ah,hl,hp,hr,hL,ht,l9]
  omega
 rw [BU e] at hts
 obtain ⟨us,Af,h⟩:=hts
 obtain rfl:=(xh h).2
 have ho:t.lab.2.2.1=0:=oh fun ho=>absurd (hf.op ho).1 om
 have hA:=hf.ab om
 have ht:gL.mk (11,[],0,[],0,0) t.kids=t:=mk_eq (ng e (hf.un om) ho (hf.val ho) hA.1 hA.2) rfl
 have hl:aJ Po=[105,115]:=by decide +kernel
 have hp:ig Po:=by unfold ig; decide +kernel
 obtain ⟨p,js,l,hk,hok⟩:=OE hi (.inr e)
 rw [hk,Qs] at Af
 obtain ⟨a,b,ha,hb,rfl⟩:=Af
 have hB':qG (a++(b++clT::rest)):=by simpa using hB.tail
 have hr:=G5 hok ha hb (e:=[41]) (fin:=clT::rest) (rest:=rest) (.inr ⟨rfl,rfl⟩)
 have hL:JR N (a++(b++clT::rest)) [41]:=⟨l,p,js,a,b,clT::rest,rest,hok,ha,hb,.inr ⟨rfl,rfl⟩,rfl,by simp at hN; omega,hB'⟩
 rw [hk] at ht
 simp [JA,xW,tX,wQ,ah,hl,hp,hr,hL,ht,l9]
 omega
def rP (N:Nat) (xr:List KT) (K:(TS)→Bool→List KT→Prop):Prop :=
 (((ah xr).1.2.1==([42]:Bs))=true→(((ah (ah xr).2).1.1==0)=true→False)∧(((ah (ah xr).2).1.1==0)=false→(0:Int)≤1∧(1:Int)≤((ah (ah xr).2).2.length:Int)∧((ah (ah xr).2).2.length:Int)≤((ah (ah xr).2).2.length:Int)∧K (gL.mk (1,([]:Bs),0,([]:Bs),0,0) ([])) true ((ah (ah xr).2).2.drop (Int.toNat 1))))∧(((ah xr).1.2.1==([42]:Bs))=false→(((ah xr).1.1==1)=true→(((ah (ah xr).2).1.1==0)=true→False)∧(((ah (ah xr).2).1.1==0)=false→(0:Int)≤1∧(1:Int)≤((ah (ah xr).2).2.length:Int)∧((ah (ah xr).2).2.length:Int)≤((ah (ah xr).2).2.length:Int)∧(((ah (ah xr).2).1.1==1)=true→([]:Bs).length+(ah (ah xr).2).1.2.2.1.length≤maxLen∧(((ah (ah xr).2).1.2.1==(([]:Bs)++(ah (ah xr).2).1.2.2.1))=true→r_ (ah (ah xr).2).1.2.2.1∧((!(eu (ah (ah xr).2).1.2.2.1))=true→False)∧((!(eu (ah (ah xr).2).1.2.2.1))=false→ig (ah (ah xr).2).1.2.2.1∧K (gL.mk (2,(aJ (ah (ah xr).2).1.2.2.1),0,([]:Bs),0,0) ([])) true ((ah (ah xr).2).2.drop (Int.toNat 1))))∧(((ah (ah xr).2).1.2.1==(([]:Bs)++(ah (ah xr).2).1.2.2.1))=false→False))∧(((ah (ah xr).2).1.1==1)=false→False)))∧(((ah xr).1.1==1)=false→(((ah xr).1.1==4)=true→(((ah (ah xr).2).1.1==0)=true→False)∧(((ah (ah xr).2).1.1==0)=false→(0:Int)≤1∧(1:Int)≤((ah (ah xr).2).2.length:Int)∧((ah (ah xr).2).2.length:Int)≤((ah (ah xr).2).2.length:Int)∧(((ah (ah xr).2).1.1==4)=true→([35]:Bs).length+(ah (ah xr).2).1.2.2.1.length≤maxLen∧(((ah (ah xr).2).1.2.1==(([35]:Bs)++(ah (ah xr).2).1.2.2.1))=true→r_ (ah (ah xr).2).1.2.2.1∧((!(eu (ah (ah xr).2).1.2.2.1))=true→False)∧((!(eu (ah (ah xr).2).1.2.2.1))=false→K (gL.mk (3,(ah (ah xr).2).1.2.2.1,0,([]:Bs),0,0) ([])) true ((ah (ah xr).2).2.drop (Int.toNat 1))))∧(((ah (ah xr).2).1.2.1==(([35]:Bs)++(ah (ah xr).2).1.2.2.1))=false→False))∧(((ah (ah xr).2).1.1==4)=false→False)))∧(((ah xr).1.1==4)=false→(((ah xr).1.2.1==([46]:Bs))=true→(((ah (ah xr).2).1.1==0)=true→False)∧(((ah (ah xr).2).1.1==0)=false→(0:Int)≤1∧(1:Int)≤((ah (ah xr).2).2.length:Int)∧((ah (ah xr).2).2.length:Int)≤((ah (ah xr).2).2.length:Int)∧(((ah ((ah (ah xr).2).2.drop (Int.toNat 1))).1.1==0)=true→False)∧(((ah ((ah (ah xr).2).2.drop (Int.toNat 1))).1.1==0)=false→(0:Int)≤1∧(1:Int)≤((ah ((ah (ah xr).2).2.drop (Int.toNat 1))).2.length:Int)∧((ah ((ah (ah xr).2).2.drop (Int.toNat 1))).2.length:Int)≤((ah ((ah (ah xr).2).2.drop (Int.toNat 1))).2.length:Int)∧(((ah ((ah (ah xr).2).2.drop (Int.toNat 1))).1.1==1)=true→([]:Bs).length+(ah ((ah (ah xr).2).2.drop (Int.toNat 1))).1.2.2.1.length≤maxLen∧(((ah ((ah (ah xr).2).2.drop (Int.toNat 1))).1.2.1==(([]:Bs)++(ah ((ah (ah xr).2).2.drop (Int.toNat 1))).1.2.2.1))=true→r_ (ah ((ah (ah xr).2).2.drop (Int.toNat 1))).1.2.2.1∧((!(eu (ah ((ah (ah xr).2).2.drop (Int.toNat 1))).1.2.2.1))=true→False)∧((!(eu (ah ((ah (ah xr).2).2.drop (Int.toNat 1))).1.2.2.1))=false→K (gL.mk (4,(ah ((ah (ah xr).2).2.drop (Int.toNat 1))).1.2.2.1,0,([]:Bs),0,0) ([])) true ((ah ((ah (ah xr).2).2.drop (Int.toNat 1))).2.drop (Int.toNat 1))))∧(((ah ((ah (ah xr).2).2.drop (Int.toNat 1))).1.2.1==(([]:Bs)++(ah ((ah (ah xr).2).2.drop (Int.toNat 1))).1.2.2.1))=false→False))∧(((ah ((ah (ah xr).2).2.drop (Int.toNat 1))).1.1==1)=false→False))))∧(((ah xr).1.2.1==([46]:Bs))=false→(((ah xr).1.2.1==([91]:Bs))=true→(((ah (ah xr).2).1.1==0)=true→False)∧(((ah (ah xr).2).1.1==0)=false→(0:Int)≤1∧(1:Int)≤((ah (ah xr).2).2.length:Int)∧((ah (ah xr).2).2.length:Int)≤((ah (ah xr).2).2.length:Int)∧UO ((ah (ah xr).2).2.drop (Int.toNat 1))∧K (mX ((ah (ah xr).2).2.drop (Int.toNat 1))).1 true (mX ((ah (ah xr).2).2.drop (Int.toNat 1))).2))∧(((ah xr).1.2.1==([91]:Bs))=false→(((ah xr).1.2.1==([58]:Bs))=true→(((ah (ah xr).2).1.1==0)=true→False)∧(((ah (ah xr).2).1.1==0)=false→(0:Int)≤1∧(1:Int)≤((ah (ah xr).2).2.length:Int)∧((ah (ah xr).2).2.length:Int)≤((ah (ah xr).2).2.length:Int)∧RG N ((ah (ah xr).2).2.drop (Int.toNat 1))∧K (qw ((ah (ah xr).2).2.drop (Int.toNat 1))).1 true (qw ((ah (ah xr).2).2.drop (Int.toNat 1))).2))∧(((ah xr).1.2.1==([58]:Bs))=false→K (gL.mk (0,([]:Bs),0,([]:Bs),0,0) ([])) false (ah xr).2))))))
theorem aau {g:ak} (N:Nat) (Dt:EZ N) (zt:E9 N) (zo:EI N) (Dr:EY N) (zu:Ff N) {bF:Nat} {g0:Option Addr} {m0:Nat} (xr:List KT) (K0:bG g (.slice yK) [.slice g0 xr.length m0] xr) (hG0:bP g 0) (K:(TS)→Bool→List KT→Prop)
  (hF:rP N xr K):az prog 143 #[pv bF 0] g [.blk bF (.cells #[.slice g0 xr.length m0] 70)] (fun g' H' v=>∃ (r0:TS),∃ (r1:Bool),∃ (kN:List KT),∃ (V0:Option Addr) (Q0:Nat),∃ (u0:Option Addr) (j0:Nat),v=.tuple #[.agg (aL r0.lab V0 r0.kids.length Q0),.bool r1]∧bG g' (.slice yP) [.slice V0 r0.kids.length Q0] r0.kids∧bG g' (.slice yK) [.slice u0 kN.length j0] kN∧H'=[.blk bF (.cells #[.slice u0 kN.length j0] 70)]∧K r0 r1 kN):=by
 refine aP 61 func143 rfl fun w0=>?_
 let C:=(#[iv 0,sv ([]:Bs),.int .u8 0,sv ([]:Bs),iv 0,iv 0,.slice none 0 0]:Array Value)
 refine ae (ai (bK C fun eO=>?_))
 refine av 1 [(0,pv bF 0),(2,pv eO 0)] kr (aa (aH (ae (ag 1 [0,2] [(5,pv bF 0)] ?_))))
 refine jB [1,0] ?_
 refine ai (bQ (mY xr K0) fun g2 _ _ hx2 hV2=>?_)
 obtain ⟨o3,p3,rfl,i1,rfl⟩:=hV2
 replace hG0:=hG0.mono hx2.1
 refine ai (bK zK fun kZ=>?_)
 refine ai (af.w 0 ?_)
 refine aa (Ok.block (ae (aj 4 [.e 0] [0,2] [(4,pv kZ 0),(7,.bool ((ah xr).1.2.1==([42]:Bs)))] ?_)))
 refine aa (aM hF (fun hc4 hF=>?_) (fun hc4 hF=>?_))
 ·refine ae (ag 1 [2] [(11,pv bF 0)] ?_)
  refine ai (bM (args:=#[pv bF 0]) 20 [(0,pv bF 0)] gT func100 rfl rfl rfl rfl (ae (ai (bK zK fun aez=>?_))))
  refine aa (ae (av 1 [(0,pv bF 0),(2,pv aez 0),(4,pv bF 0)] kr (jB [2,0,1,3] ?_)))
  refine ai (bQ (mY (ah xr).2 i1) fun g6 _ _ hx6 hV6=>?_)
  obtain ⟨UT,UC,rfl,Ag,rfl⟩:=hV6
  replace hG0:=hG0.mono hx6.1
  refine ai (bK zK fun aeo=>?_)
  refine ai (af.w 0 ?_)
  refine aa (aH (ae (aj 3 [.e 0] [0,2] [(3,pv aeo 0),(8,.bool ((pp xr).1.1==0))] ?_)))
  refine aa (aM hF (fun hc8 hF=>?_) (fun hc8 hF=>?_))
  ·exact False.elim hF
  refine Ok.k (Ok.t (ae (ag 4 [2,3] [(11,pv bF 0),(14,pv bF 0)] ?_)))
  refine ai (af.s (v:=.slice UT (pp xr).2.length UC) (aR 1 rfl rfl underlying67 rfl kr) rfl rfl ?_)
  obtain ⟨Eh,h19,P_,hF⟩:=hF
  let D:=(pp xr).2.drop (Int.toNat 1)
  let Z:=((pp xr).2.length:Int)
  refine ai (af.ji (e:=yK) (l:=1) (h:=Z) rfl underlying67 kr (.inl ⟨_,_,rfl,rfl⟩) (.inr ⟨rfl,rfl⟩) Ag Eh h19 P_ rfl D (by rw [show Z.toNat=(pp xr).2.length from eB _,iV]) fun a9 c9 Xc=>?_)
  refine ag 2 [2,3] [(16,.slice a9 D.length c9),(18,pv bF 0)] ?_
  refine ai (dz 1 ?_)
  let O:=aK (pp xr).1
  refine aa (ae (ai (af.s (v:=.agg O) (a_ 0 4 O rfl rfl underlying98 rfl kr kr kr) rfl rfl (ai (af.w 2 ?_)))))
  refine aa (Ok.ret (bu (vs:=[.agg O]) (.inl rfl) rfl (.cons (.iK 2 4 O rfl rfl underlying98 rfl kr kr kr) .nil) rfl (aa (ae (av 1 [(2,pv eO 0),(13,.agg #[iv 1,sv ([]:Bs),.int .u8 0,sv ([]:Bs),iv 0,iv 0,.slice none 0 0])] kr (ai (af.w 4 ?_)))))))
  refine ag 1 [2] [(3,.bool true)] ?_
  refine aa (Ok.ret (aU (aC ?_)))
  exact Ef 4 [1] (hx2.trans hx6) ⟨(gL.mk (1,([]:Bs),0,([]:Bs),0,0) ([])),true,D,none,0,a9,c9,rfl,bG.nil,Xc,rfl,hF⟩
 refine ae (aj 4 [.e 0] [0,2,4] [(14,.bool ((ah xr).1.1==1))] ?_)
 refine aa (aM hF (fun y2 hF=>?_) (fun y2 hF=>?_))
 ·refine ae (ag 2 [2] [(18,pv bF 0),(19,pv bF 0)] ?_)
  refine ai (bM (args:=#[pv bF 0]) 20 [(0,pv bF 0)] gT func100 rfl rfl rfl rfl (ae (ai (bK zK fun aew=>?_))))
  refine aa (ae (av 1 [(0,pv bF 0),(2,pv aew 0),(4,pv bF 0)] kr (jB [2,0,1,3] ?_)))
  refine ai (bQ (mY (ah xr).2 i1) fun g12 _ _ g1 R2=>?_)
  obtain ⟨Z1,V1,rfl,G0,rfl⟩:=R2
  replace hG0:=hG0.mono g1.1
  refine ai (bK zK fun ael=>?_)
  refine ai (af.w 0 ?_)
  refine aa (aH (ae (aj 3 [.e 0] [0,2] [(3,pv ael 0),(8,.bool ((pp xr).1.1==0))] ?_)))
  refine aa (aM hF (fun N2 hF=>?_) (fun N2 hF=>?_))
  ·exact False.elim hF
  refine Ok.k (Ok.t (ae (ag 4 [2,3] [(11,pv bF 0),(14,pv bF 0)] ?_)))
  refine ai (af.s (v:=.slice Z1 (pp xr).2.length V1) (aR 1 rfl rfl underlying67 rfl kr) rfl rfl ?_)
  obtain ⟨Ie,ME,Mx,hF⟩:=hF
  let E:=(pp xr).2.drop (Int.toNat 1)
  let A':=((pp xr).2.length:Int)
  refine ai (af.ji (e:=yK) (l:=1) (h:=A') rfl underlying67 kr (.inl ⟨_,_,rfl,rfl⟩) (.inr ⟨rfl,rfl⟩) G0 Ie ME Mx rfl E (by rw [show A'.toNat=(pp xr).2.length from eB _,iV]) fun a15 c15 aoN=>?_)
  refine ag 2 [2,3] [(16,.slice a15 E.length c15),(18,pv bF 0)] ?_
  refine ai (dz 1 ?_)
  let P:=aK (pp xr).1
  refine aa (ae (ai (af.s (v:=.agg P) (a_ 0 4 P rfl rfl underlying98 rfl kr kr kr) rfl rfl (ai (af.w 2 ?_)))))
  refine aa (Ok.ret (bu (vs:=[.agg P]) (.inl rfl) rfl (.cons (.iK 2 4 P rfl rfl underlying98 rfl kr kr kr) .nil) rfl (ai (bM (args:=#[pv bF 0,.agg P,iv 1,sv ([]:Bs)]) 31 [(0,pv bF 0),(1,.agg P),(2,iv 1),(3,sv ([]:Bs))] gT func182 rfl rfl rfl rfl (ae (ai (di fun s2=>?_)))))))
  refine av 1 [(0,pv bF 0),(2,iv 1),(3,sv ([]:Bs)),(5,pv s2 0)] kr (aa (ae (aj 6 [.e 0] [3,5] [(9,pv bF 0),(14,.bool ((pp xr).1.1==1))] ?_)))
  refine bN 14 hF (fun hc17 hF=>?_) (fun hc17 hF=>?_)
  ·refine aj 4 [.e 0] [5,9] [(14,.bool true),(16,sv ((pp xr).1.2.1)),(17,sv ([]:Bs)),(18,pv s2 2)] ?_
   let V:=(pp xr).1.2.2.1
   refine dW (af.s (v:=sv V) (aR 0 rfl rfl underlying9 rfl kr) rfl rfl ?_)
   obtain ⟨hv,hF⟩:=hF
   let Y:=([]:Bs)++(pp xr).1.2.2.1
   refine dW (af.s (v:=sv Y) (dx rfl rfl hv) rfl rfl (aj 3 [] [5,9] [(23,.bool ((pp xr).1.2.1==Y))] ?_))
   refine bN 23 hF (fun f1 hF=>?_) (fun f1 hF=>?_)
   ·obtain ⟨O2,hF⟩:=hF
    let J:=eu (pp xr).1.2.2.1
    refine aj 4 [.e 0,.k (EK (pp xr).1.2.2.1 hG0 O2)] [5,9] [(27,.bool J)] ?_
    refine ai (bM (args:=#[pv bF 0,.bool J]) 8 [(0,pv bF 0),(1,.bool J)] gT func57 rfl rfl rfl rfl (ae (av 2 [(5,.bool (! J))] kr (aa (aM hF (fun Mq hF=>?_) (fun Mq hF=>?_))))))
    ·exact False.elim hF
    refine Ok.k (bu (vs:=[]) (.inr rfl) rfl .nil rfl (aa (ae (aj 3 [.e 0] [] [(8,sv V)] ?_))))
    refine aa (Ok.ret (bu (vs:=[sv V]) (.inl rfl) rfl (.cons (.tmp rfl) .nil) rfl ?_))
    obtain ⟨Tu,hF⟩:=hF
    refine aj 2 [.k (EM (pp xr).1.2.2.1 Tu)] [] [(2,pv eO 0),(23,.agg #[iv 2,sv (aJ (pp xr).1.2.2.1),.int .u8 0,sv ([]:Bs),iv 0,iv 0,.slice none 0 0])] ?_
    refine ai (af.w 5 ?_)
    refine ag 1 [2] [(3,.bool true)] ?_
    refine aa (Ok.ret (aU (aC ?_)))
    exact Ef 5 [2] (hx2.trans g1) ⟨(gL.mk (2,aJ (pp xr).1.2.2.1,0,([]:Bs),0,0) ([])),true,E,none,0,a15,c15,rfl,bG.nil,aoN,rfl,hF⟩
   refine ag 4 [5,9] [(27,.bool false)] ?_
   refine ai (bM (args:=#[pv bF 0,.bool false]) 8 [(0,pv bF 0),(1,.bool false)] gT func57 rfl rfl rfl rfl (ae (av 2 [(5,.bool true)] kr (aa (Ok.c (b:=true) rfl (fun _=>?_) (fun h=>by cases h))))))
   exact False.elim hF
  refine ag 13 [5,9] [(27,.bool false)] ?_
  refine ai (bM (args:=#[pv bF 0,.bool false]) 8 [(0,pv bF 0),(1,.bool false)] gT func57 rfl rfl rfl rfl (ae (av 2 [(5,.bool true)] kr (aa (Ok.c (b:=true) rfl (fun _=>?_) (fun h=>by cases h))))))
  exact False.elim hF
 refine ae (aj 4 [.e 0] [0,2,4] [(24,.bool ((ah xr).1.1==4))] ?_)
 refine aa (aM hF (fun T2 hF=>?_) (fun T2 hF=>?_))
 ·refine ae (ag 2 [2] [(28,pv bF 0),(29,pv bF 0)] ?_)
  refine ai (bM (args:=#[pv bF 0]) 20 [(0,pv bF 0)] gT func100 rfl rfl rfl rfl (ae (ai (bK zK fun E1=>?_))))
  refine aa (ae (av 1 [(0,pv bF 0),(2,pv E1 0),(4,pv bF 0)] kr (jB [2,0,1,3] ?_)))
  refine ai (bQ (mY (ah xr).2 i1) fun g24 _ _ F1 L2=>?_)
  obtain ⟨B1,C1,rfl,T1,rfl⟩:=L2
  replace hG0:=hG0.mono F1.1
  refine ai (bK zK fun G1=>?_)
  refine ai (af.w 0 ?_)
  refine aa (aH (ae (aj 3 [.e 0] [0,2] [(3,pv G1 0),(8,.bool ((pp xr).1.1==0))] ?_)))
  refine aa (aM hF (fun Mo hF=>?_) (fun Mo hF=>?_))
  ·exact False.elim hF
  refine Ok.k (Ok.t (ae (ag 4 [2,3] [(11,pv bF 0),(14,pv bF 0)] ?_)))
  refine ai (af.s (v:=.slice B1 (pp xr).2.length C1) (aR 1 rfl rfl underlying67 rfl kr) rfl rfl ?_)
  obtain ⟨T9,h127,acS,hF⟩:=hF
  let F:=(pp xr).2.drop (Int.toNat 1)
  let B':=((pp xr).2.length:Int)
  refine ai (af.ji (e:=yK) (l:=1) (h:=B') rfl underlying67 kr (.inl ⟨_,_,rfl,rfl⟩) (.inr ⟨rfl,rfl⟩) T1 T9 h127 acS rfl F (by rw [show B'.toNat=(pp xr).2.length from eB _,iV]) fun a27 XU aoB=>?_)
  refine ag 2 [2,3] [(16,.slice a27 F.length XU),(18,pv bF 0)] ?_
  refine ai (dz 1 ?_)
  let Q:=aK (pp xr).1
  refine aa (ae (ai (af.s (v:=.agg Q) (a_ 0 4 Q rfl rfl underlying98 rfl kr kr kr) rfl rfl (ai (af.w 2 ?_)))))
  refine aa (Ok.ret (bu (vs:=[.agg Q]) (.inl rfl) rfl (.cons (.iK 2 4 Q rfl rfl underlying98 rfl kr kr kr) .nil) rfl (ai (bM (args:=#[pv bF 0,.agg Q,iv 4,sv ([35]:Bs)]) 31 [(0,pv bF 0),(1,.agg Q),(2,iv 4),(3,sv ([35]:Bs))] gT func182 rfl rfl rfl rfl (ae (ai (di fun b2=>?_)))))))
  refine av 1 [(0,pv bF 0),(2,iv 4),(3,sv ([35]:Bs)),(5,pv b2 0)] kr (aa (ae (aj 6 [.e 0] [3,5] [(9,pv bF 0),(14,.bool ((pp xr).1.1==4))] ?_)))
  refine bN 14 hF (fun hc29 hF=>?_) (fun hc29 hF=>?_)
  ·refine aj 4 [.e 0] [5,9] [(14,.bool true),(16,sv ((pp xr).1.2.1)),(17,sv ([35]:Bs)),(18,pv b2 2)] ?_
   let W:=(pp xr).1.2.2.1
   refine dW (af.s (v:=sv W) (aR 0 rfl rfl underlying9 rfl kr) rfl rfl ?_)
   obtain ⟨hv,hF⟩:=hF
   let X:=([35]:Bs)++(pp xr).1.2.2.1
   refine dW (af.s (v:=sv X) (dx rfl rfl hv) rfl rfl (aj 3 [] [5,9] [(23,.bool ((pp xr).1.2.1==X))] ?_))
   refine bN 23 hF (fun anG hF=>?_) (fun anG hF=>?_)
   ·obtain ⟨Tq,hF⟩:=hF
    let L:=eu (pp xr).1.2.2.1
    refine aj 4 [.e 0,.k (EK (pp xr).1.2.2.1 hG0 Tq)] [5,9] [(27,.bool L)] ?_
    refine ai (bM (args:=#[pv bF 0,.bool L]) 8 [(0,pv bF 0),(1,.bool L)] gT func57 rfl rfl rfl rfl (ae (av 2 [(5,.bool (! L))] kr (aa (aM hF (fun hc32 hF=>?_) (fun hc32 hF=>?_))))))
    ·exact False.elim hF
    refine Ok.k (bu (vs:=[]) (.inr rfl) rfl .nil rfl (aa (ae (aj 3 [.e 0] [] [(8,sv W)] ?_))))
    refine aa (Ok.ret (bu (vs:=[sv W]) (.inl rfl) rfl (.cons (.tmp rfl) .nil) rfl (av 1 [(2,pv eO 0),(32,.agg #[iv 3,sv W,.int .u8 0,sv ([]:Bs),iv 0,iv 0,.slice none 0 0])] kr (ai (af.w 5 ?_)))))
    refine ag 1 [2] [(3,.bool true)] ?_
    refine aa (Ok.ret (aU (aC ?_)))
    exact Ef 5 [2] (hx2.trans F1) ⟨(gL.mk (3,(pp xr).1.2.2.1,0,([]:Bs),0,0) ([])),true,F,none,0,a27,XU,rfl,bG.nil,aoB,rfl,hF⟩
   refine ag 4 [5,9] [(27,.bool false)] ?_
   refine ai (bM (args:=#[pv bF 0,.bool false]) 8 [(0,pv bF 0),(1,.bool false)] gT func57 rfl rfl rfl rfl (ae (av 2 [(5,.bool true)] kr (aa (Ok.c (b:=true) rfl (fun _=>?_) (fun h=>by cases h))))))
   exact False.elim hF
  refine ag 13 [5,9] [(27,.bool false)] ?_
  refine ai (bM (args:=#[pv bF 0,.bool false]) 8 [(0,pv bF 0),(1,.bool false)] gT func57 rfl rfl rfl rfl (ae (av 2 [(5,.bool true)] kr (aa (Ok.c (b:=true) rfl (fun _=>?_) (fun h=>by cases h))))))
  exact False.elim hF
 refine ae (aj 4 [.e 0] [0,2,4] [(33,.bool ((ah xr).1.2.1==([46]:Bs)))] ?_)
 refine aa (aM hF (fun L1 hF=>?_) (fun L1 hF=>?_))
 ·refine ae (ag 1 [0,2] [(37,pv bF 0)] ?_)
  refine ai (bM (args:=#[pv bF 0]) 20 [(0,pv bF 0)] gT func100 rfl rfl rfl rfl (ae (ai (bK zK fun aet=>?_))))
  refine aa (ae (ag 1 [0] [(2,pv aet 0),(4,pv bF 0)] ?_))
  refine jB [2,0,1,3] ?_
  refine ai (bQ (mY (ah xr).2 i1) fun g35 _ _ t3 an8=>?_)
  obtain ⟨akz,ajV,rfl,acp,rfl⟩:=an8
  replace hG0:=hG0.mono t3.1
  refine ai (bK zK fun aej=>?_)
  refine ai (af.w 0 ?_)
  refine aa (aH (ae (aj 3 [.e 0] [0,2] [(3,pv aej 0),(8,.bool ((pp xr).1.1==0))] ?_)))
  refine aa (aM hF (fun c2 hF=>?_) (fun c2 hF=>?_))
  ·exact False.elim hF
  refine Ok.k (Ok.t (ae (ag 4 [2,3] [(11,pv bF 0),(14,pv bF 0)] ?_)))
  refine ai (af.s (v:=.slice akz (pp xr).2.length ajV) (aR 1 rfl rfl underlying67 rfl kr) rfl rfl ?_)
  obtain ⟨ac9,acZ,acR,hF⟩:=hF
  let G:=(pp xr).2.drop (Int.toNat 1)
  let C':=((pp xr).2.length:Int)
  refine ai (af.ji (e:=yK) (l:=1) (h:=C') rfl underlying67 kr (.inl ⟨_,_,rfl,rfl⟩) (.inr ⟨rfl,rfl⟩) acp ac9 acZ acR rfl G (by rw [show C'.toNat=(pp xr).2.length from eB _,iV]) fun a38 c38 aos=>?_)
  refine ag 2 [2,3] [(16,.slice a38 G.length c38),(18,pv bF 0)] ?_
  refine ai (dz 1 ?_)
  let R:=aK (pp xr).1
  refine aa (ae (ai (af.s (v:=.agg R) (a_ 0 4 R rfl rfl underlying98 rfl kr kr kr) rfl rfl (ai (af.w 2 ?_)))))
  refine aa (Ok.ret (bu (vs:=[.agg R]) (.inl rfl) rfl (.cons (.iK 2 4 R rfl rfl underlying98 rfl kr kr kr) .nil) rfl (aa (ae (av 2 [(2,pv eO 0),(39,pv bF 0),(40,pv bF 0)] kr (ai (bM (args:=#[pv bF 0]) 20 [(0,pv bF 0)] gT func100 rfl rfl rfl rfl (ae (ai (bK zK fun aer=>?_))))))))))
  refine aa (ae (av 1 [(0,pv bF 0),(2,pv aer 0),(4,pv bF 0)] kr (jB [2,0,1,3,4,5] ?_)))
  refine ai (bQ (mY G aos) fun g40 _ _ a3 an6=>?_)
  obtain ⟨akx,ajS,rfl,acm,rfl⟩:=an6
  replace hG0:=hG0.mono a3.1
  refine ai (bK zK fun aei=>?_)
  refine ai (af.w 0 ?_)
  let A:=ah G
  refine aa (aH (ae (aj 3 [.e 0] [0,2] [(3,pv aei 0),(8,.bool (A.1.1==0))] ?_)))
  refine aa (aM hF (fun anD hF=>?_) (fun anD hF=>?_))
  ·exact False.elim hF
  refine Ok.k (Ok.t (ae (ag 4 [2,3] [(11,pv bF 0),(14,pv bF 0)] ?_)))
  refine ai (af.s (v:=.slice akx A.2.length ajS) (aR 1 rfl rfl underlying67 rfl kr) rfl rfl ?_)
  obtain ⟨TY,acX,acQ,hF⟩:=hF
  let M:=A.2.drop (Int.toNat 1)
  refine ai (af.ji (e:=yK) (l:=1) (h:=(A.2.length:Int)) rfl underlying67 kr (.inl ⟨_,_,rfl,rfl⟩) (.inr ⟨rfl,rfl⟩) acm TY acX acQ rfl M (by rw [show (A.2.length:Int).toNat=A.2.length from eB _,iV]) fun a43 c43 aoq=>?_)
  refine ag 2 [2,3] [(16,.slice a43 M.length c43),(18,pv bF 0)] ?_
  refine ai (dz 1 ?_)
  let B:=(#[iv A.1.1,sv (A.1.2.1),sv (A.1.2.2.1),iv A.1.2.2.2]:Array Value)
  refine aa (ae (ai (af.s (v:=.agg B) (a_ 0 4 B rfl rfl underlying98 rfl kr kr kr) rfl rfl (ai (af.w 2 ?_)))))
  refine aa (Ok.ret (bu (vs:=[.agg B]) (.inl rfl) rfl (.cons (.iK 2 4 B rfl rfl underlying98 rfl kr kr kr) .nil) rfl (ai (bM (args:=#[pv bF 0,.agg B,iv 1,sv ([]:Bs)]) 31 [(0,pv bF 0),(1,.agg B),(2,iv 1),(3,sv ([]:Bs))] gT func182 rfl rfl rfl rfl (ae (ai (di fun d2=>?_)))))))
  refine av 1 [(0,pv bF 0),(2,iv 1),(3,sv ([]:Bs)),(5,pv d2 0)] kr (aa (ae (aj 6 [.e 0] [3,5] [(9,pv bF 0),(14,.bool (A.1.1==1))] ?_)))
  refine bN 14 hF (fun abO hF=>?_) (fun abO hF=>?_)
  ·refine aj 4 [.e 0] [5,9] [(14,.bool true),(16,sv (A.1.2.1)),(17,sv ([]:Bs)),(18,pv d2 2)] ?_
   refine dW (af.s (v:=sv (A.1.2.2.1)) (aR 0 rfl rfl underlying9 rfl kr) rfl rfl ?_)
   obtain ⟨hv,hF⟩:=hF
   refine dW (af.s (v:=sv (([]:Bs)++A.1.2.2.1)) (dx rfl rfl hv) rfl rfl (aj 3 [] [5,9] [(23,.bool (A.1.2.1==(([]:Bs)++A.1.2.2.1)))] ?_))
   refine bN 23 hF (fun anB hF=>?_) (fun anB hF=>?_)
   ·obtain ⟨amK,hF⟩:=hF
    let U:=eu A.1.2.2.1
    refine aj 4 [.e 0,.k (EK A.1.2.2.1 hG0 amK)] [5,9] [(27,.bool U)] ?_
    refine ai (bM (args:=#[pv bF 0,.bool U]) 8 [(0,pv bF 0),(1,.bool U)] gT func57 rfl rfl rfl rfl (ae (av 2 [(5,.bool (! U))] kr (aa (aM hF (fun anA hF=>?_) (fun anA hF=>?_))))))
    ·exact False.elim hF
    refine Ok.k (bu (vs:=[]) (.inr rfl) rfl .nil rfl (aa (ae (aj 3 [.e 0] [] [(8,sv (A.1.2.2.1))] ?_))))
    refine aa (Ok.ret (bu (vs:=[sv (A.1.2.2.1)]) (.inl rfl) rfl (.cons (.tmp rfl) .nil) rfl (av 1 [(2,pv eO 0),(43,.agg #[iv 4,sv (A.1.2.2.1),.int .u8 0,sv ([]:Bs),iv 0,iv 0,.slice none 0 0])] kr (ai (af.w 7 ?_)))))
    refine ag 1 [2] [(3,.bool true)] ?_
    refine aa (Ok.ret (aU (aC ?_)))
    exact Ef 7 [2] ((hx2.trans t3).trans a3) ⟨(gL.mk (4,A.1.2.2.1,0,([]:Bs),0,0) ([])),true,M,none,0,a43,c43,rfl,bG.nil,aoq,rfl,hF⟩
   refine ag 4 [5,9] [(27,.bool false)] ?_
   refine ai (bM (args:=#[pv bF 0,.bool false]) 8 [(0,pv bF 0),(1,.bool false)] gT func57 rfl rfl rfl rfl (ae (av 2 [(5,.bool true)] kr (aa (Ok.c (b:=true) rfl (fun _=>?_) (fun h=>by cases h))))))
   exact False.elim hF
  refine ag 13 [5,9] [(27,.bool false)] ?_
  refine ai (bM (args:=#[pv bF 0,.bool false]) 8 [(0,pv bF 0),(1,.bool false)] gT func57 rfl rfl rfl rfl (ae (av 2 [(5,.bool true)] kr (aa (Ok.c (b:=true) rfl (fun _=>?_) (fun h=>by cases h))))))
  exact False.elim hF
 refine ae (aj 4 [.e 0] [0,2,4] [(44,.bool ((ah xr).1.2.1==([91]:Bs)))] ?_)
 refine aa (aM hF (fun anz hF=>?_) (fun anz hF=>?_))
 ·refine ae (ag 1 [0,2] [(48,pv bF 0)] ?_)
  refine ai (bM (args:=#[pv bF 0]) 20 [(0,pv bF 0)] gT func100 rfl rfl rfl rfl (ae (ai (bK zK fun aeq=>?_))))
  refine aa (ae (ag 1 [0] [(2,pv aeq 0),(4,pv bF 0)] ?_))
  refine jB [2,0,1,3] ?_
  refine ai (bQ (mY (ah xr).2 i1) fun g51 _ _ i3 an3=>?_)
  obtain ⟨akw,ajR,rfl,acj,rfl⟩:=an3
  replace hG0:=hG0.mono i3.1
  refine ai (bK zK fun aeh=>?_)
  refine ai (af.w 0 ?_)
  refine aa (aH (ae (aj 3 [.e 0] [0,2] [(3,pv aeh 0),(8,.bool ((pp xr).1.1==0))] ?_)))
  refine aa (aM hF (fun abN hF=>?_) (fun abN hF=>?_))
  ·exact False.elim hF
  refine Ok.k (Ok.t (ae (ag 4 [2,3] [(11,pv bF 0),(14,pv bF 0)] ?_)))
  refine ai (af.s (v:=.slice akw (pp xr).2.length ajR) (aR 1 rfl rfl underlying67 rfl kr) rfl rfl ?_)
  obtain ⟨apF,apq,apa,hF⟩:=hF
  let H:=(pp xr).2.drop (Int.toNat 1)
  let D':=((pp xr).2.length:Int)
  refine ai (af.ji (e:=yK) (l:=1) (h:=D') rfl underlying67 kr (.inl ⟨_,_,rfl,rfl⟩) (.inr ⟨rfl,rfl⟩) acj apF apq apa rfl H (by rw [show D'.toNat=(pp xr).2.length from eB _,iV]) fun a54 c54 aop=>?_)
  refine ag 2 [2,3] [(16,.slice a54 H.length c54),(18,pv bF 0)] ?_
  refine ai (dz 1 ?_)
  let S:=aK (pp xr).1
  refine aa (ae (ai (af.s (v:=.agg S) (a_ 0 4 S rfl rfl underlying98 rfl kr kr kr) rfl rfl (ai (af.w 2 ?_)))))
  refine aa (Ok.ret (bu (vs:=[.agg S]) (.inl rfl) rfl (.cons (.iK 2 4 S rfl rfl underlying98 rfl kr kr kr) .nil) rfl (aa (ae (av 1 [(2,pv eO 0),(50,pv bF 0)] kr ?_)))))
  obtain ⟨amH,hF⟩:=hF
  refine jB [1,0,2,3,4] ?_
  refine ai (bQ (akl H aop hG0 amH) fun g56 _ _ Z3 an2=>?_)
  obtain ⟨akv,ajQ,aku,ajP,rfl,ach,acg,rfl⟩:=an2
  replace hG0:=hG0.mono Z3.1
  refine ai (af.w 4 ?_)
  refine ag 1 [2] [(3,.bool true)] ?_
  refine aa (Ok.ret (aU (aC ?_)))
  exact Ef 4 [0] ((hx2.trans i3).trans Z3) ⟨(mX H).1,true,(mX H).2,akv,ajQ,aku,ajP,rfl,ach,acg,rfl,hF⟩
 refine ae (aj 4 [.e 0] [0,2] [(52,.bool ((ah xr).1.2.1==([58]:Bs)))] ?_)
 refine aa (aM hF (fun anw hF=>?_) (fun anw hF=>?_))
 ·refine ae (ag 1 [0,2] [(56,pv bF 0)] ?_)
  refine ai (bM (args:=#[pv bF 0]) 20 [(0,pv bF 0)] gT func100 rfl rfl rfl rfl (ae (ai (bK zK fun aep=>?_))))
  refine aa (ae (ag 1 [0] [(2,pv aep 0),(4,pv bF 0)] ?_))
  refine jB [2,0,1,3] ?_
  refine ai (bQ (mY (ah xr).2 i1) fun g59 _ _ V3 an1=>?_)
  obtain ⟨akt,ajO,rfl,acf,rfl⟩:=an1
  replace hG0:=hG0.mono V3.1
  refine ai (bK zK fun aeg=>?_)
  refine ai (af.w 0 ?_)
  refine aa (aH (ae (aj 3 [.e 0] [0,2] [(3,pv aeg 0),(8,.bool ((pp xr).1.1==0))] ?_)))
  refine aa (aM hF (fun anv hF=>?_) (fun anv hF=>?_))
  ·exact False.elim hF
  refine Ok.k (Ok.t (ae (ag 4 [2,3] [(11,pv bF 0),(14,pv bF 0)] ?_)))
  refine ai (af.s (v:=.slice akt (pp xr).2.length ajO) (aR 1 rfl rfl underlying67 rfl kr) rfl rfl ?_)
  obtain ⟨apD,apn,ao9,hF⟩:=hF
  let I:=(pp xr).2.drop (Int.toNat 1)
  let E':=((pp xr).2.length:Int)
  refine ai (af.ji (e:=yK) (l:=1) (h:=E') rfl underlying67 kr (.inl ⟨_,_,rfl,rfl⟩) (.inr ⟨rfl,rfl⟩) acf apD apn ao9 rfl I (by rw [show E'.toNat=(pp xr).2.length from eB _,iV]) fun a62 c62 aoo=>?_)
  refine ag 2 [2,3] [(16,.slice a62 I.length c62),(18,pv bF 0)] ?_
  refine ai (dz 1 ?_)
  let T:=aK (pp xr).1
  refine aa (ae (ai (af.s (v:=.agg T) (a_ 0 4 T rfl rfl underlying98 rfl kr kr kr) rfl rfl (ai (af.w 2 ?_)))))
  refine aa (Ok.ret (bu (vs:=[.agg T]) (.inl rfl) rfl (.cons (.iK 2 4 T rfl rfl underlying98 rfl kr kr kr) .nil) rfl (aa (ae (av 1 [(2,pv eO 0),(58,pv bF 0)] kr ?_)))))
  obtain ⟨amE,hF⟩:=hF
  refine jB [1,0,2,3,4] ?_
  refine ai (bQ (Dt _ I aoo hG0 amE) fun g64 _ _ Q3 an0=>?_)
  obtain ⟨akr,ajM,akq,ajL,rfl,ace,acd,rfl⟩:=an0
  refine ai (af.w 4 ?_)
  refine ag 1 [2] [(3,.bool true)] ?_
  refine aa (Ok.ret (aU (aC ?_)))
  exact Ef 4 [0] ((hx2.trans V3).trans Q3) ⟨(qw I).1,true,(qw I).2,akr,ajM,akq,ajL,rfl,ace,acd,rfl,hF⟩
 refine Ok.k (bJ (Ok.t (ae (ag 1 [2] [(60,.agg C)] ?_))))
 refine ai (af.w 2 ?_)
 refine ag 1 [2] [(3,.bool false)] ?_
 refine aa (Ok.ret ?_)
 exact Ef 2 [1] hx2 ⟨(gL.mk (0,([]:Bs),0,([]:Bs),0,0) ([])),false,(ah xr).2,none,0,o3,p3,rfl,bG.nil,i1,rfl,hF⟩
theorem agM (r:Rd):¬ LD 0 r:=fun h=>by
 rcases h with ⟨_,_,_,_,_,_,_,h,_⟩ | ⟨_,h⟩
 ·exact absurd h (jQ _)
 exact absurd h (jQ _)
theorem agL (N:Nat) (r:Rd) (h:LD (N+1) r):rP N r (fun a b c=>(a,b,c)=fH r):=by
 rcases h with ⟨t,i,ts,rest,hi,hts,rfl,hN,hB⟩ | ⟨hn,h0⟩
 ·rw [LC hi hts]
  have K3:=hts
  have hi':=hi
  rw [lU,aG] at hi'
  have hf:=ni hi'.1
  have n0:2≤t.lab.1→t.lab.1≤5→t.lab.2.1≠[42]:=fun a b e=>by
   have:=hf.name a b
   rw [e] at this
   exact absurd this dk
  have pss:∀ {us:List Tok},ts=sg 58::us→6≤t.lab.1→RG N (us++rest)∧qw (us++rest)=(t,rest):=fun {us} e h6=>by
   subst e
   exact ⟨⟨t,i,us,rest,hi,h6,K3,rfl,by simp at hN; omega,hB.tail⟩,RF hi K3 rest⟩
  rw [lu] at hts
  rcases kinds hf with e | e | e | e | e | e | e | e | e | e | e
  ·rw [NG e] at hts; subst hts
   have ht:=lN hi om om om
   rw [e,hf.un om] at ht
   simp [rP,ah,ht]
   omega
  ·rw [NF e] at hts; subst hts
   have ht:=lN hi om om om
   rw [e] at ht
   have hn:nY t.lab.2.1:=⟨hf.name om om,hB.head⟩
   simp [rP,ah,ht,n0 om om,hf.low (.inl e),hn.1,hn.cut,hn.lo,hn.ml]
   omega
  ·rw [NC e] at hts; subst hts
   have ht:=lN hi om om om
   rw [e] at ht
   have hl:t.lab.2.1.length+1≤1000:=by have:=hB.head; simpa using this
   have hn:nY t.lab.2.1:=⟨hf.name om om,om⟩
   simp [rP,ah,ht,hn.1,hn.cut,hn.lo,l9]
   omega
  ·rw [NB e] at hts; subst hts
   have ht:=lN hi om om om
   rw [e] at ht
   have hn:nY t.lab.2.1:=⟨hf.name om om,hB.tail.head⟩
   simp [rP,ah,ht,hn.1,hn.cut,hn.lo,hn.ml]
   omega
  ·rw [Ja e] at hts
   have h2:=hi'.2
   rw [aQ (by rw [e]; decide)] at h2
   have zy:t.kids=[]:=iL (by have:=eq_of_beq h2; omega)
   have hA:=hf.ab om
   by_cases h0:(t.lab.2.2.1==0)=true
   ·rw [bn h0] at hts; subst hts
    have ho:t.lab.2.2.1=0:=eq_of_beq h0
    have ht:gL.mk (5,t.lab.2.1,0,[],0,0) []=t:=mk_eq (ng e rfl ho (hf.val ho) hA.1 hA.2) zy
    have hn:nY t.lab.2.1:=⟨hf.name om om,hB.tail.head⟩
    have hP:UO (wd t.lab.2.1::(11,[93],[],0)::rest):=⟨_,rest,hn,hf.low (.inr e),.inl rfl⟩
    simp [rP,ah,mX,ht,hP]
    omega
   rw [aQ h0] at hts; subst hts
   have hz:=Gm (hf.op (by simpa using h0)).2
   have ht:gL.mk (5,t.lab.2.1,t.lab.2.2.1,t.lab.2.2.2.1,0,0) []=t:=mk_eq (ng e rfl rfl rfl hA.1 hA.2) zy
   have hn:nY t.lab.2.1:=⟨hf.name om om,hB.tail.head⟩
   have hP:UO (wd t.lab.2.1::(RJ t.lab.2.2.1++(5,Ej t.lab.2.2.2.1,t.lab.2.2.2.1,0)::(11,[93],[],0)::rest)):=⟨_,rest,hn,hf.low (.inr e),.inr ⟨_,_,hz,rfl⟩⟩
   have hr:mX (wd t.lab.2.1::(RJ t.lab.2.2.1++(5,Ej t.lab.2.2.2.1,t.lab.2.2.2.1,0)::(11,[93],[],0)::rest))=(t,rest):=by
    rcases hz with hz | hz | hz | hz | hz | hz
    all_goals (rw [hz] at ht ⊢; simp [mX,RJ,oq,ht])
   simp [rP,ah,hr,hP]
   omega
  ·rw [I_ e] at hts
   obtain ⟨q1,q2⟩:=pss hts om
   subst hts
   generalize hW:[wd sP]++rest=W at q1 q2
   rw [iM,hW]
   simp [rP,ah,q1,q2]
   omega
  ·rw [I9 e] at hts
   obtain ⟨q1,q2⟩:=pss hts om
   subst hts
   generalize hW:[wd nR]++rest=W at q1 q2
   rw [iM,hW]
   simp [rP,ah,q1,q2]
   omega
  ·rw [I8 e] at hts
   obtain ⟨us,-,hts⟩:=hts
   obtain ⟨q1,q2⟩:=pss hts om
   subst hts
   generalize hW:(Ai Nl::(us++[clT]))++rest=W at q1 q2
   rw [iM,hW]
   simp [rP,ah,q1,q2]
   omega
  ·rw [I7 e] at hts
   obtain ⟨us,-,hts⟩:=hts
   obtain ⟨q1,q2⟩:=pss hts om
   subst hts
   generalize hW:(Ai Nk::(us++[clT]))++rest=W at q1 q2
   rw [iM,hW]
   simp [rP,ah,q1,q2]
   omega
  ·rw [BV e] at hts
   obtain ⟨us,-,hts⟩:=hts
   obtain ⟨q1,q2⟩:=pss hts om
   subst hts
   generalize hW:(Ai xB::(us++[clT]))++rest=W at q1 q2
   rw [iM,hW]
   simp [rP,ah,q1,q2]
   omega
  rw [BU e] at hts
  obtain ⟨us,-,hts⟩:=hts
  obtain ⟨q1,q2⟩:=pss hts om
  subst hts
  generalize hW:(Ai Po::(us++[clT]))++rest=W at q1 q2
  rw [iM,hW]
  simp [rP,ah,q1,q2]
  omega
 have e:fH r=(Yt,false,r):=LB hn _
 rw [e]
 rcases JF hn with rfl | ⟨q,rfl | rfl | rfl⟩
 all_goals simp [rP,ah,Yt]
def FT (N:Nat) (K:(List TS)→List KT→Prop) (H1:Bool) (Y0:Int) (o0:Bs) (e0:Int) (b0:Bs) (x0:Int) (s0:Int) (t0:List PH) (y0:List KT) (a0:List TS) (C9:Bool→Int→Bs→Int→Bs→Int→Int→List PH→List KT→List TS→Prop):Prop :=
 (H1=true→(a0++([gL.mk (Y0,o0,e0,b0,x0,s0) t0]:List TS)).length≤1599289640401∧LD N y0∧C9 (fH y0).2.1 ((fH y0).1.lab.1) ((fH y0).1.lab.2.1) ((fH y0).1.lab.2.2.1) ((fH y0).1.lab.2.2.2.1) ((fH y0).1.lab.2.2.2.2.1) ((fH y0).1.lab.2.2.2.2.2) ((fH y0).1.kids) (fH y0).2.2 (a0++([gL.mk (Y0,o0,e0,b0,x0,s0) t0]:List TS)))∧(H1=false→((!(decide ((a0.length:Int)>0)))=true→False)∧((!(decide ((a0.length:Int)>0)))=false→K a0 y0))
def zW (N:Nat) (K:(List TS)→List KT→Prop):Nat→Bool→Int→Bs→Int→Bs→Int→Int→List PH→List KT→List TS→Prop
 | 0,_,_,_,_,_,_,_,_,_,_=>False
 | k+1,H1,Y0,o0,e0,b0,x0,s0,t0,y0,a0=>FT N K H1 Y0 o0 e0 b0 x0 s0 t0 y0 a0 (zW N K k)
def afD (N:Nat) (xr:List KT) (K:(List TS)→List KT→Prop):Prop :=
 LD N xr∧∃ k,zW N K k (fH xr).2.1 ((fH xr).1.lab.1) ((fH xr).1.lab.2.1) ((fH xr).1.lab.2.2.1) ((fH xr).1.lab.2.2.2.1) ((fH xr).1.lab.2.2.2.2.1) ((fH xr).1.lab.2.2.2.2.2) ((fH xr).1.kids) (fH xr).2.2 ([]:List TS)
theorem Zz {g:ak} (N:Nat) (Dt:EZ N) (zt:E9 N) (zo:EI N) (Dr:EY N) (zu:Ff N) {bF:Nat} {g0:Option Addr} {m0:Nat} (xr:List KT) (K0:bG g (.slice yK) [.slice g0 xr.length m0] xr) (hG0:bP g 0) (K:(List TS)→List KT→Prop)
  (hF:afD N xr K):az prog 99 #[pv bF 0] g [.blk bF (.cells #[.slice g0 xr.length m0] 70)] (fun g' H' v=>∃ (r0:List TS),∃ (kN:List KT),∃ (V0:Option Addr) (Q0:Nat),∃ (u0:Option Addr) (j0:Nat),v=.slice V0 r0.length Q0∧bG g' (.slice yS) [.slice V0 r0.length Q0] r0∧bG g' (.slice yK) [.slice u0 kN.length j0] kN∧H'=[.blk bF (.cells #[.slice u0 kN.length j0] 70)]∧K r0 kN):=by
 refine aP 28 func99 rfl fun w0=>?_
 refine ae (av 1 [(0,pv bF 0)] kr (aa (ae (ag 1 [0] [(3,.slice none 0 0)] ?_))))
 have hL1:aW g yS [] []:=rfl
 refine fO 60 7 (aa (aH (ae (ag 1 [0] [(3,.slice none ([]:List TS).length 0),(7,pv bF 0)] ?_))))
 obtain ⟨hp2,hF⟩:=hF
 refine jB [1,0] ?_
 refine ai (bQ (zt _ xr K0 hG0 hp2) fun g3 _ _ hx3 OI=>?_)
 obtain ⟨V2,Q2,aeJ,aee,rfl,v2,TN,rfl⟩:=OI
 replace hL1:=hL1.mono hx3.1
 replace hG0:=hG0.mono hx3.1
 refine ag 3 [0,3] [(9,.agg #[iv ((fH xr).1.lab.1),sv ((fH xr).1.lab.2.1),.int .u8 ((fH xr).1.lab.2.2.1),sv ((fH xr).1.lab.2.2.2.1),iv ((fH xr).1.lab.2.2.2.2.1),iv ((fH xr).1.lab.2.2.2.2.2),.slice V2 ((fH xr).1.kids).length Q2]),(10,.bool (fH xr).2.1)] ?_
 let C:=(#[iv 0,sv ([]:Bs),.int .u8 0,sv ([]:Bs),iv 0,iv 0,.slice none 0 0]:Array Value)
 refine ai (bK C fun kZ=>?_)
 refine ai (af.w 0 ?_)
 refine ag 1 [0,3] [(4,pv kZ 0),(5,.bool (fH xr).2.1)] ?_
 refine aa (Ok.block ?_)
 obtain ⟨k,hF⟩:=hF
 refine gF (fun k a W=>∃ kC:ak,aY w0 g3 kC∧∃ (f2:Nat) (H1:Bool) (Y0:Int) (o0:Bs) (e0:Int) (b0:Bs) (x0:Int) (s0:Int) (W0:Option Addr) (X0:Nat) (t0:List PH) (b1:Option Addr) (c1:Nat) (y0:List KT) (H0:Option Addr) (M0:Nat) (a0:List TS) (y1:List Value),bG kC (.slice yP) [.slice W0 t0.length X0] t0∧bG kC (.slice yK) [.slice b1 y0.length c1] y0∧aW kC yS y1 a0∧fJ 28 [(0,pv bF 0),(3,.slice H0 a0.length M0),(4,pv f2 0),(5,.bool H1)] a∧dh w0 [.blk f2 (.cells #[iv Y0,sv o0,.int .u8 e0,sv b0,iv x0,iv s0,.slice W0 t0.length X0] 60),.blk bF (.cells #[.slice b1 y0.length c1] 70),.own (.slice H0 a0.length M0) 60 7 a0.length y1] kC W∧zW N K k H1 Y0 o0 e0 b0 x0 s0 t0 y0 a0) k ?_ ?_
 ·
  exact fun _ _ u v=>⟨g3,bq w0 g3,kZ,(fH xr).2.1,(fH xr).1.lab.1,(fH xr).1.lab.2.1,(fH xr).1.lab.2.2.1,(fH xr).1.lab.2.2.2.1,(fH xr).1.lab.2.2.2.2.1,(fH xr).1.lab.2.2.2.2.2,V2,Q2,(fH xr).1.kids,aeJ,aee,(fH xr).2.2,none,0,([]:List TS),[],v2,TN,hL1,fA u v hF⟩
 clear hF
 rintro (_ | k9) _ _ ⟨kC,A2,f2,H1,Y0,o0,e0,b0,x0,s0,W0,X0,t0,b1,c1,y0,H0,M0,a0,y1,E0,L0,U1,q⟩
 exact (q.2.2:False).elim
 refine jn (fun hF=>?_) _ _ q
 replace hG0:=hG0.mono A2.1
 refine aH (ae (ag 1 [0,3,4] [(11,.bool H1)] ?_))
 refine aa (aM hF (fun j4 hF=>?_) (fun j4 hF=>?_))
 ·refine Ok.k (Ok.t (aH (Ok.block (aS (ag 1 [0,4] [(17,.slice H0 a0.length M0)] ?_)))))
  let A:=(#[iv Y0,sv o0,.int .u8 e0,sv b0,iv x0,iv s0,.slice W0 t0.length X0]:Array Value)
  refine ai (af.s (v:=.agg A) (a_ 0 7 A rfl rfl underlying60 rfl kr kr kr) rfl rfl ?_)
  let D:=[iv Y0,sv o0,.int .u8 e0,sv b0,iv x0,iv s0,.slice W0 t0.length X0]
  let E:=(Y0,o0,e0,b0,x0,s0)
  have hL6:aW kC yS (D:List Value) ([gL.mk E t0]:List TS):=(dB (c:=D) (bG.tst.2 ⟨[iv Y0,sv o0,.int .u8 e0,sv b0,iv x0,iv s0],[.slice W0 t0.length X0],rfl,⟨[iv Y0],[sv o0,.int .u8 e0,sv b0,iv x0,iv s0],rfl,rfl,⟨[sv o0],[.int .u8 e0,sv b0,iv x0,iv s0],rfl,rfl,⟨[.int .u8 e0],[sv b0,iv x0,iv s0],rfl,rfl,⟨[sv b0],[iv x0,iv s0],rfl,rfl,⟨[iv x0],[iv s0],rfl,rfl,rfl⟩⟩⟩⟩⟩,E0⟩) rfl)
  refine ai (gG hL6 fun b6=>?_)
  obtain ⟨hb7,hF⟩:=hF
  refine ai (eZ (e:=yS) 88 1599289640401 3 0 rfl rfl rfl rfl U1 hL6 underlying54 kr kr kr hb7 rfl fun a7 c7 xs7 hL7=>?_)
  refine ag 1 [0,4] [(3,.slice a7 (a0++([gL.mk E t0]:List TS)).length c7)] ?_
  refine bY (bJ (Ok.t (aH (ae (ai (af.s (v:=.agg A) (a_ 1 7 A rfl rfl underlying60 rfl kr kr kr) rfl rfl (aa (aS (ai (bK C fun kZ=>?_))))))))))
  refine ai (af.w 0 ?_)
  refine aa (aS (ag 1 [0,3] [(4,pv kZ 0),(13,pv bF 0)] ?_))
  obtain ⟨Tn,hF⟩:=hF
  refine jB [3,0,1,2,4] ?_
  refine ai (bQ (zt _ y0 L0 hG0 Tn) fun g10 _ _ m2 ab9=>?_)
  obtain ⟨E2,F2,Pe,O_,rfl,Mv,HZ,rfl⟩:=ab9
  replace hL7:=hL7.mono m2.1
  refine ag 3 [0,3,4] [(15,.agg #[iv ((fH y0).1.lab.1),sv ((fH y0).1.lab.2.1),.int .u8 ((fH y0).1.lab.2.2.1),sv ((fH y0).1.lab.2.2.2.1),iv ((fH y0).1.lab.2.2.2.2.1),iv ((fH y0).1.lab.2.2.2.2.2),.slice E2 ((fH y0).1.kids).length F2]),(16,.bool (fH y0).2.1)] ?_
  refine ai (af.w 1 ?_)
  refine ag 1 [0,3,4] [(5,.bool (fH y0).2.1)] ?_
  refine bY (Ok.t ?_)
  exact fun a W hA hW=>⟨k9,nl,g10,A2.trans m2,kZ,(fH y0).2.1,(fH y0).1.lab.1,(fH y0).1.lab.2.1,(fH y0).1.lab.2.2.1,(fH y0).1.lab.2.2.2.1,(fH y0).1.lab.2.2.2.2.1,(fH y0).1.lab.2.2.2.2.2,E2,F2,(fH y0).1.kids,Pe,O_,(fH y0).2.2,a7,c7,(a0++([gL.mk E t0]:List TS)),xs7,Mv,HZ,hL7,hA.sub kr,hW.pick [1,0,4] _ dc rfl,hF⟩
 let B:=decide ((a0.length:Int)>0)
 refine fU (aA (aA (aO (Ok.t (ae (ag 4 [3] [(22,pv bF 0),(25,.bool B)] ?_))))))
 refine ai (bM (args:=#[pv bF 0,.bool B]) 8 [(0,pv bF 0),(1,.bool B)] gT func57 rfl rfl rfl rfl (ae (av 2 [(5,.bool (! B))] kr (aa (aM hF (fun G2 hF=>?_) (fun G2 hF=>?_))))))
 ·exact False.elim hF
 refine Ok.k (bu (vs:=[]) (.inr rfl) rfl .nil rfl (aa (ae (av 2 [(2,.slice H0 a0.length M0)] kr (aa (Ok.ret (sM 2 rfl U1 fun g12 g1 aiP=>?_)))))))
 replace L0:=L0.mono g1.1
 exact Pj [1] ((hx3.trans A2).trans g1) ⟨a0,y0,H0,M0,b1,c1,rfl,aiP,L0,rfl,hF⟩
theorem afC (r:Rd):¬ Pw 0 r:=fun ⟨_,_,_,_,_,_,_,_,_,h,_⟩=>absurd h (jQ _)
theorem Sb (t:Ts):gL.mk (t.lab.1,t.lab.2.1,t.lab.2.2.1,t.lab.2.2.2.1,t.lab.2.2.2.2.1,t.lab.2.2.2.2.2) t.kids=t:=by obtain ⟨x,l⟩:=t; rfl
theorem Jd (N:Nat) (K:List Ts→Rd→Prop):∀ (s:List Ts) (t:Ts) (k0:Int) (b:List Tok) (rest:Rd) (acc:List Ts),ok1 s k0=true→KP s b→Va rest=true→8 * b.length+1<N→qG (b++rest)→acc.length+b.length≤1000→K (acc++t::s) rest→zW N K (s.length+2) true t.lab.1 t.lab.2.1 t.lab.2.2.1 t.lab.2.2.2.1 t.lab.2.2.2.2.1 t.lab.2.2.2.2.2 t.kids (b++rest) acc
 | [],t,k0,b,rest,acc,ho,hb,hr,hN,hB,hl,hK=>by
  rw [KP] at hb; subst hb
  have e:fH rest=(Yt,false,rest):=LB hr _
  have hP:LD N rest:=.inr ⟨hr,om⟩
  have hl:acc.length≤1000:=by simpa using hl
  rw [jS,zW]
  unfold FT
  rw [Sb,e]
  refine ⟨fun _=>⟨by rw [bC,mM]; omega,hP,?_⟩,fun h=>(by cases h)⟩
  show zW N K 1 false _ _ _ _ _ _ _ rest _
  rw [zW]
  unfold FT
  exact ⟨fun h=>(by cases h),fun _=>⟨fun h=>absurd h (by simp),fun _=>hK⟩⟩
 | t'::s,t,k0,b,rest,acc,ho,hb,hr,hN,hB,hl,hK=>by
  rw [ok1,aG] at ho
  rw [KP] at hb
  obtain ⟨a,c,ha,hc,rfl⟩:=hb
  have hla:1≤a.length:=(zf t' _ ho.1 a ha).1
  rw [bC] at hl hN
  rw [dL] at hB ⊢
  have e:=LC ho.1 ha (c++rest)
  have hP:LD N (a++(c++rest)):=.inl ⟨t',_,a,c++rest,ho.1,ha,rfl,om,hB⟩
  have ih:=Jd N K s t' _ c rest (acc++[t]) ho.2 hc hr om hB.app (by rw [bC,mM]; omega) (by rw [dL]; exact hK)
  rw [cK,zW]
  unfold FT
  rw [Sb,e]
  exact ⟨fun _=>⟨by rw [bC,mM]; omega,hP,ih⟩,fun h=>(by cases h)⟩
theorem afB (N:Nat) (r:Rd) (h:Pw (N+1) r):afD N r (fun a b=>(a,b)=mR r):=by
 obtain ⟨s,k,ts,rest,hne,ho,hts,hr,rfl,hN,hB⟩:=h
 rw [K_ ho hts hr]
 match s,hne with
 | t::s,_ =>
  rw [ok1,aG] at ho
  rw [KP] at hts
  obtain ⟨a,b,ha,hb,rfl⟩:=hts
  rw [bC] at hN
  rw [dL] at hB ⊢
  have e:=LC ho.1 ha (b++rest)
  have hl:b.length≤1000:=by have:=hB.app.1; rw [bC] at this; omega
  refine ⟨.inl ⟨t,_,a,b++rest,ho.1,ha,rfl,om,hB⟩,s.length+2,?_⟩
  rw [e]
  exact Jd N _ s t _ b rest [] ho.2 hb hr om hB.app (by simpa using hl) rfl
def qV (z0:List KT):Bool :=
 (((ah (bD z0).2).1.2.1==([62]:Bs))||(((ah (bD z0).2).1.2.1==([43]:Bs))||((ah (bD z0).2).1.2.1==([126]:Bs))))
def sU (z0:List KT):Bool :=
 ((bD z0).1&&(((ah (bD z0).2).1.1 != 0)&&((!((ah (bD z0).2).1.2.1==([44]:Bs)))&&(!((ah (bD z0).2).1.2.1==([41]:Bs))))))
def l7 (z0:List KT):List KT :=
 (if (qV z0)=true then (bD ((ah (ah (bD z0).2).2).2.drop (Int.toNat 1))).2 else (ah (bD z0).2).2)
def lD (v0:List Int) (z0:List KT):List Int :=
 (if (qV z0)=true then (v0++([(((ah (bD z0).2).1.2.1.getD (Int.toNat 0) 0).toNat:Int)]:List Int)) else (v0++([32]:List Int)))
def wP (N:Nat) (v0:List Int) (q0:List (List TS)) (z0:List KT) (C6:(List Int)→List (List TS)→List KT→Prop):Prop :=
 Pw N (l7 z0)∧(q0++([(mR (l7 z0)).1]:List (List TS))).length≤5864062014805∧C6 (lD v0 z0) (q0++([(mR (l7 z0)).1]:List (List TS))) (mR (l7 z0)).2
def qp (N:Nat) (K:(PH)→List KT→Prop) (v0:List Int) (q0:List (List TS)) (z0:List KT) (C6:(List Int)→List (List TS)→List KT→Prop):Prop :=
 (sU z0=true→(v0++([32]:List Int)).length≤140737488355328∧wP N v0 q0 z0 C6)∧(sU z0=false→K (q0,v0) (ah (bD z0).2).2)
def rO (N:Nat) (K:(PH)→List KT→Prop) (v0:List Int) (q0:List (List TS)) (z0:List KT) (C6:(List Int)→List (List TS)→List KT→Prop):Prop :=
 (qV z0=true→(((ah (ah (bD z0).2).2).1.1==0)=true→False)∧(((ah (ah (bD z0).2).2).1.1==0)=false→(0:Int)≤1∧(1:Int)≤((ah (ah (bD z0).2).2).2.length:Int)∧((ah (ah (bD z0).2).2).2.length:Int)≤((ah (ah (bD z0).2).2).2.length:Int)∧(0:Int)≤0∧Int.toNat 0<(ah (bD z0).2).1.2.1.length∧(v0++([(((ah (bD z0).2).1.2.1.getD (Int.toNat 0) 0).toNat:Int)]:List Int)).length≤140737488355328∧wP N v0 q0 z0 C6))∧(qV z0=false→((bD z0).1=true→(((ah (bD z0).2).1.1 != 0)=true→((!((ah (bD z0).2).1.2.1==([44]:Bs)))=true→qp N K v0 q0 z0 C6)∧((!((ah (bD z0).2).1.2.1==([44]:Bs)))=false→qp N K v0 q0 z0 C6))∧(((ah (bD z0).2).1.1 != 0)=false→qp N K v0 q0 z0 C6))∧((bD z0).1=false→qp N K v0 q0 z0 C6))
def qo (N:Nat) (K:(PH)→List KT→Prop) (v0:List Int) (q0:List (List TS)) (z0:List KT) (C6:(List Int)→List (List TS)→List KT→Prop):Prop :=
 (((ah (bD z0).2).1.2.1==([62]:Bs))=true→rO N K v0 q0 z0 C6)∧(((ah (bD z0).2).1.2.1==([62]:Bs))=false→(((ah (bD z0).2).1.2.1==([43]:Bs))=true→rO N K v0 q0 z0 C6)∧(((ah (bD z0).2).1.2.1==([43]:Bs))=false→rO N K v0 q0 z0 C6))
def pX (N:Nat) (K:(PH)→List KT→Prop):Nat→List Int→List (List TS)→List KT→Prop
 | 0,_,_,_=>False
 | k+1,v0,q0,z0=>qo N K v0 q0 z0 (pX N K k)
def agG (N:Nat) (xr:List KT) (K:(PH)→List KT→Prop):Prop :=
 Pw N xr∧∃ k,pX N K k ([]:List Int) ([(mR xr).1]:List (List TS)) (mR xr).2
theorem aap {g:ak} (N:Nat) (Dt:EZ N) (zt:E9 N) (zo:EI N) (Dr:EY N) (zu:Ff N) {bF:Nat} {g0:Option Addr} {m0:Nat} (xr:List KT) (K0:bG g (.slice yK) [.slice g0 xr.length m0] xr) (hG0:bP g 0) (K:(PH)→List KT→Prop)
  (hF:agG N xr K):az prog 55 #[pv bF 0] g [.blk bF (.cells #[.slice g0 xr.length m0] 70)] (fun g' H' v=>∃ (r0:PH),∃ (kN:List KT),∃ (V0:Option Addr) (Q0:Nat),∃ (d1:Option Addr) (e1:Nat),∃ (u0:Option Addr) (j0:Nat),v=.agg #[.slice V0 r0.1.length Q0,.slice d1 r0.2.length e1]∧bG g' (.slice (.slice yS)) [.slice V0 r0.1.length Q0] r0.1∧bG g' (.slice yb) [.slice d1 r0.2.length e1] r0.2∧bG g' (.slice yK) [.slice u0 kN.length j0] kN∧H'=[.blk bF (.cells #[.slice u0 kN.length j0] 70)]∧K r0 kN):=by
 refine aP 70 func55 rfl fun w0=>?_
 refine aH (aS ?_)
 have hL1:aW g (.slice yS) [] []:=rfl
 refine fO 54 1 ?_
 have hL2:aW g yb [] []:=rfl
 refine fO 5 1 (ai (bK zP fun eO=>?_))
 refine aa (ae (av 1 [(0,pv bF 0),(2,pv eO 0),(6,pv bF 0)] kr ?_))
 obtain ⟨Tp,hF⟩:=hF
 refine jB [3,0,1,2] ?_
 refine ai (bQ (zo _ xr K0 hG0 Tp) fun g5 _ _ hx5 hV5=>?_)
 obtain ⟨I2,z3,aks,ajN,rfl,Km,YT,rfl⟩:=hV5
 replace hG0:=hG0.mono hx5.1
 have hL6:aW g5 (.slice yS) ([.slice I2 (mR xr).1.length z3]:List Value) ([(mR xr).1]:List (List TS)):=(dB (c:=[.slice I2 (mR xr).1.length z3]) Km rfl)
 refine ai (gG hL6 fun b6=>?_)
 refine ag 1 [0,2] [(9,.agg #[.slice (some ⟨b6,0,none⟩) ([(mR xr).1]:List (List TS)).length 1,.slice none 0 0])] ?_
 have hL7:aW g5 (.slice yS) [] []:=rfl
 refine fO 54 1 ?_
 have YV:aW g5 yb [] []:=rfl
 refine fO 5 1 (ai (bK zP fun dK=>?_))
 have acN:aW g5 yb [] []:=rfl
 refine fO 5 1 (ai (af.w 1 ?_))
 refine aa (Ok.block ?_)
 obtain ⟨k,hF⟩:=hF
 refine gF (fun k a W=>∃ QG:ak,aY w0 g5 QG∧∃ (U0:Option Addr) (J0:Nat) (v0:List Int) (F0:List Value) (i0:Option Addr) (Z0:Nat) (q0:List (List TS)) (S0:List Value) (N0:Option Addr) (O0:Nat) (z0:List KT),aW QG yb F0 v0∧aW QG (.slice yS) S0 q0∧bG QG (.slice yK) [.slice N0 z0.length O0] z0∧fJ 70 [(0,pv bF 0),(2,pv eO 0),(3,pv dK 0)] a∧dh w0 [.own (.slice U0 v0.length J0) 5 1 v0.length F0,.blk dK (.cells #[.slice i0 q0.length Z0,.slice U0 v0.length J0] 28),.own (.slice i0 q0.length Z0) 54 1 q0.length S0,.blk bF (.cells #[.slice N0 z0.length O0] 70),.blk eO (.cells zP 28),.own (.slice none ([]:List Int).length 0) 5 1 ([]:List Int).length ([]),.own (.slice none ([]:List (List TS)).length 0) 54 1 ([]:List (List TS)).length ([])] QG W∧pX N K k v0 q0 z0) k ?_ ?_
 ·
  exact fun _ _ u v=>⟨g5,bq w0 g5,none,0,([]:List Int),[],(some ⟨b6,0,none⟩),1,([(mR xr).1]:List (List TS)),([.slice I2 (mR xr).1.length z3]:List Value),aks,ajN,(mR xr).2,acN,hL6,YT,fA u v hF⟩
 clear hF
 rintro (_ | k6) _ _ ⟨QG,M1,U0,J0,v0,F0,i0,Z0,q0,S0,N0,O0,z0,d0,f0,m1,q⟩
 exact (q.2.2:False).elim
 refine jn (fun hF=>?_) _ _ q
 replace hG0:=hG0.mono M1.1
 refine Ok.block (ae (ag 1 [0,2,3] [(10,pv bF 0)] ?_))
 refine jB [3,0,1,2,4,5,6] ?_
 refine ai (bQ (OL z0 m1) fun g11 _ _ W1 aoj=>?_)
 obtain ⟨asE,ar9,rfl,acE,rfl⟩:=aoj
 replace d0:=d0.mono W1.1
 replace f0:=f0.mono W1.1
 replace hG0:=hG0.mono W1.1
 refine ag 1 [0,2,3] [(4,.bool (bD z0).1)] ?_
 refine aa (ae (ag 1 [0,2,3,4] [(12,pv bF 0)] ?_))
 refine ai (bQ (mY (bD z0).2 acE) fun g12 _ _ g1 R2=>?_)
 obtain ⟨Z1,V1,rfl,G0,rfl⟩:=R2
 replace d0:=d0.mono g1.1
 replace f0:=f0.mono g1.1
 replace hG0:=hG0.mono g1.1
 refine ai (bK zK fun iD=>?_)
 refine ai (af.w 0 ?_)
 refine aa (Ok.cut (fun a W=>∃ n2:ak,aY w0 g12 n2∧∃ (n1:Option Addr) (o1:Nat) (B0:Option Addr) (C0:Nat) (D0:List Value),bG n2 (.slice yK) [.slice n1 (l7 z0).length o1] (l7 z0)∧aW n2 yb D0 (lD v0 z0)∧fJ 70 [(0,pv bF 0),(2,pv eO 0),(3,pv dK 0)] a∧dh w0 [.blk bF (.cells #[.slice n1 (l7 z0).length o1] 70),.own (.slice B0 (lD v0 z0).length C0) 5 1 (lD v0 z0).length D0,.blk dK (.cells #[.slice i0 q0.length Z0,.slice B0 (lD v0 z0).length C0] 28),.own (.slice i0 q0.length Z0) 54 1 q0.length S0,.blk eO (.cells zP 28),.own (.slice none ([]:List Int).length 0) 5 1 ([]:List Int).length ([]),.own (.slice none ([]:List (List TS)).length 0) 54 1 ([]:List (List TS)).length ([])] n2 W∧wP N v0 q0 z0 (pX N K k6)) ?_ ?_)
 ·
  refine Ok.block (iO g12 [(0,pv bF 0),(2,pv eO 0),(3,pv dK 0),(4,.bool (bD z0).1),(5,pv iD 0),(15,.bool (qV z0))] [.blk iD (.cells (aK (ah (bD z0).2).1) 98),.blk bF (.cells #[.slice Z1 (ah (bD z0).2).2.length V1] 70),.own (.slice U0 v0.length J0) 5 1 v0.length F0,.blk dK (.cells #[.slice i0 q0.length Z0,.slice U0 v0.length J0] 28),.own (.slice i0 q0.length Z0) 54 1 q0.length S0,.blk eO (.cells zP 28),.own (.slice none ([]:List Int).length 0) 5 1 ([]:List Int).length ([]),.own (.slice none ([]:List (List TS)).length 0) 54 1 ([]:List (List TS)).length ([])] (rO N K v0 q0 z0 (pX N K k6)) ?_ (fun N1 Q1 hF=>?_))
  ·
   refine aS (aj 4 [.e 0] [0,2,3,4] [(5,pv iD 0),(19,.bool ((ah (bD z0).2).1.2.1==([62]:Bs)))] ?_)
   refine bN 19 hF (fun K2 hF=>?_) (fun K2 hF=>?_)
   ·refine ag 10 [0,2,3,4,5] [(15,.bool true)] ?_
    refine aa (aB 15 (qV z0) (df K2) ?_)
    exact fg hF
   refine aj 5 [.e 0] [0,2,3,4,5] [(24,.bool ((ah (bD z0).2).1.2.1==([43]:Bs)))] ?_
   refine bN 24 hF (fun c2 hF=>?_) (fun c2 hF=>?_)
   ·refine ag 5 [0,2,3,4,5] [(15,.bool true)] ?_
    refine aa (aB 15 (qV z0) (au (df c2) (bR K2)) ?_)
    exact fg hF
   refine aj 5 [.e 0] [0,2,3,4,5] [(15,.bool ((ah (bD z0).2).1.2.1==([126]:Bs)))] ?_
   refine aa (aB 15 (qV z0) (au (bR c2) (bR K2)) ?_)
   exact fg hF
  replace G0:=G0.mono Q1.1
  replace d0:=d0.mono Q1.1
  replace f0:=f0.mono Q1.1
  replace hG0:=hG0.mono Q1.1
  refine aM hF (fun f1 hF=>?_) (fun f1 hF=>?_)
  ·refine ae (ag 1 [0,2,3,5] [(29,pv bF 0)] ?_)
   refine ai (bM (args:=#[pv bF 0]) 20 [(0,pv bF 0)] gT func100 rfl rfl rfl rfl (ae (ai (bK zK fun E1=>?_))))
   refine aa (ae (ag 1 [0] [(2,pv E1 0),(4,pv bF 0)] ?_))
   refine jB [2,0,1,3,4,5,6,7,8] ?_
   refine ai (bQ (mY (ah (bD z0).2).2 G0) fun g20 _ _ D1 P2=>?_)
   obtain ⟨j2,x2,rfl,R1,rfl⟩:=P2
   replace d0:=d0.mono D1.1
   replace f0:=f0.mono D1.1
   replace hG0:=hG0.mono D1.1
   refine ai (bK zK fun G1=>?_)
   refine ai (af.w 0 ?_)
   refine aa (aH (ae (aj 3 [.e 0] [0,2] [(3,pv G1 0),(8,.bool ((pp (bD z0).2).1.1==0))] ?_)))
   refine aa (aM hF (fun T2 hF=>?_) (fun T2 hF=>?_))
   ·exact False.elim hF
   refine Ok.k (Ok.t (ae (ag 4 [2,3] [(11,pv bF 0),(14,pv bF 0)] ?_)))
   refine ai (af.s (v:=.slice j2 (pp (bD z0).2).2.length x2) (aR 1 rfl rfl underlying67 rfl kr) rfl rfl ?_)
   obtain ⟨MI,Ib,acU,hF⟩:=hF
   refine ai (af.ji (e:=yK) (l:=1) (h:=((pp (bD z0).2).2.length:Int)) rfl underlying67 kr (.inl ⟨_,_,rfl,rfl⟩) (.inr ⟨rfl,rfl⟩) R1 MI Ib acU rfl ((pp (bD z0).2).2.drop (Int.toNat 1)) (by rw [show ((pp (bD z0).2).2.length:Int).toNat=(pp (bD z0).2).2.length from eB _,iV]) fun a23 c23 aoD=>?_)
   refine ag 2 [2,3] [(16,.slice a23 ((pp (bD z0).2).2.drop (Int.toNat 1)).length c23),(18,pv bF 0)] ?_
   refine ai (dz 1 ?_)
   refine aa (ae (ai (af.s (v:=.agg (aK (pp (bD z0).2).1)) (a_ 0 4 (aK (pp (bD z0).2).1) rfl rfl underlying98 rfl kr kr kr) rfl rfl (ai (af.w 2 ?_)))))
   refine aa (Ok.ret (bu (vs:=[.agg (aK (pp (bD z0).2).1)]) (.inl rfl) rfl (.cons (.iK 2 4 (aK (pp (bD z0).2).1) rfl rfl underlying98 rfl kr kr kr) .nil) rfl (aa (ae (av 1 [(0,pv bF 0),(2,pv eO 0),(3,pv dK 0),(5,pv iD 0),(31,pv bF 0)] kr (jB [1,0,2,3,4,5,6,7,8,9] ?_))))))
   refine ai (bQ (OL ((pp (bD z0).2).2.drop (Int.toNat 1)) aoD) fun g24 _ _ F1 L2=>?_)
   obtain ⟨B1,C1,rfl,T1,rfl⟩:=L2
   replace d0:=d0.mono F1.1
   replace f0:=f0.mono F1.1
   replace hG0:=hG0.mono F1.1
   refine aa (wz [0,1,3,4] [5] [1,1,1,1,0,0,1,1,1,1] [(0,true),(1,true),(2,true),(3,true),(4,true),(5,false),(6,false),(7,true),(8,false)] ?_)
   refine iI 1 [0,2,3,5] [(33,pv dK 1)] ?_
   refine eF.hd (fM.s (v:=.slice U0 v0.length J0) (aR 5 rfl rfl underlying26 rfl kr) rfl rfl ?_)
   refine iI 1 [0,2,3] [(34,.slice U0 v0.length J0),(35,pv iD 1)] ?_
   refine eF.hd (fM.s (v:=sv ((ah (bD z0).2).1.2.1)) (aR 3 rfl rfl underlying9 rfl kr) rfl rfl ?_)
   obtain ⟨DD,Ia,hF⟩:=hF
   have Y3:=aV (l:=(ah (bD z0).2).1.2.1) (0:UInt8) Ia
   generalize abJ:((ah (bD z0).2).1.2.1.getD (Int.toNat 0) 0)=e25 at Y3 hF ⊢
   refine eF.hd (fM.s (v:=.int .u8 (e25.toNat:Int)) (dO (k:=.i64) (i:=0) (s:=(ah (bD z0).2).1.2.1) (b:=e25) kr kr underlying9 DD Y3) rfl rfl ?_)
   have U3:aW g24 yb ([.int .u8 (e25.toNat:Int)]:List Value) ([(e25.toNat:Int)]:List Int):=(dB (c:=[.int .u8 (e25.toNat:Int)]) rfl rfl)
   refine eF.t rfl rfl (gG U3 fun b26=>?_)
   refine g_ (lC.refl _) ?_
   obtain ⟨anO,hF⟩:=hF
   refine eF.t rfl rfl (eZ (e:=.int .u8) 1 140737488355328 5 0 rfl rfl rfl rfl d0 U3 underlying26 kr kr kr anO rfl fun a27 XU Y2 aoZ=>?_)
   refine g_ (lC.refl _) (iI 1 [0,2,3] [(39,.slice a27 (v0++([(e25.toNat:Int)]:List Int)).length XU),(40,pv dK 1)] ?_)
   refine eF.t rfl rfl (dz 6 ?_)
   refine g_ (lC.refl _) (eF.nil (bJ (Ok.t ?_)))
   subst abJ
   refine nA (H':=[.own (.slice (some ⟨b26,0,none⟩) ([(((ah (bD z0).2).1.2.1.getD (Int.toNat 0) 0).toNat:Int)]:List Int).length 1) 5 1 ([(((ah (bD z0).2).1.2.1.getD (Int.toNat 0) 0).toNat:Int)]:List Int).length ([.int .u8 (((ah (bD z0).2).1.2.1.getD (Int.toNat 0) 0).toNat:Int)]:List Value),.blk bF (.cells #[.slice B1 (l7 z0).length C1] 70),.blk G1 (.cells (aK (pp (bD z0).2).1) 98),.blk E1 (.cells (aK (pp (bD z0).2).1) 98),.blk iD (.cells (aK (ah (bD z0).2).1) 98),.own (.slice a27 (lD v0 z0).length XU) 5 1 (lD v0 z0).length Y2,.blk dK (.cells #[.slice i0 q0.length Z0,.slice a27 (lD v0 z0).length XU] 28),.own (.slice i0 q0.length Z0) 54 1 q0.length S0,.blk eO (.cells zP 28),.own (.slice none ([]:List Int).length 0) 5 1 ([]:List Int).length ([]),.own (.slice none ([]:List (List TS)).length 0) 54 1 ([]:List (List TS)).length ([])]) (ib (rfl) (ib (ay (fun l:List Value=>b_.blk bF (.cells ⟨l⟩ 70)) (iw (ay (fun l:List KT=>Value.slice B1 l.length C1) ((aT f1).symm)) rfl)) (ib (rfl) (ib (rfl) (ib (rfl) (ib (ay (fun l:List Int=>b_.own (.slice a27 l.length XU) 5 1 l.length Y2) ((aT f1).symm)) (ib (ay (fun l:List Value=>b_.blk dK (.cells ⟨l⟩ 28)) (iw (rfl) (iw (ay (fun l:List Int=>Value.slice a27 l.length XU) ((aT f1).symm)) rfl))) (ib (rfl) (ib (rfl) (ib (rfl) (ib (rfl) rfl))))))))))) ?_
   exact fun _ _ u v=>⟨g24,((Q1.trans D1).trans F1),B1,C1,a27,XU,Y2,(Eq.mp (ay (fun l:List KT=>bG g24 (.slice yK) [.slice B1 l.length C1] l) ((aT f1).symm)) T1),(Eq.mp (ay (fun l:List Int=>aW g24 yb Y2 l) ((aT f1).symm)) aoZ),fA u v hF⟩
  refine iO N1 [(0,pv bF 0),(2,pv eO 0),(3,pv dK 0),(41,.bool (sU z0))] [.blk bF (.cells #[.slice Z1 (ah (bD z0).2).2.length V1] 70),.own (.slice U0 v0.length J0) 5 1 v0.length F0,.blk dK (.cells #[.slice i0 q0.length Z0,.slice U0 v0.length J0] 28),.own (.slice i0 q0.length Z0) 54 1 q0.length S0,.blk eO (.cells zP 28),.own (.slice none ([]:List Int).length 0) 5 1 ([]:List Int).length ([]),.own (.slice none ([]:List (List TS)).length 0) 54 1 ([]:List (List TS)).length ([])] (qp N K v0 q0 z0 (pX N K k6)) ?_ (fun U2 J1 hF=>?_)
  ·
   refine aS (ag 2 [0,2,3,5] [(43,.bool (bD z0).1)] ?_)
   refine bN 43 hF (fun L1 hF=>?_) (fun L1 hF=>?_)
   ·refine aj 5 [.e 0] [0,2,3,5] [(48,.bool ((ah (bD z0).2).1.1 != 0))] ?_
    refine bN 48 hF (fun J2 hF=>?_) (fun J2 hF=>?_)
    ·refine aj 5 [.e 0] [0,2,3,5] [(53,.bool (!((ah (bD z0).2).1.2.1==([44]:Bs))))] ?_
     refine bN 53 hF (fun v3 hF=>?_) (fun v3 hF=>?_)
     ·refine aj 5 [.e 0] [0,2,3] [(41,.bool (!((ah (bD z0).2).1.2.1==([41]:Bs))))] ?_
      refine aa (aB 41 (sU z0) (au (au (aZ v3) (aZ J2)) (aZ L1)) ?_)
      exact fg hF
     refine ag 5 [0,2,3] [(41,.bool false)] ?_
     refine aa (aB 41 (sU z0) (au (au (bW v3) (aZ J2)) (aZ L1)) ?_)
     exact fg hF
    refine ag 10 [0,2,3] [(41,.bool false)] ?_
    refine aa (aB 41 (sU z0) (au (bW J2) (aZ L1)) ?_)
    exact fg hF
   refine ag 15 [0,2,3] [(41,.bool false)] ?_
   refine aa (aB 41 (sU z0) (bW L1) ?_)
   exact fg hF
  replace G0:=G0.mono J1.1
  replace d0:=d0.mono J1.1
  replace f0:=f0.mono J1.1
  replace hG0:=hG0.mono J1.1
  refine aM hF (fun k2 hF=>?_) (fun k2 hF=>?_)
  ·refine aS (ag 1 [0,2,3] [(58,pv dK 1)] ?_)
   refine ai (af.s (v:=.slice U0 v0.length J0) (aR 2 rfl rfl underlying26 rfl kr) rfl rfl ?_)
   have J3:aW U2 yb ([.int .u8 32]:List Value) ([32]:List Int):=(dB (c:=[.int .u8 32]) rfl rfl)
   refine ai (gG J3 fun b29=>?_)
   obtain ⟨anL,hF⟩:=hF
   refine ai (eZ (e:=.int .u8) 1 140737488355328 2 0 rfl rfl rfl rfl d0 J3 underlying26 kr kr kr anL rfl fun a30 QH W2 acH=>?_)
   refine ag 1 [0,2,3] [(61,.slice a30 (v0++([32]:List Int)).length QH),(62,pv dK 1)] ?_
   refine ai (dz 3 ?_)
   refine bY (bJ (Ok.t (nA (H':=[.own (.slice (some ⟨b29,0,none⟩) ([32]:List Int).length 1) 5 1 ([32]:List Int).length ([.int .u8 32]:List Value),.blk bF (.cells #[.slice Z1 (l7 z0).length V1] 70),.own (.slice a30 (lD v0 z0).length QH) 5 1 (lD v0 z0).length W2,.blk dK (.cells #[.slice i0 q0.length Z0,.slice a30 (lD v0 z0).length QH] 28),.own (.slice i0 q0.length Z0) 54 1 q0.length S0,.blk eO (.cells zP 28),.own (.slice none ([]:List Int).length 0) 5 1 ([]:List Int).length ([]),.own (.slice none ([]:List (List TS)).length 0) 54 1 ([]:List (List TS)).length ([])]) (ib (rfl) (ib (ay (fun l:List Value=>b_.blk bF (.cells ⟨l⟩ 70)) (iw (ay (fun l:List KT=>Value.slice Z1 l.length V1) ((aF f1).symm)) rfl)) (ib (ay (fun l:List Int=>b_.own (.slice a30 l.length QH) 5 1 l.length W2) ((aF f1).symm)) (ib (ay (fun l:List Value=>b_.blk dK (.cells ⟨l⟩ 28)) (iw (rfl) (iw (ay (fun l:List Int=>Value.slice a30 l.length QH) ((aF f1).symm)) rfl))) (ib (rfl) (ib (rfl) (ib (rfl) (ib (rfl) rfl)))))))) ?_)))
   exact fun _ _ u v=>⟨U2,Q1.trans J1,Z1,V1,a30,QH,W2,(Eq.mp (ay (fun l:List KT=>bG U2 (.slice yK) [.slice Z1 l.length V1] l) ((aF f1).symm)) G0),(Eq.mp (ay (fun l:List Int=>aW U2 yb W2 l) ((aF f1).symm)) acH),fA u v hF⟩
  refine ae (ai (af.s (v:=.agg #[.slice i0 q0.length Z0,.slice U0 v0.length J0]) (a_ 2 2 #[.slice i0 q0.length Z0,.slice U0 v0.length J0] rfl rfl underlying28 rfl kr kr kr) rfl rfl (ai (af.w 4 ?_))))
  refine aa (Ok.ret (aU (aC (aU (aC (aU (sM 3 rfl f0 fun g31 I1 o2=>?_)))))))
  replace d0:=d0.mono I1.1
  replace G0:=G0.mono I1.1
  replace hG0:=hG0.mono I1.1
  refine sM 1 rfl d0 fun g32 z2 aiO=>?_
  replace o2:=o2.mono z2.1
  replace G0:=G0.mono z2.1
  replace hG0:=hG0.mono z2.1
  exact jc 2 [0] (((((((hx5.trans M1).trans W1).trans g1).trans Q1).trans J1).trans I1).trans z2) ⟨(q0,v0),(ah (bD z0).2).2,i0,Z0,U0,J0,Z1,V1,rfl,o2,aiO,G0,rfl,hF⟩
 clear hF
 rintro _ _ ⟨n2,O1,n1,o1,B0,C0,D0,Kl,T0,q⟩
 refine jn (fun hF=>?_) _ _ q
 replace f0:=f0.mono O1.1
 replace hG0:=hG0.mono O1.1
 refine Yc [0,1,2] [3,4] [.own (.slice B0 (lD v0 z0).length C0) 5 1 (lD v0 z0).length D0,.blk dK (.cells #[.slice i0 q0.length Z0,.slice B0 (lD v0 z0).length C0] 28),.own (.slice i0 q0.length Z0) 54 1 q0.length S0,.blk eO (.cells zP 28),.own (.slice none ([]:List Int).length 0) 5 1 ([]:List Int).length ([]),.own (.slice none ([]:List (List TS)).length 0) 54 1 ([]:List (List TS)).length ([])] [.own (.slice B0 (lD v0 z0).length C0) 5 1 (lD v0 z0).length D0,.blk eO (.cells zP 28),.own (.slice none ([]:List Int).length 0) 5 1 ([]:List Int).length ([]),.own (.slice none ([]:List (List TS)).length 0) 54 1 ([]:List (List TS)).length ([])] [(0,true),(1,true),(2,true),(3,false),(4,false),(5,false),(6,true),(7,false)] kr kr (.cons_cons _ (.cons _ (.cons _ (.cons_cons _ (.cons_cons _ (.cons_cons _ .slnil)))))) (.cons _ (.cons_cons _ (.cons_cons _ (.cons_cons _ (.cons_cons _ (.cons_cons _ (.cons_cons _ .slnil))))))) (Pf 1 [(0,pv bF 0),(2,pv eO 0),(3,pv dK 0),(63,pv dK 0)] kr (eF.hd (fM.s (v:=.slice i0 q0.length Z0) (aR 1 rfl rfl underlying25 rfl kr) rfl rfl ?_)))
 refine iI 1 [0,2,3] [(64,.slice i0 q0.length Z0),(65,pv bF 0)] ?_
 obtain ⟨k3,hF⟩:=hF
 refine eF.t rfl rfl (bQ (zo _ (l7 z0) Kl hG0 k3) fun g15 _ _ t1 y3=>?_)
 obtain ⟨X1,S1,akO,aka,rfl,A1,acC,rfl⟩:=y3
 replace f0:=f0.mono t1.1
 replace T0:=T0.mono t1.1
 refine g_ t1.1 ?_
 have W3:aW g15 (.slice yS) ([.slice X1 (mR (l7 z0)).1.length S1]:List Value) ([(mR (l7 z0)).1]:List (List TS)):=(dB (c:=[.slice X1 (mR (l7 z0)).1.length S1]) A1 rfl)
 refine eF.t rfl rfl (gG W3 fun b16=>?_)
 refine g_ t1.1 ?_
 obtain ⟨anR,hF⟩:=hF
 refine eF.t rfl rfl (eZ (e:=.slice yS) 24 5864062014805 4 0 rfl rfl rfl rfl f0 W3 underlying25 kr kr kr anR rfl fun a17 c17 alz ao5=>?_)
 refine g_ t1.1 (iI 1 [0,2,3] [(68,.slice a17 (q0++([(mR (l7 z0)).1]:List (List TS))).length c17),(69,pv dK 0)] ?_)
 refine eF.t rfl rfl (dz 3 ?_)
 refine g_ t1.1 (eF.nil (bJ (Ok.t ?_)))
 exact fun a W hA hW=>⟨k6,nl,g15,((((M1.trans W1).trans g1).trans O1).trans t1),B0,C0,lD v0 z0,D0,a17,c17,(q0++([(mR (l7 z0)).1]:List (List TS))),alz,akO,aka,(mR (l7 z0)).2,T0,ao5,acC,hA.sub kr,hW.pick [2,3,4,1,5,6,7] _ dc rfl,hF⟩
theorem agF (r:Rd):¬ PK 0 r:=fun ⟨_,_,_,_,_,_,_,_,_,_,_,h,_⟩=>absurd h (jQ _)
theorem Jz (N:Nat) (K:Ph→Rd→Prop):∀ (p:List (List Ts)) (js:List Int) (ts:List Tok) (rest:Rd) (S:List (List Ts)) (J:List Int),t_ p=true→(∀ z ∈ js,zn z=true)→p.length=js.length→K6 p js ts→wY rest=true→8 * ts.length+4<N→qG (ts++rest)→S.length+ts.length≤1001→J.length+ts.length≤1001→K (S++p,J++js) rest→pX N K (p.length+1) J S (ts++rest)
 | [],[],ts,rest,S,J,ho,hj,hl,h,hr,hN,hB,hS,hJ,hK=>by
  rw [K6] at h; subst h
  rw [gK,gK] at hK
  rw [jS,pX]
  have hg:=yx hr
  rcases vC hr with rfl | ⟨q,rfl | rfl⟩
  all_goals simp [qo,rO,qp,qV,sU,hg,ah,hK]
 | s::p,z::js,ts,rest,S,J,ho,hj,hl,h,hr,hN,hB,hS,hJ,hK=>by
  rw [t_,aG,aG] at ho
  obtain ⟨ho1,ho2,ho3⟩:=ho
  have hne:s≠[]:=fun e=>by rw [e] at ho2; cases ho2
  rw [K6] at h
  obtain ⟨a,b,ha,hb,rfl⟩:=h
  have hb:K6 p js b:=hb
  obtain ⟨x,q,hxa,hx⟩:=BX hne ho1 ha
  have hjl:1≤(He z).length:=by unfold He; split <;> simp
  have hN:8 * (He z++(a++b)).length+4<N:=hN
  have hB:qG ((He z++(a++b))++rest):=hB
  have hS:S.length+(He z++(a++b)).length≤1001:=hS
  have hJ:J.length+(He z++(a++b)).length≤1001:=hJ
  simp only [bC] at hN hS hJ
  have hB1:qG (a++(b++rest)):=by
   rw [dL,dL] at hB
   exact hB.app
  have hs:=K_ ho1 ha (yY hb hr)
  have hP:Pw N (a++(b++rest)):=⟨s,_,a,b++rest,hne,ho1,ha,yY hb hr,rfl,om,hB1⟩
  have ih:=Jz N K p js b rest (S++[s]) (J++[z]) ho3 (fun y hy=>hj y (dS _ hy)) (by simpa using hl) hb hr om hB1.app (by rw [bC,mM]; omega) (by rw [bC,mM]; omega) (by rw [dL,dL]; exact hK)
  have e:(He z++(a++b))++rest=He z++(x::(q++(b++rest))):=by rw [hxa]; simp
  have e2:a++(b++rest)=x::(q++(b++rest)):=by rw [hxa]; simp
  rw [e2] at hs hP
  have hLs:(S++[s]).length≤5864062014805:=by rw [bC,mM]; omega
  have hLj:(J++[z]).length≤140737488355328:=by rw [bC,mM]; omega
  show pX N K (p.length+1+1) J S ((He z++(a++b))++rest)
  rw [e,pX]
  obtain ⟨h1,h2,h3,h4,h5,h6,h7⟩:=hx
  have hx:W_ x:=⟨h1,h2,h3,h4,h5,h6,h7⟩
  have hgb:=Ih (q:=q++(b++rest)) hx
  clear e e2 hb ha hxa hB hB1
  generalize b++rest=w1 at *
  generalize q++w1=w at *
  rcases Hd (hj z (cO ..)) with rfl | rfl | rfl | rfl
  ·show qo N K J S (bl::x::w) (pX N K (p.length+1))
   have hlj:J.length+1≤140737488355328:=om
   have hls:S.length+1≤5864062014805:=om
   simp [qo,rO,qp,wP,qV,sU,l7,lD,hgb,ah,h2,h3,h4,h5,h6,h7,hP,hs,ih,hlj,hls]
  ·show qo N K J S (bl::sg 62::bl::x::w) (pX N K (p.length+1))
   have hg:bD (bl::sg 62::bl::x::w)=(true,sg 62::bl::x::w):=by simp [bD,wE]; omega
   have hlj:J.length+1≤140737488355328:=om
   have hls:S.length+1≤5864062014805:=om
   simp [qo,rO,qp,wP,qV,sU,l7,lD,hg,hgb,ah,hP,hs,ih,hlj,hls]
   try omega
  ·show qo N K J S (bl::sg 43::bl::x::w) (pX N K (p.length+1))
   have hg:bD (bl::sg 43::bl::x::w)=(true,sg 43::bl::x::w):=by simp [bD,wE]; omega
   have hlj:J.length+1≤140737488355328:=om
   have hls:S.length+1≤5864062014805:=om
   simp [qo,rO,qp,wP,qV,sU,l7,lD,hg,hgb,ah,hP,hs,ih,hlj,hls]
   try omega
  show qo N K J S (bl::sg 126::bl::x::w) (pX N K (p.length+1))
  have hg:bD (bl::sg 126::bl::x::w)=(true,sg 126::bl::x::w):=by simp [bD,wE]; omega
  have hlj:J.length+1≤140737488355328:=om
  have hls:S.length+1≤5864062014805:=om
  simp [qo,rO,qp,wP,qV,sU,l7,lD,hg,hgb,ah,hP,hs,ih,hlj,hls]
  try omega
theorem agE (N:Nat) (r:Rd) (h:PK (N+1) r):agG N r (fun a b=>(a,b)=iB r):=by
 obtain ⟨p,js,ts,rest,hne,ho,hj,hl,hts,hr,rfl,hN,hB⟩:=h
 rw [Lt ho hne hj hl hts hr]
 match p,hne with
 | s::p,_ =>
  rw [t_,aG,aG] at ho
  obtain ⟨ho1,ho2,ho3⟩:=ho
  have hne:s≠[]:=fun e=>by rw [e] at ho2; cases ho2
  rw [IU] at hts
  obtain ⟨a,b,ha,hb,rfl⟩:=hts
  rw [bC] at hN
  rw [dL] at hB ⊢
  have hs:=K_ ho1 ha (yY hb hr)
  have hlb:b.length≤1000:=by have:=hB.app.1; rw [bC] at this; omega
  refine ⟨⟨s,_,a,b++rest,hne,ho1,ha,yY hb hr,rfl,om,hB⟩,p.length+1,?_⟩
  rw [hs]
  exact Jz N _ p js b rest [s] [] ho3 hj (by simpa using hl.symm) hb hr om hB.app (by rw [mM]; omega) (by rw [jT]; omega) rfl
def yh (gq:Bs) (z0:List KT):List KT :=
 (if (gq==([]:Bs))=true then (fo (bD (iB (bD z0).2).2).2 ([44]:Bs)).2 else (fo (fo (bD (iB (bD z0).2).2).2 ([44]:Bs)).2 gq).2)
def Da (gq:Bs) (K:(List PH)→List KT→Prop) (c0:List PH) (z0:List KT):Prop :=
 K (c0++([(iB (bD z0).2).1]:List PH)) (yh gq z0)
def GZ (N:Nat) (gq:Bs) (K:(List PH)→List KT→Prop) (c0:List PH) (z0:List KT) (C6:(List PH)→List KT→Prop):Prop :=
 PK N (bD z0).2∧(c0++([(iB (bD z0).2).1]:List PH)).length≤2932031007402∧vJ (bD (iB (bD z0).2).2).2 ([44]:Bs)∧((fo (bD (iB (bD z0).2).2).2 ([44]:Bs)).1=true→C6 (c0++([(iB (bD z0).2).1]:List PH)) (fo (bD (iB (bD z0).2).2).2 ([44]:Bs)).2)∧((fo (bD (iB (bD z0).2).2).2 ([44]:Bs)).1=false→((gq==([]:Bs))=true→((!(((fo (bD (iB (bD z0).2).2).2 ([44]:Bs)).2.length:Int)==0))=true→False)∧((!(((fo (bD (iB (bD z0).2).2).2 ([44]:Bs)).2.length:Int)==0))=false→Da gq K c0 z0))∧((gq==([]:Bs))=false→vJ (fo (bD (iB (bD z0).2).2).2 ([44]:Bs)).2 gq∧((!(fo (fo (bD (iB (bD z0).2).2).2 ([44]:Bs)).2 gq).1)=true→False)∧((!(fo (fo (bD (iB (bD z0).2).2).2 ([44]:Bs)).2 gq).1)=false→Da gq K c0 z0)))
def Fe (N:Nat) (gq:Bs) (K:(List PH)→List KT→Prop):Nat→List PH→List KT→Prop
 | 0,_,_=>False
 | k+1,c0,z0=>GZ N gq K c0 z0 (Fe N gq K k)
def ahw (N:Nat) (xr:List KT) (gq:Bs) (K:(List PH)→List KT→Prop):Prop :=
 ∃ k,Fe N gq K k ([]:List PH) xr
theorem aaS {g:ak} (N:Nat) (Dt:EZ N) (zt:E9 N) (zo:EI N) (Dr:EY N) (zu:Ff N) {bF:Nat} {g0:Option Addr} {m0:Nat} (xr:List KT) (gq:Bs) (K0:bG g (.slice yK) [.slice g0 xr.length m0] xr) (hG0:bP g 0) (K:(List PH)→List KT→Prop)
  (hF:ahw N xr gq K):az prog 32 #[pv bF 0,sv gq] g [.blk bF (.cells #[.slice g0 xr.length m0] 70)] (fun g' H' v=>∃ (r0:List PH),∃ (kN:List KT),∃ (V0:Option Addr) (Q0:Nat),∃ (u0:Option Addr) (j0:Nat),v=.slice V0 r0.length Q0∧bG g' (.slice yP) [.slice V0 r0.length Q0] r0∧bG g' (.slice yK) [.slice u0 kN.length j0] kN∧H'=[.blk bF (.cells #[.slice u0 kN.length j0] 70)]∧K r0 kN):=by
 refine aP 33 func32 rfl fun w0=>?_
 refine ae (av 1 [(0,pv bF 0),(1,sv gq)] kr (aa (ae (ag 1 [0,1] [(5,.slice none 0 0)] ?_))))
 have hL1:aW g yP [] []:=rfl
 refine fO 28 2 (aa (Ok.block ?_))
 obtain ⟨k,hF⟩:=hF
 refine gF (fun k a W=>∃ QG:ak,aY w0 g QG∧∃ (A0:Option Addr) (I0:Nat) (c0:List PH) (j1:List Value) (N0:Option Addr) (O0:Nat) (z0:List KT),aW QG yP j1 c0∧bG QG (.slice yK) [.slice N0 z0.length O0] z0∧fJ 33 [(0,pv bF 0),(1,sv gq),(5,.slice A0 c0.length I0)] a∧dh w0 [.own (.slice A0 c0.length I0) 28 2 c0.length j1,.blk bF (.cells #[.slice N0 z0.length O0] 70)] QG W∧Fe N gq K k c0 z0) k ?_ ?_
 ·
  exact fun _ _ u v=>⟨g,bq w0 g,none,0,([]:List PH),[],g0,m0,xr,hL1,K0,fA u v hF⟩
 clear hF
 rintro (_ | k6) _ _ ⟨QG,M1,A0,I0,c0,j1,N0,O0,z0,P0,m1,q⟩
 exact (q.2.2:False).elim
 refine jn (fun hF=>?_) _ _ q
 replace hG0:=hG0.mono M1.1
 refine Ok.block (ae (ag 1 [0,1,5] [(6,pv bF 0)] ?_))
 refine jB [1,0] ?_
 refine ai (bQ (OL z0 m1) fun g2 _ _ hx2 hV2=>?_)
 obtain ⟨o3,p3,rfl,i1,rfl⟩:=hV2
 replace P0:=P0.mono hx2.1
 replace hG0:=hG0.mono hx2.1
 refine aa (ae (ag 2 [0,1] [(8,.slice A0 c0.length I0),(9,pv bF 0)] ?_))
 obtain ⟨hp3,hF⟩:=hF
 refine ai (bQ (Dr _ (bD z0).2 i1 hG0 hp3) fun g4 _ _ hx4 hV4=>?_)
 obtain ⟨j3,x3,s3,c3,auT,auC,rfl,TM,TL,ai1,rfl⟩:=hV4
 replace P0:=P0.mono hx4.1
 let A:=iB (bD z0).2
 have hL5:aW g4 yP ([.slice j3 A.1.1.length x3,.slice s3 A.1.2.length c3]:List Value) ([A.1]:List PH):=(dB (c:=[.slice j3 A.1.1.length x3,.slice s3 A.1.2.length c3]) ⟨[.slice j3 A.1.1.length x3],[.slice s3 A.1.2.length c3],rfl,TM,TL⟩ rfl)
 refine ai (gG hL5 fun b5=>?_)
 obtain ⟨hb6,hF⟩:=hF
 refine ai (eZ (e:=yP) 48 2932031007402 2 0 rfl rfl rfl rfl P0 hL5 underlying33 kr kr kr hb6 rfl fun a6 c6 xs6 hL6=>?_)
 let B:=c0++([A.1]:List PH)
 refine ag 1 [0,1] [(5,.slice a6 B.length c6)] ?_
 refine aa (ae (ag 1 [0,1,5] [(13,pv bF 0)] ?_))
 refine jB [1,0,2] ?_
 refine ai (bQ (OL A.2 ai1) fun g7 _ _ hx7 hV7=>?_)
 obtain ⟨auQ,auw,rfl,TK,rfl⟩:=hV7
 replace hL6:=hL6.mono hx7.1
 refine aa (aH (ae (ag 1 [0,1,5] [(15,pv bF 0)] ?_)))
 obtain ⟨Mc,hF⟩:=hF
 refine ai (bQ (EW (bD A.2).2 ([44]:Bs) TK Mc) fun g9 _ _ hx9 hV9=>?_)
 obtain ⟨p2,t2,rfl,i2,rfl⟩:=hV9
 replace hL6:=hL6.mono hx9.1
 refine aa (aM hF (fun y2 hF=>?_) (fun y2 hF=>?_))
 ·refine fU (aA (aO (Ok.t ?_)))
  exact fun a W hA hW=>⟨k6,nl,g9,((((M1.trans hx2).trans hx4).trans hx7).trans hx9),a6,c6,B,xs6,p2,t2,(fo (bD A.2).2 ([44]:Bs)).2,hL6,i2,hA.sub kr,hW.pick [2,0] _ dc rfl,hF⟩
 refine Ok.k (Ok.t (Ok.cut (fun a W=>∃ X2:ak,aY w0 g9 X2∧∃ (z1:Option Addr) (v1:Nat),bG X2 (.slice yK) [.slice z1 (yh gq z0).length v1] (yh gq z0)∧fJ 33 [(5,.slice a6 B.length c6)] a∧dh w0 [.blk bF (.cells #[.slice z1 (yh gq z0).length v1] 70),.own (.slice a6 B.length c6) 28 2 B.length xs6] X2 W∧Da gq K c0 z0) ?_ ?_))
 ·
  refine ae (ag 1 [0,1,5] [(17,sv gq)] ?_)
  refine ai (af.s (v:=.bool (gq==([]:Bs))) (iE (f:=.eql) (a:=gq) (b:=([]:Bs)) kr kr rfl) rfl rfl (aa (aM hF (fun P1 hF=>?_) (fun P1 hF=>?_))))
  ·let C:=((fo (bD A.2).2 ([44]:Bs)).2.length:Int)==0
   refine aS (aj 7 [.e 0] [5] [(19,pv bF 0),(25,.bool C)] ?_)
   refine ai (bM (args:=#[pv bF 0,.bool C]) 8 [(0,pv bF 0),(1,.bool C)] gT func57 rfl rfl rfl rfl (ae (av 2 [(5,.bool (! C))] kr (aa (aM hF (fun H2 hF=>?_) (fun H2 hF=>?_))))))
   ·exact False.elim hF
   refine Ok.k (bu (vs:=[]) (.inr rfl) rfl .nil rfl (aa (jZ (E':=.blk bF (.cells #[.slice p2 (yh gq z0).length t2] 70)) 0 (ay (fun l:List Value=>b_.blk bF (.cells ⟨l⟩ 70)) (iw (ay (fun l:List KT=>Value.slice p2 l.length t2) ((aT P1).symm)) rfl)) ?_)))
   exact fun _ _ u v=>⟨g9,bq w0 g9,p2,t2,(Eq.mp (ay (fun l:List KT=>bG g9 (.slice yK) [.slice p2 l.length t2] l) ((aT P1).symm)) i2),fA u v hF⟩
  refine aS (ag 3 [5] [(27,pv bF 0),(28,pv bF 0),(29,sv gq)] ?_)
  obtain ⟨k3,hF⟩:=hF
  let D:=fo (bD A.2).2 ([44]:Bs)
  refine ai (bQ (EW D.2 gq i2 k3) fun g15 _ _ t1 y3=>?_)
  obtain ⟨X1,S1,rfl,A1,rfl⟩:=y3
  replace hL6:=hL6.mono t1.1
  refine ai (bM (args:=#[pv bF 0,.bool (fo D.2 gq).1]) 8 [(0,pv bF 0),(1,.bool (fo D.2 gq).1)] gT func57 rfl rfl rfl rfl (ae (av 2 [(5,.bool (!(fo D.2 gq).1))] kr (aa (aM hF (fun hc16 hF=>?_) (fun hc16 hF=>?_))))))
  ·exact False.elim hF
  refine Ok.k (bu (vs:=[]) (.inr rfl) rfl .nil rfl (aa (jZ (E':=.blk bF (.cells #[.slice X1 (yh gq z0).length S1] 70)) 0 (ay (fun l:List Value=>b_.blk bF (.cells ⟨l⟩ 70)) (iw (ay (fun l:List KT=>Value.slice X1 l.length S1) ((aF P1).symm)) rfl)) ?_)))
  exact fun _ _ u v=>⟨g15,t1,X1,S1,(Eq.mp (ay (fun l:List KT=>bG g15 (.slice yK) [.slice X1 l.length S1] l) ((aF P1).symm)) A1),fA u v hF⟩
 clear hF
 rintro _ _ ⟨X2,Z2,z1,v1,x1,q⟩
 refine jn (fun hF=>?_) _ _ q
 replace hL6:=hL6.mono Z2.1
 refine ae (av 2 [(4,.slice a6 B.length c6)] kr (aa (Ok.ret (aU (aC (aU (sM 1 rfl hL6 fun g11 W1 aiQ=>?_)))))))
 replace x1:=x1.mono W1.1
 exact qd (.slice a6 B.length c6) ((((((M1.trans hx2).trans hx4).trans hx7).trans hx9).trans Z2).trans W1) ⟨B,yh gq z0,a6,c6,z1,v1,rfl,aiQ,x1,rfl,hF⟩
theorem ahv (r:Rd) (e:Bs):¬ JR 0 r e:=fun ⟨_,_,_,_,_,_,_,_,_,_,_,_,h,_⟩=>absurd h (jQ _)
theorem JQ (N:Nat) (e:Bs) (K:List Ph→Rd→Prop):∀ (l:List Ph) (p:List (List Ts)) (js:List Int) (a b:List Tok) (fin rest r:Rd) (acc:List Ph),tZ ((p,js)::l)=true→IU p js a→KO l b→Yf e fin rest→(bD r).2=a++(b++fin)→8 * (a.length+b.length)+7<N→qG (a++(b++fin))→acc.length+b.length≤1000→K (acc++(p,js)::l) rest→Fe N e K (l.length+1) acc r
 | [],p,js,a,b,fin,rest,r,acc,ho,ha,hb,hF,hg,hN,hB,hl,hK=>by
  obtain ⟨⟨r1,r2⟩,r3,r4⟩:=u_ ho
  rw [KO] at hb; subst hb
  have hfin:wY fin=true:=by rcases hF with ⟨-,rfl,-⟩ | ⟨-,rfl⟩ <;> rfl
  rw [jS] at hg hB
  have hp:=Lt r3 r1 r4 r2 ha hfin
  have hP:PK N (a++fin):=⟨p,js,a,fin,r1,r3,r4,r2,ha,hfin,rfl,by simp at hN; omega,hB⟩
  have hl:acc.length+1≤2932031007402:=by simp at hl; omega
  have hgf:=yx hfin
  rw [Fe]
  rcases hF with ⟨rfl,rfl,rfl⟩ | ⟨rfl,rfl⟩
  ·rw [gK] at hg hp hP
   simp [GZ,Da,yh,hg,hp,hP,hgf,hl,vJ,fo,ah,hK]
  simp [GZ,Da,yh,hg,hp,hP,hgf,hl,vJ,fo,ah,hK]
 | (p',js')::l,p,js,a,b,fin,rest,r,acc,ho,ha,hb,hF,hg,hN,hB,hl,hK=>by
  obtain ⟨⟨r1,r2⟩,r3,r4⟩:=u_ ho
  have hfin:wY fin=true:=by rcases hF with ⟨-,rfl,-⟩ | ⟨-,rfl⟩ <;> rfl
  have hend:=Nw hb hfin
  rw [KO] at hb
  obtain ⟨a',b',ha',hb',rfl⟩:=hb
  have ho3:=ho
  rw [mE,aG,aG,aG] at ho3
  have ho4:=ho3.2.2.2
  obtain ⟨⟨u1,u2⟩,u3,u4⟩:=u_ ho4
  obtain ⟨x,q,hxa,hx⟩:=xJ u1 u3 ha'
  have hp:=Lt r3 r1 r4 r2 ha hend
  have hP:PK N (a++(sg 44::bl::(a'++b')++fin)):=⟨p,js,a,_,r1,r3,r4,r2,ha,hend,rfl,om,hB⟩
  have hgf:=yx hend
  have e2:sg 44::bl::(a'++b')++fin=sg 44::bl::(a'++(b'++fin)):=by simp
  rw [e2] at hg hp hP hgf hB
  simp only [cK,bC] at hN hl
  have ih:=JQ N e K l p' js' a' b' fin rest (bl::(a'++(b'++fin))) (acc++[(p,js)]) ho4 ha' hb' hF (by rw [hxa,iM,Ih hx]) om hB.app.tail.tail (by rw [bC,mM]; omega) (by rw [dL]; exact hK)
  have hl:acc.length+1≤2932031007402:=om
  rw [cK,Fe]
  generalize a'++(b'++fin)=w at *
  generalize a++sg 44::bl::w=w0 at *
  simp [GZ,hg,hp,hP,hgf,hl,vJ,fo,ah,ih]
theorem ahu (N:Nat) (r:Rd) (e:Bs) (h:JR (N+1) r e):ahw N r e (fun a b=>(a,b)=kg r e):=by
 obtain ⟨l,p,js,a,b,fin,rest,ho,ha,hb,hF,rfl,hN,hB⟩:=h
 rw [G5 ho ha hb hF]
 have hl:b.length≤1000:=by have:=hB.app.1; rw [bC] at this; omega
 exact ⟨l.length+1,JQ N e _ l p js a b fin rest _ [] ho ha hb hF (by rw [Fp ho ha]) om hB (by simpa using hl) rfl⟩
theorem Og:∀ N,EZ N∧E9 N∧EI N∧EY N∧Ff N
 | 0=>⟨(by intro g bF g0 m0 xr K0 hG0 hp; exact (agI xr hp).elim),(by intro g bF g0 m0 xr K0 hG0 hp; exact (agM xr hp).elim),(by intro g bF g0 m0 xr K0 hG0 hp; exact (afC xr hp).elim),(by intro g bF g0 m0 xr K0 hG0 hp; exact (agF xr hp).elim),(by intro g bF g0 m0 xr gq K0 hG0 hp; exact (ahv xr gq hp).elim)⟩
 | N+1 =>
  have ih:=Og N
  ⟨(by intro g bF g0 m0 xr K0 hG0 hp; exact (aaq N ih.1 ih.2.1 ih.2.2.1 ih.2.2.2.1 ih.2.2.2.2 xr K0 hG0 _ (agH N xr hp)).mono (by rintro g' H' v _ ⟨r0,kN,V0,Q0,u0,j0,rfl,k1,R0,rfl,hK⟩; obtain ⟨rfl,rfl⟩:r0=(qw xr).1∧kN=(qw xr).2:=⟨ay (fun z=>z.1) hK,ay (fun z=>z.2) hK⟩; exact ⟨V0,Q0,u0,j0,rfl,k1,R0,rfl⟩)),(by intro g bF g0 m0 xr K0 hG0 hp; exact (aau N ih.1 ih.2.1 ih.2.2.1 ih.2.2.2.1 ih.2.2.2.2 xr K0 hG0 _ (agL N xr hp)).mono (by rintro g' H' v _ ⟨r0,r1,kN,V0,Q0,u0,j0,rfl,k1,R0,rfl,hK⟩; obtain ⟨rfl,rfl,rfl⟩:r0=(fH xr).1∧r1=(fH xr).2.1∧kN=(fH xr).2.2:=⟨ay (fun z=>z.1) hK,ay (fun z=>z.2.1) hK,ay (fun z=>z.2.2) hK⟩; exact ⟨V0,Q0,u0,j0,rfl,k1,R0,rfl⟩)),(by intro g bF g0 m0 xr K0 hG0 hp; exact (Zz N ih.1 ih.2.1 ih.2.2.1 ih.2.2.2.1 ih.2.2.2.2 xr K0 hG0 _ (afB N xr hp)).mono (by rintro g' H' v _ ⟨r0,kN,V0,Q0,u0,j0,rfl,k1,R0,rfl,hK⟩; obtain ⟨rfl,rfl⟩:r0=(mR xr).1∧kN=(mR xr).2:=⟨ay (fun z=>z.1) hK,ay (fun z=>z.2) hK⟩; exact ⟨V0,Q0,u0,j0,rfl,k1,R0,rfl⟩)),(by intro g bF g0 m0 xr K0 hG0 hp; exact (aap N ih.1 ih.2.1 ih.2.2.1 ih.2.2.2.1 ih.2.2.2.2 xr K0 hG0 _ (agE N xr hp)).mono (by rintro g' H' v _ ⟨r0,kN,V0,Q0,d1,e1,u0,j0,rfl,k1,acb,R0,rfl,hK⟩; obtain ⟨rfl,rfl⟩:r0=(iB xr).1∧kN=(iB xr).2:=⟨ay (fun z=>z.1) hK,ay (fun z=>z.2) hK⟩; exact ⟨V0,Q0,d1,e1,u0,j0,rfl,k1,acb,R0,rfl⟩)),(by intro g bF g0 m0 xr gq K0 hG0 hp; exact (aaS N ih.1 ih.2.1 ih.2.2.1 ih.2.2.2.1 ih.2.2.2.2 xr gq K0 hG0 _ (ahu N xr gq hp)).mono (by rintro g' H' v _ ⟨r0,kN,V0,Q0,u0,j0,rfl,k1,R0,rfl,hK⟩; obtain ⟨rfl,rfl⟩:r0=(kg xr gq).1∧kN=(kg xr gq).2:=⟨ay (fun z=>z.1) hK,ay (fun z=>z.2) hK⟩; exact ⟨V0,Q0,u0,j0,rfl,k1,R0,rfl⟩))⟩
def Sg (xr:List KT) (gq:Bs):Prop:=∃ N,JR N xr gq
theorem aht {g:ak} {bF:Nat} {g0:Option Addr} {m0:Nat} (xr:List KT) (gq:Bs) (K0:bG g (.slice yK) [.slice g0 xr.length m0] xr) (hG0:bP g 0)  (hp:Sg xr gq):az prog 32 #[pv bF 0,sv gq] g [.blk bF (.cells #[.slice g0 xr.length m0] 70)] (fun g' H' v=>∃ (V0:Option Addr) (Q0:Nat),∃ (u0:Option Addr) (j0:Nat),v=.slice V0 (kg xr gq).1.length Q0∧bG g' (.slice yP) [.slice V0 (kg xr gq).1.length Q0] (kg xr gq).1∧bG g' (.slice yK) [.slice u0 (kg xr gq).2.length j0] (kg xr gq).2∧H'=[.blk bF (.cells #[.slice u0 (kg xr gq).2.length j0] 70)]):=by
 obtain ⟨N,hp⟩:=hp
 exact (Og N).2.2.2.2 _ xr gq K0 hG0 hp
set_option linter.unusedVariables false
set_option linter.unusedSimpArgs false
set_option maxHeartbeats 4000000
set_option maxRecDepth 100000
theorem SS (p q:Value):Idle prog 30 #[p,q]:=by
 intro W
 refine callsD_of_wpS func30 rfl fun c₀ cs hu=>?_
 apply wpS_seq
 apply wpS_region
 simp [wpOpsS,go_sem,recoverD,hu,Exit.thenS]
 apply wpS_seq
 apply wpS_region
 simp [wpOpsS,go_sem,Exit.thenS]
 refine wpS_cond (t:=false) (by simp [Act.eval,Array.replicate]) ?_
 simp only [zS,if_false]
 refine wpS_of_wp (wp_skip ?_)
 exact ⟨rfl,.returning,by cases c₀; simp_all,.tuple #[],by simp [results,Tryz.results30],⟨_,rfl⟩,rfl,Below.refl _ _⟩
def Told (l:List Ph):Prop:=zG l∧nO l=0∧(tx3 l).length≤400
def rdP (s:Bs):Prop:=∃ l,Told l∧s=tx3 l
def nK (s:Bs):List Ph×Int:=((kg (iZ s) []).1,0)
theorem Uz {s:Bs} {ts:List Tok} (h:gX s ts):ts.length≤s.length∧∀ t ∈ ts,t.2.1.length≤s.length:=by
 induction h with
 | nil=>exact ⟨fK _,fun t h=>(by cases h)⟩
 | @cons w r t ts hw h ht hr ih =>
  have:1≤w.length:=by cases w with
   | nil=>exact absurd rfl hw
   | cons c w=>simp
  refine ⟨by rw [cK,bC]; omega,fun y hy=>?_⟩
  rw [bC]
  rcases eG.1 hy with rfl | hy
  ·rw [ht]; omega
  have:=ih.2 y hy; omega
theorem Vl {l:List Ph} (h:Told l):tZ l=true∧l≠[]:=by
 have h:=h.2.1
 unfold nO at h
 split at h
 ·cases h
 split at h
 ·cases h
 rename_i h2
 simp only [nV,dA,fw,not_or,Bool.not_eq_false,dH] at h2
 refine ⟨h2.1,fun e=>?_⟩
 have:=h2.2
 rw [e] at this
 simp at this
theorem BS {l:List Ph} (h:Told l):∃ p js l' a b,l=(p,js)::l'∧tZ ((p,js)::l')=true∧IU p js a∧KO l' b∧iZ (tx3 l)=a++(b++[])∧qG (iZ (tx3 l)):=by
 obtain ⟨h1,h2⟩:=Vl h
 obtain ⟨ht,hc⟩:=Pq h1 h.1.2 (gV h.2.2 dc)
 have hb:=Uz hc
 have hl:=h.2.2
 match l,h2 with
 | (p,js)::l,_ =>
  rw [Qs] at ht
  obtain ⟨a,b,ha,hb',e⟩:=ht
  exact ⟨p,js,l,a,b,rfl,h1,ha,hb',by rw [gK]; exact e,om,fun t ht=>by have:=hb.2 t ht; omega⟩
theorem Jq {l:List Ph} (h:Told l):nK (tx3 l)=(l,0):=by
 obtain ⟨p,js,l',a,b,rfl,ho,ha,hb,e,-⟩:=BS h
 unfold nK
 rw [e,G5 ho ha hb (e:=[]) (fin:=[]) (rest:=[]) (.inl ⟨rfl,rfl,rfl⟩)]
def rdF (xs:Bs) (K:(List PH)→Int→Prop):Prop :=
 ((decide ((xs.length:Int)>400))=true→K ([]) 2)∧((decide ((xs.length:Int)>400))=false→r_ xs∧Sg (iZ xs) ([]:Bs)∧zG (kg (iZ xs) ([]:Bs)).1∧(((nO (kg (iZ xs) ([]:Bs)).1) != 0)=true→K ([]) 4)∧(((nO (kg (iZ xs) ([]:Bs)).1) != 0)=false→K (kg (iZ xs) ([]:Bs)).1 0))
theorem agi {g:ak} (xs:Bs) (hG0:bP g 0) (K:(List PH)→Int→Prop)
  (hF:rdF xs K):az prog 16 #[sv xs] g [] (fun g' H' v=>∃ (r0:List PH),∃ (r1:Int),∃ (z0:Option Addr) (v0:Nat),v=.tuple #[.slice z0 r0.length v0,iv r1]∧bG g' (.slice yP) [.slice z0 r0.length v0] r0∧H'=[]∧K r0 r1):=by
 refine EA 19 [(0,sv xs)] func16 rfl kr kr kr fun w0=>?_
 refine ae (ai (af.a (z:=.slice none 0 0) (cs:=#[.slice none 0 0]) kr kr rfl fun eO=>?_))
 refine ai (af.a (z:=iv 0) (cs:=#[iv 0]) kr kr rfl fun dK=>?_)
 refine aa (aH (ae (av 3 [(0,sv xs),(2,pv eO 0),(3,pv dK 0),(7,.bool (decide ((xs.length:Int)>400)))] kr (aa (aM hF (fun hc3 hF=>?_) (fun hc3 hF=>?_))))))
 ·refine ae (ai (dz 1 ?_))
  refine ai (dz 0 ?_)
  refine aa (Ok.ret (aC ?_))
  exact UX (vs:=[.slice none 0 0,iv 2]) rfl [] [] dc rfl (.inl rfl) rfl (.cons (.vE 1 rfl rfl underlying33 rfl kr) (.cons (.vE 0 rfl rfl underlying30 rfl kr) .nil)) (bq w0 g) ⟨([]),2,none,0,rfl,bG.nil,rfl,hF⟩
 let B:=(#[pv eO 0,pv dK 0]:Array Value)
 refine Ok.k (Ok.t (ae (ag 1 [0,2,3] [(8,.func (.func 30) #[] B)] ?_)))
 refine ai (af.defer ⟨.fn (.func 30) B,#[]⟩ kr (fun _=>by kernel_rfl) rfl ?_)
 refine aa (ae (ag 1 [2,3] [(9,sv xs)] ?_))
 obtain ⟨Tp,hF⟩:=hF
 refine ai (bQ (YZ xs hG0 Tp) fun g5 _ _ hx5 hV5=>?_)
 obtain ⟨aeI,aed,rfl,Km,rfl⟩:=hV5
 replace hG0:=hG0.mono hx5.1
 refine ag 1 [2,3] [(11,.agg #[.slice aeI (iZ xs).length aed])] ?_
 refine ai (di fun t0=>?_)
 refine ag 1 [2,3] [(4,pv t0 0)] ?_
 refine aa (ae (ag 1 [2,3] [(13,pv t0 0)] ?_))
 obtain ⟨Md,hF⟩:=hF
 refine ai (bQ (aht (iZ xs) ([]:Bs) Km hG0 Md) fun g8 _ _ hx8 hV8=>?_)
 obtain ⟨s0,b0,aqr,aqg,rfl,j0,aiZ,rfl⟩:=hV8
 replace hG0:=hG0.mono hx8.1
 refine ai (dz 2 ?_)
 refine aa (aH (aH (aS ?_)))
 obtain ⟨Tn,hF⟩:=hF
 let A:=kg (iZ xs) ([]:Bs)
 refine aj 3 [.e 2,.k (Y4 A.1 j0 hG0 Tn)] [2,3] [(17,.bool ((nO A.1) != 0))] ?_
 refine aa (aM hF (fun abS hF=>?_) (fun abS hF=>?_))
 ·refine ae (ai (dz 2 ?_))
  refine ai (dz 1 ?_)
  refine aa (Ok.ret (aC ?_))
  exact Pg (vs:=[.slice none 0 0,iv 4]) (args:=B) (SS _ _) rfl (fun _=>by kernel_rfl) [] [] dc rfl (.inl rfl) rfl (.cons (.vE 2 rfl rfl underlying33 rfl kr) (.cons (.vE 1 rfl rfl underlying30 rfl kr) .nil)) (hx5.trans hx8) ⟨([]),4,none,0,rfl,bG.nil,rfl,hF⟩
 refine Ok.k (Ok.t (ae (ai (af.s (v:=.slice s0 A.1.length b0) (aR 2 rfl rfl underlying33 rfl kr) rfl rfl (ai (dz 2 ?_))))))
 refine ai (dz 1 ?_)
 refine aa (Ok.ret ?_)
 exact Pg (vs:=[.slice s0 A.1.length b0,iv 0]) (args:=B) (SS _ _) rfl (fun _=>by kernel_rfl) [] [] dc rfl (.inl rfl) rfl (.cons (.vE 2 rfl rfl underlying33 rfl kr) (.cons (.vE 1 rfl rfl underlying30 rfl kr) .nil)) (hx5.trans hx8) ⟨A.1,0,s0,b0,rfl,j0,rfl,hF⟩
theorem alP (s:Bs) (hp:rdP s):rdF s (fun a c=>(a,c)=nK s):=by
 obtain ⟨l,h,rfl⟩:=hp
 rw [Jq h]
 obtain ⟨p,js,l',a,b,el,ho,ha,hb,e,hB⟩:=BS h
 have e1:(kg (iZ (tx3 l)) []).1=l:=ay Prod.fst (Jq h)
 have hN:Sg (iZ (tx3 l)) []:=⟨_,l',p,js,a,b,[],[],ho,ha,hb,.inl ⟨rfl,rfl,rfl⟩,e,nl,hB⟩
 have hc:r_ (tx3 l):=by have:=h.2.2; show (tx3 l).length<4294967281; omega
 have hl:=h.2.2
 unfold rdF
 rw [e1]
 refine ⟨fun h=>absurd (dn h) om,fun _=>⟨hc,hN,h.1,?_⟩⟩
 show ((nO l != 0)=true→_)∧((nO l != 0)=false→_)
 rw [h.2.1]
 exact ⟨fun h=>absurd h dc,fun _=>rfl⟩
theorem rd_c {g:ak} (xs:Bs) (hG0:bP g 0)  (hp:rdP xs):az prog 16 #[sv xs] g [] (fun g' H' v=>∃ (z0:Option Addr) (v0:Nat),v=.tuple #[.slice z0 (nK xs).1.length v0,iv (nK xs).2]∧bG g' (.slice yP) [.slice z0 (nK xs).1.length v0] (nK xs).1∧H'=[]) :=
 (agi xs hG0 _ (alP xs hp)).mono (by rintro g' H' v _ ⟨r0,r1,z0,v0,rfl,rX,rfl,hK⟩; obtain ⟨rfl,rfl⟩:r0=(nK xs).1∧r1=(nK xs).2:=⟨ay (fun z=>z.1) hK,ay (fun z=>z.2) hK⟩; exact ⟨z0,v0,rfl,rX,rfl⟩)
def pA:Ph:=([[.mk (2,[97],0,[],0,0) []],[.mk (4,[98],0,[],0,0) []]],[62])
theorem QU:Told [pA]:=by
 refine ⟨⟨by decide +kernel,fun q hq=>?_⟩,by decide +kernel,by decide +kernel⟩
 obtain rfl:=il.1 hq
 have ok:∀ k n,okB (.mk (k,n,0,[],0,0) []):=fun k n=>gL.all_mk.2 ⟨⟨⟨by show (0:Int)≤0; decide,by show (0:Int)≤255; decide⟩,fun q hq=>(by cases hq)⟩,fun q hq=>(by cases hq)⟩
 refine ⟨fun z hz=>?_,fun s hs t ht=>?_⟩
 ·obtain rfl:=il.1 hz
  exact ⟨by decide,by decide⟩
 rcases eG.1 hs with rfl | hs
 ·obtain rfl:=il.1 ht
  exact ok _ _
 obtain rfl:=il.1 hs
 obtain rfl:=il.1 ht
 exact ok _ _
theorem ae9:tx3 [pA]=[97,32,62,32,46,98]:=by decide +kernel
theorem agj:nK [97,32,62,32,46,98]=([pA],0):=by rw [← ae9]; exact Jq QU
def Ab:Bool :=
 ((((nK ([97,32,62,32,46,98]:Bs)).2==0)&&(((nK ([97,32,62,32,46,98]:Bs)).1.length:Int)==1))&&(((((nK ([97,32,62,32,46,98]:Bs)).1.getD (Int.toNat 0) default).1.length:Int)==2)&&((bytesOf ((nK ([97,32,62,32,46,98]:Bs)).1.getD (Int.toNat 0) default).2)==([62]:Bs))))
def JS (K:Bool→Prop):Prop :=
 K Ab
def aaU (K:Bool→Prop):Prop :=
 rdP ([97,32,62,32,46,98]:Bs)∧((((nK ([97,32,62,32,46,98]:Bs)).2==0)&&(((nK ([97,32,62,32,46,98]:Bs)).1.length:Int)==1))=true→(0:Int)≤0∧Int.toNat 0<(nK ([97,32,62,32,46,98]:Bs)).1.length∧(((((nK ([97,32,62,32,46,98]:Bs)).1.getD (Int.toNat 0) default).1.length:Int)==2)=true→JS K)∧(((((nK ([97,32,62,32,46,98]:Bs)).1.getD (Int.toNat 0) default).1.length:Int)==2)=false→JS K))∧((((nK ([97,32,62,32,46,98]:Bs)).2==0)&&(((nK ([97,32,62,32,46,98]:Bs)).1.length:Int)==1))=false→JS K)
theorem aaT {g:ak}  (hG0:bP g 0) (K:Bool→Prop)
  (hF:aaU K):az prog 6 #[] g [] (fun g' H' v=>∃ (r0:Bool),v=.bool r0∧H'=[]∧K r0):=by
 refine aP 30 func6 rfl fun w0=>?_
 refine ae (av 1 [] kr (aa (aH (aS ?_))))
 obtain ⟨hp1,hF⟩:=hF
 refine ai (bQ (rd_c ([97,32,62,32,46,98]:Bs) hG0 hp1) fun g2 _ _ hx2 hV2=>?_)
 obtain ⟨q0,k0,rfl,x0,rfl⟩:=hV2
 refine av 5 [(1,.slice q0 (nK ([97,32,62,32,46,98]:Bs)).1.length k0),(2,iv (nK ([97,32,62,32,46,98]:Bs)).2)] kr (aa (iO g2 [(0,.bool Ab)] [] (JS K) ?_ (fun Xf a0 hF=>?_)))
 ·
  refine aS (ag 3 [1] [(9,.bool ((nK ([97,32,62,32,46,98]:Bs)).2==0))] ?_)
  refine Ok.w 4 [(1,.slice q0 (nK ([97,32,62,32,46,98]:Bs)).1.length k0),(13,.bool (((nK ([97,32,62,32,46,98]:Bs)).2==0)&&(((nK ([97,32,62,32,46,98]:Bs)).1.length:Int)==1)))] (fun HY=>?_) ?_
  ·refine Ok.a 9 ((nK ([97,32,62,32,46,98]:Bs)).2==0) rfl (fun hc4=>?_) (fun hc4=>?_)
   ·skip
    refine ag 4 [1] [(13,.bool (((nK ([97,32,62,32,46,98]:Bs)).1.length:Int)==1))] ?_
    refine aB 13 (((nK ([97,32,62,32,46,98]:Bs)).2==0)&&(((nK ([97,32,62,32,46,98]:Bs)).1.length:Int)==1)) (aZ hc4) (ag 0 [1] [(13,.bool (((nK ([97,32,62,32,46,98]:Bs)).2==0)&&(((nK ([97,32,62,32,46,98]:Bs)).1.length:Int)==1)))] ?_)
    exact HY
   skip
   refine ag 4 [1] [(13,.bool false)] ?_
   refine aB 13 (((nK ([97,32,62,32,46,98]:Bs)).2==0)&&(((nK ([97,32,62,32,46,98]:Bs)).1.length:Int)==1)) (bW hc4) (ag 0 [1] [(13,.bool (((nK ([97,32,62,32,46,98]:Bs)).2==0)&&(((nK ([97,32,62,32,46,98]:Bs)).1.length:Int)==1)))] ?_)
   exact HY
  refine ag 1 [1] [(14,.bool (((nK ([97,32,62,32,46,98]:Bs)).2==0)&&(((nK ([97,32,62,32,46,98]:Bs)).1.length:Int)==1)))] ?_
  refine bN 14 hF (fun j4 hF=>?_) (fun j4 hF=>?_)
  ·refine ag 1 [1] [(14,.bool true),(15,.slice q0 (nK ([97,32,62,32,46,98]:Bs)).1.length k0)] ?_
   obtain ⟨QF,TV,hF⟩:=hF
   have Mm:=aV (l:=(nK ([97,32,62,32,46,98]:Bs)).1) default TV
   generalize YQ:((nK ([97,32,62,32,46,98]:Bs)).1.getD (Int.toNat 0) default)=e7 at Mm hF ⊢
   refine dW (af.bf (e:=yP) rfl rfl underlying33 kr x0 QF Mm rfl fun q6 o6 cs6 _ c0 WS=>?_)
   obtain ⟨_,_,rfl,⟨d0,e0,rfl,ail,ah5⟩,⟨f0,g0,rfl,aik,ah4⟩⟩:=WS
   have Ag:bG g2 (.slice (.slice yS)) [.slice d0 e7.1.length e0] e7.1:=⟨d0,e0,rfl,ail,ah5⟩
   have arA:bG g2 (.slice yb) [.slice f0 e7.2.length g0] e7.2:=⟨f0,g0,rfl,aik,ah4⟩
   replace c0:At g2 q6 o6 [.slice d0 e7.1.length e0,.slice f0 e7.2.length g0]:=c0
   refine aj 6 [.a 0 c0] [1] [(22,.bool ((e7.1.length:Int)==2))] ?_
   refine Ok.a 22 ((e7.1.length:Int)==2) rfl (fun hc8=>?_) (fun hc8=>?_)
   ·replace hF:=hF.1 hc8
    refine av 1 [(22,.bool true),(23,.slice q0 (nK ([97,32,62,32,46,98]:Bs)).1.length k0)] kr (dW (af.bf (e:=yP) rfl rfl underlying33 kr x0 QF Mm rfl fun q9 o9 cs9 _ m0 WR=>?_))
    obtain ⟨_,_,rfl,⟨n0,o0,rfl,aij,ah3⟩,⟨y0,u0,rfl,aii,ah2⟩⟩:=WR
    have YR:bG g2 (.slice (.slice yS)) [.slice n0 e7.1.length o0] e7.1:=⟨n0,o0,rfl,aij,ah3⟩
    have aiY:bG g2 (.slice yb) [.slice y0 e7.2.length u0] e7.2:=⟨y0,u0,rfl,aii,ah2⟩
    replace m0:At g2 q9 o9 [.slice n0 e7.1.length o0,.slice y0 e7.2.length u0]:=m0
    refine ag 1 [22] [(25,.pointer (some ⟨q9,o9+1,none⟩))] ?_
    refine dW (af.s (v:=.slice y0 e7.2.length u0) (eX 1 m0 kr underlying26 rfl kr) rfl rfl (dW (af.s (v:=sv (bytesOf e7.2)) (Ec kr rfl aiY underlying26 underlying9 underlying5) rfl rfl (aj 3 [] [] [(0,.bool (bytesOf e7.2==([62]:Bs)))] ?_))))
    refine bY (Ok.t ?_)
    subst YQ
    refine aB 0 Ab (au (aZ hc8) (aZ j4)) ?_
    exact fg hF
   replace hF:=hF.2 hc8
   refine av 8 [(0,.bool false)] kr (bY (Ok.t ?_))
   subst YQ
   refine aB 0 Ab (au (bW hc8) (aZ j4)) ?_
   exact fg hF
  refine av 16 [(0,.bool false)] kr (aa (aB 0 Ab (bW j4) ?_))
  exact fg hF
 refine Ok.ret ?_
 exact qd (.bool Ab) (hx2.trans a0) ⟨_,rfl,rfl,hF⟩
theorem ahy:aaU (fun r=>r=true):=by
 have j:JS (fun r=>r=true):=by show Ab=true; unfold Ab; rw [agj]; decide +kernel
 have h0:rdP [97,32,62,32,46,98]:=⟨_,QU,ae9.symm⟩
 unfold aaU
 rw [agj]
 exact ⟨h0,fun _=>⟨by decide,by decide +kernel,fun _=>j,fun _=>j⟩,fun _=>j⟩
theorem ahx {g:ak}  (hG0:bP g 0)  : bE prog 6 #[] g (.bool true) :=
 (aaT  hG0 _ (ahy )).gv
theorem UG {z:Int} (h:(Lit.int .u8 z).wf=true):UH z:=by
 have h1:IntKind.u8.min≤z∧z≤IntKind.u8.max:=by simpa [Lit.wf] using h
 have h2:IntKind.u8.min=0:=rfl
 have h3:IntKind.u8.max=255:=rfl
 exact ⟨om,om⟩
theorem V9:∀ t:Ts,IV yS t→okB t:=by
 refine gL.ind ?_
 intro x l ih hd
 have hd:=gL.all_mk.1 hd
 refine gL.all_mk.2 ⟨⟨UG hd.1.1.2.2.1,fun q hq z hz=>UG ((hd.1.2.2 q hq).2.2 z hz)⟩,fun q hq s hs k hk=>ih q hq s hs k hk (hd.2 q hq s hs k hk)⟩
theorem RN {l:List Ph} (h:IV (.slice yP) l):PM l:=fun q hq =>
 ⟨fun z hz=>UG ((h.2 q hq).2.2 z hz),fun s hs t ht=>V9 t (((h.2 q hq).1.2 s hs).2 t ht)⟩
theorem aqe {l:List Ph} (h:U4 (.slice yP) l):zG l:=⟨gV h.2 dc,RN h.1.1⟩
end Go.Proofs.YtdapgmigogpdcaaGreatDoor.Se
namespace Go.Proofs.YtdapgmigogpdcaaGreatDoor.Se
open _root_.Go.Proofs.Tryz Go Go.iQ Go.RowKit jL BF tF Tk Ti Me Rp Qu
set_option linter.unusedVariables false
set_option linter.unusedSimpArgs false
set_option maxHeartbeats 4000000
set_option maxRecDepth 100000
def afr (xl:List PH) (K:Bs→Int→Prop):Prop :=
 zG xl∧(((nO xl) != 0)=true→K ([]:Bs) (nO xl))∧(((nO xl) != 0)=false→Q5 xl∧((decide (((tx3 xl).length:Int)>400))=true→K ([]:Bs) 2)∧((decide (((tx3 xl).length:Int)>400))=false→K (tx3 xl) 0))
theorem Zt {g:ak} {z0:Option Addr} {v0:Nat} (xl:List PH) (q0:bG g (.slice yP) [.slice z0 xl.length v0] xl) (hG0:bP g 0) (hG3:ma g 3 (.int .u64) yR) (K:Bs→Int→Prop)
  (hF:afr xl K):az prog 11 #[.slice z0 xl.length v0] g [] (fun g' H' v=>∃ (r0:Bs),∃ (r1:Int),v=.tuple #[sv r0,iv r1]∧H'=[]∧K r0 r1):=by
 refine aP 17 func11 rfl fun w0=>?_
 refine ae (av 2 [(0,.slice z0 xl.length v0)] kr (aa (aH (aH (aS ?_)))))
 obtain ⟨hp1,hF⟩:=hF
 refine aj 3 [.k (Y4 xl q0 hG0 hp1)] [0] [(4,iv (nO xl))] ?_
 refine aa (ae (ag 2 [0,4] [(9,.bool ((nO xl) != 0))] ?_))
 refine aa (aM hF (fun hc2 hF=>?_) (fun hc2 hF=>?_))
 ·refine ae (av 3 [(2,sv ([]:Bs)),(3,iv (nO xl))] kr (aa (Ok.ret (aC ?_))))
  exact gH (vs:=[sv ([]:Bs),iv (nO xl)]) (.inl rfl) rfl (.cons (.tmp rfl) (.cons (.tmp rfl) .nil)) (bq w0 g) ⟨([]:Bs),nO xl,rfl,rfl,hF⟩
 refine Ok.k (Ok.t (aH (aS ?_)))
 obtain ⟨hp3,hF⟩:=hF
 refine aj 3 [.k (afs xl q0 hG3 hp3)] [] [(5,sv (tx3 xl))] ?_
 refine aa (aH (ae (ag 3 [5] [(15,.bool (decide (((tx3 xl).length:Int)>400)))] ?_)))
 refine aa (aM hF (fun hc4 hF=>?_) (fun hc4 hF=>?_))
 ·refine ae (av 2 [(2,sv ([]:Bs)),(3,iv 2)] kr (aa (Ok.ret (aC ?_))))
  exact gH (vs:=[sv ([]:Bs),iv 2]) (.inl rfl) rfl (.cons (.tmp rfl) (.cons (.tmp rfl) .nil)) (bq w0 g) ⟨([]:Bs),2,rfl,rfl,hF⟩
 refine Ok.k (Ok.t (ae (av 3 [(2,sv (tx3 xl)),(3,iv 0)] kr (aa (Ok.ret ?_)))))
 exact gH (vs:=[sv (tx3 xl),iv 0]) (.inl rfl) rfl (.cons (.tmp rfl) (.cons (.tmp rfl) .nil)) (bq w0 g) ⟨tx3 xl,0,rfl,rfl,hF⟩
def gy (l:List Ph):Bs×Int:=if (nO l != 0)=true then ([],nO l) else if decide (((tx3 l).length:Int)>400)=true then ([],2) else (tx3 l,0)
theorem O9 {l:List Ph} (h:nO l=0):tZ l=true∧l≠[]:=by
 unfold nO at h
 split at h
 ·cases h
 split at h
 ·cases h
 rename_i h2
 simp only [nV,dA,fw,not_or,Bool.not_eq_false,dH] at h2
 refine ⟨h2.1,fun e=>?_⟩
 have:=h2.2
 rw [e] at this
 simp at this
theorem Zw {l:List Ph} (hp:zG l) (h:nO l=0):Q5 l:=⟨b3 l+1,om,hp.1,hp.2,(O9 h).1⟩
theorem afq (l:List Ph) (hp:zG l):afr l (fun r e=>(r,e)=gy l):=by
 unfold gy
 refine ⟨hp,fun h=>by rw [aT h],fun h=>⟨Zw hp (by simpa using h),fun h2=>?_,fun h2=>?_⟩⟩
 ·rw [aF h,aT h2]
 rw [aF h,aF h2]
theorem afp {g:ak} {z0:Option Addr} {v0:Nat} (xl:List PH) (q0:bG g (.slice yP) [.slice z0 xl.length v0] xl) (hG0:bP g 0) (hG3:ma g 3 (.int .u64) yR)  (hp:zG xl):bE prog 11 #[.slice z0 xl.length v0] g (.tuple #[sv ((gy xl).1),iv (gy xl).2]) :=
 (Zt xl q0 hG0 hG3 _ (afq xl hp)).gives (by rintro g' H' v _ ⟨r0,r1,rfl,rfl,hK⟩; obtain ⟨rfl,rfl⟩:r0=(gy xl).1∧r1=(gy xl).2:=⟨ay (fun z=>z.1) hK,ay (fun z=>z.2) hK⟩; rfl)
theorem QY {l:List Ph} (hp:zG l) (h:(gy l).2=0):Told l∧gy l=(tx3 l,0):=by
 unfold gy at h ⊢
 by_cases h1:(nO l != 0)=true
 ·rw [bn h1] at h
  exact absurd h (by simpa using h1)
 rw [aQ h1] at h ⊢
 by_cases h2:decide (((tx3 l).length:Int)>400)=true
 ·rw [bn h2] at h; exact absurd h dc
 rw [aQ h2]
 exact ⟨⟨hp,by simpa using h1,by simp at h2; omega⟩,rfl⟩
end Go.Proofs.YtdapgmigogpdcaaGreatDoor.Se
