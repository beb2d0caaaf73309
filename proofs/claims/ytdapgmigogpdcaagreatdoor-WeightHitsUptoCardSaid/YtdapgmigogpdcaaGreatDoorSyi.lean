/- selector: its numbers; strings.Cut, strconv.Atoi where it is right. -/
import Derived.Test.YtdapgmigogpdcaaGreatDoorSyc
import Derived.Test.YtdapgmigogpdcaaGreatDoorSha
import Derived.Test.YtdapgmigogpdcaaGreatDoorCsu
import Derived.Test.YtdapgmigogpdcaaGreatDoorDob
import Derived.Lib.AtoiErrMem
import Derived.Test.YtdapgmigogpdcaaGreatDoorSta
set_option linter.unusedSimpArgs false
set_option linter.unusedVariables false
namespace Go.Proofs.YtdapgmigogpdcaaGreatDoor.Se
open _root_.Go.Proofs.Tryz Go Go.iT Go.RowKit Go.Shelf Go.Proofs jN BI tO Tk Rp Qu Me Ti
set_option maxHeartbeats 4000000
set_option maxRecDepth 100000
def wX (s:Bs):Prop:=∃ n:Int,(-1000≤n∧n≤1000)∧(s=Lib.itoa n∨0≤n∧s=43::Lib.itoa n)
def Ny (s:Bs) (n:Int):Bool:=decide (s.length≤18)&&(Lib.atoi s==some n)&&(vI s==n)&&decide (1≤s.length)&&(Lib.trimS (m_ (s.take 1) [43,45]++s.drop 1) [48,49,50,51,52,53,54,55,56,57]==[])&&(aO s==s)&&(!(s==[45]))&&(!(s.headD 0==111))&&(!(s.headD 0==101))&&((s.headD 0==45)||decide (0≤n))
theorem vG:∀ n:Int,-1000≤n∧n≤1000→Ny (Lib.itoa n) n=true∧(0≤n→Ny (43::Lib.itoa n) n=true):=fun n h=>by
 have:∀ k:Fin 2001,Ny (Lib.itoa ((k.val:Int) - 1000)) ((k.val:Int) - 1000)=true∧(0≤(k.val:Int) - 1000→Ny (43::Lib.itoa ((k.val:Int) - 1000)) ((k.val:Int) - 1000)=true):=by decide +kernel
 have:=this ⟨(n+1000).toNat,om⟩;rw [show (((⟨(n+1000).toNat,om⟩:Fin 2001).val:Int) - 1000)=n by show (((n+1000).toNat:Nat):Int) - 1000=n; omega] at this;exact this
theorem wX.fit {s:Bs} (h:wX s):∃ n,Ny s n=true:=by
 obtain ⟨n,h1,rfl | ⟨h2,rfl⟩⟩:=h
 ·exact ⟨n,(vG n h1).1⟩
 exact ⟨n,(vG n h1).2 h2⟩
structure Y7 (s:Bs) (n:Int):Prop where
 len:s.length≤18
 ato:Lib.atoi s=some n
 vI:vI s=n
 one:1≤s.length
 tri:Lib.trimS (m_ (s.take 1) [43,45]++s.drop 1) [48,49,50,51,52,53,54,55,56,57]=[]
 low:aO s=s
 n45:s≠[45]
 n111:s.headD 0≠111
 n101:s.headD 0≠101
 sgn:s.headD 0=45∨0≤n
theorem MB {s:Bs} {n:Int} (hf:Ny s n=true):Y7 s n:=by
 unfold Ny at hf;simp only [aH,dI,dJ,dC,dX,dY] at hf;obtain ⟨⟨⟨⟨⟨⟨⟨⟨⟨h1,h2⟩,h3⟩,h4⟩,h5⟩,h6⟩,h7⟩,h8⟩,h9⟩,h10⟩:=hf;exact ⟨h1,h2,h3,h4,h5,h6,h7,h8,h9,h10⟩
theorem wX.facts {s:Bs} (h:wX s):∃ n,Y7 s n:=by
 obtain ⟨n,hf⟩:=h.fit;exact ⟨n,MB hf⟩
theorem wX.ato {s:Bs} (h:wX s):∃ n,s.length≤18∧Lib.atoi s=some n:=by
 obtain ⟨n,hf⟩:=h.facts;exact ⟨n,hf.len,hf.ato⟩
def tN (s:Bs):Int×Bool:=((Lib.atoi s).getD 0,true)
theorem al2 {g:ak} (s:Bs) (hp:wX s) :
  az prog 250 #[sv s] g [] (fun g' H' v=>∃ (ir1:Value),v=.tuple #[iv (tN s).1,ir1]∧IfV ir1 (tN s).2∧H'=[]):=fun W hW=>by
 obtain ⟨n,h1,h2⟩:=hp.ato;refine (Tryz.strconv_Atoi ⟨⟨s⟩⟩ n h1 h2 W).mono fun e W' ⟨he,t,hw⟩=>?_;refine ⟨_,g,[],he,⟨_,by unfold tN; rw [h2]; rfl,rfl,rfl⟩,bu _ g,?_⟩;subst hw;exact hW.of_below (Lib.bytesWorld_below _ _ _)
def agr (xs:Bs) (K:Int→Bool→Prop):Prop :=
 wX xs∧((tN xs).2=true→(0:Int)≤0∧(0:Int)≤1∧1≤(xs.length:Int)∧tlP (xs.take (Int.toNat 1)) ([43,45]:Bs)∧(0:Int)≤1∧(1:Int)≤(xs.length:Int)∧(xs.length:Int)≤(xs.length:Int)∧(m_ (xs.take (Int.toNat 1)) ([43,45]:Bs)).length+(xs.drop (Int.toNat 1)).length≤maxLen∧Oj ((m_ (xs.take (Int.toNat 1)) ([43,45]:Bs))++xs.drop (Int.toNat 1)) ([48,49,50,51,52,53,54,55,56,57]:Bs)∧K (tN xs).1 ((trimS ((m_ (xs.take (Int.toNat 1)) ([43,45]:Bs))++xs.drop (Int.toNat 1)) ([48,49,50,51,52,53,54,55,56,57]:Bs))==([]:Bs)))∧((tN xs).2=false→K (tN xs).1 false)
theorem aag {g:ak} (xs:Bs) (K:Int→Bool→Prop)
  (hF:agr xs K):az prog 237 #[sv xs] g [] (fun g' H' v=>∃ (r0:Int),∃ (r1:Bool),v=.tuple #[iv r0,.bool r1]∧H'=[]∧K r0 r1):=by
 refine aP 24 func237 rfl fun w0=>?_;refine ae (av 2 [(0,sv xs)] kr (aa (ae (ag 1 [0] [(7,sv xs)] ?_))));obtain ⟨hp1,hF⟩:=hF;refine ai (bS (al2 xs hp1) fun g2 _ _ hx2 hV2=>?_);obtain ⟨anU,rfl,z0,rfl⟩:=hV2;refine VO (tN xs).2 (fun hc3=>?_) (fun hc3=>?_)
 ·replace hF:=hF.1 hc3
  replace z0:anU=.nilIface:=by rw [hc3] at z0; exact z0
  subst z0;refine av 5 [(0,sv xs),(4,iv (tN xs).1),(5,.nilIface)] kr (aa (aF (gq kr kr (eZ 5 [0] [(11,iv (tN xs).1),(14,.bool true),(15,sv xs)] ?_))));obtain ⟨oo,pg,UZ,hF⟩:=hF;refine lS (j:=3) (d:=14) (want:=true) (b:=true) rfl kr kr rfl (fK.s (v:=sv (xs.take (Int.toNat 1))) (b_ (s:=xs) (l:=0) (h:=1) kr underlying9 (.inr ⟨rfl,rfl⟩) (.inl ⟨_,_,rfl,rfl⟩) oo pg UZ (xs.take (Int.toNat 1)) (by simp)) rfl rfl ?_);obtain ⟨M3,hF⟩:=hF;refine lS (j:=3) (d:=14) (want:=true) (b:=true) rfl kr kr rfl (fK.f gU (fun W hW=>aat (xs.take (Int.toNat 1)) ([43,45]:Bs) M3) rfl ?_);refine eZ 1 [11,14] [(17,sv (m_ (xs.take (Int.toNat 1)) ([43,45]:Bs))),(18,sv xs)] ?_;obtain ⟨uA,h16,X9,hF⟩:=hF;refine lS (j:=3) (d:=14) (want:=true) (b:=true) rfl kr kr rfl (fK.s (v:=sv (xs.drop (Int.toNat 1))) (b_ (s:=xs) (l:=1) (h:=(xs.length:Int)) kr underlying9 (.inl ⟨_,_,rfl,rfl⟩) (.inr ⟨rfl,rfl⟩) uA h16 X9 (xs.drop (Int.toNat 1)) (RZ _ _)) rfl rfl ?_);obtain ⟨hv,hF⟩:=hF;refine lS (j:=3) (d:=14) (want:=true) (b:=true) rfl kr kr rfl (fK.s (v:=sv ((m_ (xs.take (Int.toNat 1)) ([43,45]:Bs))++xs.drop (Int.toNat 1))) (dz rfl rfl hv) rfl rfl ?_);obtain ⟨Im,hF⟩:=hF;refine lS (j:=3) (d:=14) (want:=true) (b:=true) rfl kr kr rfl (fK.f gU (fun W hW=>trim_c ((m_ (xs.take (Int.toNat 1)) ([43,45]:Bs))++xs.drop (Int.toNat 1)) ([48,49,50,51,52,53,54,55,56,57]:Bs) Im) rfl ?_);refine lS (j:=3) (d:=14) (want:=true) (b:=true) rfl kr kr rfl (fK.s (v:=.bool ((trimS ((m_ (xs.take (Int.toNat 1)) ([43,45]:Bs))++xs.drop (Int.toNat 1)) ([48,49,50,51,52,53,54,55,56,57]:Bs))==([]:Bs))) (iG (f:=.eql) (a:=(trimS ((m_ (xs.take (Int.toNat 1)) ([43,45]:Bs))++xs.drop (Int.toNat 1)) ([48,49,50,51,52,53,54,55,56,57]:Bs))) (b:=([]:Bs)) kr kr rfl) rfl rfl (yX 3 [(2,iv (tN xs).1),(3,.bool ((trimS ((m_ (xs.take (Int.toNat 1)) ([43,45]:Bs))++xs.drop (Int.toNat 1)) ([48,49,50,51,52,53,54,55,56,57]:Bs))==([]:Bs)))] kr (kQ (Ok.t (Ok.ret ?_)))));exact gZ (vs:=[iv (tN xs).1,.bool ((trimS ((m_ (xs.take (Int.toNat 1)) ([43,45]:Bs))++xs.drop (Int.toNat 1)) ([48,49,50,51,52,53,54,55,56,57]:Bs))==([]:Bs))]) (.inl rfl) rfl (.cons (.tmp rfl) (.cons (.tmp rfl) .nil)) hx2 ⟨(tN xs).1,((trimS ((m_ (xs.take (Int.toNat 1)) ([43,45]:Bs))++xs.drop (Int.toNat 1)) ([48,49,50,51,52,53,54,55,56,57]:Bs))==([]:Bs)),rfl,rfl,hF⟩
 replace hF:=hF.2 hc3;rw [hc3] at z0;obtain ⟨ann,anB,rfl⟩:=z0;refine av 5 [(0,sv xs),(4,iv (tN xs).1),(5,.iface ann anB)] kr (aa (aF (gq kr kr (yX 15 [(2,iv (tN xs).1),(3,.bool false)] kr (kQ (Ok.t (Ok.ret ?_)))))));exact gZ (vs:=[iv (tN xs).1,.bool false]) (.inl rfl) rfl (.cons (.tmp rfl) (.cons (.tmp rfl) .nil)) hx2 ⟨(tN xs).1,false,rfl,rfl,hF⟩
def jQ (s:Bs):Int×Bool:=(vI s,true)
theorem agq (s:Bs) (hp:wX s):agr s (fun a b=>(a,b)=jQ s):=by
 obtain ⟨n,hf⟩:=hp.facts;have ho:=hf.one;have hl:=hf.len
 have htl:(m_ (s.take 1) [43,45]).length≤1:=by
  have:(m_ (s.take 1) [43,45]).length≤(s.take 1).length:=(List.dropWhile_suffix _).length_le;simp only [gG] at this;omega
 refine ⟨hp,fun _=>⟨by decide,by decide,om,⟨by decide,by decide,by decide⟩,by decide,om,om,?_,⟨?_,by decide,by decide⟩,?_⟩,fun h=>(by cases h)⟩
 ·have:(s.drop 1).length≤17:=by rw [gJ]; omega
  show (m_ (s.take 1) [43,45]).length+(s.drop 1).length≤9223372036854775807;omega
 ·have:(s.drop 1).length≤17:=by rw [gJ]; omega
  show (m_ (s.take 1) [43,45]++s.drop 1).length≤9223372036854775807;rw [bD];omega
 show (_,_)=_;unfold jQ tN;rw [hf.ato,hf.vI,show trimS (m_ (s.take (Int.toNat 1)) [43,45]++s.drop (Int.toNat 1)) [48,49,50,51,52,53,54,55,56,57]=[] from hf.tri];rfl
theorem RH {g:ak} (xs:Bs)  (hp:wX xs):bC prog 237 #[sv xs] g (.tuple #[iv (jQ xs).1,.bool (jQ xs).2]) :=
 (aag xs _ (agq xs hp)).gives (by rintro g' H' v _ ⟨r0,r1,rfl,rfl,hK⟩; obtain ⟨rfl,rfl⟩:r0=(jQ xs).1∧r1=(jQ xs).2:=⟨aA (fun z=>z.1) hK,aA (fun z=>z.2) hK⟩; rfl)
def dN (s sep:Bs):Bs×Bs×Bool:=Lib.cut s sep
def P5 (s _:Bs):Prop:=s.length≤1000000
theorem aeY {g:ak} (s sep:Bs) (hG:bR g 0) (hp:P5 s sep):bC prog 236 #[sv s,sv sep] g (.tuple #[sv ((dN s sep).1),sv ((dN s sep).2.1),.bool (dN s sep).2.2]):=fun W hW=>by
 obtain ⟨cs,T,fz,m,h1,h2⟩:=hG;have hsz:(⟨⟨s⟩⟩:ByteArray).size=s.length:=rfl;unfold P5 at hp;refine (Tryz.strings_Cut ⟨⟨s⟩⟩ ⟨⟨sep⟩⟩ m W (by rw [hsz]; omega) (by rw [Lib.cell_of_heap (hW _ _ h1)]; exact h2)).mono fun e W' ⟨he,n,hw⟩=>⟨he,?_⟩;subst hw;exact ⟨rfl,rfl,rfl,fP _,fun _ _=>rfl⟩
def um (xs:Bs):Int :=
 (if ((dN (aO xs) ([110]:Bs)).1==([]:Bs))=true then 1 else (if ((dN (aO xs) ([110]:Bs)).1==([45]:Bs))=true then -1 else (jQ (dN (aO xs) ([110]:Bs)).1).1))
def nM (xs:Bs):Bool :=
 (((dN (aO xs) ([110]:Bs)).1==([]:Bs))||(((dN (aO xs) ([110]:Bs)).1==([45]:Bs))||(jQ (dN (aO xs) ([110]:Bs)).1).2))
def wh (xs:Bs):Bool :=
 (if (!((dN (aO xs) ([110]:Bs)).2.1==([]:Bs)))=true then ((nM xs&&(jQ (dN (aO xs) ([110]:Bs)).2.1).2)&&(((((dN (aO xs) ([110]:Bs)).2.1.getD (Int.toNat 0) 0).toNat:Int)==43)||((((dN (aO xs) ([110]:Bs)).2.1.getD (Int.toNat 0) 0).toNat:Int)==45))) else (nM xs))
def v_ (xs:Bs):Int :=
 (if (!((dN (aO xs) ([110]:Bs)).2.1==([]:Bs)))=true then (jQ (dN (aO xs) ([110]:Bs)).2.1).1 else 0)
def zl (xs:Bs) (K:Int→Int→Bool→Prop):Prop :=
 K (um xs) (v_ xs) (wh xs)
def CV (xs:Bs) (K:Int→Int→Bool→Prop):Prop :=
 ((!((dN (aO xs) ([110]:Bs)).2.1==([]:Bs)))=true→wX (dN (aO xs) ([110]:Bs)).2.1∧((nM xs&&(jQ (dN (aO xs) ([110]:Bs)).2.1).2)=true→(0:Int)≤0∧Int.toNat 0<(dN (aO xs) ([110]:Bs)).2.1.length∧(((((dN (aO xs) ([110]:Bs)).2.1.getD (Int.toNat 0) 0).toNat:Int)==43)=true→zl xs K)∧(((((dN (aO xs) ([110]:Bs)).2.1.getD (Int.toNat 0) 0).toNat:Int)==43)=false→zl xs K))∧((nM xs&&(jQ (dN (aO xs) ([110]:Bs)).2.1).2)=false→zl xs K))∧((!((dN (aO xs) ([110]:Bs)).2.1==([]:Bs)))=false→zl xs K)
def Xl (xs:Bs) (K:Int→Int→Bool→Prop):Prop :=
 ig xs∧((aO xs==([111,100,100]:Bs))=true→K 2 1 true)∧((aO xs==([111,100,100]:Bs))=false→((aO xs==([101,118,101,110]:Bs))=true→K 2 0 true)∧((aO xs==([101,118,101,110]:Bs))=false→P5 (aO xs) ([110]:Bs)∧((!(dN (aO xs) ([110]:Bs)).2.2)=true→((aO xs==([]:Bs))=true→K 0 0 false)∧((aO xs==([]:Bs))=false→wX (aO xs)∧K 0 (jQ (aO xs)).1 (jQ (aO xs)).2))∧((!(dN (aO xs) ([110]:Bs)).2.2)=false→(((dN (aO xs) ([110]:Bs)).1==([]:Bs))=true→CV xs K)∧(((dN (aO xs) ([110]:Bs)).1==([]:Bs))=false→(((dN (aO xs) ([110]:Bs)).1==([45]:Bs))=true→CV xs K)∧(((dN (aO xs) ([110]:Bs)).1==([45]:Bs))=false→wX (dN (aO xs) ([110]:Bs)).1∧CV xs K)))))
theorem abC {g:ak} (xs:Bs) (hG0:bR g 0) (K:Int→Int→Bool→Prop)
  (hF:Xl xs K):az prog 225 #[sv xs] g [] (fun g' H' v=>∃ (r0:Int),∃ (r1:Int),∃ (r2:Bool),v=.tuple #[iv r0,iv r1,.bool r2]∧H'=[]∧K r0 r1 r2):=by
 refine aP 72 func225 rfl fun w0=>?_;refine ae (av 3 [(0,sv xs)] kr (aa (aF (aR ?_))));obtain ⟨hp1,hF⟩:=hF;refine aj 3 [.k (EY xs hp1)] [] [(0,sv (aO xs))] ?_;refine aa (aF (ae (ag 1 [0] [(16,sv (aO xs))] ?_)));refine aa (Ok.block (ae (aj 2 [] [0,16] [(17,.bool (aO xs==([111,100,100]:Bs)))] ?_)));refine aa (aJ hF (fun hc2 hF=>?_) (fun hc2 hF=>?_))
 ·refine ae (av 3 [(2,iv 2),(3,iv 1),(4,.bool true)] kr (aa (Ok.ret (aV (aC ?_)))));exact gZ (vs:=[iv 2,iv 1,.bool true]) (.inl rfl) rfl (.cons (.tmp rfl) (.cons (.tmp rfl) (.cons (.tmp rfl) .nil))) (bu w0 g) ⟨2,1,true,rfl,rfl,hF⟩
 refine ae (aj 2 [] [0] [(19,.bool (aO xs==([101,118,101,110]:Bs)))] ?_);refine aa (aJ hF (fun hc3 hF=>?_) (fun hc3 hF=>?_))
 ·refine ae (av 3 [(2,iv 2),(3,iv 0),(4,.bool true)] kr (aa (Ok.ret (aV (aC ?_)))));exact gZ (vs:=[iv 2,iv 0,.bool true]) (.inl rfl) rfl (.cons (.tmp rfl) (.cons (.tmp rfl) (.cons (.tmp rfl) .nil))) (bu w0 g) ⟨2,0,true,rfl,rfl,hF⟩
 refine Ok.k (bG (Ok.t (aF (aR ?_))));obtain ⟨XT,hF⟩:=hF;refine aj 9 [.k (aeY (aO xs) ([110]:Bs) hG0 XT)] [0] [(5,sv ((dN (aO xs) ([110]:Bs)).1)),(6,sv ((dN (aO xs) ([110]:Bs)).2.1)),(7,.bool (dN (aO xs) ([110]:Bs)).2.2)] ?_;refine aa (aF (ae (ag 2 [0,5,6] [(28,.bool (!(dN (aO xs) ([110]:Bs)).2.2))] ?_)));refine aa (aJ hF (fun jy hF=>?_) (fun jy hF=>?_))
 ·refine aF (ae (ag 1 [0] [(29,sv (aO xs))] ?_));refine ai (af.s (v:=.bool (aO xs==([]:Bs))) (iG (f:=.eql) (a:=aO xs) (b:=([]:Bs)) kr kr rfl) rfl rfl (aa (aJ hF (fun hc6 hF=>?_) (fun hc6 hF=>?_))))
  ·refine ae (av 3 [(2,iv 0),(3,iv 0),(4,.bool false)] kr (aa (Ok.ret (aC (aC ?_)))));exact gZ (vs:=[iv 0,iv 0,.bool false]) (.inl rfl) rfl (.cons (.tmp rfl) (.cons (.tmp rfl) (.cons (.tmp rfl) .nil))) (bu w0 g) ⟨0,0,false,rfl,rfl,hF⟩
  refine Ok.k (Ok.t (aF (aR ?_)));obtain ⟨Im,hF⟩:=hF;refine aj 7 [.k (RH (aO xs) Im)] [] [(8,iv (jQ (aO xs)).1),(9,.bool (jQ (aO xs)).2)] ?_;refine aa (ae (av 5 [(2,iv 0),(3,iv (jQ (aO xs)).1),(4,.bool (jQ (aO xs)).2)] kr (aa (Ok.ret (aC ?_)))));exact gZ (vs:=[iv 0,iv (jQ (aO xs)).1,.bool (jQ (aO xs)).2]) (.inl rfl) rfl (.cons (.tmp rfl) (.cons (.tmp rfl) (.cons (.tmp rfl) .nil))) (bu w0 g) ⟨0,(jQ (aO xs)).1,(jQ (aO xs)).2,rfl,rfl,hF⟩
 refine Ok.k (Ok.t (ae (ag 2 [5,6] [(10,iv 1),(11,.bool true)] ?_)));refine aa (gB [(6,sv ((dN (aO xs) ([110]:Bs)).2.1)),(10,iv (um xs)),(11,.bool (nM xs))] [] (CV xs K) ?_ (fun hF=>?_))
 ·
  refine ae (ag 1 [5,6,10,11] [(38,sv ((dN (aO xs) ([110]:Bs)).1))] ?_);refine aa (Ok.block (ae (aj 2 [] [5,6,10,11,38] [(44,.bool ((dN (aO xs) ([110]:Bs)).1==([]:Bs)))] ?_)));refine aa (aJ hF (fun v0 hF=>?_) (fun v0 hF=>?_))
  ·refine Ok.k (bG (Ok.t (gX 10 rfl (show (iv 1:Value)=iv (um xs) from aA (Value.int .i64) ((aU v0).symm)) (aB 11 (nM xs) (cK v0) ?_))));exact fz hF
  refine ae (aj 2 [] [5,6,11] [(46,.bool ((dN (aO xs) ([110]:Bs)).1==([45]:Bs)))] ?_);refine aa (aJ hF (fun q0 hF=>?_) (fun q0 hF=>?_))
  ·refine aR (ag 1 [6,11] [(10,iv (-1))] ?_);refine bV (bG (Ok.t (gX 10 rfl (show (iv (-1):Value)=iv (um xs) from aA (Value.int .i64) (au ((aU q0).symm) ((aG v0).symm))) (aB 11 (nM xs) (au (cK q0) (bN v0)) ?_))));exact fz hF
  refine aR ?_;obtain ⟨UA,hF⟩:=hF;refine aj 7 [.k (RH (dN (aO xs) ([110]:Bs)).1 UA)] [6] [(10,iv (jQ (dN (aO xs) ([110]:Bs)).1).1),(11,.bool (jQ (dN (aO xs) ([110]:Bs)).1).2)] ?_;refine bV (bG (Ok.t (gX 10 rfl (show (iv (jQ (dN (aO xs) ([110]:Bs)).1).1:Value)=iv (um xs) from aA (Value.int .i64) (au ((aG q0).symm) ((aG v0).symm))) (aB 11 (nM xs) (au (bN q0) (bN v0)) ?_))));exact fz hF
 refine ae (ag 1 [6,10,11] [(12,iv 0)] ?_);refine aa (gB [(10,iv (um xs)),(11,.bool (wh xs)),(12,iv (v_ xs))] [] (zl xs K) ?_ (fun hF=>?_))
 ·
  refine ae (ag 1 [6,10,11,12] [(48,sv ((dN (aO xs) ([110]:Bs)).2.1))] ?_);refine ai (af.s (v:=.bool (!((dN (aO xs) ([110]:Bs)).2.1==([]:Bs)))) (iG (f:=.neq) (a:=(dN (aO xs) ([110]:Bs)).2.1) (b:=([]:Bs)) kr kr rfl) rfl rfl (aa (aJ hF (fun hc8 hF=>?_) (fun hc8 hF=>?_))))
  ·refine ae (ag 1 [6,10,11] [] ?_);refine aa (aF (aR ?_));obtain ⟨Il,hF⟩:=hF;refine aj 7 [.k (RH (dN (aO xs) ([110]:Bs)).2.1 Il)] [6,10,11] [(12,iv (jQ (dN (aO xs) ([110]:Bs)).2.1).1),(13,.bool (jQ (dN (aO xs) ([110]:Bs)).2.1).2)] ?_;refine aa (aR (ag 2 [6,10,12,13] [(56,.bool (nM xs))] ?_));refine Ok.w 2 [(6,sv ((dN (aO xs) ([110]:Bs)).2.1)),(10,iv (um xs)),(12,iv (jQ (dN (aO xs) ([110]:Bs)).2.1).1),(58,.bool (nM xs&&(jQ (dN (aO xs) ([110]:Bs)).2.1).2))] (fun x0=>?_) ?_
   ·refine Ok.a 56 (nM xs) rfl (fun u0=>?_) (fun u0=>?_)
    ·skip;refine ag 2 [6,10,12] [(58,.bool (jQ (dN (aO xs) ([110]:Bs)).2.1).2)] ?_;refine aB 58 (nM xs&&(jQ (dN (aO xs) ([110]:Bs)).2.1).2) (bn u0) (ag 0 [6,10,12] [(58,.bool (nM xs&&(jQ (dN (aO xs) ([110]:Bs)).2.1).2))] ?_);exact x0
    skip;refine ag 2 [6,10,12] [(58,.bool false)] ?_;refine aB 58 (nM xs&&(jQ (dN (aO xs) ([110]:Bs)).2.1).2) (bZ u0) (ag 0 [6,10,12] [(58,.bool (nM xs&&(jQ (dN (aO xs) ([110]:Bs)).2.1).2))] ?_);exact x0
   refine ag 1 [6,10,12] [(59,.bool (nM xs&&(jQ (dN (aO xs) ([110]:Bs)).2.1).2))] ?_;refine bP 59 hF (fun y0 hF=>?_) (fun y0 hF=>?_)
   ·refine ag 1 [6,10,12] [(59,.bool true),(60,sv ((dN (aO xs) ([110]:Bs)).2.1))] ?_;obtain ⟨s0,IJ,hF⟩:=hF;have j0:=aT (l:=(dN (aO xs) ([110]:Bs)).2.1) (0:UInt8) IJ;generalize b0:((dN (aO xs) ([110]:Bs)).2.1.getD (Int.toNat 0) 0)=e13 at j0 hF ⊢;let A:=(e13.toNat:Int);refine dZ (af.s (v:=.int .u8 A) (dQ (k:=.i64) (i:=0) (s:=(dN (aO xs) ([110]:Bs)).2.1) (b:=e13) kr kr underlying9 s0 j0) rfl rfl (ag 2 [6,10,12,59] [(63,.bool (A==43))] ?_));refine Ok.a 63 (A==43) rfl (fun k0=>?_) (fun k0=>?_)
    ·replace hF:=hF.1 k0;refine ag 6 [10,12] [(11,.bool true)] ?_;refine bV (Ok.t ?_);subst b0;refine aB 11 (wh xs) (au (au (cK k0) (bn y0)) ((aU hc8).symm)) (gX 12 rfl (show (iv (jQ (dN (aO xs) ([110]:Bs)).2.1).1:Value)=iv (v_ xs) from aA (Value.int .i64) ((aU hc8).symm)) ?_);exact fz hF
    replace hF:=hF.2 k0;refine ag 1 [10,12,59] [(63,.bool false),(64,sv ((dN (aO xs) ([110]:Bs)).2.1))] ?_;refine dZ (af.s (v:=.int .u8 A) (dQ (k:=.i64) (i:=0) (s:=(dN (aO xs) ([110]:Bs)).2.1) (b:=e13) kr kr underlying9 s0 j0) rfl rfl (ag 4 [10,12] [(11,.bool (A==45))] ?_));refine bV (Ok.t ?_);subst b0;refine aB 11 (wh xs) (au (au (bN k0) (bn y0)) ((aU hc8).symm)) (gX 12 rfl (show (iv (jQ (dN (aO xs) ([110]:Bs)).2.1).1:Value)=iv (v_ xs) from aA (Value.int .i64) ((aU hc8).symm)) ?_);exact fz hF
   refine ag 10 [10,12] [(11,.bool false)] ?_;refine aa (aB 11 (wh xs) (au (bZ y0) ((aU hc8).symm)) (gX 12 rfl (show (iv (jQ (dN (aO xs) ([110]:Bs)).2.1).1:Value)=iv (v_ xs) from aA (Value.int .i64) ((aU hc8).symm)) ?_));exact fz hF
  refine Ok.k (Ok.t (aB 11 (wh xs) ((aG hc8).symm) (gX 12 rfl (show (iv 0:Value)=iv (v_ xs) from aA (Value.int .i64) ((aG hc8).symm)) ?_)));exact fz hF
 refine ae (av 6 [(2,iv (um xs)),(3,iv (v_ xs)),(4,.bool (wh xs))] kr (aa (Ok.ret ?_)));exact gZ (vs:=[iv (um xs),iv (v_ xs),.bool (wh xs)]) (.inl rfl) rfl (.cons (.tmp rfl) (.cons (.tmp rfl) (.cons (.tmp rfl) .nil))) (bu w0 g) ⟨um xs,v_ xs,wh xs,rfl,rfl,hF⟩
def abD (s:Bs):Prop:=∃ a b:Int,(-1000≤a∧a≤1000)∧(-1000≤b∧b≤1000)∧s=lY a b
theorem FH {t:Bs}:∀ (x:Bs),(∀ c ∈ x,(!(c==110))=true)→Lib.index (x++110::t) [110]=x.length
 | [],_=>by
  rw [jV,Lib.index,bB (by simp [List.isPrefixOf])]; rfl
 | c::x,h=>by
  have ih:=FH (t:=t) x (fun y hy=>h y (dK _ hy));have hc:=h c (cz ..)
  have hc:¬ (c=110):=by simpa using hc
  rw [iP,Lib.index,aQ (by simp [List.isPrefixOf]; exact fun e=>hc e.symm),ih,aQ (by simp),di];omega
theorem YK {x t:Bs} (h:∀ c ∈ x,(!(c==110))=true):dN (x++110::t) [110]=(x,t,true):=by
 have:=FH (t:=t) x h;unfold dN Lib.cut;rw [this,bB om];simp
theorem O9 {x t:Bs} {n m:Int} (hx:∀ c ∈ x,(!(c==110))=true) (hX:Y7 x n) (hT:Y7 t m) (wx:wX x) (wt:wX t) (h43:t.headD 0=43∨t.headD 0=45):Xl (x++110::t) (fun a b c=>(a,b,c)=(vI x,vI t,true)):=by
 have hlo:aO (x++110::t)=x++110::t:=by rw [aO,uT,jL,show x.map AB=x from hX.low,show t.map AB=t from hT.low]; rfl
 have hc:=YK (t:=t) hx
 have hX0:¬ (x=[]):=fun e=>by have:=hX.one; rw [e] at this; simp at this
 have hT0:¬ (t=[]):=fun e=>by have:=hT.one; rw [e] at this; simp at this
 have l1:=hX.len;have l2:=hT.len
 have hlp:ig (x++110::t):=by show (x++110::t).length≤140737488351232; simp only [bD,di]; omega
 have hcp:P5 (x++110::t) [110]:=by show (x++110::t).length≤1000000; simp only [bD,di]; omega
 have e1:¬ (x++110::t=[111,100,100]):=fun e=>by
  have h1:=hX.n111
  match x,hX0 with
  | c::x,_=>injection e with e1 e2; exact h1 e1
 have e2:¬ (x++110::t=[101,118,101,110]):=fun e=>by
  have h1:=hX.n101
  match x,hX0 with
  | c::x,_=>injection e with e1 e2; exact h1 e1
 have e3:¬ (x=[45]):=hX.n45
 have h0:0<t.length:=by have:=hT.one; omega
 have g:t.getD 0 0=43∨t.getD 0 0=45:=by
  match t,hT0 with
  | c::t,_=>exact h43
 have g':((t[0]'h0).toNat:Int)=43∨((t[0]'h0).toNat:Int)=45:=by
  rw [show t[0]'h0=t.getD 0 0 by simp [h0]]
  rcases g with g | g <;> rw [g] <;> decide
 simp only [Xl,CV,zl,um,nM,wh,v_,hlo,hc,jQ];simp [hlp,hcp,e1,e2,e3,hX0,hT0,wx,wt,h0];exact g'
theorem aiq (s:Bs) (hp:abD s):Xl s (fun a b c=>(a,b,c)=mh s):=by
 obtain ⟨a,b,ha,hb,rfl⟩:=hp
 have hv:∀ x t:Bs,(∀ c ∈ x,(!(c==110))=true)→mh (x++110::t)=(vI x,vI t,true):=fun x t h=>by
  obtain ⟨e1,e2⟩:=xR (p:=fun c=>!(c==110)) (b:=110) dc x t h;unfold mh;rw [e1,e2]; rfl
 have fa:=vG a ha;have fb:=vG b hb;unfold lY
 by_cases h:b<0
 ·rw [bB h,hv _ _ (vE a)];have hB:=MB fb.1;exact O9 (vE a) (MB fa.1) hB ⟨a,ha,.inl rfl⟩ ⟨b,hb,.inl rfl⟩ (.inr (hB.sgn.resolve_right om))
 rw [aQ h,hv _ _ (vE a)];exact O9 (vE a) (MB fa.1) (MB (fb.2 om)) ⟨a,ha,.inl rfl⟩ ⟨b,hb,.inr ⟨om,rfl⟩⟩ (.inl rfl)
theorem aip {g:ak} (xs:Bs) (hG0:bR g 0)  (hp:abD xs):bC prog 225 #[sv xs] g (.tuple #[iv (mh xs).1,iv (mh xs).2.1,.bool (mh xs).2.2]) :=
 (abC xs hG0 _ (aiq xs hp)).gives (by rintro g' H' v _ ⟨r0,r1,r2,rfl,rfl,hK⟩; obtain ⟨rfl,rfl,rfl⟩:r0=(mh xs).1∧r1=(mh xs).2.1∧r2=(mh xs).2.2:=⟨aA (fun z=>z.1) hK,aA (fun z=>z.2.1) hK,aA (fun z=>z.2.2) hK⟩; rfl)
end Go.Proofs.YtdapgmigogpdcaaGreatDoor.Se
namespace Go.Proofs.YtdapgmigogpdcaaGreatDoor.Se
open _root_.Go.Proofs.Tryz Go Go.iT Go.RowKit Go.Shelf Go.Proofs jN BI tO Tk Rp Qu Me Ti
set_option maxHeartbeats 4000000
set_option maxRecDepth 100000
def NK (bW:Int) (K:(TS)→List KT→Prop) (v0:Bs) (z0:List KT) (C7:Bs→List KT→Prop):Prop :=
 vS z0 ([41]:Bs)∧((!(fD z0 ([41]:Bs)).1)=true→(((ah (fD z0 ([41]:Bs)).2).1.1==0)=true→False)∧(((ah (fD z0 ([41]:Bs)).2).1.1==0)=false→(0:Int)≤1∧(1:Int)≤((ah (fD z0 ([41]:Bs)).2).2.length:Int)∧((ah (fD z0 ([41]:Bs)).2).2.length:Int)≤((ah (fD z0 ([41]:Bs)).2).2.length:Int)∧v0.length+(ah (fD z0 ([41]:Bs)).2).1.2.1.length≤maxLen∧C7 (v0++(ah (fD z0 ([41]:Bs)).2).1.2.1) ((ah (fD z0 ([41]:Bs)).2).2.drop (Int.toNat 1))))∧((!(fD z0 ([41]:Bs)).1)=false→abD v0∧((!(mh v0).2.2)=true→False)∧((!(mh v0).2.2)=false→K (gL.mk (bW,([]:Bs),0,([]:Bs),(mh v0).1,(mh v0).2.1) ([])) (fD z0 ([41]:Bs)).2))
def FR (bW:Int) (K:(TS)→List KT→Prop):Nat→Bs→List KT→Prop
 | 0,_,_=>False
 | k+1,v0,z0=>NK bW K v0 z0 (FR bW K k)
def cntF (xr:List KT) (bW:Int) (K:(TS)→List KT→Prop):Prop :=
 ∃ k,FR bW K k ([]:Bs) xr
theorem afb {g:ak} {bH:Nat} {s0:Option Addr} {b0:Nat} (xr:List KT) (bW:Int) (c0:bE g (.slice yK) [.slice s0 xr.length b0] xr) (hG0:bR g 0) (K:(TS)→List KT→Prop)
  (hF:cntF xr bW K):az prog 209 #[pv bH 0,iv bW] g [.blk bH (.cells #[.slice s0 xr.length b0] 70)] (fun g' H' v=>∃ (r0:TS),∃ (kT:List KT),∃ (j0:Option Addr) (x0:Nat),∃ (q0:Option Addr) (k0:Nat),v=.agg (aL r0.lab j0 r0.kids.length x0)∧bE g' (.slice yP) [.slice j0 r0.kids.length x0] r0.kids∧bE g' (.slice yK) [.slice q0 kT.length k0] kT∧H'=[.blk bH (.cells #[.slice q0 kT.length k0] 70)]∧K r0 kT):=by
 refine aP 30 func209 rfl fun w0=>?_;let C:=(#[iv 0,sv ([]:Bs),.int .u8 0,sv ([]:Bs),iv 0,iv 0,.slice none 0 0]:Array Value);refine ae (ai (bI C fun ll=>?_));refine aa (ae (av 1 [(0,pv bH 0),(1,iv bW),(4,pv ll 0),(5,sv ([]:Bs))] kr (aa (aF (Ok.block ?_)))));obtain ⟨k,hF⟩:=hF;refine fQ (fun k a W=>∃ Va:ak,bf w0 g Va∧∃ (v0:Bs) (y0:Option Addr) (u0:Nat) (z0:List KT),bE Va (.slice yK) [.slice y0 z0.length u0] z0∧fC 30 [(0,pv bH 0),(1,iv bW),(4,pv ll 0),(5,sv v0)] a∧dm w0 [.blk ll (.cells C 60),.blk bH (.cells #[.slice y0 z0.length u0] 70)] Va W∧FR bW K k v0 z0) k ?_ ?_
 ·
  exact fun _ _ u v=>⟨g,bu w0 g,([]:Bs),s0,b0,xr,c0,fA u v hF⟩
 clear hF;rintro (_ | k7) _ _ ⟨Va,e0,v0,y0,u0,z0,Nc,q⟩;exact (q.2.2:False).elim;refine jn (fun hF=>?_) _ _ q;replace hG0:=hG0.mono e0.1;refine aF (ae (ag 1 [0,1,4,5] [(9,pv bH 0)] ?_));obtain ⟨hp2,hF⟩:=hF;refine jE [1,0] ?_;refine ai (bS (Ff z0 ([41]:Bs) Nc hp2) fun g3 _ _ hx3 Rw=>?_);obtain ⟨afO,afh,rfl,d0,rfl⟩:=Rw;replace hG0:=hG0.mono hx3.1;let D:=fD z0 ([41]:Bs);refine ag 1 [0,1,4,5] [(11,.bool (! D.1))] ?_;refine aa (aJ hF (fun hc4 hF=>?_) (fun hc4 hF=>?_))
 ·refine Ok.k (Ok.t (Ok.block (aR (ag 2 [0,1,4] [(12,sv v0),(13,pv bH 0)] ?_))));refine ai (bO (args:=#[pv bH 0]) 20 [(0,pv bH 0)] gU func100 rfl rfl rfl rfl (ae (ai (bI zK fun afB=>?_))));refine aa (ae (ag 1 [0] [(2,pv afB 0),(4,pv bH 0)] ?_));refine jE [1,0,2] ?_;refine ai (bS (mZ D.2 d0) fun g6 _ _ hx6 hV6=>?_);obtain ⟨Jh,Jb,rfl,wz,rfl⟩:=hV6;replace hG0:=hG0.mono hx6.1;refine ai (bI zK fun afq=>?_);refine ai (af.w 0 ?_);let A:=ah D.2;refine aa (aF (ae (aj 3 [.e 0] [0,2] [(3,pv afq 0),(8,.bool (A.1.1==0))] ?_)));refine aa (aJ hF (fun hc8 hF=>?_) (fun hc8 hF=>?_))
  ·exact False.elim hF
  refine Ok.k (Ok.t (ae (ag 4 [2,3] [(11,pv bH 0),(14,pv bH 0)] ?_)));refine ai (af.s (v:=.slice Jh A.2.length Jb) (aS 1 rfl rfl underlying67 rfl kr) rfl rfl ?_);obtain ⟨Eo,h19,QX,hF⟩:=hF;let E:=A.2.drop (Int.toNat 1);refine ai (af.jm (e:=yK) (l:=1) (h:=(A.2.length:Int)) rfl underlying67 kr (.inl ⟨_,_,rfl,rfl⟩) (.inr ⟨rfl,rfl⟩) wz Eo h19 QX rfl E (by rw [show (A.2.length:Int).toNat=A.2.length from dR _,iX]) fun a9 c9 hR9=>?_);refine ag 2 [2,3] [(16,.slice a9 E.length c9),(18,pv bH 0)] ?_;refine ai (dA 1 ?_);let B:=(#[iv A.1.1,sv (A.1.2.1),sv (A.1.2.2.1),iv A.1.2.2.2]:Array Value);refine aa (ae (ai (af.s (v:=.agg B) (aZ 0 4 B rfl rfl underlying98 rfl kr kr kr) rfl rfl (ai (af.w 2 ?_)))));refine aa (Ok.ret (bA (vs:=[.agg B]) (.inl rfl) rfl (.cons (.iM 2 4 B rfl rfl underlying98 rfl kr kr kr) .nil) rfl (av 1 [(0,pv bH 0),(1,iv bW),(4,pv ll 0),(12,sv v0),(15,sv (A.1.2.1))] kr ?_)));obtain ⟨hv,hF⟩:=hF;refine ai (af.s (v:=sv (v0++A.1.2.1)) (dz rfl rfl hv) rfl rfl (ag 1 [0,1,4] [(5,sv (v0++A.1.2.1))] ?_));refine bV (bG (Ok.t ?_));exact fun a W hA hW=>⟨k7,nl,g6,((e0.trans hx3).trans hx6),v0++A.1.2.1,a9,c9,E,hR9,hA.sub kr,hW.pick [3,1] _ dc rfl,hF⟩
 refine fw (ay (ay (aM (Ok.t (aF (aR ?_))))));obtain ⟨Dy,hF⟩:=hF;refine aj 9 [.k (aip v0 hG0 Dy)] [0,1,4] [(6,iv (mh v0).1),(7,iv (mh v0).2.1),(8,.bool (mh v0).2.2)] ?_;refine aa (ae (ag 2 [1,4,6,7] [(23,pv bH 0),(24,.bool (mh v0).2.2)] ?_));refine ai (bO (args:=#[pv bH 0,.bool (mh v0).2.2]) 8 [(0,pv bH 0),(1,.bool (mh v0).2.2)] gU func57 rfl rfl rfl rfl (ae (av 2 [(5,.bool (!(mh v0).2.2))] kr (aa (aJ hF (fun acV hF=>?_) (fun acV hF=>?_))))))
 ·exact False.elim hF
 refine Ok.k (bA (vs:=[]) (.inr rfl) rfl .nil rfl (aa (ae (av 4 [(4,pv ll 0),(29,.agg #[iv bW,sv ([]:Bs),.int .u8 0,sv ([]:Bs),iv (mh v0).1,iv (mh v0).2.1,.slice none 0 0])] kr (ai (af.w 1 ?_))))));refine aa (Ok.ret ?_);exact jf 1 [0] (e0.trans hx3) ⟨(gL.mk (bW,([]:Bs),0,([]:Bs),(mh v0).1,(mh v0).2.1) ([])),D.2,none,0,afO,afh,rfl,bE.nil,d0,rfl,hF⟩
def D_ (r:Rd) (k:Int):Prop:=∃ a b us rest,(-1000≤a∧a≤1000)∧(-1000≤b∧b≤1000)∧RunT (lY a b) us∧r=us++clT::rest
theorem Tm {a b:Int} (ha : -1000≤a∧a≤1000) (hb : -1000≤b∧b≤1000):(lY a b).length≤100:=by
 have h1:=(MB (vG a ha).1).len;have h2:=(MB (vG b hb).1).len;unfold lY
 split
 ·simp only [bD,di]; omega
 simp only [bD,di]; omega
theorem aaR (t:Tok) (r:Rd) {s:Bs} (h:t.2.1=s):fD (t::r) s=(true,r):=by
 unfold fD;rw [J8,aQ (by simp [h])]; rfl
theorem WL (t:Tok) (r:Rd) {s:Bs} (h:t.2.1≠s):fD (t::r) s=(false,t::r):=by
 unfold fD;rw [J8,bB (by simpa using h)]
theorem Lh (k:Int) {a b:Int} (ha : -1000≤a∧a≤1000) (hb : -1000≤b∧b≤1000) (rest:Rd) (K:Ts→Rd→Prop) (hK:K (.mk (k,[],0,[],(mh (lY a b)).1,(mh (lY a b)).2.1) []) rest):∀ (us:List Tok) (acc:Bs),acc++(us.map fun t=>t.2.1).flatten=lY a b→(∀ t ∈ us,t.1≠0∧t.2.1≠[41])→FR k K (us.length+1) acc (us++clT::rest)
 | [],acc,h,_=>by
  have h:acc=lY a b:=by simpa using h
  subst h;rw [FR,jV];unfold NK;rw [aaR clT rest rfl];exact ⟨by unfold vS; simp,fun h=>(by cases h),fun _=>⟨⟨a,b,ha,hb,rfl⟩,fun h=>(by cases h),fun _=>hK⟩⟩
 | t::us,acc,h,hu=>by
  obtain ⟨h1,h2⟩:=hu t (cz ..);have hl:=Tm ha hb;rw [← h] at hl;simp only [jL,zV,bD] at hl;have ih:=Lh k ha hb rest K hK us (acc++t.2.1) (by rw [← h]; simp) (fun y hy=>hu y (dK _ hy));rw [FR,iP];unfold NK;rw [WL t _ h2];exact ⟨by unfold vS; simp,fun _=>⟨fun h=>absurd (eq_of_beq h) h1,fun _=>⟨by decide,by show (1:Int)≤((t::(us++clT::rest)).length:Int); rw [di]; omega,lv _,(by show acc.length+t.2.1.length≤9223372036854775807; omega),ih⟩⟩,fun h=>(by cases h)⟩
theorem alg (r:Rd) (k:Int) (hp:D_ r k):cntF r k (fun a b=>(a,b)=mr r k):=by
 obtain ⟨a,b,us,rest,ha,hb,hu,rfl⟩:=hp;refine ⟨_,Lh k ha hb rest _ ?_ us [] hu.1 hu.2⟩;unfold mr;rw [run_read hu]
theorem FT {g:ak} {bH:Nat} {s0:Option Addr} {b0:Nat} (xr:List KT) (bW:Int) (c0:bE g (.slice yK) [.slice s0 xr.length b0] xr) (hG0:bR g 0)  (hp:D_ xr bW):az prog 209 #[pv bH 0,iv bW] g [.blk bH (.cells #[.slice s0 xr.length b0] 70)] (fun g' H' v=>∃ (j0:Option Addr) (x0:Nat),∃ (q0:Option Addr) (k0:Nat),v=.agg #[iv (mr xr bW).1.lab.1,sv ((mr xr bW).1.lab.2.1),.int .u8 (mr xr bW).1.lab.2.2.1,sv ((mr xr bW).1.lab.2.2.2.1),iv (mr xr bW).1.lab.2.2.2.2.1,iv (mr xr bW).1.lab.2.2.2.2.2,.slice j0 (mr xr bW).1.kids.length x0]∧bE g' (.slice yP) [.slice j0 (mr xr bW).1.kids.length x0] (mr xr bW).1.kids∧bE g' (.slice yK) [.slice q0 (mr xr bW).2.length k0] (mr xr bW).2∧H'=[.blk bH (.cells #[.slice q0 (mr xr bW).2.length k0] 70)]) :=
 (afb xr bW c0 hG0 _ (alg xr bW hp)).mono (by rintro g' H' v _ ⟨r0,kT,j0,x0,q0,k0,rfl,xe,X8,rfl,hK⟩; obtain ⟨rfl,rfl⟩:r0=(mr xr bW).1∧kT=(mr xr bW).2:=⟨aA (fun z=>z.1) hK,aA (fun z=>z.2) hK⟩; exact ⟨j0,x0,q0,k0,rfl,xe,X8,rfl⟩)
end Go.Proofs.YtdapgmigogpdcaaGreatDoor.Se
namespace Go.Proofs.YtdapgmigogpdcaaGreatDoor.Se
open _root_.Go.Proofs.Tryz Go Go.iT Go.RowKit Go.Shelf Go.Proofs jN BI tO Tk Rp Qu Me Ti
set_option maxHeartbeats 4000000
set_option maxRecDepth 100000
abbrev fuel (r:Rd):Nat:=8 * r.length+8
def qz (r:Rd):Ts×Rd:=CP (fuel r) r
def fO (r:Rd):Ts×Bool×Rd:=nW (fuel r) r
def mW (r:Rd):List Ts×Rd:=rP (fuel r) r
def iE (r:Rd):Ph×Rd:=Ew (fuel r) r
def ku (r:Rd) (e:Bs):List Ph×Rd:=Dk (fuel r) r e
def qI (r:Rd):Prop:=r.length≤1000∧∀ t ∈ r,t.2.1.length≤1000
abbrev zP:Array Value:=#[.slice none ([]:List (List TS)).length 0,.slice none ([]:List Int).length 0]
theorem qI.tail {t:Tok} {r:Rd} (h:qI (t::r)):qI r:=⟨by have:=h.1; rw [di] at this; omega,fun y hy=>h.2 y (dK _ hy)⟩
theorem qI.app {a r:Rd} (h:qI (a++r)):qI r:=⟨by have:=h.1; rw [bD] at this; omega,fun y hy=>h.2 y (List.mem_append_right _ hy)⟩
theorem qI.head {t:Tok} {r:Rd} (h:qI (t::r)):t.2.1.length≤1000:=h.2 t (cz ..)
def SX (N:Nat) (r:Rd):Prop:=∃ t i ts rest,yh t i=true∧6≤t.lab.1∧RB t (sg 58::ts)∧r=ts++rest∧8 * ts.length+7<N∧qI r
def Mw (N:Nat) (r:Rd):Prop:=(∃ t i ts rest,yh t i=true∧RB t ts∧r=ts++rest∧8 * ts.length+1<N∧qI r)∨(VZ r=true∧0<N)
def Qr (N:Nat) (r:Rd):Prop:=∃ s k ts rest,s≠[]∧ok1 s k=true∧Lx s ts∧VZ rest=true∧r=ts++rest∧8 * ts.length+3<N∧qI r
def QC (N:Nat) (r:Rd):Prop:=∃ p js ts rest,p≠[]∧uk p=true∧(∀ z ∈ js,zw z=true)∧js.length+1=p.length∧Jo p js ts∧xh rest=true∧r=ts++rest∧8 * ts.length+5<N∧qI r
def Kr (N:Nat) (r:Rd) (e:Bs):Prop:=∃ l p js a b fin rest,rV ((p,js)::l)=true∧Jo p js a∧Lv l b∧Y9 e fin rest∧r=a++(b++fin)∧8 * (a.length+b.length)+8<N∧qI r
theorem uB (a b:Rd):fuel (a++b)=8 * (a.length+b.length)+8:=by show 8 * (a++b).length+8=_; rw [bD]
theorem SV {t:Ts} {i:Int} {ts:List Tok} (hi:yh t i=true) (h:RB t (sg 58::ts)) (rest:Rd):qz (ts++rest)=(t,rest):=by
 obtain ⟨-,h2⟩:=zk t i hi _ h;have h3:=h2 rest (fuel (ts++rest)+1) (by rw [uB,di]; omega)
 have e:nW (fuel (ts++rest)+1) (sg 58::(ts++rest))=((CP (fuel (ts++rest)) (ts++rest)).1,true,(CP (fuel (ts++rest)) (ts++rest)).2):=by
  rw [nW];simp [ah]
 rw [iP,e] at h3;have a1:=aA (fun q=>q.1) h3;have a2:=aA (fun q=>q.2.2) h3;exact Prod.ext a1 a2
theorem Mv {t:Ts} {i:Int} {ts:List Tok} (hi:yh t i=true) (h:RB t ts) (rest:Rd):fO (ts++rest)=(t,true,rest) :=
 (zk t i hi _ h).2 rest _ (by rw [uB]; omega)
theorem LZ {s:List Ts} {k:Int} {ts:List Tok} (hi:ok1 s k=true) (h:Lx s ts) {rest:Rd} (hr:VZ rest=true):mW (ts++rest)=(s,rest) :=
 xS (fun t _=>zk t) hi _ h rest hr _ (by rw [uB]; omega)
theorem Mm {p:List (List Ts)} {js:List Int} {ts:List Tok} (ho:uk p=true) (hne:p≠[]) (hj:∀ z ∈ js,zw z=true) (hl:js.length+1=p.length) (h:Jo p js ts) {rest:Rd} (hr:xh rest=true):iE (ts++rest)=((p,js),rest) :=
 J5 (fun _ _ t _=>zk t) ho hne hj hl ts h rest hr _ (by rw [uB]; omega)
theorem vz {l:List Ph} {p:List (List Ts)} {js:List Int} (ho:rV ((p,js)::l)=true):(p≠[]∧js.length+1=p.length)∧uk p=true∧∀ z ∈ js,zw z=true:=by
 obtain ⟨h,q3,q4⟩:=kI ho (cz ..);exact ⟨h,q3,fun z hz=>l7.1 q4 z hz⟩
theorem FJ {l:List Ph} {p:List (List Ts)} {js:List Int} (ho:rV ((p,js)::l)=true) {a:List Tok} (ha:Jo p js a) (w:Rd):bF (a++w)=(false,a++w):=by
 obtain ⟨⟨r1,r2⟩,r3,r4⟩:=vz ho;obtain ⟨y,q,rfl,hy⟩:=xQ r1 r3 ha;exact K6 hy
theorem HZ {l:List Ph} {p:List (List Ts)} {js:List Int} (ho:rV ((p,js)::l)=true) {a b:List Tok} (ha:Jo p js a) (hb:Lv l b) {e:Bs} {fin rest:Rd} (hF:Y9 e fin rest):ku (a++(b++fin)) e=((p,js)::l,rest) :=
 Dj (fun _ _ _ _ t _=>zk t) ho a b ha hb e fin rest hF _ (by rw [FJ ho ha]) _ (by rw [uB,bD]; omega)
theorem Pw {t:Ts} {i:Int} (hi:yh t i=true) (hk:t.lab.1=10∨t.lab.1=11):∃ p js l,t.kids=(p,js)::l∧rV ((p,js)::l)=true:=by
 rw [lW,aH] at hi;have h2:=hi.2;rw [bB (by rcases hk with h | h <;> rw [h] <;> rfl)] at h2;simp only [nV,aH] at h2
 match hl:t.kids with
 | [] =>
  have:=df h2.2;rw [hl] at this;simp at this
 | (p,js)::l=>rw [hl] at h2; exact ⟨p,js,l,rfl,h2.1⟩
def Fp (N:Nat):Prop:=∀ (g:ak) {bH:Nat} {g0:Option Addr} {m0:Nat} (xr:List KT) (K0:bE g (.slice yK) [.slice g0 xr.length m0] xr) (hG0:bR g 0)  (hp:SX N xr),az prog 184 #[pv bH 0] g [.blk bH (.cells #[.slice g0 xr.length m0] 70)] (fun g' H' v=>∃ (V0:Option Addr) (Q0:Nat),∃ (u0:Option Addr) (j0:Nat),v=.agg #[iv (qz xr).1.lab.1,sv ((qz xr).1.lab.2.1),.int .u8 (qz xr).1.lab.2.2.1,sv ((qz xr).1.lab.2.2.2.1),iv (qz xr).1.lab.2.2.2.2.1,iv (qz xr).1.lab.2.2.2.2.2,.slice V0 (qz xr).1.kids.length Q0]∧bE g' (.slice yP) [.slice V0 (qz xr).1.kids.length Q0] (qz xr).1.kids∧bE g' (.slice yK) [.slice u0 (qz xr).2.length j0] (qz xr).2∧H'=[.blk bH (.cells #[.slice u0 (qz xr).2.length j0] 70)])
def Fu (N:Nat):Prop:=∀ (g:ak) {bH:Nat} {g0:Option Addr} {m0:Nat} (xr:List KT) (K0:bE g (.slice yK) [.slice g0 xr.length m0] xr) (hG0:bR g 0)  (hp:Mw N xr),az prog 143 #[pv bH 0] g [.blk bH (.cells #[.slice g0 xr.length m0] 70)] (fun g' H' v=>∃ (V0:Option Addr) (Q0:Nat),∃ (u0:Option Addr) (j0:Nat),v=.tuple #[.agg #[iv (fO xr).1.lab.1,sv ((fO xr).1.lab.2.1),.int .u8 (fO xr).1.lab.2.2.1,sv ((fO xr).1.lab.2.2.2.1),iv (fO xr).1.lab.2.2.2.2.1,iv (fO xr).1.lab.2.2.2.2.2,.slice V0 (fO xr).1.kids.length Q0],.bool (fO xr).2.1]∧bE g' (.slice yP) [.slice V0 (fO xr).1.kids.length Q0] (fO xr).1.kids∧bE g' (.slice yK) [.slice u0 (fO xr).2.2.length j0] (fO xr).2.2∧H'=[.blk bH (.cells #[.slice u0 (fO xr).2.2.length j0] 70)])
def ET (N:Nat):Prop:=∀ (g:ak) {bH:Nat} {g0:Option Addr} {m0:Nat} (xr:List KT) (K0:bE g (.slice yK) [.slice g0 xr.length m0] xr) (hG0:bR g 0)  (hp:Qr N xr),az prog 99 #[pv bH 0] g [.blk bH (.cells #[.slice g0 xr.length m0] 70)] (fun g' H' v=>∃ (V0:Option Addr) (Q0:Nat),∃ (u0:Option Addr) (j0:Nat),v=.slice V0 (mW xr).1.length Q0∧bE g' (.slice yS) [.slice V0 (mW xr).1.length Q0] (mW xr).1∧bE g' (.slice yK) [.slice u0 (mW xr).2.length j0] (mW xr).2∧H'=[.blk bH (.cells #[.slice u0 (mW xr).2.length j0] 70)])
def Fj (N:Nat):Prop:=∀ (g:ak) {bH:Nat} {g0:Option Addr} {m0:Nat} (xr:List KT) (K0:bE g (.slice yK) [.slice g0 xr.length m0] xr) (hG0:bR g 0)  (hp:QC N xr),az prog 55 #[pv bH 0] g [.blk bH (.cells #[.slice g0 xr.length m0] 70)] (fun g' H' v=>∃ (V0:Option Addr) (Q0:Nat),∃ (d1:Option Addr) (e1:Nat),∃ (u0:Option Addr) (j0:Nat),v=.agg #[.slice V0 (iE xr).1.1.length Q0,.slice d1 (iE xr).1.2.length e1]∧bE g' (.slice (.slice yS)) [.slice V0 (iE xr).1.1.length Q0] (iE xr).1.1∧bE g' (.slice yb) [.slice d1 (iE xr).1.2.length e1] (iE xr).1.2∧bE g' (.slice yK) [.slice u0 (iE xr).2.length j0] (iE xr).2∧H'=[.blk bH (.cells #[.slice u0 (iE xr).2.length j0] 70)])
def FC (N:Nat):Prop:=∀ (g:ak) {bH:Nat} {g0:Option Addr} {m0:Nat} (xr:List KT) (gD:Bs) (K0:bE g (.slice yK) [.slice g0 xr.length m0] xr) (hG0:bR g 0)  (hp:Kr N xr gD),az prog 32 #[pv bH 0,sv gD] g [.blk bH (.cells #[.slice g0 xr.length m0] 70)] (fun g' H' v=>∃ (V0:Option Addr) (Q0:Nat),∃ (u0:Option Addr) (j0:Nat),v=.slice V0 (ku xr gD).1.length Q0∧bE g' (.slice yP) [.slice V0 (ku xr gD).1.length Q0] (ku xr gD).1∧bE g' (.slice yK) [.slice u0 (ku xr gD).2.length j0] (ku xr gD).2∧H'=[.blk bH (.cells #[.slice u0 (ku xr gD).2.length j0] 70)])
def ui (xr:List KT):Bool :=
 (((ah xr).1.1==2)&&((ah xr).1.2.1==((ah xr).1.2.2.1++([40]:Bs))))
def O5:Prop :=
 False
def wV (N:Nat) (xr:List KT) (K:(TS)→List KT→Prop):Prop :=
 (ui xr=true→((aO (ah xr).1.2.2.1==([110,116,104,45,99,104,105,108,100]:Bs))=true→D_ ((ah xr).2.drop (Int.toNat 1)) 8∧K (mr ((ah xr).2.drop (Int.toNat 1)) 8).1 (mr ((ah xr).2.drop (Int.toNat 1)) 8).2)∧((aO (ah xr).1.2.2.1==([110,116,104,45,99,104,105,108,100]:Bs))=false→((aO (ah xr).1.2.2.1==([110,116,104,45,108,97,115,116,45,99,104,105,108,100]:Bs))=true→D_ ((ah xr).2.drop (Int.toNat 1)) 9∧K (mr ((ah xr).2.drop (Int.toNat 1)) 9).1 (mr ((ah xr).2.drop (Int.toNat 1)) 9).2)∧((aO (ah xr).1.2.2.1==([110,116,104,45,108,97,115,116,45,99,104,105,108,100]:Bs))=false→((aO (ah xr).1.2.2.1==([110,111,116]:Bs))=true→Kr N ((ah xr).2.drop (Int.toNat 1)) ([41]:Bs)∧K (gL.mk (10,([]:Bs),0,([]:Bs),0,0) (ku ((ah xr).2.drop (Int.toNat 1)) ([41]:Bs)).1) (ku ((ah xr).2.drop (Int.toNat 1)) ([41]:Bs)).2)∧((aO (ah xr).1.2.2.1==([110,111,116]:Bs))=false→((aO (ah xr).1.2.2.1==([105,115]:Bs))=true→Kr N ((ah xr).2.drop (Int.toNat 1)) ([41]:Bs)∧K (gL.mk (11,([]:Bs),0,([]:Bs),0,0) (ku ((ah xr).2.drop (Int.toNat 1)) ([41]:Bs)).1) (ku ((ah xr).2.drop (Int.toNat 1)) ([41]:Bs)).2)∧((aO (ah xr).1.2.2.1==([105,115]:Bs))=false→O5)))))∧(ui xr=false→O5)
def yc (N:Nat) (xr:List KT) (K:(TS)→List KT→Prop):Prop :=
 ((((ah xr).1.1==1)&&((ah xr).1.2.1==(ah xr).1.2.2.1))=true→((aO (ah xr).1.2.2.1==([114,111,111,116]:Bs))=true→K (gL.mk (6,([]:Bs),0,([]:Bs),0,0) ([])) ((ah xr).2.drop (Int.toNat 1)))∧((aO (ah xr).1.2.2.1==([114,111,111,116]:Bs))=false→((aO (ah xr).1.2.2.1==([101,109,112,116,121]:Bs))=true→K (gL.mk (7,([]:Bs),0,([]:Bs),0,0) ([])) ((ah xr).2.drop (Int.toNat 1)))∧((aO (ah xr).1.2.2.1==([101,109,112,116,121]:Bs))=false→((aO (ah xr).1.2.2.1==([102,105,114,115,116,45,99,104,105,108,100]:Bs))=true→K (gL.mk (8,([]:Bs),0,([]:Bs),0,1) ([])) ((ah xr).2.drop (Int.toNat 1)))∧((aO (ah xr).1.2.2.1==([102,105,114,115,116,45,99,104,105,108,100]:Bs))=false→((aO (ah xr).1.2.2.1==([108,97,115,116,45,99,104,105,108,100]:Bs))=true→K (gL.mk (9,([]:Bs),0,([]:Bs),0,1) ([])) ((ah xr).2.drop (Int.toNat 1)))∧((aO (ah xr).1.2.2.1==([108,97,115,116,45,99,104,105,108,100]:Bs))=false→O5)))))∧((((ah xr).1.1==1)&&((ah xr).1.2.1==(ah xr).1.2.2.1))=false→(((ah xr).1.1==2)=true→(ah xr).1.2.2.1.length+([40]:Bs).length≤maxLen∧wV N xr K)∧(((ah xr).1.1==2)=false→wV N xr K))
def J7 (N:Nat) (xr:List KT) (K:(TS)→List KT→Prop):Prop :=
 (((ah xr).1.1==0)=true→False)∧(((ah xr).1.1==0)=false→(0:Int)≤1∧(1:Int)≤((ah xr).2.length:Int)∧((ah xr).2.length:Int)≤((ah xr).2.length:Int)∧ig (ah xr).1.2.2.1∧(((ah xr).1.1==1)=true→yc N xr K)∧(((ah xr).1.1==1)=false→yc N xr K))
theorem abr {g:ak} (N:Nat) (Dv:Fp N) (zA:Fu N) (zx:ET N) (Du:Fj N) (zB:FC N) {bH:Nat} {g0:Option Addr} {m0:Nat} (xr:List KT) (K0:bE g (.slice yK) [.slice g0 xr.length m0] xr) (hG0:bR g 0) (K:(TS)→List KT→Prop)
  (hF:J7 N xr K):az prog 184 #[pv bH 0] g [.blk bH (.cells #[.slice g0 xr.length m0] 70)] (fun g' H' v=>∃ (r0:TS),∃ (kT:List KT),∃ (V0:Option Addr) (Q0:Nat),∃ (u0:Option Addr) (j0:Nat),v=.agg (aL r0.lab V0 r0.kids.length Q0)∧bE g' (.slice yP) [.slice V0 r0.kids.length Q0] r0.kids∧bE g' (.slice yK) [.slice u0 kT.length j0] kT∧H'=[.blk bH (.cells #[.slice u0 kT.length j0] 70)]∧K r0 kT):=by
 refine aP 67 func184 rfl fun w0=>?_;let B:=(#[iv 0,sv ([]:Bs),.int .u8 0,sv ([]:Bs),iv 0,iv 0,.slice none 0 0]:Array Value);refine ae (ai (bI B fun eT=>?_));refine aa (ae (av 1 [(0,pv bH 0),(2,pv eT 0),(5,pv bH 0)] kr (ai (bO (args:=#[pv bH 0]) 20 [(0,pv bH 0)] gU func100 rfl rfl rfl rfl (ae (ai (bI zK fun alU=>?_)))))));refine aa (ae (ag 1 [0] [(2,pv alU 0),(4,pv bH 0)] ?_));refine jE [2,0,1] ?_;refine ai (bS (mZ xr K0) fun g3 _ _ hx3 Rw=>?_);obtain ⟨V2,Q2,rfl,v2,rfl⟩:=Rw;replace hG0:=hG0.mono hx3.1;refine ai (bI zK fun alS=>?_);refine ai (af.w 0 ?_);refine aa (aF (ae (aj 3 [.e 0] [0,2] [(3,pv alS 0),(8,.bool ((ah xr).1.1==0))] ?_)));refine aa (aJ hF (fun jy hF=>?_) (fun jy hF=>?_))
 ·exact False.elim hF
 refine Ok.k (Ok.t (ae (ag 4 [2,3] [(11,pv bH 0),(14,pv bH 0)] ?_)));refine ai (af.s (v:=.slice V2 (ah xr).2.length Q2) (aS 1 rfl rfl underlying67 rfl kr) rfl rfl ?_);obtain ⟨uA,h16,X9,hF⟩:=hF;let A:=(ah xr).2.drop (Int.toNat 1);let L:=((ah xr).2.length:Int);refine ai (af.jm (e:=yK) (l:=1) (h:=L) rfl underlying67 kr (.inl ⟨_,_,rfl,rfl⟩) (.inr ⟨rfl,rfl⟩) v2 uA h16 X9 rfl A (by rw [show L.toNat=(ah xr).2.length from dR _,iX]) fun a6 c6 PD=>?_);refine ag 2 [2,3] [(16,.slice a6 A.length c6),(18,pv bH 0)] ?_;refine ai (dA 1 ?_);let F:=aK (ah xr).1;refine aa (ae (ai (af.s (v:=.agg F) (aZ 0 4 F rfl rfl underlying98 rfl kr kr kr) rfl rfl (ai (af.w 2 ?_)))));refine aa (Ok.ret (bA (vs:=[.agg F]) (.inl rfl) rfl (.cons (.iM 2 4 F rfl rfl underlying98 rfl kr kr kr) .nil) rfl (ai (bI zK fun dD=>?_))));refine ai (af.w 0 ?_);let E:=(.cells #[.slice a6 A.length c6] 70:Obj);refine aa (iK g3 [(2,pv eT 0)] [.blk bH E,.blk eT (.cells B 60)] (O5) ?_ (fun Ya d3 hF=>?_))
 ·
  refine aF (aR ?_);obtain ⟨KV,hF⟩:=hF;let D:=aO (ah xr).1.2.2.1;refine aj 4 [.e 0,.k (EY (ah xr).1.2.2.1 KV)] [] [(0,pv bH 0),(2,pv eT 0),(3,pv dD 0),(4,sv D)] ?_;let G:=(ah xr).1.2.1==(ah xr).1.2.2.1;let C:=((ah xr).1.1==1)&&G;refine aa (Ok.block (iK g3 [(0,pv bH 0),(2,pv eT 0),(3,pv dD 0),(4,sv D),(10,.bool C)] [.blk dD (.cells F 98),.blk bH E,.blk eT (.cells B 60)] (yc N xr K) ?_ (fun gj9 K1 hF=>?_)))
  ·
   refine aR (aj 4 [.e 0] [0,2,3,4] [(14,.bool ((ah xr).1.1==1))] ?_);refine bP 14 hF (fun k2 hF=>?_) (fun k2 hF=>?_)
   ·refine aj 7 [.e 0,.e 0] [0,2,3,4] [(10,.bool G)] ?_;refine aa (aB 10 C (bn k2) ?_);exact fg hF
   refine ag 7 [0,2,3,4] [(10,.bool false)] ?_;refine aa (aB 10 C (bZ k2) ?_);exact fg hF
  replace PD:=PD.mono K1.1;replace hG0:=hG0.mono K1.1;refine aJ hF (fun mq hF=>?_) (fun mq hF=>?_)
  ·refine ae (ag 1 [2] [(21,sv D)] ?_);refine aa (Ok.block (ae (aj 2 [] [2,21] [(22,.bool (aO (ah xr).1.2.2.1==([114,111,111,116]:Bs)))] ?_)));refine aa (aJ hF (fun y2 hF=>?_) (fun y2 hF=>?_))
   ·refine ae (ag 1 [2] [(24,.agg #[iv 6,sv ([]:Bs),.int .u8 0,sv ([]:Bs),iv 0,iv 0,.slice none 0 0])] ?_);refine ai (af.w 2 ?_);refine aa (Ok.ret (aV (aV (aC ?_))));exact jf 2 [1] (hx3.trans K1) ⟨(gL.mk (6,([]:Bs),0,([]:Bs),0,0) ([])),A,none,0,a6,c6,rfl,bE.nil,PD,rfl,hF⟩
   refine ae (aj 2 [] [2,21] [(25,.bool (aO (ah xr).1.2.2.1==([101,109,112,116,121]:Bs)))] ?_);refine aa (aJ hF (fun G2 hF=>?_) (fun G2 hF=>?_))
   ·refine ae (ag 1 [2] [(27,.agg #[iv 7,sv ([]:Bs),.int .u8 0,sv ([]:Bs),iv 0,iv 0,.slice none 0 0])] ?_);refine ai (af.w 2 ?_);refine aa (Ok.ret (aV (aV (aC ?_))));exact jf 2 [1] (hx3.trans K1) ⟨(gL.mk (7,([]:Bs),0,([]:Bs),0,0) ([])),A,none,0,a6,c6,rfl,bE.nil,PD,rfl,hF⟩
   refine ae (aj 2 [] [2,21] [(28,.bool (aO (ah xr).1.2.2.1==([102,105,114,115,116,45,99,104,105,108,100]:Bs)))] ?_);refine aa (aJ hF (fun P1 hF=>?_) (fun P1 hF=>?_))
   ·refine ae (ag 1 [2] [(30,.agg #[iv 8,sv ([]:Bs),.int .u8 0,sv ([]:Bs),iv 0,iv 1,.slice none 0 0])] ?_);refine ai (af.w 2 ?_);refine aa (Ok.ret (aV (aV (aC ?_))));exact jf 2 [1] (hx3.trans K1) ⟨(gL.mk (8,([]:Bs),0,([]:Bs),0,1) ([])),A,none,0,a6,c6,rfl,bE.nil,PD,rfl,hF⟩
   refine ae (aj 2 [] [2] [(31,.bool (aO (ah xr).1.2.2.1==([108,97,115,116,45,99,104,105,108,100]:Bs)))] ?_);refine aa (aJ hF (fun H2 hF=>?_) (fun H2 hF=>?_))
   ·refine ae (ag 1 [2] [(33,.agg #[iv 9,sv ([]:Bs),.int .u8 0,sv ([]:Bs),iv 0,iv 1,.slice none 0 0])] ?_);refine ai (af.w 2 ?_);refine aa (Ok.ret (aV (aV (aC ?_))));exact jf 2 [1] (hx3.trans K1) ⟨(gL.mk (9,([]:Bs),0,([]:Bs),0,1) ([])),A,none,0,a6,c6,rfl,bE.nil,PD,rfl,hF⟩
   refine Ok.k (bG (bG (Ok.t ?_)));exact fun _ _ u v=>⟨gj9,K1,fA u v hF⟩
  refine iK gj9 [(0,pv bH 0),(2,pv eT 0),(4,sv D),(34,.bool (ui xr))] [.blk bH E,.blk eT (.cells B 60)] (wV N xr K) ?_ (fun e3 Y1 hF=>?_)
  ·
   refine aR (aj 4 [.e 0] [0,2,3,4] [(38,.bool ((ah xr).1.1==2))] ?_);refine bP 38 hF (fun M2 hF=>?_) (fun M2 hF=>?_)
   ·refine aj 3 [.e 0] [0,2,4] [(38,.bool true),(40,sv ((ah xr).1.2.1)),(41,pv dD 2)] ?_;refine dZ (af.s (v:=sv ((ah xr).1.2.2.1)) (aS 0 rfl rfl underlying9 rfl kr) rfl rfl ?_);obtain ⟨hv,hF⟩:=hF;let J:=(ah xr).1.2.2.1++([40]:Bs);refine dZ (af.s (v:=sv J) (dz rfl rfl hv) rfl rfl (aj 3 [] [0,2,4] [(34,.bool ((ah xr).1.2.1==J))] ?_));refine aa (aB 34 (ui xr) (bn M2) ?_);exact fg hF
   refine ag 8 [0,2,4] [(34,.bool false)] ?_;refine aa (aB 34 (ui xr) (bZ M2) ?_);exact fg hF
  replace PD:=PD.mono Y1.1;replace hG0:=hG0.mono Y1.1;refine aJ hF (fun N2 hF=>?_) (fun N2 hF=>?_)
  ·refine ae (ag 1 [0,2] [(46,sv D)] ?_);refine aa (Ok.block (ae (aj 2 [] [0,2,46] [(47,.bool (aO (ah xr).1.2.2.1==([110,116,104,45,99,104,105,108,100]:Bs)))] ?_)));refine aa (aJ hF (fun Ir hF=>?_) (fun Ir hF=>?_))
   ·refine ae (ag 1 [2] [(49,pv bH 0)] ?_);obtain ⟨M6,hF⟩:=hF;refine ai (bS (FT A 8 PD hG0 M6) fun g17 _ _ f3 ada=>?_);obtain ⟨ams,alM,ZZ,ZY,rfl,adD,UW,rfl⟩:=ada;replace hG0:=hG0.mono f3.1;refine ai (af.w 1 ?_);refine aa (Ok.ret (aV (aV (aC ?_))));exact jf 1 [0] (((hx3.trans K1).trans Y1).trans f3) ⟨(mr A 8).1,(mr A 8).2,ams,alM,ZZ,ZY,rfl,adD,UW,rfl,hF⟩
   refine ae (aj 2 [] [0,2,46] [(51,.bool (aO (ah xr).1.2.2.1==([110,116,104,45,108,97,115,116,45,99,104,105,108,100]:Bs)))] ?_);refine aa (aJ hF (fun f1 hF=>?_) (fun f1 hF=>?_))
   ·refine ae (ag 1 [2] [(53,pv bH 0)] ?_);obtain ⟨O2,hF⟩:=hF;refine ai (bS (FT A 9 PD hG0 O2) fun g20 _ _ D1 P2=>?_);obtain ⟨j2,x2,amn,alI,rfl,R1,adA,rfl⟩:=P2;replace hG0:=hG0.mono D1.1;refine ai (af.w 1 ?_);refine aa (Ok.ret (aV (aV (aC ?_))));exact jf 1 [0] (((hx3.trans K1).trans Y1).trans D1) ⟨(mr A 9).1,(mr A 9).2,j2,x2,amn,alI,rfl,R1,adA,rfl,hF⟩
   refine ae (aj 2 [] [0,2,46] [(55,.bool (aO (ah xr).1.2.2.1==([110,111,116]:Bs)))] ?_);refine aa (aJ hF (fun hc21 hF=>?_) (fun hc21 hF=>?_))
   ·refine ae (ag 1 [2] [(57,pv bH 0)] ?_);obtain ⟨acC,hF⟩:=hF;refine ai (bS (zB _ A ([41]:Bs) PD hG0 acC) fun g23 _ _ m3 apM=>?_);obtain ⟨S2,B2,aml,alG,rfl,adz,ady,rfl⟩:=apM;replace hG0:=hG0.mono m3.1;let H:=ku A ([41]:Bs);refine ag 1 [2] [(59,.agg #[iv 10,sv ([]:Bs),.int .u8 0,sv ([]:Bs),iv 0,iv 0,.slice S2 H.1.length B2])] ?_;refine ai (af.w 1 ?_);refine aa (Ok.ret (aV (aV (aC ?_))));exact jf 1 [0] (((hx3.trans K1).trans Y1).trans m3) ⟨(gL.mk (10,([]:Bs),0,([]:Bs),0,0) H.1),H.2,S2,B2,aml,alG,rfl,adz,ady,rfl,hF⟩
   refine ae (aj 2 [] [0,2] [(60,.bool (aO (ah xr).1.2.2.1==([105,115]:Bs)))] ?_);refine aa (aJ hF (fun hc24 hF=>?_) (fun hc24 hF=>?_))
   ·refine ae (ag 1 [2] [(62,pv bH 0)] ?_);obtain ⟨M4,hF⟩:=hF;refine ai (bS (zB _ A ([41]:Bs) PD hG0 M4) fun g26 _ _ n3 ac9=>?_);obtain ⟨C2,D2,amj,alE,rfl,Nf,adw,rfl⟩:=ac9;let I:=ku A ([41]:Bs);refine ag 1 [2] [(64,.agg #[iv 11,sv ([]:Bs),.int .u8 0,sv ([]:Bs),iv 0,iv 0,.slice C2 I.1.length D2])] ?_;refine ai (af.w 1 ?_);refine aa (Ok.ret (aV (aV (aC ?_))));exact jf 1 [0] (((hx3.trans K1).trans Y1).trans n3) ⟨(gL.mk (11,([]:Bs),0,([]:Bs),0,0) I.1),I.2,C2,D2,amj,alE,rfl,Nf,adw,rfl,hF⟩
   refine Ok.k (bG (bG (Ok.t ?_)));exact fun _ _ u v=>⟨e3,K1.trans Y1,fA u v hF⟩
  refine Ok.k (bG (Ok.t ?_));exact fun _ _ u v=>⟨e3,K1.trans Y1,fA u v hF⟩
 exact False.elim hF
theorem aif (r:Rd):¬ SX 0 r:=fun ⟨_,_,_,_,_,_,_,_,h,_⟩=>absurd h (iN _)
theorem aie (N:Nat) (r:Rd) (h:SX (N+1) r):J7 N r (fun a b=>(a,b)=qz r):=by
 obtain ⟨t,i,ts,rest,hi,h6,hts,rfl,hN,hB⟩:=h;rw [SV hi hts];have hi':=hi;rw [lW,aH] at hi';have hf:=nk hi'.1;obtain ⟨hab,-,-⟩:=H7 hi'.1;rw [lD] at hts
 rcases kinds hf with e | e | e | e | e | e | e | e | e | e | e
 iterate 5 exact absurd h6 om
 ·rw [JB e] at hts;obtain rfl:=(xA hts).2;have ht:=lT hi om om om;rw [e,hf.un om] at ht
  have hl:aO sV=[114,111,111,116]:=by decide +kernel
  have hp:ig sV:=by unfold ig; decide +kernel
  simp [J7,yc,ui,ah,hl,hp,ht];omega
 ·rw [JA e] at hts;obtain rfl:=(xA hts).2;have ht:=lT hi om om om;rw [e,hf.un om] at ht
  have hl:aO nS=[101,109,112,116,121]:=by decide +kernel
  have hp:ig nS:=by unfold ig; decide +kernel
  simp [J7,yc,ui,ah,hl,hp,ht];omega
 ·rw [Jz e] at hts;obtain ⟨us,Ak,h⟩:=hts;obtain rfl:=(xA h).2;have h2:=hi'.2;rw [aQ (by rw [e]; decide)] at h2;have zF:t.kids=[]:=iO (by have:=eq_of_beq h2; omega);have ho:t.lab.2.2.1=0:=oh fun ho=>absurd (hf.op ho).1 om;have ht:gL.mk (8,[],0,[],t.lab.2.2.2.2.1,t.lab.2.2.2.2.2) []=t:=mk_eq (ni e (hf.un om) ho (hf.val ho) rfl rfl) zF
  have hl:aO Ob=[110,116,104,45,99,104,105,108,100]:=by decide +kernel
  have hp:ig Ob:=by unfold ig; decide +kernel
  have hr:=run_read Ak rest;have hv:=Bf hab.1 hab.2;have hc:D_ (us++clT::rest) 8:=⟨_,_,us,rest,hab.1,hab.2,Ak,rfl⟩;simp [J7,yc,ui,wV,ah,hl,hp,hc,mr,hr,hv,ht,ma];omega
 ·rw [Jy e] at hts;obtain ⟨us,Ak,h⟩:=hts;obtain rfl:=(xA h).2;have h2:=hi'.2;rw [aQ (by rw [e]; decide)] at h2;have zF:t.kids=[]:=iO (by have:=eq_of_beq h2; omega);have ho:t.lab.2.2.1=0:=oh fun ho=>absurd (hf.op ho).1 om;have ht:gL.mk (9,[],0,[],t.lab.2.2.2.2.1,t.lab.2.2.2.2.2) []=t:=mk_eq (ni e (hf.un om) ho (hf.val ho) rfl rfl) zF
  have hl:aO Oa=[110,116,104,45,108,97,115,116,45,99,104,105,108,100]:=by decide +kernel
  have hp:ig Oa:=by unfold ig; decide +kernel
  have hr:=run_read Ak rest;have hv:=Bf hab.1 hab.2;have hc:D_ (us++clT::rest) 9:=⟨_,_,us,rest,hab.1,hab.2,Ak,rfl⟩;simp [J7,yc,ui,wV,ah,hl,hp,hc,mr,hr,hv,ht,ma];omega
 ·rw [Cb e] at hts;obtain ⟨us,Ak,h⟩:=hts;obtain rfl:=(xA h).2;have ho:t.lab.2.2.1=0:=oh fun ho=>absurd (hf.op ho).1 om;have hA:=hf.ab om;have ht:gL.mk (10,[],0,[],0,0) t.kids=t:=mk_eq (ni e (hf.un om) ho (hf.val ho) hA.1 hA.2) rfl
  have hl:aO xJ=[110,111,116]:=by decide +kernel
  have hp:ig xJ:=by unfold ig; decide +kernel
  obtain ⟨p,js,l,hk,hok⟩:=Pw hi (.inl e);rw [hk,Rj] at Ak;obtain ⟨a,b,ha,hb,rfl⟩:=Ak
  have hB':qI (a++(b++clT::rest)):=by simpa using hB.tail
  have hr:=HZ hok ha hb (e:=[41]) (fin:=clT::rest) (rest:=rest) (.inr ⟨rfl,rfl⟩);have hL:Kr N (a++(b++clT::rest)) [41]:=⟨l,p,js,a,b,clT::rest,rest,hok,ha,hb,.inr ⟨rfl,rfl⟩,rfl,by simp at hN; omega,hB'⟩;rw [hk] at ht;simp [J7,yc,ui,wV,ah,hl,hp,hr,hL,ht,ma];omega
 rw [Ca e] at hts;obtain ⟨us,Ak,h⟩:=hts;obtain rfl:=(xA h).2;have ho:t.lab.2.2.1=0:=oh fun ho=>absurd (hf.op ho).1 om;have hA:=hf.ab om;have ht:gL.mk (11,[],0,[],0,0) t.kids=t:=mk_eq (ni e (hf.un om) ho (hf.val ho) hA.1 hA.2) rfl
 have hl:aO Qk=[105,115]:=by decide +kernel
 have hp:ig Qk:=by unfold ig; decide +kernel
 obtain ⟨p,js,l,hk,hok⟩:=Pw hi (.inr e);rw [hk,Rj] at Ak;obtain ⟨a,b,ha,hb,rfl⟩:=Ak
 have hB':qI (a++(b++clT::rest)):=by simpa using hB.tail
 have hr:=HZ hok ha hb (e:=[41]) (fin:=clT::rest) (rest:=rest) (.inr ⟨rfl,rfl⟩);have hL:Kr N (a++(b++clT::rest)) [41]:=⟨l,p,js,a,b,clT::rest,rest,hok,ha,hb,.inr ⟨rfl,rfl⟩,rfl,by simp at hN; omega,hB'⟩;rw [hk] at ht;simp [J7,yc,ui,wV,ah,hl,hp,hr,hL,ht,ma];omega
def rU (N:Nat) (xr:List KT) (K:(TS)→Bool→List KT→Prop):Prop :=
 (((ah xr).1.2.1==([42]:Bs))=true→(((ah (ah xr).2).1.1==0)=true→False)∧(((ah (ah xr).2).1.1==0)=false→(0:Int)≤1∧(1:Int)≤((ah (ah xr).2).2.length:Int)∧((ah (ah xr).2).2.length:Int)≤((ah (ah xr).2).2.length:Int)∧K (gL.mk (1,([]:Bs),0,([]:Bs),0,0) ([])) true ((ah (ah xr).2).2.drop (Int.toNat 1))))∧(((ah xr).1.2.1==([42]:Bs))=false→(((ah xr).1.1==1)=true→(((ah (ah xr).2).1.1==0)=true→False)∧(((ah (ah xr).2).1.1==0)=false→(0:Int)≤1∧(1:Int)≤((ah (ah xr).2).2.length:Int)∧((ah (ah xr).2).2.length:Int)≤((ah (ah xr).2).2.length:Int)∧(((ah (ah xr).2).1.1==1)=true→([]:Bs).length+(ah (ah xr).2).1.2.2.1.length≤maxLen∧(((ah (ah xr).2).1.2.1==(([]:Bs)++(ah (ah xr).2).1.2.2.1))=true→sD (ah (ah xr).2).1.2.2.1∧((!(eB (ah (ah xr).2).1.2.2.1))=true→False)∧((!(eB (ah (ah xr).2).1.2.2.1))=false→ig (ah (ah xr).2).1.2.2.1∧K (gL.mk (2,(aO (ah (ah xr).2).1.2.2.1),0,([]:Bs),0,0) ([])) true ((ah (ah xr).2).2.drop (Int.toNat 1))))∧(((ah (ah xr).2).1.2.1==(([]:Bs)++(ah (ah xr).2).1.2.2.1))=false→False))∧(((ah (ah xr).2).1.1==1)=false→False)))∧(((ah xr).1.1==1)=false→(((ah xr).1.1==4)=true→(((ah (ah xr).2).1.1==0)=true→False)∧(((ah (ah xr).2).1.1==0)=false→(0:Int)≤1∧(1:Int)≤((ah (ah xr).2).2.length:Int)∧((ah (ah xr).2).2.length:Int)≤((ah (ah xr).2).2.length:Int)∧(((ah (ah xr).2).1.1==4)=true→([35]:Bs).length+(ah (ah xr).2).1.2.2.1.length≤maxLen∧(((ah (ah xr).2).1.2.1==(([35]:Bs)++(ah (ah xr).2).1.2.2.1))=true→sD (ah (ah xr).2).1.2.2.1∧((!(eB (ah (ah xr).2).1.2.2.1))=true→False)∧((!(eB (ah (ah xr).2).1.2.2.1))=false→K (gL.mk (3,(ah (ah xr).2).1.2.2.1,0,([]:Bs),0,0) ([])) true ((ah (ah xr).2).2.drop (Int.toNat 1))))∧(((ah (ah xr).2).1.2.1==(([35]:Bs)++(ah (ah xr).2).1.2.2.1))=false→False))∧(((ah (ah xr).2).1.1==4)=false→False)))∧(((ah xr).1.1==4)=false→(((ah xr).1.2.1==([46]:Bs))=true→(((ah (ah xr).2).1.1==0)=true→False)∧(((ah (ah xr).2).1.1==0)=false→(0:Int)≤1∧(1:Int)≤((ah (ah xr).2).2.length:Int)∧((ah (ah xr).2).2.length:Int)≤((ah (ah xr).2).2.length:Int)∧(((ah ((ah (ah xr).2).2.drop (Int.toNat 1))).1.1==0)=true→False)∧(((ah ((ah (ah xr).2).2.drop (Int.toNat 1))).1.1==0)=false→(0:Int)≤1∧(1:Int)≤((ah ((ah (ah xr).2).2.drop (Int.toNat 1))).2.length:Int)∧((ah ((ah (ah xr).2).2.drop (Int.toNat 1))).2.length:Int)≤((ah ((ah (ah xr).2).2.drop (Int.toNat 1))).2.length:Int)∧(((ah ((ah (ah xr).2).2.drop (Int.toNat 1))).1.1==1)=true→([]:Bs).length+(ah ((ah (ah xr).2).2.drop (Int.toNat 1))).1.2.2.1.length≤maxLen∧(((ah ((ah (ah xr).2).2.drop (Int.toNat 1))).1.2.1==(([]:Bs)++(ah ((ah (ah xr).2).2.drop (Int.toNat 1))).1.2.2.1))=true→sD (ah ((ah (ah xr).2).2.drop (Int.toNat 1))).1.2.2.1∧((!(eB (ah ((ah (ah xr).2).2.drop (Int.toNat 1))).1.2.2.1))=true→False)∧((!(eB (ah ((ah (ah xr).2).2.drop (Int.toNat 1))).1.2.2.1))=false→K (gL.mk (4,(ah ((ah (ah xr).2).2.drop (Int.toNat 1))).1.2.2.1,0,([]:Bs),0,0) ([])) true ((ah ((ah (ah xr).2).2.drop (Int.toNat 1))).2.drop (Int.toNat 1))))∧(((ah ((ah (ah xr).2).2.drop (Int.toNat 1))).1.2.1==(([]:Bs)++(ah ((ah (ah xr).2).2.drop (Int.toNat 1))).1.2.2.1))=false→False))∧(((ah ((ah (ah xr).2).2.drop (Int.toNat 1))).1.1==1)=false→False))))∧(((ah xr).1.2.1==([46]:Bs))=false→(((ah xr).1.2.1==([91]:Bs))=true→(((ah (ah xr).2).1.1==0)=true→False)∧(((ah (ah xr).2).1.1==0)=false→(0:Int)≤1∧(1:Int)≤((ah (ah xr).2).2.length:Int)∧((ah (ah xr).2).2.length:Int)≤((ah (ah xr).2).2.length:Int)∧VL ((ah (ah xr).2).2.drop (Int.toNat 1))∧K (mY ((ah (ah xr).2).2.drop (Int.toNat 1))).1 true (mY ((ah (ah xr).2).2.drop (Int.toNat 1))).2))∧(((ah xr).1.2.1==([91]:Bs))=false→(((ah xr).1.2.1==([58]:Bs))=true→(((ah (ah xr).2).1.1==0)=true→False)∧(((ah (ah xr).2).1.1==0)=false→(0:Int)≤1∧(1:Int)≤((ah (ah xr).2).2.length:Int)∧((ah (ah xr).2).2.length:Int)≤((ah (ah xr).2).2.length:Int)∧SX N ((ah (ah xr).2).2.drop (Int.toNat 1))∧K (qz ((ah (ah xr).2).2.drop (Int.toNat 1))).1 true (qz ((ah (ah xr).2).2.drop (Int.toNat 1))).2))∧(((ah xr).1.2.1==([58]:Bs))=false→K (gL.mk (0,([]:Bs),0,([]:Bs),0,0) ([])) false (ah xr).2))))))
theorem abw {g:ak} (N:Nat) (Dv:Fp N) (zA:Fu N) (zx:ET N) (Du:Fj N) (zB:FC N) {bH:Nat} {g0:Option Addr} {m0:Nat} (xr:List KT) (K0:bE g (.slice yK) [.slice g0 xr.length m0] xr) (hG0:bR g 0) (K:(TS)→Bool→List KT→Prop)
  (hF:rU N xr K):az prog 143 #[pv bH 0] g [.blk bH (.cells #[.slice g0 xr.length m0] 70)] (fun g' H' v=>∃ (r0:TS),∃ (r1:Bool),∃ (kT:List KT),∃ (V0:Option Addr) (Q0:Nat),∃ (u0:Option Addr) (j0:Nat),v=.tuple #[.agg (aL r0.lab V0 r0.kids.length Q0),.bool r1]∧bE g' (.slice yP) [.slice V0 r0.kids.length Q0] r0.kids∧bE g' (.slice yK) [.slice u0 kT.length j0] kT∧H'=[.blk bH (.cells #[.slice u0 kT.length j0] 70)]∧K r0 r1 kT):=by
 refine aP 61 func143 rfl fun w0=>?_;let C:=(#[iv 0,sv ([]:Bs),.int .u8 0,sv ([]:Bs),iv 0,iv 0,.slice none 0 0]:Array Value);refine ae (ai (bI C fun eT=>?_));refine av 1 [(0,pv bH 0),(2,pv eT 0)] kr (aa (aF (ae (ag 1 [0,2] [(5,pv bH 0)] ?_))));refine jE [1,0] ?_;refine ai (bS (mZ xr K0) fun g2 _ _ hx2 hV2=>?_);obtain ⟨o3,p3,rfl,i1,rfl⟩:=hV2;replace hG0:=hG0.mono hx2.1;refine ai (bI zK fun ll=>?_);refine ai (af.w 0 ?_);refine aa (Ok.block (ae (aj 4 [.e 0] [0,2] [(4,pv ll 0),(7,.bool ((ah xr).1.2.1==([42]:Bs)))] ?_)));refine aa (aJ hF (fun hc4 hF=>?_) (fun hc4 hF=>?_))
 ·refine ae (ag 1 [2] [(11,pv bH 0)] ?_);refine ai (bO (args:=#[pv bH 0]) 20 [(0,pv bH 0)] gU func100 rfl rfl rfl rfl (ae (ai (bI zK fun afC=>?_))));refine aa (ae (av 1 [(0,pv bH 0),(2,pv afC 0),(4,pv bH 0)] kr (jE [2,0,1,3] ?_)));refine ai (bS (mZ (ah xr).2 i1) fun g6 _ _ hx6 hV6=>?_);obtain ⟨Jh,Jb,rfl,wz,rfl⟩:=hV6;replace hG0:=hG0.mono hx6.1;refine ai (bI zK fun afr=>?_);refine ai (af.w 0 ?_);refine aa (aF (ae (aj 3 [.e 0] [0,2] [(3,pv afr 0),(8,.bool ((pp xr).1.1==0))] ?_)));refine aa (aJ hF (fun hc8 hF=>?_) (fun hc8 hF=>?_))
  ·exact False.elim hF
  refine Ok.k (Ok.t (ae (ag 4 [2,3] [(11,pv bH 0),(14,pv bH 0)] ?_)));refine ai (af.s (v:=.slice Jh (pp xr).2.length Jb) (aS 1 rfl rfl underlying67 rfl kr) rfl rfl ?_);obtain ⟨Eo,h19,QX,hF⟩:=hF;let D:=(pp xr).2.drop (Int.toNat 1);let Z:=((pp xr).2.length:Int);refine ai (af.jm (e:=yK) (l:=1) (h:=Z) rfl underlying67 kr (.inl ⟨_,_,rfl,rfl⟩) (.inr ⟨rfl,rfl⟩) wz Eo h19 QX rfl D (by rw [show Z.toNat=(pp xr).2.length from dR _,iX]) fun a9 c9 hR9=>?_);refine ag 2 [2,3] [(16,.slice a9 D.length c9),(18,pv bH 0)] ?_;refine ai (dA 1 ?_);let O:=aK (pp xr).1;refine aa (ae (ai (af.s (v:=.agg O) (aZ 0 4 O rfl rfl underlying98 rfl kr kr kr) rfl rfl (ai (af.w 2 ?_)))));refine aa (Ok.ret (bA (vs:=[.agg O]) (.inl rfl) rfl (.cons (.iM 2 4 O rfl rfl underlying98 rfl kr kr kr) .nil) rfl (aa (ae (av 1 [(2,pv eT 0),(13,.agg #[iv 1,sv ([]:Bs),.int .u8 0,sv ([]:Bs),iv 0,iv 0,.slice none 0 0])] kr (ai (af.w 4 ?_)))))));refine ag 1 [2] [(3,.bool true)] ?_;refine aa (Ok.ret (aV (aC ?_)));exact Em 4 [1] (hx2.trans hx6) ⟨(gL.mk (1,([]:Bs),0,([]:Bs),0,0) ([])),true,D,none,0,a9,c9,rfl,bE.nil,hR9,rfl,hF⟩
 refine ae (aj 4 [.e 0] [0,2,4] [(14,.bool ((ah xr).1.1==1))] ?_);refine aa (aJ hF (fun y2 hF=>?_) (fun y2 hF=>?_))
 ·refine ae (ag 2 [2] [(18,pv bH 0),(19,pv bH 0)] ?_);refine ai (bO (args:=#[pv bH 0]) 20 [(0,pv bH 0)] gU func100 rfl rfl rfl rfl (ae (ai (bI zK fun afz=>?_))));refine aa (ae (av 1 [(0,pv bH 0),(2,pv afz 0),(4,pv bH 0)] kr (jE [2,0,1,3] ?_)));refine ai (bS (mZ (ah xr).2 i1) fun g12 _ _ g1 R2=>?_);obtain ⟨Z1,V1,rfl,G0,rfl⟩:=R2;replace hG0:=hG0.mono g1.1;refine ai (bI zK fun afo=>?_);refine ai (af.w 0 ?_);refine aa (aF (ae (aj 3 [.e 0] [0,2] [(3,pv afo 0),(8,.bool ((pp xr).1.1==0))] ?_)));refine aa (aJ hF (fun N2 hF=>?_) (fun N2 hF=>?_))
  ·exact False.elim hF
  refine Ok.k (Ok.t (ae (ag 4 [2,3] [(11,pv bH 0),(14,pv bH 0)] ?_)));refine ai (af.s (v:=.slice Z1 (pp xr).2.length V1) (aS 1 rfl rfl underlying67 rfl kr) rfl rfl ?_);obtain ⟨IL,Nl,Ni,hF⟩:=hF;let E:=(pp xr).2.drop (Int.toNat 1);let A₁:=((pp xr).2.length:Int);refine ai (af.jm (e:=yK) (l:=1) (h:=A₁) rfl underlying67 kr (.inl ⟨_,_,rfl,rfl⟩) (.inr ⟨rfl,rfl⟩) G0 IL Nl Ni rfl E (by rw [show A₁.toNat=(pp xr).2.length from dR _,iX]) fun a15 c15 aqn=>?_);refine ag 2 [2,3] [(16,.slice a15 E.length c15),(18,pv bH 0)] ?_;refine ai (dA 1 ?_);let P:=aK (pp xr).1;refine aa (ae (ai (af.s (v:=.agg P) (aZ 0 4 P rfl rfl underlying98 rfl kr kr kr) rfl rfl (ai (af.w 2 ?_)))));refine aa (Ok.ret (bA (vs:=[.agg P]) (.inl rfl) rfl (.cons (.iM 2 4 P rfl rfl underlying98 rfl kr kr kr) .nil) rfl (ai (bO (args:=#[pv bH 0,.agg P,iv 1,sv ([]:Bs)]) 31 [(0,pv bH 0),(1,.agg P),(2,iv 1),(3,sv ([]:Bs))] gU func182 rfl rfl rfl rfl (ae (ai (cO fun s2=>?_)))))));refine av 1 [(0,pv bH 0),(2,iv 1),(3,sv ([]:Bs)),(5,pv s2 0)] kr (aa (ae (aj 6 [.e 0] [3,5] [(9,pv bH 0),(14,.bool ((pp xr).1.1==1))] ?_)));refine bP 14 hF (fun hc17 hF=>?_) (fun hc17 hF=>?_)
  ·refine aj 4 [.e 0] [5,9] [(14,.bool true),(16,sv ((pp xr).1.2.1)),(17,sv ([]:Bs)),(18,pv s2 2)] ?_;let V:=(pp xr).1.2.2.1;refine dZ (af.s (v:=sv V) (aS 0 rfl rfl underlying9 rfl kr) rfl rfl ?_);obtain ⟨hv,hF⟩:=hF;let Y:=([]:Bs)++(pp xr).1.2.2.1;refine dZ (af.s (v:=sv Y) (dz rfl rfl hv) rfl rfl (aj 3 [] [5,9] [(23,.bool ((pp xr).1.2.1==Y))] ?_));refine bP 23 hF (fun f1 hF=>?_) (fun f1 hF=>?_)
   ·obtain ⟨O2,hF⟩:=hF;let J:=eB (pp xr).1.2.2.1;refine aj 4 [.e 0,.k (EW (pp xr).1.2.2.1 hG0 O2)] [5,9] [(27,.bool J)] ?_;refine ai (bO (args:=#[pv bH 0,.bool J]) 8 [(0,pv bH 0),(1,.bool J)] gU func57 rfl rfl rfl rfl (ae (av 2 [(5,.bool (! J))] kr (aa (aJ hF (fun Na hF=>?_) (fun Na hF=>?_))))))
    ·exact False.elim hF
    refine Ok.k (bA (vs:=[]) (.inr rfl) rfl .nil rfl (aa (ae (aj 3 [.e 0] [] [(8,sv V)] ?_))));refine aa (Ok.ret (bA (vs:=[sv V]) (.inl rfl) rfl (.cons (.tmp rfl) .nil) rfl ?_));obtain ⟨Uz,hF⟩:=hF;refine aj 2 [.k (EY (pp xr).1.2.2.1 Uz)] [] [(2,pv eT 0),(23,.agg #[iv 2,sv (aO (pp xr).1.2.2.1),.int .u8 0,sv ([]:Bs),iv 0,iv 0,.slice none 0 0])] ?_;refine ai (af.w 5 ?_);refine ag 1 [2] [(3,.bool true)] ?_;refine aa (Ok.ret (aV (aC ?_)));exact Em 5 [2] (hx2.trans g1) ⟨(gL.mk (2,aO (pp xr).1.2.2.1,0,([]:Bs),0,0) ([])),true,E,none,0,a15,c15,rfl,bE.nil,aqn,rfl,hF⟩
   refine ag 4 [5,9] [(27,.bool false)] ?_;refine ai (bO (args:=#[pv bH 0,.bool false]) 8 [(0,pv bH 0),(1,.bool false)] gU func57 rfl rfl rfl rfl (ae (av 2 [(5,.bool true)] kr (aa (Ok.c (b:=true) rfl (fun _=>?_) (fun h=>by cases h))))));exact False.elim hF
  refine ag 13 [5,9] [(27,.bool false)] ?_;refine ai (bO (args:=#[pv bH 0,.bool false]) 8 [(0,pv bH 0),(1,.bool false)] gU func57 rfl rfl rfl rfl (ae (av 2 [(5,.bool true)] kr (aa (Ok.c (b:=true) rfl (fun _=>?_) (fun h=>by cases h))))));exact False.elim hF
 refine ae (aj 4 [.e 0] [0,2,4] [(24,.bool ((ah xr).1.1==4))] ?_);refine aa (aJ hF (fun T2 hF=>?_) (fun T2 hF=>?_))
 ·refine ae (ag 2 [2] [(28,pv bH 0),(29,pv bH 0)] ?_);refine ai (bO (args:=#[pv bH 0]) 20 [(0,pv bH 0)] gU func100 rfl rfl rfl rfl (ae (ai (bI zK fun E1=>?_))));refine aa (ae (av 1 [(0,pv bH 0),(2,pv E1 0),(4,pv bH 0)] kr (jE [2,0,1,3] ?_)));refine ai (bS (mZ (ah xr).2 i1) fun g24 _ _ F1 L2=>?_);obtain ⟨B1,C1,rfl,T1,rfl⟩:=L2;replace hG0:=hG0.mono F1.1;refine ai (bI zK fun G1=>?_);refine ai (af.w 0 ?_);refine aa (aF (ae (aj 3 [.e 0] [0,2] [(3,pv G1 0),(8,.bool ((pp xr).1.1==0))] ?_)));refine aa (aJ hF (fun M_ hF=>?_) (fun M_ hF=>?_))
  ·exact False.elim hF
  refine Ok.k (Ok.t (ae (ag 4 [2,3] [(11,pv bH 0),(14,pv bH 0)] ?_)));refine ai (af.s (v:=.slice B1 (pp xr).2.length C1) (aS 1 rfl rfl underlying67 rfl kr) rfl rfl ?_);obtain ⟨U7,h127,adU,hF⟩:=hF;let F:=(pp xr).2.drop (Int.toNat 1);let B₁:=((pp xr).2.length:Int);refine ai (af.jm (e:=yK) (l:=1) (h:=B₁) rfl underlying67 kr (.inl ⟨_,_,rfl,rfl⟩) (.inr ⟨rfl,rfl⟩) T1 U7 h127 adU rfl F (by rw [show B₁.toNat=(pp xr).2.length from dR _,iX]) fun a27 YN aqb=>?_);refine ag 2 [2,3] [(16,.slice a27 F.length YN),(18,pv bH 0)] ?_;refine ai (dA 1 ?_);let Q:=aK (pp xr).1;refine aa (ae (ai (af.s (v:=.agg Q) (aZ 0 4 Q rfl rfl underlying98 rfl kr kr kr) rfl rfl (ai (af.w 2 ?_)))));refine aa (Ok.ret (bA (vs:=[.agg Q]) (.inl rfl) rfl (.cons (.iM 2 4 Q rfl rfl underlying98 rfl kr kr kr) .nil) rfl (ai (bO (args:=#[pv bH 0,.agg Q,iv 4,sv ([35]:Bs)]) 31 [(0,pv bH 0),(1,.agg Q),(2,iv 4),(3,sv ([35]:Bs))] gU func182 rfl rfl rfl rfl (ae (ai (cO fun b2=>?_)))))));refine av 1 [(0,pv bH 0),(2,iv 4),(3,sv ([35]:Bs)),(5,pv b2 0)] kr (aa (ae (aj 6 [.e 0] [3,5] [(9,pv bH 0),(14,.bool ((pp xr).1.1==4))] ?_)));refine bP 14 hF (fun hc29 hF=>?_) (fun hc29 hF=>?_)
  ·refine aj 4 [.e 0] [5,9] [(14,.bool true),(16,sv ((pp xr).1.2.1)),(17,sv ([35]:Bs)),(18,pv b2 2)] ?_;let W:=(pp xr).1.2.2.1;refine dZ (af.s (v:=sv W) (aS 0 rfl rfl underlying9 rfl kr) rfl rfl ?_);obtain ⟨hv,hF⟩:=hF;let X:=([35]:Bs)++(pp xr).1.2.2.1;refine dZ (af.s (v:=sv X) (dz rfl rfl hv) rfl rfl (aj 3 [] [5,9] [(23,.bool ((pp xr).1.2.1==X))] ?_));refine bP 23 hF (fun apf hF=>?_) (fun apf hF=>?_)
   ·obtain ⟨Ux,hF⟩:=hF;let L:=eB (pp xr).1.2.2.1;refine aj 4 [.e 0,.k (EW (pp xr).1.2.2.1 hG0 Ux)] [5,9] [(27,.bool L)] ?_;refine ai (bO (args:=#[pv bH 0,.bool L]) 8 [(0,pv bH 0),(1,.bool L)] gU func57 rfl rfl rfl rfl (ae (av 2 [(5,.bool (! L))] kr (aa (aJ hF (fun hc32 hF=>?_) (fun hc32 hF=>?_))))))
    ·exact False.elim hF
    refine Ok.k (bA (vs:=[]) (.inr rfl) rfl .nil rfl (aa (ae (aj 3 [.e 0] [] [(8,sv W)] ?_))));refine aa (Ok.ret (bA (vs:=[sv W]) (.inl rfl) rfl (.cons (.tmp rfl) .nil) rfl (av 1 [(2,pv eT 0),(32,.agg #[iv 3,sv W,.int .u8 0,sv ([]:Bs),iv 0,iv 0,.slice none 0 0])] kr (ai (af.w 5 ?_)))));refine ag 1 [2] [(3,.bool true)] ?_;refine aa (Ok.ret (aV (aC ?_)));exact Em 5 [2] (hx2.trans F1) ⟨(gL.mk (3,(pp xr).1.2.2.1,0,([]:Bs),0,0) ([])),true,F,none,0,a27,YN,rfl,bE.nil,aqb,rfl,hF⟩
   refine ag 4 [5,9] [(27,.bool false)] ?_;refine ai (bO (args:=#[pv bH 0,.bool false]) 8 [(0,pv bH 0),(1,.bool false)] gU func57 rfl rfl rfl rfl (ae (av 2 [(5,.bool true)] kr (aa (Ok.c (b:=true) rfl (fun _=>?_) (fun h=>by cases h))))));exact False.elim hF
  refine ag 13 [5,9] [(27,.bool false)] ?_;refine ai (bO (args:=#[pv bH 0,.bool false]) 8 [(0,pv bH 0),(1,.bool false)] gU func57 rfl rfl rfl rfl (ae (av 2 [(5,.bool true)] kr (aa (Ok.c (b:=true) rfl (fun _=>?_) (fun h=>by cases h))))));exact False.elim hF
 refine ae (aj 4 [.e 0] [0,2,4] [(33,.bool ((ah xr).1.2.1==([46]:Bs)))] ?_);refine aa (aJ hF (fun L1 hF=>?_) (fun L1 hF=>?_))
 ·refine ae (ag 1 [0,2] [(37,pv bH 0)] ?_);refine ai (bO (args:=#[pv bH 0]) 20 [(0,pv bH 0)] gU func100 rfl rfl rfl rfl (ae (ai (bI zK fun afw=>?_))));refine aa (ae (ag 1 [0] [(2,pv afw 0),(4,pv bH 0)] ?_));refine jE [2,0,1,3] ?_;refine ai (bS (mZ (ah xr).2 i1) fun g35 _ _ t3 apI=>?_);obtain ⟨ame,alz,rfl,adt,rfl⟩:=apI;replace hG0:=hG0.mono t3.1;refine ai (bI zK fun afm=>?_);refine ai (af.w 0 ?_);refine aa (aF (ae (aj 3 [.e 0] [0,2] [(3,pv afm 0),(8,.bool ((pp xr).1.1==0))] ?_)));refine aa (aJ hF (fun c2 hF=>?_) (fun c2 hF=>?_))
  ·exact False.elim hF
  refine Ok.k (Ok.t (ae (ag 4 [2,3] [(11,pv bH 0),(14,pv bH 0)] ?_)));refine ai (af.s (v:=.slice ame (pp xr).2.length alz) (aS 1 rfl rfl underlying67 rfl kr) rfl rfl ?_);obtain ⟨aed,ad2,adT,hF⟩:=hF;let G:=(pp xr).2.drop (Int.toNat 1);let C₁:=((pp xr).2.length:Int);refine ai (af.jm (e:=yK) (l:=1) (h:=C₁) rfl underlying67 kr (.inl ⟨_,_,rfl,rfl⟩) (.inr ⟨rfl,rfl⟩) adt aed ad2 adT rfl G (by rw [show C₁.toNat=(pp xr).2.length from dR _,iX]) fun a38 c38 ap2=>?_);refine ag 2 [2,3] [(16,.slice a38 G.length c38),(18,pv bH 0)] ?_;refine ai (dA 1 ?_);let R:=aK (pp xr).1;refine aa (ae (ai (af.s (v:=.agg R) (aZ 0 4 R rfl rfl underlying98 rfl kr kr kr) rfl rfl (ai (af.w 2 ?_)))));refine aa (Ok.ret (bA (vs:=[.agg R]) (.inl rfl) rfl (.cons (.iM 2 4 R rfl rfl underlying98 rfl kr kr kr) .nil) rfl (aa (ae (av 2 [(2,pv eT 0),(39,pv bH 0),(40,pv bH 0)] kr (ai (bO (args:=#[pv bH 0]) 20 [(0,pv bH 0)] gU func100 rfl rfl rfl rfl (ae (ai (bI zK fun afu=>?_))))))))));refine aa (ae (av 1 [(0,pv bH 0),(2,pv afu 0),(4,pv bH 0)] kr (jE [2,0,1,3,4,5] ?_)));refine ai (bS (mZ G ap2) fun g40 _ _ a3 apG=>?_);obtain ⟨amc,alv,rfl,adq,rfl⟩:=apG;replace hG0:=hG0.mono a3.1;refine ai (bI zK fun afl=>?_);refine ai (af.w 0 ?_);let A:=ah G;refine aa (aF (ae (aj 3 [.e 0] [0,2] [(3,pv afl 0),(8,.bool (A.1.1==0))] ?_)));refine aa (aJ hF (fun apc hF=>?_) (fun apc hF=>?_))
  ·exact False.elim hF
  refine Ok.k (Ok.t (ae (ag 4 [2,3] [(11,pv bH 0),(14,pv bH 0)] ?_)));refine ai (af.s (v:=.slice amc A.2.length alv) (aS 1 rfl rfl underlying67 rfl kr) rfl rfl ?_);obtain ⟨U5,adZ,adS,hF⟩:=hF;let M:=A.2.drop (Int.toNat 1);refine ai (af.jm (e:=yK) (l:=1) (h:=(A.2.length:Int)) rfl underlying67 kr (.inl ⟨_,_,rfl,rfl⟩) (.inr ⟨rfl,rfl⟩) adq U5 adZ adS rfl M (by rw [show (A.2.length:Int).toNat=A.2.length from dR _,iX]) fun a43 c43 ap0=>?_);refine ag 2 [2,3] [(16,.slice a43 M.length c43),(18,pv bH 0)] ?_;refine ai (dA 1 ?_);let B:=(#[iv A.1.1,sv (A.1.2.1),sv (A.1.2.2.1),iv A.1.2.2.2]:Array Value);refine aa (ae (ai (af.s (v:=.agg B) (aZ 0 4 B rfl rfl underlying98 rfl kr kr kr) rfl rfl (ai (af.w 2 ?_)))));refine aa (Ok.ret (bA (vs:=[.agg B]) (.inl rfl) rfl (.cons (.iM 2 4 B rfl rfl underlying98 rfl kr kr kr) .nil) rfl (ai (bO (args:=#[pv bH 0,.agg B,iv 1,sv ([]:Bs)]) 31 [(0,pv bH 0),(1,.agg B),(2,iv 1),(3,sv ([]:Bs))] gU func182 rfl rfl rfl rfl (ae (ai (cO fun d2=>?_)))))));refine av 1 [(0,pv bH 0),(2,iv 1),(3,sv ([]:Bs)),(5,pv d2 0)] kr (aa (ae (aj 6 [.e 0] [3,5] [(9,pv bH 0),(14,.bool (A.1.1==1))] ?_)));refine bP 14 hF (fun acS hF=>?_) (fun acS hF=>?_)
  ·refine aj 4 [.e 0] [5,9] [(14,.bool true),(16,sv (A.1.2.1)),(17,sv ([]:Bs)),(18,pv d2 2)] ?_;refine dZ (af.s (v:=sv (A.1.2.2.1)) (aS 0 rfl rfl underlying9 rfl kr) rfl rfl ?_);obtain ⟨hv,hF⟩:=hF;refine dZ (af.s (v:=sv (([]:Bs)++A.1.2.2.1)) (dz rfl rfl hv) rfl rfl (aj 3 [] [5,9] [(23,.bool (A.1.2.1==(([]:Bs)++A.1.2.2.1)))] ?_));refine bP 23 hF (fun apa hF=>?_) (fun apa hF=>?_)
   ·obtain ⟨aom,hF⟩:=hF;let U:=eB A.1.2.2.1;refine aj 4 [.e 0,.k (EW A.1.2.2.1 hG0 aom)] [5,9] [(27,.bool U)] ?_;refine ai (bO (args:=#[pv bH 0,.bool U]) 8 [(0,pv bH 0),(1,.bool U)] gU func57 rfl rfl rfl rfl (ae (av 2 [(5,.bool (! U))] kr (aa (aJ hF (fun ao9 hF=>?_) (fun ao9 hF=>?_))))))
    ·exact False.elim hF
    refine Ok.k (bA (vs:=[]) (.inr rfl) rfl .nil rfl (aa (ae (aj 3 [.e 0] [] [(8,sv (A.1.2.2.1))] ?_))));refine aa (Ok.ret (bA (vs:=[sv (A.1.2.2.1)]) (.inl rfl) rfl (.cons (.tmp rfl) .nil) rfl (av 1 [(2,pv eT 0),(43,.agg #[iv 4,sv (A.1.2.2.1),.int .u8 0,sv ([]:Bs),iv 0,iv 0,.slice none 0 0])] kr (ai (af.w 7 ?_)))));refine ag 1 [2] [(3,.bool true)] ?_;refine aa (Ok.ret (aV (aC ?_)));exact Em 7 [2] ((hx2.trans t3).trans a3) ⟨(gL.mk (4,A.1.2.2.1,0,([]:Bs),0,0) ([])),true,M,none,0,a43,c43,rfl,bE.nil,ap0,rfl,hF⟩
   refine ag 4 [5,9] [(27,.bool false)] ?_;refine ai (bO (args:=#[pv bH 0,.bool false]) 8 [(0,pv bH 0),(1,.bool false)] gU func57 rfl rfl rfl rfl (ae (av 2 [(5,.bool true)] kr (aa (Ok.c (b:=true) rfl (fun _=>?_) (fun h=>by cases h))))));exact False.elim hF
  refine ag 13 [5,9] [(27,.bool false)] ?_;refine ai (bO (args:=#[pv bH 0,.bool false]) 8 [(0,pv bH 0),(1,.bool false)] gU func57 rfl rfl rfl rfl (ae (av 2 [(5,.bool true)] kr (aa (Ok.c (b:=true) rfl (fun _=>?_) (fun h=>by cases h))))));exact False.elim hF
 refine ae (aj 4 [.e 0] [0,2,4] [(44,.bool ((ah xr).1.2.1==([91]:Bs)))] ?_);refine aa (aJ hF (fun ao8 hF=>?_) (fun ao8 hF=>?_))
 ·refine ae (ag 1 [0,2] [(48,pv bH 0)] ?_);refine ai (bO (args:=#[pv bH 0]) 20 [(0,pv bH 0)] gU func100 rfl rfl rfl rfl (ae (ai (bI zK fun aft=>?_))));refine aa (ae (ag 1 [0] [(2,pv aft 0),(4,pv bH 0)] ?_));refine jE [2,0,1,3] ?_;refine ai (bS (mZ (ah xr).2 i1) fun g51 _ _ i3 apD=>?_);obtain ⟨amb,alu,rfl,ado,rfl⟩:=apD;replace hG0:=hG0.mono i3.1;refine ai (bI zK fun afk=>?_);refine ai (af.w 0 ?_);refine aa (aF (ae (aj 3 [.e 0] [0,2] [(3,pv afk 0),(8,.bool ((pp xr).1.1==0))] ?_)));refine aa (aJ hF (fun acR hF=>?_) (fun acR hF=>?_))
  ·exact False.elim hF
  refine Ok.k (Ok.t (ae (ag 4 [2,3] [(11,pv bH 0),(14,pv bH 0)] ?_)));refine ai (af.s (v:=.slice amb (pp xr).2.length alu) (aS 1 rfl rfl underlying67 rfl kr) rfl rfl ?_);obtain ⟨arh,aq0,aqL,hF⟩:=hF;let H:=(pp xr).2.drop (Int.toNat 1);let D₁:=((pp xr).2.length:Int);refine ai (af.jm (e:=yK) (l:=1) (h:=D₁) rfl underlying67 kr (.inl ⟨_,_,rfl,rfl⟩) (.inr ⟨rfl,rfl⟩) ado arh aq0 aqL rfl H (by rw [show D₁.toNat=(pp xr).2.length from dR _,iX]) fun a54 c54 apZ=>?_);refine ag 2 [2,3] [(16,.slice a54 H.length c54),(18,pv bH 0)] ?_;refine ai (dA 1 ?_);let S:=aK (pp xr).1;refine aa (ae (ai (af.s (v:=.agg S) (aZ 0 4 S rfl rfl underlying98 rfl kr kr kr) rfl rfl (ai (af.w 2 ?_)))));refine aa (Ok.ret (bA (vs:=[.agg S]) (.inl rfl) rfl (.cons (.iM 2 4 S rfl rfl underlying98 rfl kr kr kr) .nil) rfl (aa (ae (av 1 [(2,pv eT 0),(50,pv bH 0)] kr ?_)))));obtain ⟨aoj,hF⟩:=hF;refine jE [1,0,2,3,4] ?_;refine ai (bS (al0 H apZ hG0 aoj) fun g56 _ _ Z3 apC=>?_);obtain ⟨ama,als,al9,alr,rfl,adm,adl,rfl⟩:=apC;replace hG0:=hG0.mono Z3.1;refine ai (af.w 4 ?_);refine ag 1 [2] [(3,.bool true)] ?_;refine aa (Ok.ret (aV (aC ?_)));exact Em 4 [0] ((hx2.trans i3).trans Z3) ⟨(mY H).1,true,(mY H).2,ama,als,al9,alr,rfl,adm,adl,rfl,hF⟩
 refine ae (aj 4 [.e 0] [0,2] [(52,.bool ((ah xr).1.2.1==([58]:Bs)))] ?_);refine aa (aJ hF (fun ao6 hF=>?_) (fun ao6 hF=>?_))
 ·refine ae (ag 1 [0,2] [(56,pv bH 0)] ?_);refine ai (bO (args:=#[pv bH 0]) 20 [(0,pv bH 0)] gU func100 rfl rfl rfl rfl (ae (ai (bI zK fun afs=>?_))));refine aa (ae (ag 1 [0] [(2,pv afs 0),(4,pv bH 0)] ?_));refine jE [2,0,1,3] ?_;refine ai (bS (mZ (ah xr).2 i1) fun g59 _ _ V3 apB=>?_);obtain ⟨al8,alq,rfl,adk,rfl⟩:=apB;replace hG0:=hG0.mono V3.1;refine ai (bI zK fun afj=>?_);refine ai (af.w 0 ?_);refine aa (aF (ae (aj 3 [.e 0] [0,2] [(3,pv afj 0),(8,.bool ((pp xr).1.1==0))] ?_)));refine aa (aJ hF (fun ao5 hF=>?_) (fun ao5 hF=>?_))
  ·exact False.elim hF
  refine Ok.k (Ok.t (ae (ag 4 [2,3] [(11,pv bH 0),(14,pv bH 0)] ?_)));refine ai (af.s (v:=.slice al8 (pp xr).2.length alq) (aS 1 rfl rfl underlying67 rfl kr) rfl rfl ?_);obtain ⟨ard,aqY,aqK,hF⟩:=hF;let I:=(pp xr).2.drop (Int.toNat 1);let E₁:=((pp xr).2.length:Int);refine ai (af.jm (e:=yK) (l:=1) (h:=E₁) rfl underlying67 kr (.inl ⟨_,_,rfl,rfl⟩) (.inr ⟨rfl,rfl⟩) adk ard aqY aqK rfl I (by rw [show E₁.toNat=(pp xr).2.length from dR _,iX]) fun a62 c62 apY=>?_);refine ag 2 [2,3] [(16,.slice a62 I.length c62),(18,pv bH 0)] ?_;refine ai (dA 1 ?_);let T:=aK (pp xr).1;refine aa (ae (ai (af.s (v:=.agg T) (aZ 0 4 T rfl rfl underlying98 rfl kr kr kr) rfl rfl (ai (af.w 2 ?_)))));refine aa (Ok.ret (bA (vs:=[.agg T]) (.inl rfl) rfl (.cons (.iM 2 4 T rfl rfl underlying98 rfl kr kr kr) .nil) rfl (aa (ae (av 1 [(2,pv eT 0),(58,pv bH 0)] kr ?_)))));obtain ⟨aoh,hF⟩:=hF;refine jE [1,0,2,3,4] ?_;refine ai (bS (Dv _ I apY hG0 aoh) fun g64 _ _ Q3 apA=>?_);obtain ⟨al6,alo,al5,aln,rfl,adj,adi,rfl⟩:=apA;refine ai (af.w 4 ?_);refine ag 1 [2] [(3,.bool true)] ?_;refine aa (Ok.ret (aV (aC ?_)));exact Em 4 [0] ((hx2.trans V3).trans Q3) ⟨(qz I).1,true,(qz I).2,al6,alo,al5,aln,rfl,adj,adi,rfl,hF⟩
 refine Ok.k (bG (Ok.t (ae (ag 1 [2] [(60,.agg C)] ?_))));refine ai (af.w 2 ?_);refine ag 1 [2] [(3,.bool false)] ?_;refine aa (Ok.ret ?_);exact Em 2 [1] hx2 ⟨(gL.mk (0,([]:Bs),0,([]:Bs),0,0) ([])),false,(ah xr).2,none,0,o3,p3,rfl,bE.nil,i1,rfl,hF⟩
theorem aik (r:Rd):¬ Mw 0 r:=fun h=>by
 rcases h with ⟨_,_,_,_,_,_,_,h,_⟩ | ⟨_,h⟩
 ·exact absurd h (iN _)
 exact absurd h (iN _)
theorem aij (N:Nat) (r:Rd) (h:Mw (N+1) r):rU N r (fun a b c=>(a,b,c)=fO r):=by
 rcases h with ⟨t,i,ts,rest,hi,hts,rfl,hN,hB⟩ | ⟨hn,h0⟩
 ·rw [Mv hi hts];have K3:=hts;have hi':=hi;rw [lW,aH] at hi';have hf:=nk hi'.1
  have n0:2≤t.lab.1→t.lab.1≤5→t.lab.2.1≠[42]:=fun a b e=>by
   have:=hf.name a b;rw [e] at this;exact absurd this dk
  have pss:∀ {us:List Tok},ts=sg 58::us→6≤t.lab.1→SX N (us++rest)∧qz (us++rest)=(t,rest):=fun {us} e h6=>by
   subst e;exact ⟨⟨t,i,us,rest,hi,h6,K3,rfl,by simp at hN; omega,hB.tail⟩,SV hi K3 rest⟩
  rw [lD] at hts
  rcases kinds hf with e | e | e | e | e | e | e | e | e | e | e
  ·rw [Ox e] at hts; subst hts;have ht:=lT hi om om om;rw [e,hf.un om] at ht;simp [rU,ah,ht];omega
  ·rw [Ow e] at hts; subst hts;have ht:=lT hi om om om;rw [e] at ht;have hn:nY t.lab.2.1:=⟨hf.name om om,hB.head⟩;simp [rU,ah,ht,n0 om om,hf.low (.inl e),hn.1,hn.cut,hn.lo,hn.ml];omega
  ·rw [Ov e] at hts; subst hts;have ht:=lT hi om om om;rw [e] at ht
   have hl:t.lab.2.1.length+1≤1000:=by have:=hB.head; simpa using this
   have hn:nY t.lab.2.1:=⟨hf.name om om,om⟩;simp [rU,ah,ht,hn.1,hn.cut,hn.lo,ma];omega
  ·rw [Ou e] at hts; subst hts;have ht:=lT hi om om om;rw [e] at ht;have hn:nY t.lab.2.1:=⟨hf.name om om,hB.tail.head⟩;simp [rU,ah,ht,hn.1,hn.cut,hn.lo,hn.ml];omega
  ·rw [JC e] at hts;have h2:=hi'.2;rw [aQ (by rw [e]; decide)] at h2;have zF:t.kids=[]:=iO (by have:=eq_of_beq h2; omega);have hA:=hf.ab om
   by_cases h0:(t.lab.2.2.1==0)=true
   ·rw [bB h0] at hts; subst hts;have ho:t.lab.2.2.1=0:=eq_of_beq h0;have ht:gL.mk (5,t.lab.2.1,0,[],0,0) []=t:=mk_eq (ni e rfl ho (hf.val ho) hA.1 hA.2) zF;have hn:nY t.lab.2.1:=⟨hf.name om om,hB.tail.head⟩;have hP:VL (wd t.lab.2.1::(11,[93],[],0)::rest):=⟨_,rest,hn,hf.low (.inr e),.inl rfl⟩;simp [rU,ah,mY,ht,hP];omega
   rw [aQ h0] at hts; subst hts;have hz:=GQ (hf.op (by simpa using h0)).2;have ht:gL.mk (5,t.lab.2.1,t.lab.2.2.1,t.lab.2.2.2.1,0,0) []=t:=mk_eq (ni e rfl rfl rfl hA.1 hA.2) zF;have hn:nY t.lab.2.1:=⟨hf.name om om,hB.tail.head⟩;have hP:VL (wd t.lab.2.1::(S_ t.lab.2.2.1++(5,Er t.lab.2.2.2.1,t.lab.2.2.2.1,0)::(11,[93],[],0)::rest)):=⟨_,rest,hn,hf.low (.inr e),.inr ⟨_,_,hz,rfl⟩⟩
   have hr:mY (wd t.lab.2.1::(S_ t.lab.2.2.1++(5,Er t.lab.2.2.2.1,t.lab.2.2.2.1,0)::(11,[93],[],0)::rest))=(t,rest):=by
    rcases hz with hz | hz | hz | hz | hz | hz
    all_goals (rw [hz] at ht ⊢; simp [mY,S_,oq,ht])
   simp [rU,ah,hr,hP];omega
  ·rw [JB e] at hts;obtain ⟨q1,q2⟩:=pss hts om;subst hts;generalize hW:[wd sV]++rest=W at q1 q2;rw [iP,hW];simp [rU,ah,q1,q2];omega
  ·rw [JA e] at hts;obtain ⟨q1,q2⟩:=pss hts om;subst hts;generalize hW:[wd nS]++rest=W at q1 q2;rw [iP,hW];simp [rU,ah,q1,q2];omega
  ·rw [Jz e] at hts;obtain ⟨us,-,hts⟩:=hts;obtain ⟨q1,q2⟩:=pss hts om;subst hts;generalize hW:(Am Ob::(us++[clT]))++rest=W at q1 q2;rw [iP,hW];simp [rU,ah,q1,q2];omega
  ·rw [Jy e] at hts;obtain ⟨us,-,hts⟩:=hts;obtain ⟨q1,q2⟩:=pss hts om;subst hts;generalize hW:(Am Oa::(us++[clT]))++rest=W at q1 q2;rw [iP,hW];simp [rU,ah,q1,q2];omega
  ·rw [Cb e] at hts;obtain ⟨us,-,hts⟩:=hts;obtain ⟨q1,q2⟩:=pss hts om;subst hts;generalize hW:(Am xJ::(us++[clT]))++rest=W at q1 q2;rw [iP,hW];simp [rU,ah,q1,q2];omega
  rw [Ca e] at hts;obtain ⟨us,-,hts⟩:=hts;obtain ⟨q1,q2⟩:=pss hts om;subst hts;generalize hW:(Am Qk::(us++[clT]))++rest=W at q1 q2;rw [iP,hW];simp [rU,ah,q1,q2];omega
 have e:fO r=(Zn,false,r):=Mt hn _;rw [e]
 rcases Kb hn with rfl | ⟨q,rfl | rfl | rfl⟩
 all_goals simp [rU,ah,Zn]
def Gf (N:Nat) (K:(List TS)→List KT→Prop) (H1:Bool) (Y0:Int) (o0:Bs) (e0:Int) (b0:Bs) (x0:Int) (s0:Int) (t0:List PH) (y0:List KT) (a0:List TS) (C9:Bool→Int→Bs→Int→Bs→Int→Int→List PH→List KT→List TS→Prop):Prop :=
 (H1=true→(a0++([gL.mk (Y0,o0,e0,b0,x0,s0) t0]:List TS)).length≤1599289640401∧Mw N y0∧C9 (fO y0).2.1 ((fO y0).1.lab.1) ((fO y0).1.lab.2.1) ((fO y0).1.lab.2.2.1) ((fO y0).1.lab.2.2.2.1) ((fO y0).1.lab.2.2.2.2.1) ((fO y0).1.lab.2.2.2.2.2) ((fO y0).1.kids) (fO y0).2.2 (a0++([gL.mk (Y0,o0,e0,b0,x0,s0) t0]:List TS)))∧(H1=false→((!(decide ((a0.length:Int)>0)))=true→False)∧((!(decide ((a0.length:Int)>0)))=false→K a0 y0))
def z_ (N:Nat) (K:(List TS)→List KT→Prop):Nat→Bool→Int→Bs→Int→Bs→Int→Int→List PH→List KT→List TS→Prop
 | 0,_,_,_,_,_,_,_,_,_,_=>False
 | k+1,H1,Y0,o0,e0,b0,x0,s0,t0,y0,a0=>Gf N K H1 Y0 o0 e0 b0 x0 s0 t0 y0 a0 (z_ N K k)
def ag3 (N:Nat) (xr:List KT) (K:(List TS)→List KT→Prop):Prop :=
 Mw N xr∧∃ k,z_ N K k (fO xr).2.1 ((fO xr).1.lab.1) ((fO xr).1.lab.2.1) ((fO xr).1.lab.2.2.1) ((fO xr).1.lab.2.2.2.1) ((fO xr).1.lab.2.2.2.2.1) ((fO xr).1.lab.2.2.2.2.2) ((fO xr).1.kids) (fO xr).2.2 ([]:List TS)
theorem aaC {g:ak} (N:Nat) (Dv:Fp N) (zA:Fu N) (zx:ET N) (Du:Fj N) (zB:FC N) {bH:Nat} {g0:Option Addr} {m0:Nat} (xr:List KT) (K0:bE g (.slice yK) [.slice g0 xr.length m0] xr) (hG0:bR g 0) (K:(List TS)→List KT→Prop)
  (hF:ag3 N xr K):az prog 99 #[pv bH 0] g [.blk bH (.cells #[.slice g0 xr.length m0] 70)] (fun g' H' v=>∃ (r0:List TS),∃ (kT:List KT),∃ (V0:Option Addr) (Q0:Nat),∃ (u0:Option Addr) (j0:Nat),v=.slice V0 r0.length Q0∧bE g' (.slice yS) [.slice V0 r0.length Q0] r0∧bE g' (.slice yK) [.slice u0 kT.length j0] kT∧H'=[.blk bH (.cells #[.slice u0 kT.length j0] 70)]∧K r0 kT):=by
 refine aP 28 func99 rfl fun w0=>?_;refine ae (av 1 [(0,pv bH 0)] kr (aa (ae (ag 1 [0] [(3,.slice none 0 0)] ?_))));have hL1:aW g yS [] []:=rfl;refine fT 60 7 (aa (aF (ae (ag 1 [0] [(3,.slice none ([]:List TS).length 0),(7,pv bH 0)] ?_))));obtain ⟨hp2,hF⟩:=hF;refine jE [1,0] ?_;refine ai (bS (zA _ xr K0 hG0 hp2) fun g3 _ _ hx3 Rw=>?_);obtain ⟨V2,Q2,afN,afg,rfl,v2,UT,rfl⟩:=Rw;replace hL1:=hL1.mono hx3.1;replace hG0:=hG0.mono hx3.1;refine ag 3 [0,3] [(9,.agg #[iv ((fO xr).1.lab.1),sv ((fO xr).1.lab.2.1),.int .u8 ((fO xr).1.lab.2.2.1),sv ((fO xr).1.lab.2.2.2.1),iv ((fO xr).1.lab.2.2.2.2.1),iv ((fO xr).1.lab.2.2.2.2.2),.slice V2 ((fO xr).1.kids).length Q2]),(10,.bool (fO xr).2.1)] ?_;let C:=(#[iv 0,sv ([]:Bs),.int .u8 0,sv ([]:Bs),iv 0,iv 0,.slice none 0 0]:Array Value);refine ai (bI C fun ll=>?_);refine ai (af.w 0 ?_);refine ag 1 [0,3] [(4,pv ll 0),(5,.bool (fO xr).2.1)] ?_;refine aa (Ok.block ?_);obtain ⟨k,hF⟩:=hF;refine fQ (fun k a W=>∃ jP:ak,bf w0 g3 jP∧∃ (f2:Nat) (H1:Bool) (Y0:Int) (o0:Bs) (e0:Int) (b0:Bs) (x0:Int) (s0:Int) (W0:Option Addr) (X0:Nat) (t0:List PH) (b1:Option Addr) (c1:Nat) (y0:List KT) (H0:Option Addr) (M0:Nat) (a0:List TS) (y1:List Value),bE jP (.slice yP) [.slice W0 t0.length X0] t0∧bE jP (.slice yK) [.slice b1 y0.length c1] y0∧aW jP yS y1 a0∧fC 28 [(0,pv bH 0),(3,.slice H0 a0.length M0),(4,pv f2 0),(5,.bool H1)] a∧dm w0 [.blk f2 (.cells #[iv Y0,sv o0,.int .u8 e0,sv b0,iv x0,iv s0,.slice W0 t0.length X0] 60),.blk bH (.cells #[.slice b1 y0.length c1] 70),.own (.slice H0 a0.length M0) 60 7 a0.length y1] jP W∧z_ N K k H1 Y0 o0 e0 b0 x0 s0 t0 y0 a0) k ?_ ?_
 ·
  exact fun _ _ u v=>⟨g3,bu w0 g3,ll,(fO xr).2.1,(fO xr).1.lab.1,(fO xr).1.lab.2.1,(fO xr).1.lab.2.2.1,(fO xr).1.lab.2.2.2.1,(fO xr).1.lab.2.2.2.2.1,(fO xr).1.lab.2.2.2.2.2,V2,Q2,(fO xr).1.kids,afN,afg,(fO xr).2.2,none,0,([]:List TS),[],v2,UT,hL1,fA u v hF⟩
 clear hF;rintro (_ | k9) _ _ ⟨jP,A2,f2,H1,Y0,o0,e0,b0,x0,s0,W0,X0,t0,b1,c1,y0,H0,M0,a0,y1,E0,L0,U1,q⟩;exact (q.2.2:False).elim;refine jn (fun hF=>?_) _ _ q;replace hG0:=hG0.mono A2.1;refine aF (ae (ag 1 [0,3,4] [(11,.bool H1)] ?_));refine aa (aJ hF (fun jy hF=>?_) (fun jy hF=>?_))
 ·refine Ok.k (Ok.t (aF (Ok.block (aR (ag 1 [0,4] [(17,.slice H0 a0.length M0)] ?_)))));let A:=(#[iv Y0,sv o0,.int .u8 e0,sv b0,iv x0,iv s0,.slice W0 t0.length X0]:Array Value);refine ai (af.s (v:=.agg A) (aZ 0 7 A rfl rfl underlying60 rfl kr kr kr) rfl rfl ?_);let D:=[iv Y0,sv o0,.int .u8 e0,sv b0,iv x0,iv s0,.slice W0 t0.length X0];let E:=(Y0,o0,e0,b0,x0,s0);have hL6:aW jP yS (D:List Value) ([gL.mk E t0]:List TS):=(dx (c:=D) (bE.tst.2 ⟨[iv Y0,sv o0,.int .u8 e0,sv b0,iv x0,iv s0],[.slice W0 t0.length X0],rfl,⟨[iv Y0],[sv o0,.int .u8 e0,sv b0,iv x0,iv s0],rfl,rfl,⟨[sv o0],[.int .u8 e0,sv b0,iv x0,iv s0],rfl,rfl,⟨[.int .u8 e0],[sv b0,iv x0,iv s0],rfl,rfl,⟨[sv b0],[iv x0,iv s0],rfl,rfl,⟨[iv x0],[iv s0],rfl,rfl,rfl⟩⟩⟩⟩⟩,E0⟩) rfl);refine ai (gz hL6 fun b6=>?_);obtain ⟨hb7,hF⟩:=hF;refine ai (fu (e:=yS) 88 1599289640401 3 0 rfl rfl rfl rfl U1 hL6 underlying54 kr kr kr hb7 rfl fun a7 c7 xs7 hL7=>?_);refine ag 1 [0,4] [(3,.slice a7 (a0++([gL.mk E t0]:List TS)).length c7)] ?_;refine bV (bG (Ok.t (aF (ae (ai (af.s (v:=.agg A) (aZ 1 7 A rfl rfl underlying60 rfl kr kr kr) rfl rfl (aa (aR (ai (bI C fun ll=>?_))))))))));refine ai (af.w 0 ?_);refine aa (aR (ag 1 [0,3] [(4,pv ll 0),(13,pv bH 0)] ?_));obtain ⟨Il,hF⟩:=hF;refine jE [3,0,1,2,4] ?_;refine ai (bS (zA _ y0 L0 hG0 Il) fun g10 _ _ m2 adf=>?_);obtain ⟨E2,F2,Qa,P8,rfl,Ng,Iw,rfl⟩:=adf;replace hL7:=hL7.mono m2.1;refine ag 3 [0,3,4] [(15,.agg #[iv ((fO y0).1.lab.1),sv ((fO y0).1.lab.2.1),.int .u8 ((fO y0).1.lab.2.2.1),sv ((fO y0).1.lab.2.2.2.1),iv ((fO y0).1.lab.2.2.2.2.1),iv ((fO y0).1.lab.2.2.2.2.2),.slice E2 ((fO y0).1.kids).length F2]),(16,.bool (fO y0).2.1)] ?_;refine ai (af.w 1 ?_);refine ag 1 [0,3,4] [(5,.bool (fO y0).2.1)] ?_;refine bV (Ok.t ?_);exact fun a W hA hW=>⟨k9,nl,g10,A2.trans m2,ll,(fO y0).2.1,(fO y0).1.lab.1,(fO y0).1.lab.2.1,(fO y0).1.lab.2.2.1,(fO y0).1.lab.2.2.2.1,(fO y0).1.lab.2.2.2.2.1,(fO y0).1.lab.2.2.2.2.2,E2,F2,(fO y0).1.kids,Qa,P8,(fO y0).2.2,a7,c7,(a0++([gL.mk E t0]:List TS)),xs7,Ng,Iw,hL7,hA.sub kr,hW.pick [1,0,4] _ dc rfl,hF⟩
 let B:=decide ((a0.length:Int)>0);refine fw (ay (ay (aM (Ok.t (ae (ag 4 [3] [(22,pv bH 0),(25,.bool B)] ?_))))));refine ai (bO (args:=#[pv bH 0,.bool B]) 8 [(0,pv bH 0),(1,.bool B)] gU func57 rfl rfl rfl rfl (ae (av 2 [(5,.bool (! B))] kr (aa (aJ hF (fun G2 hF=>?_) (fun G2 hF=>?_))))))
 ·exact False.elim hF
 refine Ok.k (bA (vs:=[]) (.inr rfl) rfl .nil rfl (aa (ae (av 2 [(2,.slice H0 a0.length M0)] kr (aa (Ok.ret (sQ 2 rfl U1 fun g12 g1 akm=>?_)))))));replace L0:=L0.mono g1.1;exact Qd [1] ((hx3.trans A2).trans g1) ⟨a0,y0,H0,M0,b1,c1,rfl,akm,L0,rfl,hF⟩
theorem ag2 (r:Rd):¬ Qr 0 r:=fun ⟨_,_,_,_,_,_,_,_,_,h,_⟩=>absurd h (iN _)
theorem TC (t:Ts):gL.mk (t.lab.1,t.lab.2.1,t.lab.2.2.1,t.lab.2.2.2.1,t.lab.2.2.2.2.1,t.lab.2.2.2.2.2) t.kids=t:=by obtain ⟨x,l⟩:=t; rfl
theorem JF (N:Nat) (K:List Ts→Rd→Prop):∀ (s:List Ts) (t:Ts) (k0:Int) (b:List Tok) (rest:Rd) (acc:List Ts),ok1 s k0=true→Lx s b→VZ rest=true→8 * b.length+1<N→qI (b++rest)→acc.length+b.length≤1000→K (acc++t::s) rest→z_ N K (s.length+2) true t.lab.1 t.lab.2.1 t.lab.2.2.1 t.lab.2.2.2.1 t.lab.2.2.2.2.1 t.lab.2.2.2.2.2 t.kids (b++rest) acc
 | [],t,k0,b,rest,acc,ho,hb,hr,hN,hB,hl,hK=>by
  rw [Lx] at hb; subst hb;have e:fO rest=(Zn,false,rest):=Mt hr _;have hP:Mw N rest:=.inr ⟨hr,om⟩
  have hl:acc.length≤1000:=by simpa using hl
  rw [jV,z_];unfold Gf;rw [TC,e];refine ⟨fun _=>⟨by rw [bD,mQ]; omega,hP,?_⟩,fun h=>(by cases h)⟩;show z_ N K 1 false _ _ _ _ _ _ _ rest _;rw [z_];unfold Gf;exact ⟨fun h=>(by cases h),fun _=>⟨fun h=>absurd h (by simp),fun _=>hK⟩⟩
 | t'::s,t,k0,b,rest,acc,ho,hb,hr,hN,hB,hl,hK=>by
  rw [ok1,aH] at ho;rw [Lx] at hb;obtain ⟨a,c,ha,hc,rfl⟩:=hb;have hla:1≤a.length:=(zk t' _ ho.1 a ha).1;rw [bD] at hl hN;rw [dM] at hB ⊢;have e:=Mv ho.1 ha (c++rest);have hP:Mw N (a++(c++rest)):=.inl ⟨t',_,a,c++rest,ho.1,ha,rfl,om,hB⟩;have ih:=JF N K s t' _ c rest (acc++[t]) ho.2 hc hr om hB.app (by rw [bD,mQ]; omega) (by rw [dM]; exact hK);rw [di,z_];unfold Gf;rw [TC,e];exact ⟨fun _=>⟨by rw [bD,mQ]; omega,hP,ih⟩,fun h=>(by cases h)⟩
theorem ag1 (N:Nat) (r:Rd) (h:Qr (N+1) r):ag3 N r (fun a b=>(a,b)=mW r):=by
 obtain ⟨s,k,ts,rest,hne,ho,hts,hr,rfl,hN,hB⟩:=h;rw [LZ ho hts hr]
 match s,hne with
 | t::s,_ =>
  rw [ok1,aH] at ho;rw [Lx] at hts;obtain ⟨a,b,ha,hb,rfl⟩:=hts;rw [bD] at hN;rw [dM] at hB ⊢;have e:=Mv ho.1 ha (b++rest)
  have hl:b.length≤1000:=by have:=hB.app.1; rw [bD] at this; omega
  refine ⟨.inl ⟨t,_,a,b++rest,ho.1,ha,rfl,om,hB⟩,s.length+2,?_⟩;rw [e];exact JF N _ s t _ b rest [] ho.2 hb hr om hB.app (by simpa using hl) rfl
def qY (z0:List KT):Bool :=
 (((ah (bF z0).2).1.2.1==([62]:Bs))||(((ah (bF z0).2).1.2.1==([43]:Bs))||((ah (bF z0).2).1.2.1==([126]:Bs))))
def tu (z0:List KT):Bool :=
 ((bF z0).1&&(((ah (bF z0).2).1.1 != 0)&&((!((ah (bF z0).2).1.2.1==([44]:Bs)))&&(!((ah (bF z0).2).1.2.1==([41]:Bs))))))
def l9 (z0:List KT):List KT :=
 (if (qY z0)=true then (bF ((ah (ah (bF z0).2).2).2.drop (Int.toNat 1))).2 else (ah (bF z0).2).2)
def lH (v0:List Int) (z0:List KT):List Int :=
 (if (qY z0)=true then (v0++([(((ah (bF z0).2).1.2.1.getD (Int.toNat 0) 0).toNat:Int)]:List Int)) else (v0++([32]:List Int)))
def wU (N:Nat) (v0:List Int) (q0:List (List TS)) (z0:List KT) (C6:(List Int)→List (List TS)→List KT→Prop):Prop :=
 Qr N (l9 z0)∧(q0++([(mW (l9 z0)).1]:List (List TS))).length≤5864062014805∧C6 (lH v0 z0) (q0++([(mW (l9 z0)).1]:List (List TS))) (mW (l9 z0)).2
def qy (N:Nat) (K:(PH)→List KT→Prop) (v0:List Int) (q0:List (List TS)) (z0:List KT) (C6:(List Int)→List (List TS)→List KT→Prop):Prop :=
 (tu z0=true→(v0++([32]:List Int)).length≤140737488355328∧wU N v0 q0 z0 C6)∧(tu z0=false→K (q0,v0) (ah (bF z0).2).2)
def rT (N:Nat) (K:(PH)→List KT→Prop) (v0:List Int) (q0:List (List TS)) (z0:List KT) (C6:(List Int)→List (List TS)→List KT→Prop):Prop :=
 (qY z0=true→(((ah (ah (bF z0).2).2).1.1==0)=true→False)∧(((ah (ah (bF z0).2).2).1.1==0)=false→(0:Int)≤1∧(1:Int)≤((ah (ah (bF z0).2).2).2.length:Int)∧((ah (ah (bF z0).2).2).2.length:Int)≤((ah (ah (bF z0).2).2).2.length:Int)∧(0:Int)≤0∧Int.toNat 0<(ah (bF z0).2).1.2.1.length∧(v0++([(((ah (bF z0).2).1.2.1.getD (Int.toNat 0) 0).toNat:Int)]:List Int)).length≤140737488355328∧wU N v0 q0 z0 C6))∧(qY z0=false→((bF z0).1=true→(((ah (bF z0).2).1.1 != 0)=true→((!((ah (bF z0).2).1.2.1==([44]:Bs)))=true→qy N K v0 q0 z0 C6)∧((!((ah (bF z0).2).1.2.1==([44]:Bs)))=false→qy N K v0 q0 z0 C6))∧(((ah (bF z0).2).1.1 != 0)=false→qy N K v0 q0 z0 C6))∧((bF z0).1=false→qy N K v0 q0 z0 C6))
def qx (N:Nat) (K:(PH)→List KT→Prop) (v0:List Int) (q0:List (List TS)) (z0:List KT) (C6:(List Int)→List (List TS)→List KT→Prop):Prop :=
 (((ah (bF z0).2).1.2.1==([62]:Bs))=true→rT N K v0 q0 z0 C6)∧(((ah (bF z0).2).1.2.1==([62]:Bs))=false→(((ah (bF z0).2).1.2.1==([43]:Bs))=true→rT N K v0 q0 z0 C6)∧(((ah (bF z0).2).1.2.1==([43]:Bs))=false→rT N K v0 q0 z0 C6))
def p8 (N:Nat) (K:(PH)→List KT→Prop):Nat→List Int→List (List TS)→List KT→Prop
 | 0,_,_,_=>False
 | k+1,v0,q0,z0=>qx N K v0 q0 z0 (p8 N K k)
def aid (N:Nat) (xr:List KT) (K:(PH)→List KT→Prop):Prop :=
 Qr N xr∧∃ k,p8 N K k ([]:List Int) ([(mW xr).1]:List (List TS)) (mW xr).2
theorem abq {g:ak} (N:Nat) (Dv:Fp N) (zA:Fu N) (zx:ET N) (Du:Fj N) (zB:FC N) {bH:Nat} {g0:Option Addr} {m0:Nat} (xr:List KT) (K0:bE g (.slice yK) [.slice g0 xr.length m0] xr) (hG0:bR g 0) (K:(PH)→List KT→Prop)
  (hF:aid N xr K):az prog 55 #[pv bH 0] g [.blk bH (.cells #[.slice g0 xr.length m0] 70)] (fun g' H' v=>∃ (r0:PH),∃ (kT:List KT),∃ (V0:Option Addr) (Q0:Nat),∃ (d1:Option Addr) (e1:Nat),∃ (u0:Option Addr) (j0:Nat),v=.agg #[.slice V0 r0.1.length Q0,.slice d1 r0.2.length e1]∧bE g' (.slice (.slice yS)) [.slice V0 r0.1.length Q0] r0.1∧bE g' (.slice yb) [.slice d1 r0.2.length e1] r0.2∧bE g' (.slice yK) [.slice u0 kT.length j0] kT∧H'=[.blk bH (.cells #[.slice u0 kT.length j0] 70)]∧K r0 kT):=by
 refine aP 70 func55 rfl fun w0=>?_;refine aF (aR ?_);have hL1:aW g (.slice yS) [] []:=rfl;refine fT 54 1 ?_;have hL2:aW g yb [] []:=rfl;refine fT 5 1 (ai (bI zP fun eT=>?_));refine aa (ae (av 1 [(0,pv bH 0),(2,pv eT 0),(6,pv bH 0)] kr ?_));obtain ⟨XT,hF⟩:=hF;refine jE [3,0,1,2] ?_;refine ai (bS (zx _ xr K0 hG0 XT) fun g5 _ _ hx5 hV5=>?_);obtain ⟨I2,z3,al7,alp,rfl,DI,ZP,rfl⟩:=hV5;replace hG0:=hG0.mono hx5.1;have hL6:aW g5 (.slice yS) ([.slice I2 (mW xr).1.length z3]:List Value) ([(mW xr).1]:List (List TS)):=(dx (c:=[.slice I2 (mW xr).1.length z3]) DI rfl);refine ai (gz hL6 fun b6=>?_);refine ag 1 [0,2] [(9,.agg #[.slice (some ⟨b6,0,none⟩) ([(mW xr).1]:List (List TS)).length 1,.slice none 0 0])] ?_;have hL7:aW g5 (.slice yS) [] []:=rfl;refine fT 54 1 ?_;have ZQ:aW g5 yb [] []:=rfl;refine fT 5 1 (ai (bI zP fun dD=>?_));have adP:aW g5 yb [] []:=rfl;refine fT 5 1 (ai (af.w 1 ?_));refine aa (Ok.block ?_);obtain ⟨k,hF⟩:=hF;refine fQ (fun k a W=>∃ Ry:ak,bf w0 g5 Ry∧∃ (U0:Option Addr) (J0:Nat) (v0:List Int) (F0:List Value) (i0:Option Addr) (Z0:Nat) (q0:List (List TS)) (S0:List Value) (N0:Option Addr) (O0:Nat) (z0:List KT),aW Ry yb F0 v0∧aW Ry (.slice yS) S0 q0∧bE Ry (.slice yK) [.slice N0 z0.length O0] z0∧fC 70 [(0,pv bH 0),(2,pv eT 0),(3,pv dD 0)] a∧dm w0 [.own (.slice U0 v0.length J0) 5 1 v0.length F0,.blk dD (.cells #[.slice i0 q0.length Z0,.slice U0 v0.length J0] 28),.own (.slice i0 q0.length Z0) 54 1 q0.length S0,.blk bH (.cells #[.slice N0 z0.length O0] 70),.blk eT (.cells zP 28),.own (.slice none ([]:List Int).length 0) 5 1 ([]:List Int).length ([]),.own (.slice none ([]:List (List TS)).length 0) 54 1 ([]:List (List TS)).length ([])] Ry W∧p8 N K k v0 q0 z0) k ?_ ?_
 ·
  exact fun _ _ u v=>⟨g5,bu w0 g5,none,0,([]:List Int),[],(some ⟨b6,0,none⟩),1,([(mW xr).1]:List (List TS)),([.slice I2 (mW xr).1.length z3]:List Value),al7,alp,(mW xr).2,adP,hL6,ZP,fA u v hF⟩
 clear hF;rintro (_ | k6) _ _ ⟨Ry,M1,U0,J0,v0,F0,i0,Z0,q0,S0,N0,O0,z0,d0,f0,m1,q⟩;exact (q.2.2:False).elim;refine jn (fun hF=>?_) _ _ q;replace hG0:=hG0.mono M1.1;refine Ok.block (ae (ag 1 [0,2,3] [(10,pv bH 0)] ?_));refine jE [3,0,1,2,4,5,6] ?_;refine ai (bS (PI z0 m1) fun g11 _ _ W1 apT=>?_);obtain ⟨auo,atQ,rfl,adG,rfl⟩:=apT;replace d0:=d0.mono W1.1;replace f0:=f0.mono W1.1;replace hG0:=hG0.mono W1.1;refine ag 1 [0,2,3] [(4,.bool (bF z0).1)] ?_;refine aa (ae (ag 1 [0,2,3,4] [(12,pv bH 0)] ?_));refine ai (bS (mZ (bF z0).2 adG) fun g12 _ _ g1 R2=>?_);obtain ⟨Z1,V1,rfl,G0,rfl⟩:=R2;replace d0:=d0.mono g1.1;replace f0:=f0.mono g1.1;replace hG0:=hG0.mono g1.1;refine ai (bI zK fun iF=>?_);refine ai (af.w 0 ?_);refine aa (Ok.cut (fun a W=>∃ n2:ak,bf w0 g12 n2∧∃ (n1:Option Addr) (o1:Nat) (B0:Option Addr) (C0:Nat) (D0:List Value),bE n2 (.slice yK) [.slice n1 (l9 z0).length o1] (l9 z0)∧aW n2 yb D0 (lH v0 z0)∧fC 70 [(0,pv bH 0),(2,pv eT 0),(3,pv dD 0)] a∧dm w0 [.blk bH (.cells #[.slice n1 (l9 z0).length o1] 70),.own (.slice B0 (lH v0 z0).length C0) 5 1 (lH v0 z0).length D0,.blk dD (.cells #[.slice i0 q0.length Z0,.slice B0 (lH v0 z0).length C0] 28),.own (.slice i0 q0.length Z0) 54 1 q0.length S0,.blk eT (.cells zP 28),.own (.slice none ([]:List Int).length 0) 5 1 ([]:List Int).length ([]),.own (.slice none ([]:List (List TS)).length 0) 54 1 ([]:List (List TS)).length ([])] n2 W∧wU N v0 q0 z0 (p8 N K k6)) ?_ ?_)
 ·
  refine Ok.block (iK g12 [(0,pv bH 0),(2,pv eT 0),(3,pv dD 0),(4,.bool (bF z0).1),(5,pv iF 0),(15,.bool (qY z0))] [.blk iF (.cells (aK (ah (bF z0).2).1) 98),.blk bH (.cells #[.slice Z1 (ah (bF z0).2).2.length V1] 70),.own (.slice U0 v0.length J0) 5 1 v0.length F0,.blk dD (.cells #[.slice i0 q0.length Z0,.slice U0 v0.length J0] 28),.own (.slice i0 q0.length Z0) 54 1 q0.length S0,.blk eT (.cells zP 28),.own (.slice none ([]:List Int).length 0) 5 1 ([]:List Int).length ([]),.own (.slice none ([]:List (List TS)).length 0) 54 1 ([]:List (List TS)).length ([])] (rT N K v0 q0 z0 (p8 N K k6)) ?_ (fun N1 Q1 hF=>?_))
  ·
   refine aR (aj 4 [.e 0] [0,2,3,4] [(5,pv iF 0),(19,.bool ((ah (bF z0).2).1.2.1==([62]:Bs)))] ?_);refine bP 19 hF (fun K2 hF=>?_) (fun K2 hF=>?_)
   ·refine ag 10 [0,2,3,4,5] [(15,.bool true)] ?_;refine aa (aB 15 (qY z0) (cK K2) ?_);exact fg hF
   refine aj 5 [.e 0] [0,2,3,4,5] [(24,.bool ((ah (bF z0).2).1.2.1==([43]:Bs)))] ?_;refine bP 24 hF (fun c2 hF=>?_) (fun c2 hF=>?_)
   ·refine ag 5 [0,2,3,4,5] [(15,.bool true)] ?_;refine aa (aB 15 (qY z0) (au (cK c2) (bN K2)) ?_);exact fg hF
   refine aj 5 [.e 0] [0,2,3,4,5] [(15,.bool ((ah (bF z0).2).1.2.1==([126]:Bs)))] ?_;refine aa (aB 15 (qY z0) (au (bN c2) (bN K2)) ?_);exact fg hF
  replace G0:=G0.mono Q1.1;replace d0:=d0.mono Q1.1;replace f0:=f0.mono Q1.1;replace hG0:=hG0.mono Q1.1;refine aJ hF (fun f1 hF=>?_) (fun f1 hF=>?_)
  ·refine ae (ag 1 [0,2,3,5] [(29,pv bH 0)] ?_);refine ai (bO (args:=#[pv bH 0]) 20 [(0,pv bH 0)] gU func100 rfl rfl rfl rfl (ae (ai (bI zK fun E1=>?_))));refine aa (ae (ag 1 [0] [(2,pv E1 0),(4,pv bH 0)] ?_));refine jE [2,0,1,3,4,5,6,7,8] ?_;refine ai (bS (mZ (ah (bF z0).2).2 G0) fun g20 _ _ D1 P2=>?_);obtain ⟨j2,x2,rfl,R1,rfl⟩:=P2;replace d0:=d0.mono D1.1;replace f0:=f0.mono D1.1;replace hG0:=hG0.mono D1.1;refine ai (bI zK fun G1=>?_);refine ai (af.w 0 ?_);refine aa (aF (ae (aj 3 [.e 0] [0,2] [(3,pv G1 0),(8,.bool ((pp (bF z0).2).1.1==0))] ?_)));refine aa (aJ hF (fun T2 hF=>?_) (fun T2 hF=>?_))
   ·exact False.elim hF
   refine Ok.k (Ok.t (ae (ag 4 [2,3] [(11,pv bH 0),(14,pv bH 0)] ?_)));refine ai (af.s (v:=.slice j2 (pp (bF z0).2).2.length x2) (aS 1 rfl rfl underlying67 rfl kr) rfl rfl ?_);obtain ⟨Nq,II,adW,hF⟩:=hF;refine ai (af.jm (e:=yK) (l:=1) (h:=((pp (bF z0).2).2.length:Int)) rfl underlying67 kr (.inl ⟨_,_,rfl,rfl⟩) (.inr ⟨rfl,rfl⟩) R1 Nq II adW rfl ((pp (bF z0).2).2.drop (Int.toNat 1)) (by rw [show ((pp (bF z0).2).2.length:Int).toNat=(pp (bF z0).2).2.length from dR _,iX]) fun a23 c23 aqd=>?_);refine ag 2 [2,3] [(16,.slice a23 ((pp (bF z0).2).2.drop (Int.toNat 1)).length c23),(18,pv bH 0)] ?_;refine ai (dA 1 ?_);refine aa (ae (ai (af.s (v:=.agg (aK (pp (bF z0).2).1)) (aZ 0 4 (aK (pp (bF z0).2).1) rfl rfl underlying98 rfl kr kr kr) rfl rfl (ai (af.w 2 ?_)))));refine aa (Ok.ret (bA (vs:=[.agg (aK (pp (bF z0).2).1)]) (.inl rfl) rfl (.cons (.iM 2 4 (aK (pp (bF z0).2).1) rfl rfl underlying98 rfl kr kr kr) .nil) rfl (aa (ae (av 1 [(0,pv bH 0),(2,pv eT 0),(3,pv dD 0),(5,pv iF 0),(31,pv bH 0)] kr (jE [1,0,2,3,4,5,6,7,8,9] ?_))))));refine ai (bS (PI ((pp (bF z0).2).2.drop (Int.toNat 1)) aqd) fun g24 _ _ F1 L2=>?_);obtain ⟨B1,C1,rfl,T1,rfl⟩:=L2;replace d0:=d0.mono F1.1;replace f0:=f0.mono F1.1;replace hG0:=hG0.mono F1.1;refine aa (wH [0,1,3,4] [5] [1,1,1,1,0,0,1,1,1,1] [(0,true),(1,true),(2,true),(3,true),(4,true),(5,false),(6,false),(7,true),(8,false)] ?_);refine iJ 1 [0,2,3,5] [(33,pv dD 1)] ?_;refine eH.hd (fK.s (v:=.slice U0 v0.length J0) (aS 5 rfl rfl underlying26 rfl kr) rfl rfl ?_);refine iJ 1 [0,2,3] [(34,.slice U0 v0.length J0),(35,pv iF 1)] ?_;refine eH.hd (fK.s (v:=sv ((ah (bF z0).2).1.2.1)) (aS 3 rfl rfl underlying9 rfl kr) rfl rfl ?_);obtain ⟨DN,IG,hF⟩:=hF;have Y3:=aT (l:=(ah (bF z0).2).1.2.1) (0:UInt8) IG;generalize acN:((ah (bF z0).2).1.2.1.getD (Int.toNat 0) 0)=e25 at Y3 hF ⊢;refine eH.hd (fK.s (v:=.int .u8 (e25.toNat:Int)) (dQ (k:=.i64) (i:=0) (s:=(ah (bF z0).2).1.2.1) (b:=e25) kr kr underlying9 DN Y3) rfl rfl ?_);have U3:aW g24 yb ([.int .u8 (e25.toNat:Int)]:List Value) ([(e25.toNat:Int)]:List Int):=(dx (c:=[.int .u8 (e25.toNat:Int)]) rfl rfl);refine eH.t rfl rfl (gz U3 fun b26=>?_);refine h_ (lG.refl _) ?_;obtain ⟨apn,hF⟩:=hF;refine eH.t rfl rfl (fu (e:=.int .u8) 1 140737488355328 5 0 rfl rfl rfl rfl d0 U3 underlying26 kr kr kr apn rfl fun a27 YN Y2 aqA=>?_);refine h_ (lG.refl _) (iJ 1 [0,2,3] [(39,.slice a27 (v0++([(e25.toNat:Int)]:List Int)).length YN),(40,pv dD 1)] ?_);refine eH.t rfl rfl (dA 6 ?_);refine h_ (lG.refl _) (eH.nil (bG (Ok.t ?_)));subst acN;refine nE (H':=[.own (.slice (some ⟨b26,0,none⟩) ([(((ah (bF z0).2).1.2.1.getD (Int.toNat 0) 0).toNat:Int)]:List Int).length 1) 5 1 ([(((ah (bF z0).2).1.2.1.getD (Int.toNat 0) 0).toNat:Int)]:List Int).length ([.int .u8 (((ah (bF z0).2).1.2.1.getD (Int.toNat 0) 0).toNat:Int)]:List Value),.blk bH (.cells #[.slice B1 (l9 z0).length C1] 70),.blk G1 (.cells (aK (pp (bF z0).2).1) 98),.blk E1 (.cells (aK (pp (bF z0).2).1) 98),.blk iF (.cells (aK (ah (bF z0).2).1) 98),.own (.slice a27 (lH v0 z0).length YN) 5 1 (lH v0 z0).length Y2,.blk dD (.cells #[.slice i0 q0.length Z0,.slice a27 (lH v0 z0).length YN] 28),.own (.slice i0 q0.length Z0) 54 1 q0.length S0,.blk eT (.cells zP 28),.own (.slice none ([]:List Int).length 0) 5 1 ([]:List Int).length ([]),.own (.slice none ([]:List (List TS)).length 0) 54 1 ([]:List (List TS)).length ([])]) (ib (rfl) (ib (aA (fun l:List Value=>cu.blk bH (.cells ⟨l⟩ 70)) (iy (aA (fun l:List KT=>Value.slice B1 l.length C1) ((aU f1).symm)) rfl)) (ib (rfl) (ib (rfl) (ib (rfl) (ib (aA (fun l:List Int=>cu.own (.slice a27 l.length YN) 5 1 l.length Y2) ((aU f1).symm)) (ib (aA (fun l:List Value=>cu.blk dD (.cells ⟨l⟩ 28)) (iy (rfl) (iy (aA (fun l:List Int=>Value.slice a27 l.length YN) ((aU f1).symm)) rfl))) (ib (rfl) (ib (rfl) (ib (rfl) (ib (rfl) rfl))))))))))) ?_
   exact fun _ _ u v=>⟨g24,((Q1.trans D1).trans F1),B1,C1,a27,YN,Y2,(Eq.mp (aA (fun l:List KT=>bE g24 (.slice yK) [.slice B1 l.length C1] l) ((aU f1).symm)) T1),(Eq.mp (aA (fun l:List Int=>aW g24 yb Y2 l) ((aU f1).symm)) aqA),fA u v hF⟩
  refine iK N1 [(0,pv bH 0),(2,pv eT 0),(3,pv dD 0),(41,.bool (tu z0))] [.blk bH (.cells #[.slice Z1 (ah (bF z0).2).2.length V1] 70),.own (.slice U0 v0.length J0) 5 1 v0.length F0,.blk dD (.cells #[.slice i0 q0.length Z0,.slice U0 v0.length J0] 28),.own (.slice i0 q0.length Z0) 54 1 q0.length S0,.blk eT (.cells zP 28),.own (.slice none ([]:List Int).length 0) 5 1 ([]:List Int).length ([]),.own (.slice none ([]:List (List TS)).length 0) 54 1 ([]:List (List TS)).length ([])] (qy N K v0 q0 z0 (p8 N K k6)) ?_ (fun U2 J1 hF=>?_)
  ·
   refine aR (ag 2 [0,2,3,5] [(43,.bool (bF z0).1)] ?_);refine bP 43 hF (fun L1 hF=>?_) (fun L1 hF=>?_)
   ·refine aj 5 [.e 0] [0,2,3,5] [(48,.bool ((ah (bF z0).2).1.1 != 0))] ?_;refine bP 48 hF (fun J2 hF=>?_) (fun J2 hF=>?_)
    ·refine aj 5 [.e 0] [0,2,3,5] [(53,.bool (!((ah (bF z0).2).1.2.1==([44]:Bs))))] ?_;refine bP 53 hF (fun v3 hF=>?_) (fun v3 hF=>?_)
     ·refine aj 5 [.e 0] [0,2,3] [(41,.bool (!((ah (bF z0).2).1.2.1==([41]:Bs))))] ?_;refine aa (aB 41 (tu z0) (au (au (bn v3) (bn J2)) (bn L1)) ?_);exact fg hF
     refine ag 5 [0,2,3] [(41,.bool false)] ?_;refine aa (aB 41 (tu z0) (au (au (bZ v3) (bn J2)) (bn L1)) ?_);exact fg hF
    refine ag 10 [0,2,3] [(41,.bool false)] ?_;refine aa (aB 41 (tu z0) (au (bZ J2) (bn L1)) ?_);exact fg hF
   refine ag 15 [0,2,3] [(41,.bool false)] ?_;refine aa (aB 41 (tu z0) (bZ L1) ?_);exact fg hF
  replace G0:=G0.mono J1.1;replace d0:=d0.mono J1.1;replace f0:=f0.mono J1.1;replace hG0:=hG0.mono J1.1;refine aJ hF (fun k2 hF=>?_) (fun k2 hF=>?_)
  ·refine aR (ag 1 [0,2,3] [(58,pv dD 1)] ?_);refine ai (af.s (v:=.slice U0 v0.length J0) (aS 2 rfl rfl underlying26 rfl kr) rfl rfl ?_);have J3:aW U2 yb ([.int .u8 32]:List Value) ([32]:List Int):=(dx (c:=[.int .u8 32]) rfl rfl);refine ai (gz J3 fun b29=>?_);obtain ⟨apk,hF⟩:=hF;refine ai (fu (e:=.int .u8) 1 140737488355328 2 0 rfl rfl rfl rfl d0 J3 underlying26 kr kr kr apk rfl fun a30 RA W2 adJ=>?_);refine ag 1 [0,2,3] [(61,.slice a30 (v0++([32]:List Int)).length RA),(62,pv dD 1)] ?_;refine ai (dA 3 ?_);refine bV (bG (Ok.t (nE (H':=[.own (.slice (some ⟨b29,0,none⟩) ([32]:List Int).length 1) 5 1 ([32]:List Int).length ([.int .u8 32]:List Value),.blk bH (.cells #[.slice Z1 (l9 z0).length V1] 70),.own (.slice a30 (lH v0 z0).length RA) 5 1 (lH v0 z0).length W2,.blk dD (.cells #[.slice i0 q0.length Z0,.slice a30 (lH v0 z0).length RA] 28),.own (.slice i0 q0.length Z0) 54 1 q0.length S0,.blk eT (.cells zP 28),.own (.slice none ([]:List Int).length 0) 5 1 ([]:List Int).length ([]),.own (.slice none ([]:List (List TS)).length 0) 54 1 ([]:List (List TS)).length ([])]) (ib (rfl) (ib (aA (fun l:List Value=>cu.blk bH (.cells ⟨l⟩ 70)) (iy (aA (fun l:List KT=>Value.slice Z1 l.length V1) ((aG f1).symm)) rfl)) (ib (aA (fun l:List Int=>cu.own (.slice a30 l.length RA) 5 1 l.length W2) ((aG f1).symm)) (ib (aA (fun l:List Value=>cu.blk dD (.cells ⟨l⟩ 28)) (iy (rfl) (iy (aA (fun l:List Int=>Value.slice a30 l.length RA) ((aG f1).symm)) rfl))) (ib (rfl) (ib (rfl) (ib (rfl) (ib (rfl) rfl)))))))) ?_)));exact fun _ _ u v=>⟨U2,Q1.trans J1,Z1,V1,a30,RA,W2,(Eq.mp (aA (fun l:List KT=>bE U2 (.slice yK) [.slice Z1 l.length V1] l) ((aG f1).symm)) G0),(Eq.mp (aA (fun l:List Int=>aW U2 yb W2 l) ((aG f1).symm)) adJ),fA u v hF⟩
  refine ae (ai (af.s (v:=.agg #[.slice i0 q0.length Z0,.slice U0 v0.length J0]) (aZ 2 2 #[.slice i0 q0.length Z0,.slice U0 v0.length J0] rfl rfl underlying28 rfl kr kr kr) rfl rfl (ai (af.w 4 ?_))));refine aa (Ok.ret (aV (aC (aV (aC (aV (sQ 3 rfl f0 fun g31 I1 o2=>?_)))))));replace d0:=d0.mono I1.1;replace G0:=G0.mono I1.1;replace hG0:=hG0.mono I1.1;refine sQ 1 rfl d0 fun g32 z2 akl=>?_;replace o2:=o2.mono z2.1;replace G0:=G0.mono z2.1;replace hG0:=hG0.mono z2.1;exact jf 2 [0] (((((((hx5.trans M1).trans W1).trans g1).trans Q1).trans J1).trans I1).trans z2) ⟨(q0,v0),(ah (bF z0).2).2,i0,Z0,U0,J0,Z1,V1,rfl,o2,akl,G0,rfl,hF⟩
 clear hF;rintro _ _ ⟨n2,O1,n1,o1,B0,C0,D0,KZ,T0,q⟩;refine jn (fun hF=>?_) _ _ q;replace f0:=f0.mono O1.1;replace hG0:=hG0.mono O1.1;refine Y6 [0,1,2] [3,4] [.own (.slice B0 (lH v0 z0).length C0) 5 1 (lH v0 z0).length D0,.blk dD (.cells #[.slice i0 q0.length Z0,.slice B0 (lH v0 z0).length C0] 28),.own (.slice i0 q0.length Z0) 54 1 q0.length S0,.blk eT (.cells zP 28),.own (.slice none ([]:List Int).length 0) 5 1 ([]:List Int).length ([]),.own (.slice none ([]:List (List TS)).length 0) 54 1 ([]:List (List TS)).length ([])] [.own (.slice B0 (lH v0 z0).length C0) 5 1 (lH v0 z0).length D0,.blk eT (.cells zP 28),.own (.slice none ([]:List Int).length 0) 5 1 ([]:List Int).length ([]),.own (.slice none ([]:List (List TS)).length 0) 54 1 ([]:List (List TS)).length ([])] [(0,true),(1,true),(2,true),(3,false),(4,false),(5,false),(6,true),(7,false)] kr kr (.cons_cons _ (.cons _ (.cons _ (.cons_cons _ (.cons_cons _ (.cons_cons _ .slnil)))))) (.cons _ (.cons_cons _ (.cons_cons _ (.cons_cons _ (.cons_cons _ (.cons_cons _ (.cons_cons _ .slnil))))))) (Qb 1 [(0,pv bH 0),(2,pv eT 0),(3,pv dD 0),(63,pv dD 0)] kr (eH.hd (fK.s (v:=.slice i0 q0.length Z0) (aS 1 rfl rfl underlying25 rfl kr) rfl rfl ?_)));refine iJ 1 [0,2,3] [(64,.slice i0 q0.length Z0),(65,pv bH 0)] ?_;obtain ⟨k3,hF⟩:=hF;refine eH.t rfl rfl (bS (zx _ (l9 z0) KZ hG0 k3) fun g15 _ _ t1 y3=>?_);obtain ⟨X1,S1,amu,alO,rfl,A1,adE,rfl⟩:=y3;replace f0:=f0.mono t1.1;replace T0:=T0.mono t1.1;refine h_ t1.1 ?_;have W3:aW g15 (.slice yS) ([.slice X1 (mW (l9 z0)).1.length S1]:List Value) ([(mW (l9 z0)).1]:List (List TS)):=(dx (c:=[.slice X1 (mW (l9 z0)).1.length S1]) A1 rfl);refine eH.t rfl rfl (gz W3 fun b16=>?_);refine h_ t1.1 ?_;obtain ⟨apr,hF⟩:=hF;refine eH.t rfl rfl (fu (e:=.slice yS) 24 5864062014805 4 0 rfl rfl rfl rfl f0 W3 underlying25 kr kr kr apr rfl fun a17 c17 anb aqG=>?_);refine h_ t1.1 (iJ 1 [0,2,3] [(68,.slice a17 (q0++([(mW (l9 z0)).1]:List (List TS))).length c17),(69,pv dD 0)] ?_);refine eH.t rfl rfl (dA 3 ?_);refine h_ t1.1 (eH.nil (bG (Ok.t ?_)));exact fun a W hA hW=>⟨k6,nl,g15,((((M1.trans W1).trans g1).trans O1).trans t1),B0,C0,lH v0 z0,D0,a17,c17,(q0++([(mW (l9 z0)).1]:List (List TS))),anb,amu,alO,(mW (l9 z0)).2,T0,aqG,adE,hA.sub kr,hW.pick [2,3,4,1,5,6,7] _ dc rfl,hF⟩
theorem aic (r:Rd):¬ QC 0 r:=fun ⟨_,_,_,_,_,_,_,_,_,_,_,h,_⟩=>absurd h (iN _)
theorem J6 (N:Nat) (K:Ph→Rd→Prop):∀ (p:List (List Ts)) (js:List Int) (ts:List Tok) (rest:Rd) (S:List (List Ts)) (J:List Int),uk p=true→(∀ z ∈ js,zw z=true)→p.length=js.length→LP p js ts→xh rest=true→8 * ts.length+4<N→qI (ts++rest)→S.length+ts.length≤1001→J.length+ts.length≤1001→K (S++p,J++js) rest→p8 N K (p.length+1) J S (ts++rest)
 | [],[],ts,rest,S,J,ho,hj,hl,h,hr,hN,hB,hS,hJ,hK=>by
  rw [LP] at h; subst h;rw [gK,gK] at hK;rw [jV,p8];have hg:=yF hr
  rcases vJ hr with rfl | ⟨q,rfl | rfl⟩
  all_goals simp [qx,rT,qy,qY,tu,hg,ah,hK]
 | s::p,z::js,ts,rest,S,J,ho,hj,hl,h,hr,hN,hB,hS,hJ,hK=>by
  rw [uk,aH,aH] at ho;obtain ⟨ho1,ho2,ho3⟩:=ho
  have hne:s≠[]:=fun e=>by rw [e] at ho2; cases ho2
  rw [LP] at h;obtain ⟨a,b,ha,hb,rfl⟩:=h;have hb:LP p js b:=hb;obtain ⟨x,q,hxa,hx⟩:=Cc hne ho1 ha
  have hjl:1≤(Ia z).length:=by unfold Ia; split <;> simp
  have hN:8 * (Ia z++(a++b)).length+4<N:=hN;have hB:qI ((Ia z++(a++b))++rest):=hB;have hS:S.length+(Ia z++(a++b)).length≤1001:=hS;have hJ:J.length+(Ia z++(a++b)).length≤1001:=hJ;simp only [bD] at hN hS hJ
  have hB1:qI (a++(b++rest)):=by
   rw [dM,dM] at hB;exact hB.app
  have hs:=LZ ho1 ha (y9 hb hr);have hP:Qr N (a++(b++rest)):=⟨s,_,a,b++rest,hne,ho1,ha,y9 hb hr,rfl,om,hB1⟩;have ih:=J6 N K p js b rest (S++[s]) (J++[z]) ho3 (fun y hy=>hj y (dK _ hy)) (by simpa using hl) hb hr om hB1.app (by rw [bD,mQ]; omega) (by rw [bD,mQ]; omega) (by rw [dM,dM]; exact hK)
  have e:(Ia z++(a++b))++rest=Ia z++(x::(q++(b++rest))):=by rw [hxa]; simp
  have e2:a++(b++rest)=x::(q++(b++rest)):=by rw [hxa]; simp
  rw [e2] at hs hP
  have hLs:(S++[s]).length≤5864062014805:=by rw [bD,mQ]; omega
  have hLj:(J++[z]).length≤140737488355328:=by rw [bD,mQ]; omega
  show p8 N K (p.length+1+1) J S ((Ia z++(a++b))++rest);rw [e,p8];obtain ⟨h1,h2,h3,h4,h5,h6,h7⟩:=hx;have hx:X6 x:=⟨h1,h2,h3,h4,h5,h6,h7⟩;have hgb:=IP (q:=q++(b++rest)) hx;clear e e2 hb ha hxa hB hB1;generalize b++rest=w1 at *;generalize q++w1=w at *
  rcases H_ (hj z (cz ..)) with rfl | rfl | rfl | rfl
  ·show qx N K J S (bl::x::w) (p8 N K (p.length+1));have hlj:J.length+1≤140737488355328:=om;have hls:S.length+1≤5864062014805:=om;simp [qx,rT,qy,wU,qY,tu,l9,lH,hgb,ah,h2,h3,h4,h5,h6,h7,hP,hs,ih,hlj,hls]
  ·show qx N K J S (bl::sg 62::bl::x::w) (p8 N K (p.length+1))
   have hg:bF (bl::sg 62::bl::x::w)=(true,sg 62::bl::x::w):=by simp [bF,wJ]; omega
   have hlj:J.length+1≤140737488355328:=om;have hls:S.length+1≤5864062014805:=om;simp [qx,rT,qy,wU,qY,tu,l9,lH,hg,hgb,ah,hP,hs,ih,hlj,hls]
   try omega
  ·show qx N K J S (bl::sg 43::bl::x::w) (p8 N K (p.length+1))
   have hg:bF (bl::sg 43::bl::x::w)=(true,sg 43::bl::x::w):=by simp [bF,wJ]; omega
   have hlj:J.length+1≤140737488355328:=om;have hls:S.length+1≤5864062014805:=om;simp [qx,rT,qy,wU,qY,tu,l9,lH,hg,hgb,ah,hP,hs,ih,hlj,hls]
   try omega
  show qx N K J S (bl::sg 126::bl::x::w) (p8 N K (p.length+1))
  have hg:bF (bl::sg 126::bl::x::w)=(true,sg 126::bl::x::w):=by simp [bF,wJ]; omega
  have hlj:J.length+1≤140737488355328:=om;have hls:S.length+1≤5864062014805:=om;simp [qx,rT,qy,wU,qY,tu,l9,lH,hg,hgb,ah,hP,hs,ih,hlj,hls]
  try omega
theorem aib (N:Nat) (r:Rd) (h:QC (N+1) r):aid N r (fun a b=>(a,b)=iE r):=by
 obtain ⟨p,js,ts,rest,hne,ho,hj,hl,hts,hr,rfl,hN,hB⟩:=h;rw [Mm ho hne hj hl hts hr]
 match p,hne with
 | s::p,_ =>
  rw [uk,aH,aH] at ho;obtain ⟨ho1,ho2,ho3⟩:=ho
  have hne:s≠[]:=fun e=>by rw [e] at ho2; cases ho2
  rw [Jo] at hts;obtain ⟨a,b,ha,hb,rfl⟩:=hts;rw [bD] at hN;rw [dM] at hB ⊢;have hs:=LZ ho1 ha (y9 hb hr)
  have hlb:b.length≤1000:=by have:=hB.app.1; rw [bD] at this; omega
  refine ⟨⟨s,_,a,b++rest,hne,ho1,ha,y9 hb hr,rfl,om,hB⟩,p.length+1,?_⟩;rw [hs];exact J6 N _ p js b rest [s] [] ho3 hj (by simpa using hl.symm) hb hr om hB.app (by rw [mQ]; omega) (by rw [jW]; omega) rfl
def yu (gD:Bs) (z0:List KT):List KT :=
 (if (gD==([]:Bs))=true then (fD (bF (iE (bF z0).2).2).2 ([44]:Bs)).2 else (fD (fD (bF (iE (bF z0).2).2).2 ([44]:Bs)).2 gD).2)
def Di (gD:Bs) (K:(List PH)→List KT→Prop) (c0:List PH) (z0:List KT):Prop :=
 K (c0++([(iE (bF z0).2).1]:List PH)) (yu gD z0)
def HY (N:Nat) (gD:Bs) (K:(List PH)→List KT→Prop) (c0:List PH) (z0:List KT) (C6:(List PH)→List KT→Prop):Prop :=
 QC N (bF z0).2∧(c0++([(iE (bF z0).2).1]:List PH)).length≤2932031007402∧vS (bF (iE (bF z0).2).2).2 ([44]:Bs)∧((fD (bF (iE (bF z0).2).2).2 ([44]:Bs)).1=true→C6 (c0++([(iE (bF z0).2).1]:List PH)) (fD (bF (iE (bF z0).2).2).2 ([44]:Bs)).2)∧((fD (bF (iE (bF z0).2).2).2 ([44]:Bs)).1=false→((gD==([]:Bs))=true→((!(((fD (bF (iE (bF z0).2).2).2 ([44]:Bs)).2.length:Int)==0))=true→False)∧((!(((fD (bF (iE (bF z0).2).2).2 ([44]:Bs)).2.length:Int)==0))=false→Di gD K c0 z0))∧((gD==([]:Bs))=false→vS (fD (bF (iE (bF z0).2).2).2 ([44]:Bs)).2 gD∧((!(fD (fD (bF (iE (bF z0).2).2).2 ([44]:Bs)).2 gD).1)=true→False)∧((!(fD (fD (bF (iE (bF z0).2).2).2 ([44]:Bs)).2 gD).1)=false→Di gD K c0 z0)))
def Fz (N:Nat) (gD:Bs) (K:(List PH)→List KT→Prop):Nat→List PH→List KT→Prop
 | 0,_,_=>False
 | k+1,c0,z0=>HY N gD K c0 z0 (Fz N gD K k)
def ai3 (N:Nat) (xr:List KT) (gD:Bs) (K:(List PH)→List KT→Prop):Prop :=
 ∃ k,Fz N gD K k ([]:List PH) xr
theorem abV {g:ak} (N:Nat) (Dv:Fp N) (zA:Fu N) (zx:ET N) (Du:Fj N) (zB:FC N) {bH:Nat} {g0:Option Addr} {m0:Nat} (xr:List KT) (gD:Bs) (K0:bE g (.slice yK) [.slice g0 xr.length m0] xr) (hG0:bR g 0) (K:(List PH)→List KT→Prop)
  (hF:ai3 N xr gD K):az prog 32 #[pv bH 0,sv gD] g [.blk bH (.cells #[.slice g0 xr.length m0] 70)] (fun g' H' v=>∃ (r0:List PH),∃ (kT:List KT),∃ (V0:Option Addr) (Q0:Nat),∃ (u0:Option Addr) (j0:Nat),v=.slice V0 r0.length Q0∧bE g' (.slice yP) [.slice V0 r0.length Q0] r0∧bE g' (.slice yK) [.slice u0 kT.length j0] kT∧H'=[.blk bH (.cells #[.slice u0 kT.length j0] 70)]∧K r0 kT):=by
 refine aP 33 func32 rfl fun w0=>?_;refine ae (av 1 [(0,pv bH 0),(1,sv gD)] kr (aa (ae (ag 1 [0,1] [(5,.slice none 0 0)] ?_))));have hL1:aW g yP [] []:=rfl;refine fT 28 2 (aa (Ok.block ?_));obtain ⟨k,hF⟩:=hF;refine fQ (fun k a W=>∃ Ry:ak,bf w0 g Ry∧∃ (A0:Option Addr) (I0:Nat) (c0:List PH) (j1:List Value) (N0:Option Addr) (O0:Nat) (z0:List KT),aW Ry yP j1 c0∧bE Ry (.slice yK) [.slice N0 z0.length O0] z0∧fC 33 [(0,pv bH 0),(1,sv gD),(5,.slice A0 c0.length I0)] a∧dm w0 [.own (.slice A0 c0.length I0) 28 2 c0.length j1,.blk bH (.cells #[.slice N0 z0.length O0] 70)] Ry W∧Fz N gD K k c0 z0) k ?_ ?_
 ·
  exact fun _ _ u v=>⟨g,bu w0 g,none,0,([]:List PH),[],g0,m0,xr,hL1,K0,fA u v hF⟩
 clear hF;rintro (_ | k6) _ _ ⟨Ry,M1,A0,I0,c0,j1,N0,O0,z0,P0,m1,q⟩;exact (q.2.2:False).elim;refine jn (fun hF=>?_) _ _ q;replace hG0:=hG0.mono M1.1;refine Ok.block (ae (ag 1 [0,1,5] [(6,pv bH 0)] ?_));refine jE [1,0] ?_;refine ai (bS (PI z0 m1) fun g2 _ _ hx2 hV2=>?_);obtain ⟨o3,p3,rfl,i1,rfl⟩:=hV2;replace P0:=P0.mono hx2.1;replace hG0:=hG0.mono hx2.1;refine aa (ae (ag 2 [0,1] [(8,.slice A0 c0.length I0),(9,pv bH 0)] ?_));obtain ⟨hp3,hF⟩:=hF;refine ai (bS (Du _ (bF z0).2 i1 hG0 hp3) fun g4 _ _ hx4 hV4=>?_);obtain ⟨j3,x3,s3,c3,awu,awe,rfl,UR,UQ,akC,rfl⟩:=hV4;replace P0:=P0.mono hx4.1;let A:=iE (bF z0).2;have hL5:aW g4 yP ([.slice j3 A.1.1.length x3,.slice s3 A.1.2.length c3]:List Value) ([A.1]:List PH):=(dx (c:=[.slice j3 A.1.1.length x3,.slice s3 A.1.2.length c3]) ⟨[.slice j3 A.1.1.length x3],[.slice s3 A.1.2.length c3],rfl,UR,UQ⟩ rfl);refine ai (gz hL5 fun b5=>?_);obtain ⟨hb6,hF⟩:=hF;refine ai (fu (e:=yP) 48 2932031007402 2 0 rfl rfl rfl rfl P0 hL5 underlying33 kr kr kr hb6 rfl fun a6 c6 xs6 hL6=>?_);let B:=c0++([A.1]:List PH);refine ag 1 [0,1] [(5,.slice a6 B.length c6)] ?_;refine aa (ae (ag 1 [0,1,5] [(13,pv bH 0)] ?_));refine jE [1,0,2] ?_;refine ai (bS (PI A.2 akC) fun g7 _ _ hx7 hV7=>?_);obtain ⟨awr,av7,rfl,K4,rfl⟩:=hV7;replace hL6:=hL6.mono hx7.1;refine aa (aF (ae (ag 1 [0,1,5] [(15,pv bH 0)] ?_)));obtain ⟨KV,hF⟩:=hF;refine ai (bS (Ff (bF A.2).2 ([44]:Bs) K4 KV) fun g9 _ _ hx9 hV9=>?_);obtain ⟨p2,t2,rfl,i2,rfl⟩:=hV9;replace hL6:=hL6.mono hx9.1;refine aa (aJ hF (fun y2 hF=>?_) (fun y2 hF=>?_))
 ·refine fw (ay (aM (Ok.t ?_)));exact fun a W hA hW=>⟨k6,nl,g9,((((M1.trans hx2).trans hx4).trans hx7).trans hx9),a6,c6,B,xs6,p2,t2,(fD (bF A.2).2 ([44]:Bs)).2,hL6,i2,hA.sub kr,hW.pick [2,0] _ dc rfl,hF⟩
 refine Ok.k (Ok.t (Ok.cut (fun a W=>∃ X2:ak,bf w0 g9 X2∧∃ (z1:Option Addr) (v1:Nat),bE X2 (.slice yK) [.slice z1 (yu gD z0).length v1] (yu gD z0)∧fC 33 [(5,.slice a6 B.length c6)] a∧dm w0 [.blk bH (.cells #[.slice z1 (yu gD z0).length v1] 70),.own (.slice a6 B.length c6) 28 2 B.length xs6] X2 W∧Di gD K c0 z0) ?_ ?_))
 ·
  refine ae (ag 1 [0,1,5] [(17,sv gD)] ?_);refine ai (af.s (v:=.bool (gD==([]:Bs))) (iG (f:=.eql) (a:=gD) (b:=([]:Bs)) kr kr rfl) rfl rfl (aa (aJ hF (fun P1 hF=>?_) (fun P1 hF=>?_))))
  ·let C:=((fD (bF A.2).2 ([44]:Bs)).2.length:Int)==0;refine aR (aj 7 [.e 0] [5] [(19,pv bH 0),(25,.bool C)] ?_);refine ai (bO (args:=#[pv bH 0,.bool C]) 8 [(0,pv bH 0),(1,.bool C)] gU func57 rfl rfl rfl rfl (ae (av 2 [(5,.bool (! C))] kr (aa (aJ hF (fun H2 hF=>?_) (fun H2 hF=>?_))))))
   ·exact False.elim hF
   refine Ok.k (bA (vs:=[]) (.inr rfl) rfl .nil rfl (aa (kg (E':=.blk bH (.cells #[.slice p2 (yu gD z0).length t2] 70)) 0 (aA (fun l:List Value=>cu.blk bH (.cells ⟨l⟩ 70)) (iy (aA (fun l:List KT=>Value.slice p2 l.length t2) ((aU P1).symm)) rfl)) ?_)));exact fun _ _ u v=>⟨g9,bu w0 g9,p2,t2,(Eq.mp (aA (fun l:List KT=>bE g9 (.slice yK) [.slice p2 l.length t2] l) ((aU P1).symm)) i2),fA u v hF⟩
  refine aR (ag 3 [5] [(27,pv bH 0),(28,pv bH 0),(29,sv gD)] ?_);obtain ⟨k3,hF⟩:=hF;let D:=fD (bF A.2).2 ([44]:Bs);refine ai (bS (Ff D.2 gD i2 k3) fun g15 _ _ t1 y3=>?_);obtain ⟨X1,S1,rfl,A1,rfl⟩:=y3;replace hL6:=hL6.mono t1.1;refine ai (bO (args:=#[pv bH 0,.bool (fD D.2 gD).1]) 8 [(0,pv bH 0),(1,.bool (fD D.2 gD).1)] gU func57 rfl rfl rfl rfl (ae (av 2 [(5,.bool (!(fD D.2 gD).1))] kr (aa (aJ hF (fun hc16 hF=>?_) (fun hc16 hF=>?_))))))
  ·exact False.elim hF
  refine Ok.k (bA (vs:=[]) (.inr rfl) rfl .nil rfl (aa (kg (E':=.blk bH (.cells #[.slice X1 (yu gD z0).length S1] 70)) 0 (aA (fun l:List Value=>cu.blk bH (.cells ⟨l⟩ 70)) (iy (aA (fun l:List KT=>Value.slice X1 l.length S1) ((aG P1).symm)) rfl)) ?_)));exact fun _ _ u v=>⟨g15,t1,X1,S1,(Eq.mp (aA (fun l:List KT=>bE g15 (.slice yK) [.slice X1 l.length S1] l) ((aG P1).symm)) A1),fA u v hF⟩
 clear hF;rintro _ _ ⟨X2,Z2,z1,v1,x1,q⟩;refine jn (fun hF=>?_) _ _ q;replace hL6:=hL6.mono Z2.1;refine ae (av 2 [(4,.slice a6 B.length c6)] kr (aa (Ok.ret (aV (aC (aV (sQ 1 rfl hL6 fun g11 W1 akn=>?_)))))));replace x1:=x1.mono W1.1;exact qg (.slice a6 B.length c6) ((((((M1.trans hx2).trans hx4).trans hx7).trans hx9).trans Z2).trans W1) ⟨B,yu gD z0,a6,c6,z1,v1,rfl,akn,x1,rfl,hF⟩
theorem ai2 (r:Rd) (e:Bs):¬ Kr 0 r e:=fun ⟨_,_,_,_,_,_,_,_,_,_,_,_,h,_⟩=>absurd h (iN _)
theorem Kq (N:Nat) (e:Bs) (K:List Ph→Rd→Prop):∀ (l:List Ph) (p:List (List Ts)) (js:List Int) (a b:List Tok) (fin rest r:Rd) (acc:List Ph),rV ((p,js)::l)=true→Jo p js a→Lv l b→Y9 e fin rest→(bF r).2=a++(b++fin)→8 * (a.length+b.length)+7<N→qI (a++(b++fin))→acc.length+b.length≤1000→K (acc++(p,js)::l) rest→Fz N e K (l.length+1) acc r
 | [],p,js,a,b,fin,rest,r,acc,ho,ha,hb,hF,hg,hN,hB,hl,hK=>by
  obtain ⟨⟨r1,r2⟩,r3,r4⟩:=vz ho;rw [Lv] at hb; subst hb
  have hfin:xh fin=true:=by rcases hF with ⟨-,rfl,-⟩ | ⟨-,rfl⟩ <;> rfl
  rw [jV] at hg hB;have hp:=Mm r3 r1 r4 r2 ha hfin;have hP:QC N (a++fin):=⟨p,js,a,fin,r1,r3,r4,r2,ha,hfin,rfl,by simp at hN; omega,hB⟩
  have hl:acc.length+1≤2932031007402:=by simp at hl; omega
  have hgf:=yF hfin;rw [Fz]
  rcases hF with ⟨rfl,rfl,rfl⟩ | ⟨rfl,rfl⟩
  ·rw [gK] at hg hp hP;simp [HY,Di,yu,hg,hp,hP,hgf,hl,vS,fD,ah,hK]
  simp [HY,Di,yu,hg,hp,hP,hgf,hl,vS,fD,ah,hK]
 | (p',js')::l,p,js,a,b,fin,rest,r,acc,ho,ha,hb,hF,hg,hN,hB,hl,hK=>by
  obtain ⟨⟨r1,r2⟩,r3,r4⟩:=vz ho
  have hfin:xh fin=true:=by rcases hF with ⟨-,rfl,-⟩ | ⟨-,rfl⟩ <;> rfl
  have hend:=Om hb hfin;rw [Lv] at hb;obtain ⟨a',b',ha',hb',rfl⟩:=hb;have ho3:=ho;rw [kJ,aH,aH,aH] at ho3;have ho4:=ho3.2.2.2;obtain ⟨⟨u1,u2⟩,u3,u4⟩:=vz ho4;obtain ⟨x,q,hxa,hx⟩:=xQ u1 u3 ha';have hp:=Mm r3 r1 r4 r2 ha hend;have hP:QC N (a++(sg 44::bl::(a'++b')++fin)):=⟨p,js,a,_,r1,r3,r4,r2,ha,hend,rfl,om,hB⟩;have hgf:=yF hend
  have e2:sg 44::bl::(a'++b')++fin=sg 44::bl::(a'++(b'++fin)):=by simp
  rw [e2] at hg hp hP hgf hB;simp only [di,bD] at hN hl;have ih:=Kq N e K l p' js' a' b' fin rest (bl::(a'++(b'++fin))) (acc++[(p,js)]) ho4 ha' hb' hF (by rw [hxa,iP,IP hx]) om hB.app.tail.tail (by rw [bD,mQ]; omega) (by rw [dM]; exact hK);have hl:acc.length+1≤2932031007402:=om;rw [di,Fz];generalize a'++(b'++fin)=w at *;generalize a++sg 44::bl::w=w0 at *;simp [HY,hg,hp,hP,hgf,hl,vS,fD,ah,ih]
theorem ai1 (N:Nat) (r:Rd) (e:Bs) (h:Kr (N+1) r e):ai3 N r e (fun a b=>(a,b)=ku r e):=by
 obtain ⟨l,p,js,a,b,fin,rest,ho,ha,hb,hF,rfl,hN,hB⟩:=h;rw [HZ ho ha hb hF]
 have hl:b.length≤1000:=by have:=hB.app.1; rw [bD] at this; omega
 exact ⟨l.length+1,Kq N e _ l p js a b fin rest _ [] ho ha hb hF (by rw [FJ ho ha]) om hB (by simpa using hl) rfl⟩
theorem O6:∀ N,Fp N∧Fu N∧ET N∧Fj N∧FC N
 | 0=>⟨(by intro g bH g0 m0 xr K0 hG0 hp; exact (aif xr hp).elim),(by intro g bH g0 m0 xr K0 hG0 hp; exact (aik xr hp).elim),(by intro g bH g0 m0 xr K0 hG0 hp; exact (ag2 xr hp).elim),(by intro g bH g0 m0 xr K0 hG0 hp; exact (aic xr hp).elim),(by intro g bH g0 m0 xr gD K0 hG0 hp; exact (ai2 xr gD hp).elim)⟩
 | N+1 =>
  have ih:=O6 N
  ⟨(by intro g bH g0 m0 xr K0 hG0 hp; exact (abr N ih.1 ih.2.1 ih.2.2.1 ih.2.2.2.1 ih.2.2.2.2 xr K0 hG0 _ (aie N xr hp)).mono (by rintro g' H' v _ ⟨r0,kT,V0,Q0,u0,j0,rfl,k1,R0,rfl,hK⟩; obtain ⟨rfl,rfl⟩:r0=(qz xr).1∧kT=(qz xr).2:=⟨aA (fun z=>z.1) hK,aA (fun z=>z.2) hK⟩; exact ⟨V0,Q0,u0,j0,rfl,k1,R0,rfl⟩)),(by intro g bH g0 m0 xr K0 hG0 hp; exact (abw N ih.1 ih.2.1 ih.2.2.1 ih.2.2.2.1 ih.2.2.2.2 xr K0 hG0 _ (aij N xr hp)).mono (by rintro g' H' v _ ⟨r0,r1,kT,V0,Q0,u0,j0,rfl,k1,R0,rfl,hK⟩; obtain ⟨rfl,rfl,rfl⟩:r0=(fO xr).1∧r1=(fO xr).2.1∧kT=(fO xr).2.2:=⟨aA (fun z=>z.1) hK,aA (fun z=>z.2.1) hK,aA (fun z=>z.2.2) hK⟩; exact ⟨V0,Q0,u0,j0,rfl,k1,R0,rfl⟩)),(by intro g bH g0 m0 xr K0 hG0 hp; exact (aaC N ih.1 ih.2.1 ih.2.2.1 ih.2.2.2.1 ih.2.2.2.2 xr K0 hG0 _ (ag1 N xr hp)).mono (by rintro g' H' v _ ⟨r0,kT,V0,Q0,u0,j0,rfl,k1,R0,rfl,hK⟩; obtain ⟨rfl,rfl⟩:r0=(mW xr).1∧kT=(mW xr).2:=⟨aA (fun z=>z.1) hK,aA (fun z=>z.2) hK⟩; exact ⟨V0,Q0,u0,j0,rfl,k1,R0,rfl⟩)),(by intro g bH g0 m0 xr K0 hG0 hp; exact (abq N ih.1 ih.2.1 ih.2.2.1 ih.2.2.2.1 ih.2.2.2.2 xr K0 hG0 _ (aib N xr hp)).mono (by rintro g' H' v _ ⟨r0,kT,V0,Q0,d1,e1,u0,j0,rfl,k1,adh,R0,rfl,hK⟩; obtain ⟨rfl,rfl⟩:r0=(iE xr).1∧kT=(iE xr).2:=⟨aA (fun z=>z.1) hK,aA (fun z=>z.2) hK⟩; exact ⟨V0,Q0,d1,e1,u0,j0,rfl,k1,adh,R0,rfl⟩)),(by intro g bH g0 m0 xr gD K0 hG0 hp; exact (abV N ih.1 ih.2.1 ih.2.2.1 ih.2.2.2.1 ih.2.2.2.2 xr gD K0 hG0 _ (ai1 N xr gD hp)).mono (by rintro g' H' v _ ⟨r0,kT,V0,Q0,u0,j0,rfl,k1,R0,rfl,hK⟩; obtain ⟨rfl,rfl⟩:r0=(ku xr gD).1∧kT=(ku xr gD).2:=⟨aA (fun z=>z.1) hK,aA (fun z=>z.2) hK⟩; exact ⟨V0,Q0,u0,j0,rfl,k1,R0,rfl⟩))⟩
def TF (xr:List KT) (gD:Bs):Prop:=∃ N,Kr N xr gD
theorem ai0 {g:ak} {bH:Nat} {g0:Option Addr} {m0:Nat} (xr:List KT) (gD:Bs) (K0:bE g (.slice yK) [.slice g0 xr.length m0] xr) (hG0:bR g 0)  (hp:TF xr gD):az prog 32 #[pv bH 0,sv gD] g [.blk bH (.cells #[.slice g0 xr.length m0] 70)] (fun g' H' v=>∃ (V0:Option Addr) (Q0:Nat),∃ (u0:Option Addr) (j0:Nat),v=.slice V0 (ku xr gD).1.length Q0∧bE g' (.slice yP) [.slice V0 (ku xr gD).1.length Q0] (ku xr gD).1∧bE g' (.slice yK) [.slice u0 (ku xr gD).2.length j0] (ku xr gD).2∧H'=[.blk bH (.cells #[.slice u0 (ku xr gD).2.length j0] 70)]):=by
 obtain ⟨N,hp⟩:=hp;exact (O6 N).2.2.2.2 _ xr gD K0 hG0 hp
set_option maxHeartbeats 4000000
set_option maxRecDepth 100000
theorem Ug (p q:Value):Idle prog 30 #[p,q]:=by
 intro W;refine callsD_of_wpS func30 rfl fun c₀ cs hu=>?_;apply wpS_seq;apply wpS_region;simp [wpOpsS,go_sem,recoverD,hu,Exit.thenS];apply wpS_seq;apply wpS_region;simp [wpOpsS,go_sem,Exit.thenS];refine wpS_cond (t:=false) (by simp [Act.eval,Array.replicate]) ?_;simp only [zY,if_false];refine wpS_of_wp (wp_skip ?_);exact ⟨rfl,.returning,by cases c₀; simp_all,.tuple #[],by simp [results,Tryz.results30],⟨_,rfl⟩,rfl,Below.refl _ _⟩
def Told (l:List Ph):Prop:=zN l∧nP l=0∧(tx3 l).length≤400
def rdP (s:Bs):Prop:=∃ l,Told l∧s=tx3 l
def kF (s:Bs):List Ph×Int:=((ku (jd s) []).1,0)
theorem Vx {s:Bs} {ts:List Tok} (h:g_ s ts):ts.length≤s.length∧∀ t ∈ ts,t.2.1.length≤s.length:=by
 induction h with
 | nil=>exact ⟨fP _,fun t h=>(by cases h)⟩
 | @cons w r t ts hw h ht hr ih =>
  have:1≤w.length:=by cases w with
   | nil=>exact absurd rfl hw
   | cons c w=>simp
  refine ⟨by rw [di,bD]; omega,fun y hy=>?_⟩;rw [bD]
  rcases eO.1 hy with rfl | hy
  ·rw [ht]; omega
  have:=ih.2 y hy; omega
theorem Wm {l:List Ph} (h:Told l):rV l=true∧l≠[]:=by
 have h:=h.2.1;unfold nP at h
 split at h
 ·cases h
 split at h
 ·cases h
 rename_i h2
 simp only [nV,dC,fF,not_or,Bool.not_eq_false,dI] at h2;refine ⟨h2.1,fun e=>?_⟩;have:=h2.2;rw [e] at this;simp at this
theorem B_ {l:List Ph} (h:Told l):∃ p js l' a b,l=(p,js)::l'∧rV ((p,js)::l')=true∧Jo p js a∧Lv l' b∧jd (tx3 l)=a++(b++[])∧qI (jd (tx3 l)):=by
 obtain ⟨h1,h2⟩:=Wm h;obtain ⟨ht,hc⟩:=Qm h1 h.1.2 (gQ h.2.2 dc);have hb:=Vx hc;have hl:=h.2.2
 match l,h2 with
 | (p,js)::l,_ =>
  rw [Rj] at ht;obtain ⟨a,b,ha,hb',e⟩:=ht;exact ⟨p,js,l,a,b,rfl,h1,ha,hb',by rw [gK]; exact e,om,fun t ht=>by have:=hb.2 t ht; omega⟩
theorem JU {l:List Ph} (h:Told l):kF (tx3 l)=(l,0):=by
 obtain ⟨p,js,l',a,b,rfl,ho,ha,hb,e,-⟩:=B_ h;unfold kF;rw [e,HZ ho ha hb (e:=[]) (fin:=[]) (rest:=[]) (.inl ⟨rfl,rfl,rfl⟩)]
def rdF (xs:Bs) (K:(List PH)→Int→Prop):Prop :=
 ((decide ((xs.length:Int)>400))=true→K ([]) 2)∧((decide ((xs.length:Int)>400))=false→sD xs∧TF (jd xs) ([]:Bs)∧zN (ku (jd xs) ([]:Bs)).1∧(((nP (ku (jd xs) ([]:Bs)).1) != 0)=true→K ([]) 4)∧(((nP (ku (jd xs) ([]:Bs)).1) != 0)=false→K (ku (jd xs) ([]:Bs)).1 0))
theorem ahQ {g:ak} (xs:Bs) (hG0:bR g 0) (K:(List PH)→Int→Prop)
  (hF:rdF xs K):az prog 16 #[sv xs] g [] (fun g' H' v=>∃ (r0:List PH),∃ (r1:Int),∃ (z0:Option Addr) (v0:Nat),v=.tuple #[.slice z0 r0.length v0,iv r1]∧bE g' (.slice yP) [.slice z0 r0.length v0] r0∧H'=[]∧K r0 r1):=by
 refine EH 19 [(0,sv xs)] func16 rfl kr kr kr fun w0=>?_;refine ae (ai (af.a (z:=.slice none 0 0) (cs:=#[.slice none 0 0]) kr kr rfl fun eT=>?_));refine ai (af.a (z:=iv 0) (cs:=#[iv 0]) kr kr rfl fun dD=>?_);refine aa (aF (ae (av 3 [(0,sv xs),(2,pv eT 0),(3,pv dD 0),(7,.bool (decide ((xs.length:Int)>400)))] kr (aa (aJ hF (fun hc3 hF=>?_) (fun hc3 hF=>?_))))))
 ·refine ae (ai (dA 1 ?_));refine ai (dA 0 ?_);refine aa (Ok.ret (aC ?_));exact VP (vs:=[.slice none 0 0,iv 2]) rfl [] [] dc rfl (.inl rfl) rfl (.cons (.vO 1 rfl rfl underlying33 rfl kr) (.cons (.vO 0 rfl rfl underlying30 rfl kr) .nil)) (bu w0 g) ⟨([]),2,none,0,rfl,bE.nil,rfl,hF⟩
 let B:=(#[pv eT 0,pv dD 0]:Array Value);refine Ok.k (Ok.t (ae (ag 1 [0,2,3] [(8,.func (.func 30) #[] B)] ?_)));refine ai (af.defer ⟨.fn (.func 30) B,#[]⟩ kr (fun _=>by kernel_rfl) rfl ?_);refine aa (ae (ag 1 [2,3] [(9,sv xs)] ?_));obtain ⟨XT,hF⟩:=hF;refine ai (bS (ZV xs hG0 XT) fun g5 _ _ hx5 hV5=>?_);obtain ⟨afM,aff,rfl,DI,rfl⟩:=hV5;replace hG0:=hG0.mono hx5.1;refine ag 1 [2,3] [(11,.agg #[.slice afM (jd xs).length aff])] ?_;refine ai (cO fun t0=>?_);refine ag 1 [2,3] [(4,pv t0 0)] ?_;refine aa (ae (ag 1 [2,3] [(13,pv t0 0)] ?_));obtain ⟨Im,hF⟩:=hF;refine ai (bS (ai0 (jd xs) ([]:Bs) DI hG0 Im) fun g8 _ _ hx8 hV8=>?_);obtain ⟨s0,b0,ar6,arV,rfl,j0,akv,rfl⟩:=hV8;replace hG0:=hG0.mono hx8.1;refine ai (dA 2 ?_);refine aa (aF (aF (aR ?_)));obtain ⟨Il,hF⟩:=hF;let A:=ku (jd xs) ([]:Bs);refine aj 3 [.e 2,.k (ZW A.1 j0 hG0 Il)] [2,3] [(17,.bool ((nP A.1) != 0))] ?_;refine aa (aJ hF (fun acW hF=>?_) (fun acW hF=>?_))
 ·refine ae (ai (dA 2 ?_));refine ai (dA 1 ?_);refine aa (Ok.ret (aC ?_));exact Qc (vs:=[.slice none 0 0,iv 4]) (args:=B) (Ug _ _) rfl (fun _=>by kernel_rfl) [] [] dc rfl (.inl rfl) rfl (.cons (.vO 2 rfl rfl underlying33 rfl kr) (.cons (.vO 1 rfl rfl underlying30 rfl kr) .nil)) (hx5.trans hx8) ⟨([]),4,none,0,rfl,bE.nil,rfl,hF⟩
 refine Ok.k (Ok.t (ae (ai (af.s (v:=.slice s0 A.1.length b0) (aS 2 rfl rfl underlying33 rfl kr) rfl rfl (ai (dA 2 ?_))))));refine ai (dA 1 ?_);refine aa (Ok.ret ?_);exact Qc (vs:=[.slice s0 A.1.length b0,iv 0]) (args:=B) (Ug _ _) rfl (fun _=>by kernel_rfl) [] [] dc rfl (.inl rfl) rfl (.cons (.vO 2 rfl rfl underlying33 rfl kr) (.cons (.vO 1 rfl rfl underlying30 rfl kr) .nil)) (hx5.trans hx8) ⟨A.1,0,s0,b0,rfl,j0,rfl,hF⟩
theorem ant (s:Bs) (hp:rdP s):rdF s (fun a c=>(a,c)=kF s):=by
 obtain ⟨l,h,rfl⟩:=hp;rw [JU h];obtain ⟨p,js,l',a,b,el,ho,ha,hb,e,hB⟩:=B_ h;have e1:(ku (jd (tx3 l)) []).1=l:=aA Prod.fst (JU h);have hN:TF (jd (tx3 l)) []:=⟨_,l',p,js,a,b,[],[],ho,ha,hb,.inl ⟨rfl,rfl,rfl⟩,e,nl,hB⟩
 have hc:sD (tx3 l):=by have:=h.2.2; show (tx3 l).length<4294967281; omega
 have hl:=h.2.2;unfold rdF;rw [e1];refine ⟨fun h=>absurd (df h) om,fun _=>⟨hc,hN,h.1,?_⟩⟩;show ((nP l != 0)=true→_)∧((nP l != 0)=false→_);rw [h.2.1];exact ⟨fun h=>absurd h dc,fun _=>rfl⟩
theorem rd_c {g:ak} (xs:Bs) (hG0:bR g 0)  (hp:rdP xs):az prog 16 #[sv xs] g [] (fun g' H' v=>∃ (z0:Option Addr) (v0:Nat),v=.tuple #[.slice z0 (kF xs).1.length v0,iv (kF xs).2]∧bE g' (.slice yP) [.slice z0 (kF xs).1.length v0] (kF xs).1∧H'=[]) :=
 (ahQ xs hG0 _ (ant xs hp)).mono (by rintro g' H' v _ ⟨r0,r1,z0,v0,rfl,xe,rfl,hK⟩; obtain ⟨rfl,rfl⟩:r0=(kF xs).1∧r1=(kF xs).2:=⟨aA (fun z=>z.1) hK,aA (fun z=>z.2) hK⟩; exact ⟨z0,v0,rfl,xe,rfl⟩)
def pA:Ph:=([[.mk (2,[97],0,[],0,0) []],[.mk (4,[98],0,[],0,0) []]],[62])
theorem RX:Told [pA]:=by
 refine ⟨⟨by decide +kernel,fun q hq=>?_⟩,by decide +kernel,by decide +kernel⟩;obtain rfl:=il.1 hq;have ok:∀ k n,okB (.mk (k,n,0,[],0,0) []):=fun k n=>gL.all_mk.2 ⟨⟨⟨by show (0:Int)≤0; decide,by show (0:Int)≤255; decide⟩,fun q hq=>(by cases hq)⟩,fun q hq=>(by cases hq)⟩;refine ⟨fun z hz=>?_,fun s hs t ht=>?_⟩
 ·obtain rfl:=il.1 hz;exact ⟨by decide,by decide⟩
 rcases eO.1 hs with rfl | hs
 ·obtain rfl:=il.1 ht;exact ok _ _
 obtain rfl:=il.1 hs;obtain rfl:=il.1 ht;exact ok _ _
theorem agz:tx3 [pA]=[97,32,62,32,46,98]:=by decide +kernel
theorem ahR:kF [97,32,62,32,46,98]=([pA],0):=by rw [← agz]; exact JU RX
def Ag:Bool :=
 ((((kF ([97,32,62,32,46,98]:Bs)).2==0)&&(((kF ([97,32,62,32,46,98]:Bs)).1.length:Int)==1))&&(((((kF ([97,32,62,32,46,98]:Bs)).1.getD (Int.toNat 0) default).1.length:Int)==2)&&((bytesOf ((kF ([97,32,62,32,46,98]:Bs)).1.getD (Int.toNat 0) default).2)==([62]:Bs))))
def Kt (K:Bool→Prop):Prop :=
 K Ag
def abX (K:Bool→Prop):Prop :=
 rdP ([97,32,62,32,46,98]:Bs)∧((((kF ([97,32,62,32,46,98]:Bs)).2==0)&&(((kF ([97,32,62,32,46,98]:Bs)).1.length:Int)==1))=true→(0:Int)≤0∧Int.toNat 0<(kF ([97,32,62,32,46,98]:Bs)).1.length∧(((((kF ([97,32,62,32,46,98]:Bs)).1.getD (Int.toNat 0) default).1.length:Int)==2)=true→Kt K)∧(((((kF ([97,32,62,32,46,98]:Bs)).1.getD (Int.toNat 0) default).1.length:Int)==2)=false→Kt K))∧((((kF ([97,32,62,32,46,98]:Bs)).2==0)&&(((kF ([97,32,62,32,46,98]:Bs)).1.length:Int)==1))=false→Kt K)
theorem abW {g:ak}  (hG0:bR g 0) (K:Bool→Prop)
  (hF:abX K):az prog 6 #[] g [] (fun g' H' v=>∃ (r0:Bool),v=.bool r0∧H'=[]∧K r0):=by
 refine aP 30 func6 rfl fun w0=>?_;refine ae (av 1 [] kr (aa (aF (aR ?_))));obtain ⟨hp1,hF⟩:=hF;refine ai (bS (rd_c ([97,32,62,32,46,98]:Bs) hG0 hp1) fun g2 _ _ hx2 hV2=>?_);obtain ⟨q0,k0,rfl,x0,rfl⟩:=hV2;refine av 5 [(1,.slice q0 (kF ([97,32,62,32,46,98]:Bs)).1.length k0),(2,iv (kF ([97,32,62,32,46,98]:Bs)).2)] kr (aa (iK g2 [(0,.bool Ag)] [] (Kt K) ?_ (fun Ya a0 hF=>?_)))
 ·
  refine aR (ag 3 [1] [(9,.bool ((kF ([97,32,62,32,46,98]:Bs)).2==0))] ?_);refine Ok.w 4 [(1,.slice q0 (kF ([97,32,62,32,46,98]:Bs)).1.length k0),(13,.bool (((kF ([97,32,62,32,46,98]:Bs)).2==0)&&(((kF ([97,32,62,32,46,98]:Bs)).1.length:Int)==1)))] (fun Iu=>?_) ?_
  ·refine Ok.a 9 ((kF ([97,32,62,32,46,98]:Bs)).2==0) rfl (fun hc4=>?_) (fun hc4=>?_)
   ·skip;refine ag 4 [1] [(13,.bool (((kF ([97,32,62,32,46,98]:Bs)).1.length:Int)==1))] ?_;refine aB 13 (((kF ([97,32,62,32,46,98]:Bs)).2==0)&&(((kF ([97,32,62,32,46,98]:Bs)).1.length:Int)==1)) (bn hc4) (ag 0 [1] [(13,.bool (((kF ([97,32,62,32,46,98]:Bs)).2==0)&&(((kF ([97,32,62,32,46,98]:Bs)).1.length:Int)==1)))] ?_);exact Iu
   skip;refine ag 4 [1] [(13,.bool false)] ?_;refine aB 13 (((kF ([97,32,62,32,46,98]:Bs)).2==0)&&(((kF ([97,32,62,32,46,98]:Bs)).1.length:Int)==1)) (bZ hc4) (ag 0 [1] [(13,.bool (((kF ([97,32,62,32,46,98]:Bs)).2==0)&&(((kF ([97,32,62,32,46,98]:Bs)).1.length:Int)==1)))] ?_);exact Iu
  refine ag 1 [1] [(14,.bool (((kF ([97,32,62,32,46,98]:Bs)).2==0)&&(((kF ([97,32,62,32,46,98]:Bs)).1.length:Int)==1)))] ?_;refine bP 14 hF (fun jy hF=>?_) (fun jy hF=>?_)
  ·refine ag 1 [1] [(14,.bool true),(15,.slice q0 (kF ([97,32,62,32,46,98]:Bs)).1.length k0)] ?_;obtain ⟨PG,QY,hF⟩:=hF;have Jn:=aT (l:=(kF ([97,32,62,32,46,98]:Bs)).1) default QY;generalize V4:((kF ([97,32,62,32,46,98]:Bs)).1.getD (Int.toNat 0) default)=e7 at Jn hF ⊢;refine dZ (af.aX (e:=yP) rfl rfl underlying33 kr x0 PG Jn rfl fun q6 o6 cs6 _ c0 QV=>?_);obtain ⟨_,_,rfl,⟨d0,e0,rfl,ajS,ajA⟩,⟨f0,g0,rfl,ajR,ajz⟩⟩:=QV;have wz:bE g2 (.slice (.slice yS)) [.slice d0 e7.1.length e0] e7.1:=⟨d0,e0,rfl,ajS,ajA⟩;have atf:bE g2 (.slice yb) [.slice f0 e7.2.length g0] e7.2:=⟨f0,g0,rfl,ajR,ajz⟩;replace c0:At g2 q6 o6 [.slice d0 e7.1.length e0,.slice f0 e7.2.length g0]:=c0;refine aj 6 [.a 0 c0] [1] [(22,.bool ((e7.1.length:Int)==2))] ?_;refine Ok.a 22 ((e7.1.length:Int)==2) rfl (fun hc8=>?_) (fun hc8=>?_)
   ·replace hF:=hF.1 hc8;refine av 1 [(22,.bool true),(23,.slice q0 (kF ([97,32,62,32,46,98]:Bs)).1.length k0)] kr (dZ (af.aX (e:=yP) rfl rfl underlying33 kr x0 PG Jn rfl fun q9 o9 cs9 _ m0 Um=>?_));obtain ⟨_,_,rfl,⟨n0,o0,rfl,UD,Ul⟩,⟨y0,u0,rfl,UC,Uk⟩⟩:=Um;have Pz:bE g2 (.slice (.slice yS)) [.slice n0 e7.1.length o0] e7.1:=⟨n0,o0,rfl,UD,Ul⟩;have UO:bE g2 (.slice yb) [.slice y0 e7.2.length u0] e7.2:=⟨y0,u0,rfl,UC,Uk⟩;replace m0:At g2 q9 o9 [.slice n0 e7.1.length o0,.slice y0 e7.2.length u0]:=m0;refine ag 1 [22] [(25,.pointer (some ⟨q9,o9+1,none⟩))] ?_;refine dZ (af.s (v:=.slice y0 e7.2.length u0) (fe 1 m0 kr underlying26 rfl kr) rfl rfl (dZ (af.s (v:=sv (bytesOf e7.2)) (Ei kr rfl UO underlying26 underlying9 underlying5) rfl rfl (aj 3 [] [] [(0,.bool (bytesOf e7.2==([62]:Bs)))] ?_))));refine bV (Ok.t ?_);subst V4;refine aB 0 Ag (au (bn hc8) (bn jy)) ?_;exact fg hF
   replace hF:=hF.2 hc8;refine av 8 [(0,.bool false)] kr (bV (Ok.t ?_));subst V4;refine aB 0 Ag (au (bZ hc8) (bn jy)) ?_;exact fg hF
  refine av 16 [(0,.bool false)] kr (aa (aB 0 Ag (bZ jy) ?_));exact fg hF
 refine Ok.ret ?_;exact qg (.bool Ag) (hx2.trans a0) ⟨_,rfl,rfl,hF⟩
theorem ai5:abX (fun r=>r=true):=by
 have j:Kt (fun r=>r=true):=by show Ag=true; unfold Ag; rw [ahR]; decide +kernel
 have h0:rdP [97,32,62,32,46,98]:=⟨_,RX,agz.symm⟩;unfold abX;rw [ahR];exact ⟨h0,fun _=>⟨by decide,by decide +kernel,fun _=>j,fun _=>j⟩,fun _=>j⟩
theorem ai4 {g:ak}  (hG0:bR g 0)  : bC prog 6 #[] g (.bool true) :=
 (abW  hG0 _ (ai5 )).gv
theorem VC {z:Int} (h:(Lit.int .u8 z).wf=true):VD z:=by
 have h1:IntKind.u8.min≤z∧z≤IntKind.u8.max:=by simpa [Lit.wf] using h
 have h2:IntKind.u8.min=0:=rfl;have h3:IntKind.u8.max=255:=rfl;exact ⟨om,om⟩
theorem Xi:∀ t:Ts,Jp yS t→okB t:=by
 refine gL.ind ?_;intro x l ih hd;have hd:=gL.all_mk.1 hd;refine gL.all_mk.2 ⟨⟨VC hd.1.1.2.2.1,fun q hq z hz=>VC ((hd.1.2.2 q hq).2.2 z hz)⟩,fun q hq s hs k hk=>ih q hq s hs k hk (hd.2 q hq s hs k hk)⟩
theorem Tc {l:List Ph} (h:Jp (.slice yP) l):QF l:=fun q hq =>
 ⟨fun z hz=>VC ((h.2 q hq).2.2 z hz),fun s hs t ht=>Xi t (((h.2 q hq).1.2 s hs).2 t ht)⟩
theorem arT {l:List Ph} (h:VS (.slice yP) l):zN l:=⟨gQ h.2 dc,Tc h.1.1⟩
end Go.Proofs.YtdapgmigogpdcaaGreatDoor.Se
namespace Go.Proofs.YtdapgmigogpdcaaGreatDoor.Se
open _root_.Go.Proofs.Tryz Go Go.iT Go.RowKit jN BI tO Tk Ti Me Rp Qu
set_option maxHeartbeats 4000000
set_option maxRecDepth 100000
def agR (xl:List PH) (K:Bs→Int→Prop):Prop :=
 zN xl∧(((nP xl) != 0)=true→K ([]:Bs) (nP xl))∧(((nP xl) != 0)=false→R7 xl∧((decide (((tx3 xl).length:Int)>400))=true→K ([]:Bs) 2)∧((decide (((tx3 xl).length:Int)>400))=false→K (tx3 xl) 0))
theorem aaw {g:ak} {z0:Option Addr} {v0:Nat} (xl:List PH) (q0:bE g (.slice yP) [.slice z0 xl.length v0] xl) (hG0:bR g 0) (hG3:mg g 3 (.int .u64) yZ) (K:Bs→Int→Prop)
  (hF:agR xl K):az prog 11 #[.slice z0 xl.length v0] g [] (fun g' H' v=>∃ (r0:Bs),∃ (r1:Int),v=.tuple #[sv r0,iv r1]∧H'=[]∧K r0 r1):=by
 refine aP 17 func11 rfl fun w0=>?_;refine ae (av 2 [(0,.slice z0 xl.length v0)] kr (aa (aF (aF (aR ?_)))));obtain ⟨hp1,hF⟩:=hF;refine aj 3 [.k (ZW xl q0 hG0 hp1)] [0] [(4,iv (nP xl))] ?_;refine aa (ae (ag 2 [0,4] [(9,.bool ((nP xl) != 0))] ?_));refine aa (aJ hF (fun hc2 hF=>?_) (fun hc2 hF=>?_))
 ·refine ae (av 3 [(2,sv ([]:Bs)),(3,iv (nP xl))] kr (aa (Ok.ret (aC ?_))));exact gZ (vs:=[sv ([]:Bs),iv (nP xl)]) (.inl rfl) rfl (.cons (.tmp rfl) (.cons (.tmp rfl) .nil)) (bu w0 g) ⟨([]:Bs),nP xl,rfl,rfl,hF⟩
 refine Ok.k (Ok.t (aF (aR ?_)));obtain ⟨hp3,hF⟩:=hF;refine aj 3 [.k (agS xl q0 hG3 hp3)] [] [(5,sv (tx3 xl))] ?_;refine aa (aF (ae (ag 3 [5] [(15,.bool (decide (((tx3 xl).length:Int)>400)))] ?_)));refine aa (aJ hF (fun hc4 hF=>?_) (fun hc4 hF=>?_))
 ·refine ae (av 2 [(2,sv ([]:Bs)),(3,iv 2)] kr (aa (Ok.ret (aC ?_))));exact gZ (vs:=[sv ([]:Bs),iv 2]) (.inl rfl) rfl (.cons (.tmp rfl) (.cons (.tmp rfl) .nil)) (bu w0 g) ⟨([]:Bs),2,rfl,rfl,hF⟩
 refine Ok.k (Ok.t (ae (av 3 [(2,sv (tx3 xl)),(3,iv 0)] kr (aa (Ok.ret ?_)))));exact gZ (vs:=[sv (tx3 xl),iv 0]) (.inl rfl) rfl (.cons (.tmp rfl) (.cons (.tmp rfl) .nil)) (bu w0 g) ⟨tx3 xl,0,rfl,rfl,hF⟩
def fH (l:List Ph):Bs×Int:=if (nP l != 0)=true then ([],nP l) else if decide (((tx3 l).length:Int)>400)=true then ([],2) else (tx3 l,0)
theorem P7 {l:List Ph} (h:nP l=0):rV l=true∧l≠[]:=by
 unfold nP at h
 split at h
 ·cases h
 split at h
 ·cases h
 rename_i h2
 simp only [nV,dC,fF,not_or,Bool.not_eq_false,dI] at h2;refine ⟨h2.1,fun e=>?_⟩;have:=h2.2;rw [e] at this;simp at this
theorem aaz {l:List Ph} (hp:zN l) (h:nP l=0):R7 l:=⟨b3 l+1,om,hp.1,hp.2,(P7 h).1⟩
theorem agQ (l:List Ph) (hp:zN l):agR l (fun r e=>(r,e)=fH l):=by
 unfold fH;refine ⟨hp,fun h=>by rw [aU h],fun h=>⟨aaz hp (by simpa using h),fun h2=>?_,fun h2=>?_⟩⟩
 ·rw [aG h,aU h2]
 rw [aG h,aG h2]
theorem agP {g:ak} {z0:Option Addr} {v0:Nat} (xl:List PH) (q0:bE g (.slice yP) [.slice z0 xl.length v0] xl) (hG0:bR g 0) (hG3:mg g 3 (.int .u64) yZ)  (hp:zN xl):bC prog 11 #[.slice z0 xl.length v0] g (.tuple #[sv ((fH xl).1),iv (fH xl).2]) :=
 (aaw xl q0 hG0 hG3 _ (agQ xl hp)).gives (by rintro g' H' v _ ⟨r0,r1,rfl,rfl,hK⟩; obtain ⟨rfl,rfl⟩:r0=(fH xl).1∧r1=(fH xl).2:=⟨aA (fun z=>z.1) hK,aA (fun z=>z.2) hK⟩; rfl)
theorem R4 {l:List Ph} (hp:zN l) (h:(fH l).2=0):Told l∧fH l=(tx3 l,0):=by
 unfold fH at h ⊢
 by_cases h1:(nP l != 0)=true
 ·rw [bB h1] at h;exact absurd h (by simpa using h1)
 rw [aQ h1] at h ⊢
 by_cases h2:decide (((tx3 l).length:Int)>400)=true
 ·rw [bB h2] at h; exact absurd h dc
 rw [aQ h2];exact ⟨⟨hp,by simpa using h1,by simp at h2; omega⟩,rfl⟩
set_option maxHeartbeats 4000000
set_option maxRecDepth 100000
def mx (a b:Int):Int:=if a<b then b else a
mutual
def wgT:Ts→Int
 | .mk x l=>if (x.1==1)=true then 0 else if (x.1==2)=true then 1 else if (x.1==3)=true then 1000000 else if ((x.1==10)||(x.1==11))=true then LU l 0 else 1000
def LU:List Ph→Int→Int
 | [],m=>m
 | (p,_)::l,m=>LU l (mx m (LV p 0))
def LV:List (List Ts)→Int→Int
 | [],n=>n
 | s::l,n=>LV l (Qj s n)
def Qj:List Ts→Int→Int
 | [],n=>n
 | t::l,n=>Qj l (n+wgT t)
end
def qL (p:Ph):Int:=LV p.1 0
def Ze (l:List Ph):Int:=LU l 0
def pw (p:Ph):Nat:=w2 p.1+1
theorem LQ (t:Ts):wgT t=if (t.lab.1==1)=true then 0 else if (t.lab.1==2)=true then 1 else if (t.lab.1==3)=true then 1000000 else if ((t.lab.1==10)||(t.lab.1==11))=true then Ze t.kids else 1000:=by obtain ⟨x,l⟩:=t; rw [wgT]; rfl
theorem BO (q:Ph) (l:List Ph) (m:Int):LU (q::l) m=LU l (mx m (qL q)):=by obtain ⟨p,js⟩:=q; rw [LU]; rfl
def WgB (t:Ts):Prop:=0≤wgT t∧wgT t≤1000000 * bT t
theorem RL:∀ {s:List Ts} (h:∀ t ∈ s,WgB t) (n:Int),n≤Qj s n∧Qj s n≤n+1000000 * w1 s
 | [],_,n=>by rw [Qj,w1]; omega
 | t::s,h,n=>by
  have ht:=h t (cz ..);have ih:=RL (fun k hk=>h k (dK _ hk)) (n+wgT t);obtain ⟨a,b⟩:=ht;rw [Qj,w1]; omega
theorem RJ:∀ {p:List (List Ts)} (h:∀ s ∈ p,∀ t ∈ s,WgB t) (n:Int),n≤LV p n∧LV p n≤n+1000000 * w2 p
 | [],_,n=>by rw [LV,w2]; omega
 | s::p,h,n=>by
  have ht:=RL (h s (cz ..)) n;have ih:=RJ (fun k hk=>h k (dK _ hk)) (Qj s n);rw [LV,w2]; omega
theorem aiv (a b U:Int) (h:a≤U) (h2:b≤U):a≤mx a b∧mx a b≤U:=by unfold mx; split <;> omega
theorem RI (U:Int):∀ {l:List Ph} (h:∀ q ∈ l,∀ s ∈ q.1,∀ t ∈ s,WgB t) (m:Int),m≤U→1000000 * (w3 l:Int)≤U→m≤LU l m∧LU l m≤U
 | [],_,m,hm,_=>by rw [LU]; omega
 | q::l,h,m,hm,hU=>by
  have ht:=RJ (h q (cz ..)) 0;rw [w3] at hU;have h1:=aiv m (qL q) U hm (by unfold qL; omega);have ih:=RI U (l:=l) (fun k hk=>h k (dK _ hk)) (mx m (qL q)) h1.2 om;rw [BO]; omega
theorem wgB:∀ t:Ts,WgB t:=gL.ind fun x l ih=>by
 have h:=RI (1000000 * w3 l) ih 0 om om;have hb:=VK x l;have h3:=mO l;unfold WgB;rw [LQ];show 0≤(if (x.1==1)=true then 0 else if (x.1==2)=true then 1 else if (x.1==3)=true then 1000000 else if ((x.1==10)||(x.1==11))=true then LU l 0 else 1000)∧(if (x.1==1)=true then 0 else if (x.1==2)=true then 1 else if (x.1==3)=true then 1000000 else if ((x.1==10)||(x.1==11))=true then LU l 0 else 1000)≤_
 split
 ·omega
 split
 ·omega
 split
 ·omega
 split <;> omega
def Qh (N:Nat) (t:Ts):Prop:=bT t<N∧bT t≤1048600
def Qi (N:Nat) (p:Ph):Prop:=pw p<N∧pw p+p.2.length≤1048600
def We (N:Nat) (l:List Ph):Prop:=b3 l<N∧b3 l≤1048600
def N7 (N:Nat):Prop:=∀ (g:ak) {q0:Option Addr} {k0:Nat} (xt:TS) (f0:bE g (.slice yP) [.slice q0 xt.kids.length k0] xt.kids)  (hp:Qh N xt),bC prog 85 #[.agg (aL xt.lab q0 xt.kids.length k0)] g (iv (wgT xt))
def N8 (N:Nat):Prop:=∀ (g:ak) {z0:Option Addr} {v0:Nat} {j0:Option Addr} {x0:Nat} (xp:PH) (d0:bE g (.slice (.slice yS)) [.slice z0 xp.1.length v0] xp.1) (g0:bE g (.slice yb) [.slice j0 xp.2.length x0] xp.2)  (hp:Qi N xp),bC prog 52 #[.agg #[.slice z0 xp.1.length v0,.slice j0 xp.2.length x0]] g (iv (qL xp))
def N_ (N:Nat):Prop:=∀ (g:ak) {n0:Option Addr} {o0:Nat} (xl:List PH) (Z0:bE g (.slice yP) [.slice n0 xl.length o0] xl)  (hp:We N xl),bC prog 129 #[.slice n0 xl.length o0] g (iv (Ze xl))
def F4 (N:Nat) (xt:TS) (K:Int→Prop):Prop :=
 (((xt.lab.1==10)||(xt.lab.1==11))=true→We N xt.kids∧K (Ze xt.kids))∧(((xt.lab.1==10)||(xt.lab.1==11))=false→K 1000)
def agf (N:Nat) (xt:TS) (K:Int→Prop):Prop :=
 ((xt.lab.1==1)=true→K 0)∧((xt.lab.1==1)=false→((xt.lab.1==2)=true→K 1)∧((xt.lab.1==2)=false→((xt.lab.1==3)=true→K 1000000)∧((xt.lab.1==3)=false→((xt.lab.1==10)=true→F4 N xt K)∧((xt.lab.1==10)=false→F4 N xt K))))
theorem aab {g:ak} (N:Nat) (MR:N7 N) (MS:N8 N) (MU:N_ N) {q0:Option Addr} {k0:Nat} (xt:TS) (f0:bE g (.slice yP) [.slice q0 xt.kids.length k0] xt.kids) (K:Int→Prop)
  (hF:agf N xt K):az prog 85 #[.agg (aL xt.lab q0 xt.kids.length k0)] g [] (fun g' H' v=>∃ (r0:Int),v=iv r0∧H'=[]∧K r0):=by
 refine aP 17 func85 rfl fun w0=>?_;refine ae (ai (cO fun iC=>?_));refine av 1 [(1,pv iC 0)] kr (aa (aF (ae (ag 1 [1] [(3,pv iC 0)] ?_))));refine ai (af.s (v:=iv xt.lab.1) (aS 0 rfl rfl underlying3 rfl kr) rfl rfl (aa (Ok.block (ae (ag 2 [1] [(4,iv xt.lab.1),(5,.bool (xt.lab.1==1))] ?_)))));refine aa (aJ hF (fun hc2 hF=>?_) (fun hc2 hF=>?_))
 ·refine ae (av 1 [(2,iv 0)] kr (aa (Ok.ret (aV (aC ?_)))));exact gV (iv 0) ⟨_,rfl,rfl,hF⟩
 refine ae (ag 2 [1,4] [(7,.bool (xt.lab.1==2))] ?_);refine aa (aJ hF (fun hc3 hF=>?_) (fun hc3 hF=>?_))
 ·refine ae (av 1 [(2,iv 1)] kr (aa (Ok.ret (aV (aC ?_)))));exact gV (iv 1) ⟨_,rfl,rfl,hF⟩
 refine ae (ag 2 [1,4] [(9,.bool (xt.lab.1==3))] ?_);refine aa (aJ hF (fun hc4 hF=>?_) (fun hc4 hF=>?_))
 ·refine ae (av 1 [(2,iv 1000000)] kr (aa (Ok.ret (aV (aC ?_)))));exact gV (iv 1000000) ⟨_,rfl,rfl,hF⟩
 let A:=(xt.lab.1==10)||(xt.lab.1==11);refine gB [(1,pv iC 0),(11,.bool A)] [.blk iC (.cells (aL xt.lab q0 xt.kids.length k0) 60)] (F4 N xt K) ?_ (fun hF=>?_)
 ·
  refine ae (ag 2 [1,4] [(11,.bool (xt.lab.1==10))] ?_);refine aa (aJ hF (fun iB hF=>?_) (fun iB hF=>?_))
  ·refine Ok.k (Ok.t (aB 11 A (au (iB) (cK iB)) ?_));exact fz hF
  refine aR (ag 2 [1] [(11,.bool (xt.lab.1==11))] ?_);refine aa (aB 11 A (bN iB) ?_);exact fz hF
 refine aJ hF (fun jy hF=>?_) (fun jy hF=>?_)
 ·refine aF (aR ?_);obtain ⟨hp6,hF⟩:=hF;refine aj 4 [.e 0,.k (MU _ xt.kids f0 hp6)] [] [(2,iv (Ze xt.kids))] ?_;refine aa (Ok.ret (aV (aC ?_)));exact gV (iv (Ze xt.kids)) ⟨_,rfl,rfl,hF⟩
 refine Ok.k (bG (Ok.t (ae (av 1 [(2,iv 1000)] kr (aa (Ok.ret ?_))))));exact gV (iv 1000) ⟨_,rfl,rfl,hF⟩
def V_ (N:Nat) (e4:List TS) (s0:Int) (C9:Int→Int→Prop) (i0:Int) (y0:Int) (Es:Int→Int→Prop):Prop :=
 ((decide (y0<(e4.length:Int)))=true→0≤y0∧y0.toNat<e4.length∧Qh N (e4.getD y0.toNat default)∧Es (w6 (i0+(wgT (e4.getD y0.toNat default)))) (w6 (y0+1)))∧((decide (y0<(e4.length:Int)))=false→C9 i0 (w6 (s0+1)))
def F5 (N:Nat) (e4:List TS) (s0:Int) (C9:Int→Int→Prop):Nat→Int→Int→Prop
 | 0,_,_=>False
 | k+1,i0,y0=>V_ N e4 s0 C9 i0 y0 (F5 N e4 s0 C9 k)
def aac (N:Nat) (xp:PH) (K:Int→Prop) (u0:Int) (s0:Int) (C9:Int→Int→Prop):Prop :=
 ((decide (s0<(xp.1.length:Int)))=true→0≤s0∧s0.toNat<xp.1.length∧∃ k,F5 N (xp.1.getD s0.toNat default) s0 C9 k u0 0)∧((decide (s0<(xp.1.length:Int)))=false→K u0)
def Jr (N:Nat) (xp:PH) (K:Int→Prop):Nat→Int→Int→Prop
 | 0,_,_=>False
 | k+1,u0,s0=>aac N xp K u0 s0 (Jr N xp K k)
def agk (N:Nat) (xp:PH) (K:Int→Prop):Prop :=
 ∃ k,Jr N xp K k 0 0
theorem aad {g:ak} (N:Nat) (MR:N7 N) (MS:N8 N) (MU:N_ N) {z0:Option Addr} {v0:Nat} {j0:Option Addr} {x0:Nat} (xp:PH) (d0:bE g (.slice (.slice yS)) [.slice z0 xp.1.length v0] xp.1) (g0:bE g (.slice yb) [.slice j0 xp.2.length x0] xp.2) (K:Int→Prop)
  (hF:agk N xp K):az prog 52 #[.agg #[.slice z0 xp.1.length v0,.slice j0 xp.2.length x0]] g [] (fun g' H' v=>∃ (r0:Int),v=iv r0∧H'=[]∧K r0):=by
 refine aP 28 func52 rfl fun w0=>?_;refine ae (ai (cO fun iC=>?_));refine av 1 [(1,pv iC 0)] kr (aa (ae (ag 1 [1] [(3,iv 0)] ?_)));let A:=(xp.1.length:Int);refine aa (aF (ae (aj 4 [.e 0] [3] [(9,.slice z0 xp.1.length v0),(10,iv A),(11,iv 0)] ?_)));refine aa (Ok.block ?_);obtain ⟨k,hF⟩:=hF;refine fQ (fun k a W=>∃ (u0:Int) (s0:Int),fC 28 [(3,iv u0),(9,.slice z0 xp.1.length v0),(10,iv A),(11,iv s0)] a∧dm w0 [] g W∧Jr N xp K k u0 s0) k ?_ ?_
 ·
  exact fun _ _ u v=>⟨0,0,fA u v hF⟩
 clear hF;rintro (_ | k9) _ _ ⟨u0,s0,q⟩;exact (q.2.2:False).elim;refine jn (fun hF=>?_) _ _ q;refine ae (ag 1 [3,9,10,11] [(12,.bool (decide (s0<A)))] ?_);refine aa (aF (aJ hF (fun hc2 hF=>?_) (fun hc2 hF=>?_)))
 ·refine Ok.k (Ok.t (aF (Ok.block (aF (aR ?_)))));obtain ⟨oo,pg,hF⟩:=hF;have ny:=aT (l:=xp.1) default pg;generalize hg4:(xp.1.getD s0.toNat default)=e4 at ny hF ⊢;refine ai (af.aX (e:=.slice yS) rfl rfl underlying25 kr d0 oo ny rfl fun q3 o3 Rz _ F0 hr3=>?_);obtain ⟨C0,D0,rfl,E0⟩:=oS hr3;refine aj 2 [.a 0 F0] [3,9,10,11] [(5,.slice C0 e4.length D0)] ?_;let C:=(e4.length:Int);refine aa (ae (ag 3 [3,9,10,11] [(15,.slice C0 e4.length D0),(16,iv C),(17,iv 0)] ?_));refine aa (Ok.block ?_);obtain ⟨k,hF⟩:=hF;refine fQ (fun k a W=>∃ (i0:Int) (y0:Int),fC 28 [(3,iv i0),(9,.slice z0 xp.1.length v0),(10,iv (xp.1.length:Int)),(11,iv s0),(15,.slice C0 e4.length D0),(16,iv C),(17,iv y0)] a∧dm w0 [] g W∧F5 N e4 s0 (Jr N xp K k9) k i0 y0) k ?_ ?_
  ·
   exact fun _ _ u v=>⟨u0,0,fA u v hF⟩
  clear hF;rintro (_ | k23) _ _ ⟨i0,y0,q⟩;exact (q.2.2:False).elim;refine jn (fun hF=>?_) _ _ q;refine ae (ag 1 [3,9,10,11,15,16,17] [(18,.bool (decide (y0<C)))] ?_);refine aa (aF (dW hF rfl (fun jy=>?_) (fun jy=>?_)))
  ·replace hF:=hF.1 jy;refine Ok.k (Ok.t (aF (Ok.block (aF (aR ?_)))));obtain ⟨PG,QY,hF⟩:=hF;have Jn:=aT (l:=e4) default QY;generalize V4:(e4.getD y0.toNat default)=e7 at Jn hF ⊢;refine ai (af.aX (e:=yS) rfl rfl underlying54 kr E0 PG Jn rfl fun q6 o6 cs6 _ Q0 QV=>?_);have K0:=QV;replace K0:=bE.tst.1 K0;obtain ⟨_,_,rfl,⟨_,_,rfl,rfl,⟨_,_,rfl,rfl,⟨_,_,rfl,rfl,⟨_,_,rfl,rfl,⟨_,_,rfl,rfl,rfl⟩⟩⟩⟩⟩,⟨Y0,U0,rfl,ajQ,ajy⟩⟩:=K0;have akz:bE g (.slice yP) [.slice Y0 e7.kids.length U0] e7.kids:=⟨Y0,U0,rfl,ajQ,ajy⟩;replace Q0:At g q6 o6 (vL e7.lab Y0 e7.kids.length U0):=Q0;let B:=aL e7.lab Y0 e7.kids.length U0;refine ai (af.s (v:=.agg B) (bL 0 7 B Q0 kr underlying60 rfl kr kr kr) rfl rfl (ai (bI #[iv 0,sv ([]:Bs),.int .u8 0,sv ([]:Bs),iv 0,iv 0,.slice none 0 0] fun LM=>?_)));refine ai (af.w 0 ?_);refine aa (aR ?_);obtain ⟨Il,hF⟩:=hF;refine aj 5 [.e 0,.k (MR _ e7 akz Il)] [9,10,11,15,16,17] [(3,iv (w6 (i0+(wgT e7))))] ?_;refine bV (bG (Ok.t (aR (ag 2 [3,9,10,11,15,16] [(17,iv (w6 (y0+1)))] ?_))));refine bV (Ok.t ?_);subst V4;exact fun _ _ u v=>⟨k23,nl,w6 (i0+(wgT (e4.getD y0.toNat default))),w6 (y0+1),fA u v hF⟩
  replace hF:=hF.2 jy;refine fw (ay (ay (aM (bG (Ok.t (aR (ag 2 [3,9,10] [(11,iv (w6 (s0+1)))] ?_)))))));refine bV (Ok.t ?_);subst hg4;exact fun _ _ u v=>⟨k9,nl,i0,w6 (s0+1),fA u v hF⟩
 refine fw (ay (ay (aM (Ok.t (ae (av 2 [(2,iv u0)] kr (aa (Ok.ret ?_))))))));exact pO (iv u0) ⟨_,rfl,rfl,hF⟩
def aae (N:Nat) (xl:List PH) (K:Int→Prop) (u0:Int) (t0:Int) (C9:Int→Int→Prop):Prop :=
 ((decide (t0<(xl.length:Int)))=true→0≤t0∧t0.toNat<xl.length∧Qi N (xl.getD t0.toNat default)∧C9 (if u0<(qL (xl.getD t0.toNat default)) then (qL (xl.getD t0.toNat default)) else u0) (w6 (t0+1)))∧((decide (t0<(xl.length:Int)))=false→K u0)
def N9 (N:Nat) (xl:List PH) (K:Int→Prop):Nat→Int→Int→Prop
 | 0,_,_=>False
 | k+1,u0,t0=>aae N xl K u0 t0 (N9 N xl K k)
def agp (N:Nat) (xl:List PH) (K:Int→Prop):Prop :=
 ∃ k,N9 N xl K k 0 0
theorem aaf {g:ak} (N:Nat) (MR:N7 N) (MS:N8 N) (MU:N_ N) {n0:Option Addr} {o0:Nat} (xl:List PH) (Z0:bE g (.slice yP) [.slice n0 xl.length o0] xl) (K:Int→Prop)
  (hF:agp N xl K):az prog 129 #[.slice n0 xl.length o0] g [] (fun g' H' v=>∃ (r0:Int),v=iv r0∧H'=[]∧K r0):=by
 refine aP 18 func129 rfl fun w0=>?_;refine ae (av 1 [(0,.slice n0 xl.length o0)] kr (aa (ae (ag 1 [0] [(3,iv 0)] ?_))));let B:=(xl.length:Int);refine aa (aF (ae (ag 3 [3] [(6,.slice n0 xl.length o0),(7,iv B),(8,iv 0)] ?_)));refine aa (Ok.block ?_);obtain ⟨k,hF⟩:=hF;refine fQ (fun k a W=>∃ (u0:Int) (t0:Int),fC 18 [(3,iv u0),(6,.slice n0 xl.length o0),(7,iv B),(8,iv t0)] a∧dm w0 [] g W∧N9 N xl K k u0 t0) k ?_ ?_
 ·
  exact fun _ _ u v=>⟨0,0,fA u v hF⟩
 clear hF;rintro (_ | k9) _ _ ⟨u0,t0,q⟩;exact (q.2.2:False).elim;refine jn (fun hF=>?_) _ _ q;refine ae (ag 1 [3,6,7,8] [(9,.bool (decide (t0<B)))] ?_);refine aa (aF (aJ hF (fun hc1 hF=>?_) (fun hc1 hF=>?_)))
 ·refine Ok.k (Ok.t (aF (Ok.block (aF (aR ?_)))));obtain ⟨DL,DJ,hF⟩:=hF;have wu:=aT (l:=xl) default DJ;generalize hg3:(xl.getD t0.toNat default)=e3 at wu hF ⊢;refine ai (af.aX (e:=yP) rfl rfl underlying33 kr Z0 DL wu rfl fun q2 o2 cs2 _ G0 hr2=>?_);obtain ⟨_,_,rfl,⟨J0,W0,rfl,UF,Uq⟩,⟨X0,S0,rfl,UE,Uo⟩⟩:=hr2;have UU:bE g (.slice (.slice yS)) [.slice J0 e3.1.length W0] e3.1:=⟨J0,W0,rfl,UF,Uq⟩;have PE:bE g (.slice yb) [.slice X0 e3.2.length S0] e3.2:=⟨X0,S0,rfl,UE,Uo⟩;replace G0:At g q2 o2 [.slice J0 e3.1.length W0,.slice X0 e3.2.length S0]:=G0;let A:=(#[.slice J0 e3.1.length W0,.slice X0 e3.2.length S0]:Array Value);refine ai (af.s (v:=.agg A) (bL 0 2 A G0 kr underlying28 rfl kr kr kr) rfl rfl (ai (bI #[.slice none 0 0,.slice none 0 0] fun iF=>?_)));refine ai (af.w 0 ?_);refine aa (aR ?_);obtain ⟨M3,hF⟩:=hF;refine aj 5 [.e 0,.k (MS _ e3 UU PE M3)] [6,7,8] [(3,iv (if u0<(qL e3) then (qL e3) else u0))] ?_;refine bV (bG (Ok.t (aR (ag 2 [3,6,7] [(8,iv (w6 (t0+1)))] ?_))));refine bV (Ok.t ?_);subst hg3;exact fun _ _ u v=>⟨k9,nl,(if u0<(qL (xl.getD t0.toNat default)) then (qL (xl.getD t0.toNat default)) else u0),w6 (t0+1),fA u v hF⟩
 refine fw (ay (ay (aM (Ok.t (ae (av 2 [(2,iv u0)] kr (aa (Ok.ret ?_))))))));exact pO (iv u0) ⟨_,rfl,rfl,hF⟩
theorem age (t:Ts):¬ Qh 0 t:=fun h=>absurd h.1 (iN _)
theorem agj (p:Ph):¬ Qi 0 p:=fun h=>absurd h.1 (iN _)
theorem agn (l:List Ph):¬ We 0 l:=fun h=>absurd h.1 (iN _)
theorem agd (N:Nat) (t:Ts) (h:Qh (N+1) t):agf N t (fun r=>r=wgT t):=by
 have e:=LQ t;have hb:=kE t;obtain ⟨h1,h2⟩:=h;refine ⟨fun c1=>by rw [e,aU c1],fun c1=>⟨fun c2=>by rw [e,aG c1,aU c2],fun c2=>⟨fun c3=>by rw [e,aG c1,aG c2,aU c3],fun c3=>?_⟩⟩⟩;rw [aG c1,aG c2,aG c3] at e;have j:F4 N t (fun r=>r=wgT t):=⟨fun c=>⟨⟨om,om⟩,by rw [e,aU c]⟩,fun c=>by rw [e,aG c]⟩;exact ⟨fun _=>j,fun _=>j⟩
theorem agl {N:Nat} {r:Int} (s:List Ts) (hs:∀ t ∈ s,Qh N t) (hl:s.length≤1048600) (k:Int) (C:Int→Int→Prop) (F:Int→Int) (U:Int) (hU:U≤1000000000000000)
  (hC:∀ n,0≤n→n≤U→r=F n→C n (w6 (k+1))):∀ (m i:Nat) (n:Int),i+m=s.length→0≤n→n+1000000 * w1 (s.drop i)≤U→r=F (Qj (s.drop i) n)→F5 N s k C (m+1) n (i:Int):=by
 intro m
 induction m with
 | zero =>
  intro i n hi hn hu he;rw [eD om] at he hu;rw [w1] at hu;exact ⟨fun hc=>absurd (df hc) om,fun _=>hC n hn om (by rw [he,Qj])⟩
 | succ m ih =>
  intro i n hi hn hu he;have hi':i<s.length:=om;have ht:=hs _ (jR default hi');have hb:=wgB (s.getD i default);rw [bX (l:=s) default hi'] at he hu;rw [Qj] at he;rw [w1] at hu;obtain ⟨hb1,hb2⟩:=hb;refine ⟨fun _=>⟨om,by rw [dR]; omega,?_⟩,fun hc=>absurd (fq hc) om⟩;rw [dR];refine ⟨ht,?_⟩;rw [fU om,fU om,show (i:Int)+1=((i+1:Nat):Int) by omega];exact ih (i+1) _ om om om he
theorem agi (N:Nat) (p:Ph) (h:Qi (N+1) p):agk N p (fun r=>r=qL p):=by
 obtain ⟨h1,h2⟩:=h;unfold pw at h1 h2;have hl:=rM p.1
 have loop:∀ (m i:Nat) (n:Int),i+m=p.1.length→0≤n→n+1000000 * w2 (p.1.drop i)≤1000000 * w2 p.1→qL p=LV (p.1.drop i) n→Jr N p (fun r=>r=qL p) (m+1) n (i:Int):=by
  intro m
  induction m with
  | zero =>
   intro i n hi hn hu he;rw [eD om,LV] at he;exact ⟨fun hc=>absurd (df hc) om,fun _=>he.symm⟩
  | succ m ih =>
   intro i n hi hn hu he;have hi':i<p.1.length:=om;have hin:=jR default hi';have h3:=tQ hin;have h4:=rO (p.1.getD i default);rw [bX (l:=p.1) default hi'] at he hu;rw [LV] at he;rw [w2] at hu;refine ⟨fun _=>⟨om,by rw [dR]; omega,?_⟩,fun hc=>absurd (fq hc) om⟩;rw [dR];refine ⟨_,agl (r:=qL p) (p.1.getD i default) (fun t ht=>⟨by have:=xK ht; omega,by have:=xK ht; omega⟩) om (i:Int) _ (fun n=>LV (p.1.drop (i+1)) n) (n+1000000 * w1 (p.1.getD i default)) om (fun n' h0 h1 h2=>?_) (p.1.getD i default).length 0 n om hn (by rw [gm]; omega) (by rw [gm]; exact he)⟩;rw [fU om,show (i:Int)+1=((i+1:Nat):Int) by omega];exact ih (i+1) n' om h0 om h2
 exact ⟨_,loop p.1.length 0 0 om om (by rw [gm]; omega) (by rw [gm]; rfl)⟩
theorem agm (N:Nat) (l:List Ph) (h:We (N+1) l):agp N l (fun r=>r=Ze l):=by
 obtain ⟨h1,h2⟩:=h;have h5:=mO l;have hl:=qo l
 have loop:∀ (m i:Nat) (n:Int),i+m=l.length→Ze l=LU (l.drop i) n→N9 N l (fun r=>r=Ze l) (m+1) n (i:Int):=by
  intro m
  induction m with
  | zero =>
   intro i n hi he;rw [eD om,LU] at he;exact ⟨fun hc=>absurd (df hc) om,fun _=>he.symm⟩
  | succ m ih =>
   intro i n hi he;have hi':i<l.length:=om;have h3:=sW (jR default hi');rw [bX (l:=l) default hi',BO] at he;refine ⟨fun _=>⟨om,by rw [dR]; omega,?_⟩,fun hc=>absurd (fq hc) om⟩;rw [dR];refine ⟨⟨by unfold pw; omega,by unfold pw; omega⟩,?_⟩;rw [fU om,show (i:Int)+1=((i+1:Nat):Int) by omega];exact ih (i+1) _ om he
 exact ⟨_,loop l.length 0 0 om (by rw [gm]; rfl)⟩
theorem NZ:∀ N,N7 N∧N8 N∧N_ N
 | 0=>⟨(by intro g q0 k0 xt f0 hp; exact (age xt hp).elim),(by intro g z0 v0 j0 x0 xp d0 g0 hp; exact (agj xp hp).elim),(by intro g n0 o0 xl Z0 hp; exact (agn xl hp).elim)⟩
 | N+1 =>
  have ih:=NZ N
  ⟨(by intro g q0 k0 xt f0 hp; exact (aab N ih.1 ih.2.1 ih.2.2 xt f0 _ (agd N xt hp)).gv),(by intro g z0 v0 j0 x0 xp d0 g0 hp; exact (aad N ih.1 ih.2.1 ih.2.2 xp d0 g0 _ (agi N xp hp)).gv),(by intro g n0 o0 xl Z0 hp; exact (aaf N ih.1 ih.2.1 ih.2.2 xl Z0 _ (agm N xl hp)).gv)⟩
def Zd (xp:PH):Prop:=∃ N,Qi N xp
theorem agh {g:ak} {z0:Option Addr} {v0:Nat} {j0:Option Addr} {x0:Nat} (xp:PH) (d0:bE g (.slice (.slice yS)) [.slice z0 xp.1.length v0] xp.1) (g0:bE g (.slice yb) [.slice j0 xp.2.length x0] xp.2)  (hp:Zd xp):bC prog 52 #[.agg #[.slice z0 xp.1.length v0,.slice j0 xp.2.length x0]] g (iv (qL xp)):=by
 obtain ⟨N,hp⟩:=hp;exact (NZ N).2.1 _ xp d0 g0 hp
def Su (N:Nat) (t:Ts):Prop:=Qh N t
def SC (N:Nat) (p:Ph):Prop:=Qi N p
def Sq (N:Nat):Prop:=∀ (g:ak) {q0:Option Addr} {k0:Nat} (xt:TS) (f0:bE g (.slice yP) [.slice q0 xt.kids.length k0] xt.kids)  (hp:Su N xt),bC prog 28 #[.agg (aL xt.lab q0 xt.kids.length k0)] g (iv (wgT xt))
def SB (N:Nat):Prop:=∀ (g:ak) {z0:Option Addr} {v0:Nat} {j0:Option Addr} {x0:Nat} (xp:PH) (d0:bE g (.slice (.slice yS)) [.slice z0 xp.1.length v0] xp.1) (g0:bE g (.slice yb) [.slice j0 xp.2.length x0] xp.2)  (hp:SC N xp),bC prog 14 #[.agg #[.slice z0 xp.1.length v0,.slice j0 xp.2.length x0]] g (iv (qL xp))
def WN (N:Nat) (xt:TS) (K:Int→Prop) (m0:Int) (b0:Int) (C37:Int→Int→Prop):Prop :=
 ((decide (b0<(xt.kids.length:Int)))=true→0≤b0∧b0.toNat<xt.kids.length∧SC N (xt.kids.getD b0.toNat default)∧C37 (if m0<(qL (xt.kids.getD b0.toNat default)) then (qL (xt.kids.getD b0.toNat default)) else m0) (w6 (b0+1)))∧((decide (b0<(xt.kids.length:Int)))=false→K m0)
def Gi (N:Nat) (xt:TS) (K:Int→Prop):Nat→Int→Int→Prop
 | 0,_,_=>False
 | k+1,m0,b0=>WN N xt K m0 b0 (Gi N xt K k)
def Gj (N:Nat) (xt:TS) (K:Int→Prop):Prop :=
 (((xt.lab.1==10)||(xt.lab.1==11))=true→∃ k,Gi N xt K k 0 0)∧(((xt.lab.1==10)||(xt.lab.1==11))=false→K 1000)
def ahk (N:Nat) (xt:TS) (K:Int→Prop):Prop :=
 ((xt.lab.1==1)=true→K 0)∧((xt.lab.1==1)=false→((xt.lab.1==2)=true→K 1)∧((xt.lab.1==2)=false→((xt.lab.1==3)=true→K 1000000)∧((xt.lab.1==3)=false→((xt.lab.1==10)=true→Gj N xt K)∧((xt.lab.1==10)=false→Gj N xt K))))
theorem aaS {g:ak} (N:Nat) (Ud:Sq N) (Ue:SB N) {q0:Option Addr} {k0:Nat} (xt:TS) (f0:bE g (.slice yP) [.slice q0 xt.kids.length k0] xt.kids) (K:Int→Prop)
  (hF:ahk N xt K):az prog 28 #[.agg (aL xt.lab q0 xt.kids.length k0)] g [] (fun g' H' v=>∃ (r0:Int),v=iv r0∧H'=[]∧K r0):=by
 refine aP 38 func28 rfl fun w0=>?_;refine ae (ai (cO fun iC=>?_));refine av 1 [(1,pv iC 0)] kr (aa (aF (ae (aj 3 [.e 0] [1] [(7,.bool (xt.lab.1==1))] ?_))));refine aa (aJ hF (fun hc2 hF=>?_) (fun hc2 hF=>?_))
 ·refine ae (av 1 [(2,iv 0)] kr (aa (Ok.ret (aC ?_))));exact gV (iv 0) ⟨_,rfl,rfl,hF⟩
 refine Ok.k (Ok.t (aF (ae (aj 3 [.e 0] [1] [(10,.bool (xt.lab.1==2))] ?_))));refine aa (aJ hF (fun hc3 hF=>?_) (fun hc3 hF=>?_))
 ·refine ae (av 1 [(2,iv 1)] kr (aa (Ok.ret (aC ?_))));exact gV (iv 1) ⟨_,rfl,rfl,hF⟩
 refine Ok.k (Ok.t (aF (ae (aj 3 [.e 0] [1] [(13,.bool (xt.lab.1==3))] ?_))));refine aa (aJ hF (fun hc4 hF=>?_) (fun hc4 hF=>?_))
 ·refine ae (av 1 [(2,iv 1000000)] kr (aa (Ok.ret (aC ?_))));exact gV (iv 1000000) ⟨_,rfl,rfl,hF⟩
 let A:=(xt.lab.1==10)||(xt.lab.1==11);let B:=(.cells (aL xt.lab q0 xt.kids.length k0) 60:Obj);refine Ok.k (Ok.t (aF (gB [(1,pv iC 0),(21,.bool A)] [.blk iC B] (Gj N xt K) ?_ (fun hF=>?_))))
 ·
  refine aR (aj 4 [.e 0] [1] [(17,.bool (xt.lab.1==10))] ?_);refine bP 17 hF (fun H0 hF=>?_) (fun H0 hF=>?_)
  ·refine ag 4 [1] [(21,.bool true)] ?_;refine aa (aB 21 A (cK H0) ?_);exact fz hF
  refine aj 4 [.e 0] [1] [(21,.bool (xt.lab.1==11))] ?_;refine aa (aB 21 A (bN H0) ?_);exact fz hF
 refine aJ hF (fun jy hF=>?_) (fun jy hF=>?_)
 ·refine ae (ag 1 [1] [(3,iv 0)] ?_);refine aa (aF (ae (ag 1 [1,3] [(4,iv 0)] ?_)));refine aa (Ok.block ?_);obtain ⟨k,hF⟩:=hF;refine fQ (fun k a W=>∃ (m0:Int) (b0:Int),fC 38 [(1,pv iC 0),(3,iv m0),(4,iv b0)] a∧dm w0 [.blk iC B] g W∧Gi N xt K k m0 b0) k ?_ ?_
  ·
   exact fun _ _ u v=>⟨0,0,fA u v hF⟩
  clear hF;rintro (_ | k37) _ _ ⟨m0,b0,q⟩;exact (q.2.2:False).elim;refine jn (fun hF=>?_) _ _ q;refine aF (ae (aj 5 [.e 0] [1,3,4] [(26,.bool (decide (b0<(xt.kids.length:Int))))] ?_));refine aa (aJ hF (fun hc6 hF=>?_) (fun hc6 hF=>?_))
  ·refine Ok.k (Ok.t (aF (Ok.block (aR (aj 4 [.e 0] [1,4] [(29,iv m0),(31,.slice q0 xt.kids.length k0),(32,iv b0)] ?_)))));obtain ⟨IK,h18,hF⟩:=hF;have EA:=aT (l:=xt.kids) default h18;generalize Ru:(xt.kids.getD b0.toNat default)=e8 at EA hF ⊢;refine ai (af.aX (e:=yP) rfl rfl underlying33 kr f0 IK EA rfl fun q7 o7 cs7 _ V0 MX=>?_);obtain ⟨_,_,rfl,⟨M0,N0,rfl,ajP,ajx⟩,⟨O0,P0,rfl,ajO,ajw⟩⟩:=MX;have K4:bE g (.slice (.slice yS)) [.slice M0 e8.1.length N0] e8.1:=⟨M0,N0,rfl,ajP,ajx⟩;have akx:bE g (.slice yb) [.slice O0 e8.2.length P0] e8.2:=⟨O0,P0,rfl,ajO,ajw⟩;replace V0:At g q7 o7 [.slice M0 e8.1.length N0,.slice O0 e8.2.length P0]:=V0;obtain ⟨Il,hF⟩:=hF;refine aj 4 [.a 0 V0,.k (Ue _ e8 K4 akx Il)] [1,4] [(3,iv (if m0<(qL e8) then (qL e8) else m0))] ?_;refine bV (bG (Ok.t (aR (ag 3 [1,3] [(4,iv (w6 (b0+1)))] ?_))));refine bV (Ok.t ?_);subst Ru;exact fun _ _ u v=>⟨k37,nl,(if m0<(qL (xt.kids.getD b0.toNat default)) then (qL (xt.kids.getD b0.toNat default)) else m0),w6 (b0+1),fA u v hF⟩
  refine fw (ay (ay (aM (Ok.t (ae (av 2 [(2,iv m0)] kr (aa (Ok.ret (aC ?_)))))))));exact gV (iv m0) ⟨_,rfl,rfl,hF⟩
 refine Ok.k (Ok.t (ae (av 1 [(2,iv 1000)] kr (aa (Ok.ret ?_)))));exact gV (iv 1000) ⟨_,rfl,rfl,hF⟩
def WX (N:Nat) (xp:PH) (e0:Int) (C9:Int→Int→Prop) (a0:Int) (c0:Int) (C21:Int→Int→Prop):Prop :=
 0≤e0∧e0.toNat<xp.1.length∧((decide (c0<((xp.1.getD e0.toNat default).length:Int)))=true→0≤c0∧c0.toNat<(xp.1.getD e0.toNat default).length∧Su N ((xp.1.getD e0.toNat default).getD c0.toNat default)∧C21 (w6 (a0+(wgT ((xp.1.getD e0.toNat default).getD c0.toNat default)))) (w6 (c0+1)))∧((decide (c0<((xp.1.getD e0.toNat default).length:Int)))=false→C9 a0 (w6 (e0+1)))
def Gw (N:Nat) (xp:PH) (e0:Int) (C9:Int→Int→Prop):Nat→Int→Int→Prop
 | 0,_,_=>False
 | k+1,a0,c0=>WX N xp e0 C9 a0 c0 (Gw N xp e0 C9 k)
def aa2 (N:Nat) (xp:PH) (K:Int→Prop) (u0:Int) (e0:Int) (C9:Int→Int→Prop):Prop :=
 ((decide (e0<(xp.1.length:Int)))=true→∃ k,Gw N xp e0 C9 k u0 0)∧((decide (e0<(xp.1.length:Int)))=false→K u0)
def JP (N:Nat) (xp:PH) (K:Int→Prop):Nat→Int→Int→Prop
 | 0,_,_=>False
 | k+1,u0,e0=>aa2 N xp K u0 e0 (JP N xp K k)
def ahG (N:Nat) (xp:PH) (K:Int→Prop):Prop :=
 ∃ k,JP N xp K k 0 0
theorem aa3 {g:ak} (N:Nat) (Ud:Sq N) (Ue:SB N) {z0:Option Addr} {v0:Nat} {j0:Option Addr} {x0:Nat} (xp:PH) (d0:bE g (.slice (.slice yS)) [.slice z0 xp.1.length v0] xp.1) (g0:bE g (.slice yb) [.slice j0 xp.2.length x0] xp.2) (K:Int→Prop)
  (hF:ahG N xp K):az prog 14 #[.agg #[.slice z0 xp.1.length v0,.slice j0 xp.2.length x0]] g [] (fun g' H' v=>∃ (r0:Int),v=iv r0∧H'=[]∧K r0):=by
 refine aP 35 func14 rfl fun w0=>?_;refine ae (ai (cO fun iC=>?_));refine av 1 [(1,pv iC 0)] kr (aa (ae (ag 1 [1] [(3,iv 0)] ?_)));refine aa (aF (ae (ag 1 [1,3] [(4,iv 0)] ?_)));refine aa (Ok.block ?_);obtain ⟨k,hF⟩:=hF;let A:=(.cells #[.slice z0 xp.1.length v0,.slice j0 xp.2.length x0] 28:Obj);refine fQ (fun k a W=>∃ (u0:Int) (e0:Int),fC 35 [(1,pv iC 0),(3,iv u0),(4,iv e0)] a∧dm w0 [.blk iC A] g W∧JP N xp K k u0 e0) k ?_ ?_
 ·
  exact fun _ _ u v=>⟨0,0,fA u v hF⟩
 clear hF;rintro (_ | k9) _ _ ⟨u0,e0,q⟩;exact (q.2.2:False).elim;refine jn (fun hF=>?_) _ _ q;refine aF (ae (aj 5 [.e 0] [1,3,4] [(10,.bool (decide (e0<(xp.1.length:Int))))] ?_));refine aa (aJ hF (fun hc2 hF=>?_) (fun hc2 hF=>?_))
 ·refine Ok.k (Ok.t (aF (Ok.block (ae (ag 1 [1,3,4] [(5,iv 0)] ?_)))));refine aa (Ok.block ?_);obtain ⟨k,hF⟩:=hF;refine fQ (fun k a W=>∃ (a0:Int) (c0:Int),fC 35 [(1,pv iC 0),(3,iv a0),(4,iv e0),(5,iv c0)] a∧dm w0 [.blk iC A] g W∧Gw N xp e0 (JP N xp K k9) k a0 c0) k ?_ ?_
  ·
   exact fun _ _ u v=>⟨u0,0,fA u v hF⟩
  clear hF;rintro (_ | k21) _ _ ⟨a0,c0,q⟩;exact (q.2.2:False).elim;refine jn (fun hF=>?_) _ _ q;refine aF (ae (aj 4 [.e 0] [1,3,4,5] [(13,iv c0),(15,.slice z0 xp.1.length v0),(16,iv e0)] ?_));obtain ⟨oo,pg,hF⟩:=hF;have ny:=aT (l:=xp.1) default pg;generalize hg4:(xp.1.getD e0.toNat default)=e4 at ny hF ⊢;refine ai (af.aX (e:=.slice yS) rfl rfl underlying25 kr d0 oo ny rfl fun q3 o3 Rz _ F0 hr3=>?_);obtain ⟨C0,D0,rfl,E0⟩:=oS hr3;refine aj 3 [.a 0 F0] [1,3,4,5] [(20,.bool (decide (c0<(e4.length:Int))))] ?_;refine aa (dW hF rfl (fun jy=>?_) (fun jy=>?_))
  ·replace hF:=hF.1 jy;refine Ok.k (Ok.t (aF (Ok.block (aR (aj 4 [.e 0] [1,4,5] [(23,iv a0),(25,.slice z0 xp.1.length v0),(26,iv e0)] ?_)))));refine ai (af.aX (e:=.slice yS) rfl rfl underlying25 kr d0 oo ny rfl fun q6 o6 cs6 _ Q0 QV=>?_);obtain ⟨Jh,Jb,rfl,wz⟩:=oS QV;refine aj 2 [.a 0 Q0] [1,4,5,23] [(28,.slice Jh e4.length Jb),(29,iv c0)] ?_;obtain ⟨IK,h18,hF⟩:=hF;have EA:=aT (l:=e4) default h18;generalize Ru:(e4.getD c0.toNat default)=e8 at EA hF ⊢;refine ai (af.aX (e:=yS) rfl rfl underlying54 kr wz IK EA rfl fun q7 o7 cs7 _ V0 MX=>?_);have B0:=MX;replace B0:=bE.tst.1 B0;obtain ⟨_,_,rfl,⟨_,_,rfl,rfl,⟨_,_,rfl,rfl,⟨_,_,rfl,rfl,⟨_,_,rfl,rfl,⟨_,_,rfl,rfl,rfl⟩⟩⟩⟩⟩,⟨R0,T0,rfl,ajN,ajv⟩⟩:=B0;have akw:bE g (.slice yP) [.slice R0 e8.kids.length T0] e8.kids:=⟨R0,T0,rfl,ajN,ajv⟩;replace V0:At g q7 o7 (vL e8.lab R0 e8.kids.length T0):=V0;obtain ⟨Il,hF⟩:=hF;refine aj 4 [.a 0 V0,.k (Ud _ e8 akw Il)] [1,4,5] [(3,iv (w6 (a0+(wgT e8))))] ?_;refine bV (bG (Ok.t (aR (ag 3 [1,3,4] [(5,iv (w6 (c0+1)))] ?_))));refine bV (Ok.t ?_);subst Ru;subst hg4;exact fun _ _ u v=>⟨k21,nl,w6 (a0+(wgT ((xp.1.getD e0.toNat default).getD c0.toNat default))),w6 (c0+1),fA u v hF⟩
  replace hF:=hF.2 jy;refine fw (ay (ay (aM (bG (Ok.t (aR (ag 3 [1,3] [(4,iv (w6 (e0+1)))] ?_)))))));refine bV (Ok.t ?_);subst hg4;exact fun _ _ u v=>⟨k9,nl,a0,w6 (e0+1),fA u v hF⟩
 refine fw (ay (ay (aM (Ok.t (ae (av 2 [(2,iv u0)] kr (aa (Ok.ret ?_))))))));exact gV (iv u0) ⟨_,rfl,rfl,hF⟩
theorem ahj (t:Ts):¬ Su 0 t:=fun h=>absurd h.1 (iN _)
theorem ahF (p:Ph):¬ SC 0 p:=fun h=>absurd h.1 (iN _)
theorem ahi (N:Nat) (t:Ts) (h:Su (N+1) t):ahk N t (fun r=>r=wgT t):=by
 have e:=LQ t;have hb:=kE t;obtain ⟨h1,h2⟩:=h;refine ⟨fun c1=>by rw [e,aU c1],fun c1=>⟨fun c2=>by rw [e,aG c1,aU c2],fun c2=>⟨fun c3=>by rw [e,aG c1,aG c2,aU c3],fun c3=>?_⟩⟩⟩;rw [aG c1,aG c2,aG c3] at e
 have j:Gj N t (fun r=>r=wgT t):=by
  refine ⟨fun c=>?_,fun c=>by rw [e,aG c]⟩;rw [aU c] at e;have h5:=mO t.kids;have hl:=qo t.kids
  have loop:∀ (m i:Nat) (n:Int),i+m=t.kids.length→wgT t=LU (t.kids.drop i) n→Gi N t (fun r=>r=wgT t) (m+1) n (i:Int):=by
   intro m
   induction m with
   | zero =>
    intro i n hi he;rw [eD om,LU] at he;exact ⟨fun hc=>absurd (df hc) om,fun _=>he.symm⟩
   | succ m ih =>
    intro i n hi he;have hi':i<t.kids.length:=om;have h3:=sW (jR default hi');rw [bX (l:=t.kids) default hi',BO] at he;refine ⟨fun _=>⟨om,by rw [dR]; omega,?_⟩,fun hc=>absurd (fq hc) om⟩;rw [dR];refine ⟨⟨by unfold pw; omega,by unfold pw; omega⟩,?_⟩;rw [fU om,show (i:Int)+1=((i+1:Nat):Int) by omega];exact ih (i+1) _ om he
  exact ⟨_,loop t.kids.length 0 0 om (by rw [gm]; exact e)⟩
 exact ⟨fun _=>j,fun _=>j⟩
theorem ahH {N:Nat} {r:Int} (p:Ph) (k:Nat) (hk:k<p.1.length) (hs:∀ t ∈ p.1.getD k default,Su N t) (hl:(p.1.getD k default).length≤1048600) (C:Int→Int→Prop) (F:Int→Int) (U:Int) (hU:U≤1000000000000000)
  (hC:∀ n,0≤n→n≤U→r=F n→C n (w6 ((k:Int)+1))):∀ (m i:Nat) (n:Int),i+m=(p.1.getD k default).length→0≤n→n+1000000 * w1 ((p.1.getD k default).drop i)≤U→r=F (Qj ((p.1.getD k default).drop i) n)→Gw N p (k:Int) C (m+1) n (i:Int):=by
 intro m
 induction m with
 | zero =>
  intro i n hi hn hu he;rw [eD om] at he hu;rw [w1] at hu;refine ⟨om,by rw [dR]; omega,?_⟩;rw [dR];exact ⟨fun hc=>absurd (df hc) om,fun _=>hC n hn om (by rw [he,Qj])⟩
 | succ m ih =>
  intro i n hi hn hu he;have hi':i<(p.1.getD k default).length:=om;have ht:=hs _ (jR default hi');have hb:=wgB ((p.1.getD k default).getD i default);rw [bX (l:=p.1.getD k default) default hi'] at he hu;rw [Qj] at he;rw [w1] at hu;obtain ⟨hb1,hb2⟩:=hb;refine ⟨om,by rw [dR]; omega,?_⟩;rw [dR];refine ⟨fun _=>⟨om,by rw [dR]; omega,?_⟩,fun hc=>absurd (fq hc) om⟩;rw [dR];refine ⟨ht,?_⟩;rw [fU om,fU om,show (i:Int)+1=((i+1:Nat):Int) by omega];exact ih (i+1) _ om om om he
theorem ahE (N:Nat) (p:Ph) (h:SC (N+1) p):ahG N p (fun r=>r=qL p):=by
 obtain ⟨h1,h2⟩:=h;unfold pw at h1 h2;have hl:=rM p.1
 have loop:∀ (m i:Nat) (n:Int),i+m=p.1.length→0≤n→n+1000000 * w2 (p.1.drop i)≤1000000 * w2 p.1→qL p=LV (p.1.drop i) n→JP N p (fun r=>r=qL p) (m+1) n (i:Int):=by
  intro m
  induction m with
  | zero =>
   intro i n hi hn hu he;rw [eD om,LV] at he;exact ⟨fun hc=>absurd (df hc) om,fun _=>he.symm⟩
  | succ m ih =>
   intro i n hi hn hu he;have hi':i<p.1.length:=om;have hin:=jR default hi';have h3:=tQ hin;have h4:=rO (p.1.getD i default);rw [bX (l:=p.1) default hi'] at he hu;rw [LV] at he;rw [w2] at hu;refine ⟨fun _=>?_,fun hc=>absurd (fq hc) om⟩;refine ⟨_,ahH (r:=qL p) p i hi' (fun t ht=>⟨by have:=xK ht; omega,by have:=xK ht; omega⟩) om _ (fun n=>LV (p.1.drop (i+1)) n) (n+1000000 * w1 (p.1.getD i default)) om (fun n' h0 h1 h2=>?_) (p.1.getD i default).length 0 n om hn (by rw [gm]; omega) (by rw [gm]; exact he)⟩;rw [fU om,show (i:Int)+1=((i+1:Nat):Int) by omega];exact ih (i+1) n' om h0 om h2
 exact ⟨_,loop p.1.length 0 0 om om (by rw [gm]; omega) (by rw [gm]; rfl)⟩
theorem OO:∀ N,Sq N∧SB N
 | 0=>⟨(by intro g q0 k0 xt f0 hp; exact (ahj xt hp).elim),(by intro g z0 v0 j0 x0 xp d0 g0 hp; exact (ahF xp hp).elim)⟩
 | N+1 =>
  have ih:=OO N
  ⟨(by intro g q0 k0 xt f0 hp; exact (aaS N ih.1 ih.2 xt f0 _ (ahi N xt hp)).gv),(by intro g z0 v0 j0 x0 xp d0 g0 hp; exact (aa3 N ih.1 ih.2 xp d0 g0 _ (ahE N xp hp)).gv)⟩
def Zr (xp:PH):Prop:=∃ N,SC N xp
theorem ahD {g:ak} {z0:Option Addr} {v0:Nat} {j0:Option Addr} {x0:Nat} (xp:PH) (d0:bE g (.slice (.slice yS)) [.slice z0 xp.1.length v0] xp.1) (g0:bE g (.slice yb) [.slice j0 xp.2.length x0] xp.2)  (hp:Zr xp):bC prog 14 #[.agg #[.slice z0 xp.1.length v0,.slice j0 xp.2.length x0]] g (iv (qL xp)):=by
 obtain ⟨N,hp⟩:=hp;exact (OO N).2 _ xp d0 g0 hp
end Go.Proofs.YtdapgmigogpdcaaGreatDoor.Se
