/- match: Is; the law MatchIs. -/
import Derived.Test.YtdapgmigogpdcaaGreatDoorMai
import Derived.Test.YtdapgmigogpdcaaGreatDoorSyi
set_option linter.unusedSimpArgs false
set_option linter.unusedVariables false
namespace Go.Proofs.YtdapgmigogpdcaaGreatDoor.Ma
open _root_.Go.Proofs.Tryz Go Go.iT Go.RowKit jN BI Ti Do Se Sr Tk tO Me Rp Qu
set_option maxHeartbeats 4000000
set_option maxRecDepth 100000
noncomputable section
def GU (d:DC) (n:Int):Bool:=decide (n<0)||decide (n≥(d.1.length:Int))
def abI (d:DC) (_:Int) (s:Bs):Prop:=yJ d∧rdP s
theorem Oq {d:DC} {n:Int} {l:List Ph} (hd:yJ d) (hl:Se.Told l) (h0:(je d != 0)=false) (h1:GU d n=false):gN d∧nu d n∧b3 l≤1048600∧rV l=true:=by
 unfold GU at h1;simp only [dB,eP] at h1;exact ⟨(PV d hd).2 (by simpa using h0),⟨om,om⟩,hl.1.1,(P7 hl.2.1).1⟩
end
set_option maxHeartbeats 4000000
set_option maxRecDepth 100000
noncomputable section
def w9 (f:Ph→Bool):List Ph→Int→Bool→Int×Bool
 | [],m,b=>(m,b)
 | q::l,m,b=>w9 f l (if f q=true then mx m (qL q) else m) (f q||b)
theorem FI {f h:Ph→Bool}:∀ {l:List Ph} {m:Int} {b:Bool},(∀ q ∈ l,f q=h q)→w9 f l m b=w9 h l m b
 | [],_,_,_=>rfl
 | q::l,m,b,he=>by
  rw [w9,w9,he q (cz ..)];exact FI fun k hk=>he k (dK _ hk)
theorem O8 {q:Ph}:∀ {l:List Ph},rV l=true→q ∈ l→rV [q]=true
 | [],_,h=>by cases h
 | u::l,h,hq=>by
  rw [kJ,aH,aH,aH] at h
  rcases eO.1 hq with rfl | hq
  ·rw [kJ,h.1,h.2.1,h.2.2.1,rV]; rfl
  exact O8 h.2.2.2 hq
theorem afJ {q:Ph} {l:List Ph} (h:q ∈ l):b3 [q]≤b3 l:=by
 rw [mO,mO,w3,w3];have:=sW h;omega
theorem RG {q:Ph} {l:List Ph} (h:q ∈ l) (hb:b3 l≤1048600):pw q+q.2.length≤1048600:=by
 rw [mO] at hb;have:=sW h;unfold pw; omega
def EM (xd:Dc) (xn:Int) (xl:List PH) (d0:Int) (u0:Int):Int :=
 (if (tL xd xn ([xl.getD u0.toNat default]:List PH))=true then (if d0<(qL (xl.getD u0.toNat default)) then (qL (xl.getD u0.toNat default)) else d0) else d0)
def EL (xd:Dc) (xn:Int) (xl:List PH) (f0:Bool) (u0:Int):Bool :=
 ((tL xd xn ([xl.getD u0.toNat default]:List PH))||f0)
def BP (xd:Dc) (xn:Int) (xl:List PH) (d0:Int) (f0:Bool) (u0:Int) (C9:Int→Bool→Int→Prop):Prop :=
 C9 (EM xd xn xl d0 u0) (EL xd xn xl f0 u0) (w6 (u0+1))
def aai (xd:Dc) (xn:Int) (xl:List PH) (K:Int→Bool→Prop) (d0:Int) (f0:Bool) (u0:Int) (C9:Int→Bool→Int→Prop):Prop :=
 ((decide (u0<(xl.length:Int)))=true→0≤u0∧u0.toNat<xl.length∧ZG xd xn ([xl.getD u0.toNat default]:List PH)∧((tL xd xn ([xl.getD u0.toNat default]:List PH))=true→Zd (xl.getD u0.toNat default)∧BP xd xn xl d0 f0 u0 C9)∧((tL xd xn ([xl.getD u0.toNat default]:List PH))=false→BP xd xn xl d0 f0 u0 C9))∧((decide (u0<(xl.length:Int)))=false→K d0 f0)
def EK (xd:Dc) (xn:Int) (xl:List PH) (K:Int→Bool→Prop):Nat→Int→Bool→Int→Prop
 | 0,_,_,_=>False
 | k+1,d0,f0,u0=>aai xd xn xl K d0 f0 u0 (EK xd xn xl K k)
def agx (xd:Dc) (xn:Int) (xl:List PH) (K:Int→Bool→Prop):Prop :=
 ∃ k,EK xd xn xl K k 0 false 0
theorem aaj {g:ak} {j0:Option Addr} {x0:Nat} (xd:Dc) (xn:Int) {b0:Option Addr} {c0:Nat} (xl:List PH) (s0:bE g qj [.slice j0 xd.1.length x0] xd.1) (e0:bE g (.slice yP) [.slice b0 xl.length c0] xl) (hG0:bR g 0) (K:Int→Bool→Prop)
  (hF:agx xd xn xl K):az prog 29 #[.agg (aD xd j0 x0),iv xn,.slice b0 xl.length c0] g [] (fun g' H' v=>∃ (r0:Int),∃ (r1:Bool),v=.tuple #[iv r0,.bool r1]∧H'=[]∧K r0 r1):=by
 refine aP 30 func29 rfl fun w0=>?_;refine ae (ai (cO fun dD=>?_));refine av 2 [(1,iv xn),(2,.slice b0 xl.length c0),(3,pv dD 0)] kr (aa (ae (ag 2 [1,2,3] [(8,iv 0),(9,.bool false)] ?_)));let B:=(xl.length:Int);refine aa (aF (ae (ag 3 [1,3,8,9] [(12,.slice b0 xl.length c0),(13,iv B),(14,iv 0)] ?_)));refine aa (Ok.block ?_);obtain ⟨k,hF⟩:=hF;let C:=(.cells (aD xd j0 x0) 24:Obj);refine fQ (fun k a W=>∃ jP:ak,bf w0 g jP∧∃ (d0:Int) (f0:Bool) (u0:Int),fC 30 [(1,iv xn),(3,pv dD 0),(8,iv d0),(9,.bool f0),(12,.slice b0 xl.length c0),(13,iv B),(14,iv u0)] a∧dm w0 [.blk dD C] jP W∧EK xd xn xl K k d0 f0 u0) k ?_ ?_
 ·
  exact fun _ _ u v=>⟨g,bu w0 g,0,false,0,fA u v hF⟩
 clear hF;rintro (_ | k9) _ _ ⟨jP,i0,d0,f0,u0,q⟩;exact (q.2.2:False).elim;refine jn (fun hF=>?_) _ _ q;replace e0:=e0.mono i0.1;replace s0:=s0.mono i0.1;replace hG0:=hG0.mono i0.1;refine ae (ag 1 [1,3,8,9,12,13,14] [(15,.bool (decide (u0<B)))] ?_);refine aa (aF (aJ hF (fun hc2 hF=>?_) (fun hc2 hF=>?_)))
 ·refine Ok.k (Ok.t (iK jP [(1,iv xn),(3,pv dD 0),(8,iv (EM xd xn xl d0 u0)),(9,.bool (EL xd xn xl f0 u0)),(12,.slice b0 xl.length c0),(13,iv B),(14,iv u0)] [.blk dD C] (BP xd xn xl d0 f0 u0 (EK xd xn xl K k9)) ?_ (fun arz a0 hF=>?_)))
  ·
   refine Ok.block (aF (aR ?_));obtain ⟨oo,pg,hF⟩:=hF;have ny:=aT (l:=xl) default pg;generalize hg4:(xl.getD u0.toNat default)=e4 at ny hF ⊢;refine ai (af.aX (e:=yP) rfl rfl underlying33 kr e0 oo ny rfl fun q3 o3 Rz _ W0 hr3=>?_);obtain ⟨_,_,rfl,⟨g0,m0,rfl,KX,KU⟩,⟨n0,o0,rfl,KW,KS⟩⟩:=hr3;have U0:bE jP (.slice (.slice yS)) [.slice g0 e4.1.length m0] e4.1:=⟨g0,m0,rfl,KX,KU⟩;have J0:bE jP (.slice yb) [.slice n0 e4.2.length o0] e4.2:=⟨n0,o0,rfl,KW,KS⟩;replace W0:At jP q3 o3 [.slice g0 e4.1.length m0,.slice n0 e4.2.length o0]:=W0;let A:=(#[.slice g0 e4.1.length m0,.slice n0 e4.2.length o0]:Array Value);refine ai (af.s (v:=.agg A) (bL 0 2 A W0 kr underlying28 rfl kr kr kr) rfl rfl (ai (bI #[.slice none 0 0,.slice none 0 0] fun alV=>?_)));refine ai (af.w 0 ?_);refine aa (ae (aj 2 [.e 1] [1,3,8,9,12,13,14] [(11,pv alV 0),(18,.agg (aD xd j0 x0)),(19,iv xn)] ?_));refine ai (af.s (v:=.agg A) (aZ 0 2 A rfl rfl underlying28 rfl kr kr kr) rfl rfl ?_);have hL6:aW jP yP ([.slice g0 e4.1.length m0,.slice n0 e4.2.length o0]:List Value) ([e4]:List PH):=(dx (c:=[.slice g0 e4.1.length m0,.slice n0 e4.2.length o0]) ⟨[.slice g0 e4.1.length m0],[.slice n0 e4.2.length o0],rfl,U0,J0⟩ rfl);refine ai (gz hL6 fun b6=>?_);obtain ⟨Im,hF⟩:=hF;refine ai (af.f gU (fun W hW=>aiw xd xn ([e4]:List PH) (s0.mono hW.sees) (hW.Sm 0 rfl hL6) (hG0.mono hW.sees) Im) rfl ?_);refine aa (dW hF rfl (fun hc8=>?_) (fun hc8=>?_))
   ·replace hF:=hF.1 hc8;refine aR ?_;obtain ⟨Il,hF⟩:=hF;refine aj 6 [.e 1,.k (agh e4 U0 J0 Il)] [1,3,12,13,14] [(8,iv (if d0<(qL e4) then (qL e4) else d0)),(9,.bool true)] ?_;refine bV (bG (Ok.t ?_));subst hg4;refine gX 8 rfl (show (iv (if d0<(qL (xl.getD u0.toNat default)) then (qL (xl.getD u0.toNat default)) else d0):Value)=iv (EM xd xn xl d0 u0) from aA (Value.int .i64) ((aU hc8).symm)) (aB 9 (EL xd xn xl f0 u0) (cK hc8) ?_);exact fg hF
   replace hF:=hF.2 hc8;refine Ok.k (bG (Ok.t ?_));subst hg4;refine gX 8 rfl (show (iv d0:Value)=iv (EM xd xn xl d0 u0) from aA (Value.int .i64) ((aG hc8).symm)) (aB 9 (EL xd xn xl f0 u0) (bN hc8) ?_);exact fg hF
  refine aR (ag 2 [1,3,8,9,12,13] [(14,iv (w6 (u0+1)))] ?_);refine bV (Ok.t ?_);exact fun _ _ u v=>⟨k9,nl,arz,i0.trans a0,EM xd xn xl d0 u0,EL xd xn xl f0 u0,w6 (u0+1),fA u v hF⟩
 refine fw (ay (ay (aM (Ok.t (ae (av 4 [(6,iv d0),(7,.bool f0)] kr (aa (Ok.ret ?_))))))));exact FZ [] i0 ⟨d0,f0,rfl,rfl,hF⟩
def ou (d:DC) (n:Int) (l:List Ph):Int×Bool:=w9 (fun q=>tL d n [q]) l 0 false
def aak (d:DC) (n:Int) (l:List Ph):Prop:=gN d∧nu d n∧b3 l≤1048600∧rV l=true
theorem agw (d:DC) (n:Int) (l:List Ph) (h:aak d n l):agx d n l (fun a b=>(a,b)=ou d n l):=by
 obtain ⟨hG,hn,hb,ho⟩:=h
 have hl:l.length≤1048600:=by have:=qo l; rw [mO] at hb; omega
 have hr:ou d n l=w9 (fun q=>tL d n [q]) l 0 false:=rfl;generalize ou d n l=r at hr
 have loop:∀ (k i:Nat) (m:Int) (b:Bool),i+k=l.length→r=w9 (fun q=>tL d n [q]) (l.drop i) m b→EK d n l (fun a b=>(a,b)=r) (k+1) m b (i:Int):=by
  intro k
  induction k with
  | zero =>
   intro i m b h1 h2;rw [eD om,w9] at h2;exact ⟨fun hc=>od hc,fun _=>h2.symm⟩
  | succ k ih =>
   intro i m b h1 h2;have hq:l.getD i default ∈ l:=gM default om;rw [bX (l:=l) default om,w9] at h2
   have MM:BP d n l m b (i:Int) (EK d n l (fun a b=>(a,b)=r) (k+1)):=by
    unfold BP EM EL;rw [dR,fU om];exact ih (i+1) _ _ om h2
   refine ⟨fun _=>?_,fun hc=>oe hc⟩;rw [dR];exact ⟨om,om,⟨b3 [l.getD i default]+1,nl,gQ (afJ hq) hb,hG,hn,O8 ho hq⟩,fun _=>⟨⟨pw (l.getD i default)+1,om,by have:=RG hq hb; omega⟩,MM⟩,fun _=>MM⟩
 exact ⟨_,loop l.length 0 0 false om hr⟩
theorem agv {g:ak} {j0:Option Addr} {x0:Nat} (xd:Dc) (xn:Int) {b0:Option Addr} {c0:Nat} (xl:List PH) (s0:bE g qj [.slice j0 xd.1.length x0] xd.1) (e0:bE g (.slice yP) [.slice b0 xl.length c0] xl) (hG0:bR g 0)  (hp:aak xd xn xl):bC prog 29 #[.agg (aD xd j0 x0),iv xn,.slice b0 xl.length c0] g (.tuple #[iv (ou xd xn xl).1,.bool (ou xd xn xl).2]) :=
 (aaj xd xn xl s0 e0 hG0 _ (agw xd xn xl hp)).gives (by rintro g' H' v _ ⟨r0,r1,rfl,rfl,hK⟩; obtain ⟨rfl,rfl⟩:r0=(ou xd xn xl).1∧r1=(ou xd xn xl).2:=⟨aA (fun z=>z.1) hK,aA (fun z=>z.2) hK⟩; rfl)
def F7 (xd:Dc) (xn:Int) (xs:Bs) (K:Int→Bool→Int→Prop):Prop :=
 ((decide (xn<0)||(decide (xn≥(xd.1.length:Int))))=true→K 0 false 5)∧((decide (xn<0)||(decide (xn≥(xd.1.length:Int))))=false→rdP xs∧(((kF xs).2 != 0)=true→K 0 false (kF xs).2)∧(((kF xs).2 != 0)=false→aak xd xn (kF xs).1∧K (ou xd xn (kF xs).1).1 (ou xd xn (kF xs).1).2 0))
def agu (xd:Dc) (xn:Int) (xs:Bs) (K:Int→Bool→Int→Prop):Prop :=
 yJ xd∧(((je xd) != 0)=true→K 0 false (je xd))∧(((je xd) != 0)=false→(decide (xn<0)=true→F7 xd xn xs K)∧(decide (xn<0)=false→F7 xd xn xs K))
theorem aah {g:ak} {j0:Option Addr} {x0:Nat} (xd:Dc) (xn:Int) (xs:Bs) (s0:bE g qj [.slice j0 xd.1.length x0] xd.1) (hG0:bR g 0) (K:Int→Bool→Int→Prop)
  (hF:agu xd xn xs K):az prog 15 #[.agg (aD xd j0 x0),iv xn,sv xs] g [] (fun g' H' v=>∃ (r0:Int),∃ (r1:Bool),∃ (r2:Int),v=.tuple #[iv r0,.bool r1,iv r2]∧H'=[]∧K r0 r1 r2):=by
 refine aP 45 func15 rfl fun w0=>?_;refine ae (ai (cO fun dD=>?_));refine av 3 [(1,iv xn),(2,sv xs),(3,pv dD 0)] kr (aa (aF (aF (aR ?_))));obtain ⟨hp2,hF⟩:=hF;refine aj 3 [.e 0,.k (Vu xd s0 hp2)] [1,2,3] [(9,iv (je xd))] ?_;refine aa (ae (ag 2 [1,2,3,9] [(17,.bool ((je xd) != 0))] ?_));refine aa (aJ hF (fun hc3 hF=>?_) (fun hc3 hF=>?_))
 ·refine ae (av 4 [(6,iv 0),(7,.bool false),(8,iv (je xd))] kr (aa (Ok.ret (aC ?_))));exact AR (vs:=[iv 0,.bool false,iv (je xd)]) [] [] dc rfl (.inl rfl) rfl (.cons (.tmp rfl) (.cons (.tmp rfl) (.cons (.tmp rfl) .nil))) (bu w0 g) ⟨0,false,je xd,rfl,rfl,hF⟩
 let C:=decide (xn≥(xd.1.length:Int));let B:=decide (xn<0)||C;refine Ok.k (Ok.t (aF (iK g [(1,iv xn),(2,sv xs),(3,pv dD 0),(27,.bool B)] [.blk dD (.cells (aD xd j0 x0) 24)] (F7 xd xn xs K) ?_ (fun avD t0 hF=>?_))))
 ·
  refine aR (ag 3 [1,2,3] [(21,.bool (decide (xn<0)))] ?_);refine bP 21 hF (fun mq hF=>?_) (fun mq hF=>?_)
  ·refine ag 6 [1,2,3] [(27,.bool true)] ?_;refine aa (aB 27 B (cK mq) ?_);exact fg hF
  refine aj 6 [.e 0] [1,2,3] [(27,.bool C)] ?_;refine aa (aB 27 B (bN mq) ?_);exact fg hF
 replace s0:=s0.mono t0.1;replace hG0:=hG0.mono t0.1;refine aJ hF (fun hc4 hF=>?_) (fun hc4 hF=>?_)
 ·refine ae (av 3 [(6,iv 0),(7,.bool false),(8,iv 5)] kr (aa (Ok.ret (aC ?_))));exact AR (vs:=[iv 0,.bool false,iv 5]) [] [] dc rfl (.inl rfl) rfl (.cons (.tmp rfl) (.cons (.tmp rfl) (.cons (.tmp rfl) .nil))) t0 ⟨0,false,5,rfl,rfl,hF⟩
 refine Ok.k (Ok.t (ae (ag 1 [1,3] [(29,sv xs)] ?_)));obtain ⟨M3,hF⟩:=hF;refine ai (bS (rd_c xs hG0 M3) fun g6 _ _ hx6 hV6=>?_);obtain ⟨Jh,Jb,rfl,wz,rfl⟩:=hV6;replace s0:=s0.mono hx6.1;replace hG0:=hG0.mono hx6.1;refine ag 5 [1,3] [(10,.slice Jh (kF xs).1.length Jb),(11,iv (kF xs).2)] ?_;refine aa (aF (ae (ag 2 [1,3,10,11] [(34,.bool ((kF xs).2 != 0))] ?_)));refine aa (aJ hF (fun iB hF=>?_) (fun iB hF=>?_))
 ·refine ae (av 4 [(6,iv 0),(7,.bool false),(8,iv (kF xs).2)] kr (aa (Ok.ret (aC ?_))));exact AR (vs:=[iv 0,.bool false,iv (kF xs).2]) [] [] dc rfl (.inl rfl) rfl (.cons (.tmp rfl) (.cons (.tmp rfl) (.cons (.tmp rfl) .nil))) (t0.trans hx6) ⟨0,false,(kF xs).2,rfl,rfl,hF⟩
 refine Ok.k (Ok.t (aF (aR ?_)));obtain ⟨KV,hF⟩:=hF;let A:=ou xd xn (kF xs).1;refine aj 9 [.e 0,.k (agv xd xn (kF xs).1 s0 wz hG0 KV)] [] [(12,iv A.1),(13,.bool A.2)] ?_;refine aa (ae (av 5 [(6,iv A.1),(7,.bool A.2),(8,iv 0)] kr (aa (Ok.ret ?_))));exact AR (vs:=[iv A.1,.bool A.2,iv 0]) [] [] dc rfl (.inl rfl) rfl (.cons (.tmp rfl) (.cons (.tmp rfl) (.cons (.tmp rfl) .nil))) (t0.trans hx6) ⟨A.1,A.2,0,rfl,rfl,hF⟩
def gF (d:DC) (n:Int) (s:Bs):Int×Bool×Int:=if (je d != 0)=true then (0,false,je d) else if GU d n=true then (0,false,5) else if ((kF s).2 != 0)=true then (0,false,(kF s).2) else ((ou d n (kF s).1).1,(ou d n (kF s).1).2,0)
theorem agt (d:DC) (n:Int) (s:Bs) (h:abI d n s):agu d n s (fun a b c=>(a,b,c)=gF d n s):=by
 obtain ⟨hd,l,hl,rfl⟩:=h
 have hr:gF d n (tx3 l)=if (je d != 0)=true then (0,false,je d) else if GU d n=true then (0,false,5) else if ((kF (tx3 l)).2 != 0)=true then (0,false,(kF (tx3 l)).2) else ((ou d n (kF (tx3 l)).1).1,(ou d n (kF (tx3 l)).1).2,0):=rfl
 generalize gF d n (tx3 l)=r at hr
 have j14:(je d != 0)=false→F7 d n (tx3 l) (fun a b c=>(a,b,c)=r):=fun h0=>by
  rw [aG h0] at hr;refine ⟨fun h1=>?_,fun h1=>⟨⟨l,hl,rfl⟩,fun h2=>?_,fun h2=>⟨?_,?_⟩⟩⟩
  ·have h1:GU d n=true:=h1;rw [aU h1] at hr; exact hr.symm
  ·have h1:GU d n=false:=h1;rw [aG h1,aU h2] at hr; exact hr.symm
  ·rw [JU hl];exact Oq hd hl h0 h1
  have h1:GU d n=false:=h1;rw [aG h1,aG h2] at hr; exact hr.symm
 exact ⟨hd,fun h0=>by rw [aU h0] at hr; exact hr.symm,fun h0=>⟨fun _=>j14 h0,fun _=>j14 h0⟩⟩
theorem ags {g:ak} {j0:Option Addr} {x0:Nat} (xd:Dc) (xn:Int) (xs:Bs) (s0:bE g qj [.slice j0 xd.1.length x0] xd.1) (hG0:bR g 0)  (hp:abI xd xn xs):bC prog 15 #[.agg (aD xd j0 x0),iv xn,sv xs] g (.tuple #[iv (gF xd xn xs).1,.bool (gF xd xn xs).2.1,iv (gF xd xn xs).2.2]) :=
 (aah xd xn xs s0 hG0 _ (agt xd xn xs hp)).gives (by rintro g' H' v _ ⟨r0,r1,r2,rfl,rfl,hK⟩; obtain ⟨rfl,rfl,rfl⟩:r0=(gF xd xn xs).1∧r1=(gF xd xn xs).2.1∧r2=(gF xd xn xs).2.2:=⟨aA (fun z=>z.1) hK,aA (fun z=>z.2.1) hK,aA (fun z=>z.2.2) hK⟩; rfl)
def Dh (xd:Dc) (xn:Int) (xl:List PH):Bool :=
 (((fH xl).2 != 0)||((((je xd) != 0)||decide (xn<0))||(decide (xn≥(xd.1.length:Int)))))
def Fy (xd:Dc) (xn:Int) (xl:List PH) (k0:Int) (z0:Int):Int :=
 (if (rR xd xn (xl.getD z0.toNat default))=true then (if k0<(qL (xl.getD z0.toNat default)) then (qL (xl.getD z0.toNat default)) else k0) else k0)
def Df (xd:Dc) (xn:Int) (xl:List PH) (k0:Int) (y0:Bool) (z0:Int) (Es:Int→Bool→Int→Prop):Prop :=
 Es (Fy xd xn xl k0 z0) ((rR xd xn (xl.getD z0.toNat default))||y0) (w6 (z0+1))
def Xz (xd:Dc) (xn:Int) (xl:List PH) (K:Bool→Prop) (k0:Int) (y0:Bool) (z0:Int) (Es:Int→Bool→Int→Prop):Prop :=
 ((decide (z0<(xl.length:Int)))=true→0≤z0∧z0.toNat<xl.length∧Zq xd xn (xl.getD z0.toNat default)∧((rR xd xn (xl.getD z0.toNat default))=true→Zr (xl.getD z0.toNat default)∧Df xd xn xl k0 y0 z0 Es)∧((rR xd xn (xl.getD z0.toNat default))=false→Df xd xn xl k0 y0 z0 Es))∧((decide (z0<(xl.length:Int)))=false→abI xd xn (fH xl).1∧K (((true&&((gF xd xn (fH xl).1).2.2==0))&&((gF xd xn (fH xl).1).2.1==y0))&&((gF xd xn (fH xl).1).1==k0)))
def zq (xd:Dc) (xn:Int) (xl:List PH) (K:Bool→Prop):Nat→Int→Bool→Int→Prop
 | 0,_,_,_=>False
 | k+1,k0,y0,z0=>Xz xd xn xl K k0 y0 z0 (zq xd xn xl K k)
def Ko (xd:Dc) (xn:Int) (xl:List PH) (K:Bool→Prop):Prop :=
 (Dh xd xn xl=true→K true)∧(Dh xd xn xl=false→∃ k,zq xd xn xl K k 0 false 0)
def aiZ (xd:Dc) (xn:Int) (xl:List PH) (K:Bool→Prop):Prop :=
 zN xl∧(((fH xl).2 != 0)=true→Ko xd xn xl K)∧(((fH xl).2 != 0)=false→yJ xd∧((((je xd) != 0)||decide (xn<0))=true→Ko xd xn xl K)∧((((je xd) != 0)||decide (xn<0))=false→Ko xd xn xl K))
theorem abU {g:ak} {j0:Option Addr} {x0:Nat} (xd:Dc) (xn:Int) {b0:Option Addr} {c0:Nat} (xl:List PH) (s0:bE g qj [.slice j0 xd.1.length x0] xd.1) (e0:bE g (.slice yP) [.slice b0 xl.length c0] xl) (hG0:bR g 0) (hG3:mg g 3 (.int .u64) yZ) (K:Bool→Prop)
  (hF:aiZ xd xn xl K):az prog 5 #[.agg (aD xd j0 x0),iv xn,.slice b0 xl.length c0] g [] (fun g' H' v=>∃ (r0:Bool),v=.bool r0∧H'=[]∧K r0):=by
 refine aP 84 func5 rfl fun w0=>?_;refine ae (ai (cO fun dD=>?_));refine av 1 [(1,iv xn),(2,.slice b0 xl.length c0),(3,pv dD 0)] kr (aa (ae (aj 2 [.k (ai4  hG0)] [1,2,3] [(7,.bool true)] ?_)));refine aa (aF (aR ?_));obtain ⟨hp2,hF⟩:=hF;refine aj 7 [.k (agP xl e0 hG0 hG3 hp2)] [1,2,3,7] [(8,sv ((fH xl).1)),(9,iv (fH xl).2)] ?_;let C:=(.cells (aD xd j0 x0) 24:Obj);refine aa (aF (gB [(1,iv xn),(2,.slice b0 xl.length c0),(3,pv dD 0),(7,.bool true),(8,sv ((fH xl).1)),(39,.bool (Dh xd xn xl))] [.blk dD C] (Ko xd xn xl K) ?_ (fun hF=>?_)))
 ·
  refine aR (ag 3 [1,2,3,7,8] [(24,.bool ((fH xl).2 != 0))] ?_);refine bP 24 hF (fun Y0 hF=>?_) (fun Y0 hF=>?_)
  ·refine ag 15 [1,2,3,7,8] [(39,.bool true)] ?_;refine aa (aB 39 (Dh xd xn xl) (cK Y0) ?_);exact fz hF
  obtain ⟨M5,hF⟩:=hF;let D:=(je xd) != 0;refine aj 5 [.e 0,.k (Vu xd s0 M5)] [1,2,3,7,8] [(29,.bool D)] ?_;let A:=D||decide (xn<0);refine Ok.w 3 [(1,iv xn),(2,.slice b0 xl.length c0),(3,pv dD 0),(7,.bool true),(8,sv ((fH xl).1)),(32,.bool A)] (fun O0=>?_) ?_
  ·refine Ok.a 29 D rfl (fun X0=>?_) (fun X0=>?_)
   ·skip;refine ag 3 [1,2,3,7,8] [(32,.bool true)] ?_;refine aB 32 A (cK X0) (ag 0 [1,2,3,7,8] [(32,.bool A)] ?_);exact O0
   skip;refine ag 3 [1,2,3,7,8] [(32,.bool (decide (xn<0)))] ?_;refine aB 32 A (bN X0) (ag 0 [1,2,3,7,8] [(32,.bool A)] ?_);exact O0
  refine ag 1 [1,2,3,7,8] [(33,.bool A)] ?_;refine bP 33 hF (fun S0 hF=>?_) (fun S0 hF=>?_)
  ·refine ag 6 [1,2,3,7,8] [(39,.bool true)] ?_;refine aa (aB 39 (Dh xd xn xl) (au (cK S0) (bN Y0)) ?_);exact fz hF
  refine aj 6 [.e 0] [1,2,3,7,8] [(39,.bool (decide (xn≥(xd.1.length:Int))))] ?_;refine aa (aB 39 (Dh xd xn xl) (au (bN S0) (bN Y0)) ?_);exact fz hF
 refine aJ hF (fun hc3 hF=>?_) (fun hc3 hF=>?_)
 ·refine ae (av 2 [(6,.bool true)] kr (aa (Ok.ret (aC ?_))));exact dE true hF
 refine Ok.k (Ok.t (ae (ag 1 [1,2,3,7,8] [(10,iv 0)] ?_)));refine aa (ae (ag 1 [1,2,3,7,8,10] [(11,.bool false)] ?_));refine aa (aF (ae (ag 1 [1,2,3,7,8,10,11] [(12,iv 0)] ?_)));refine aa (Ok.block ?_);obtain ⟨k,hF⟩:=hF;refine fQ (fun k a W=>∃ (k0:Int) (y0:Bool) (z0:Int),fC 84 [(1,iv xn),(2,.slice b0 xl.length c0),(3,pv dD 0),(7,.bool true),(8,sv ((fH xl).1)),(10,iv k0),(11,.bool y0),(12,iv z0)] a∧dm w0 [.blk dD C] g W∧zq xd xn xl K k k0 y0 z0) k ?_ ?_
 ·
  exact fun _ _ u v=>⟨0,false,0,fA u v hF⟩
 clear hF;rintro (_ | k23) _ _ ⟨k0,y0,z0,q⟩;exact (q.2.2:False).elim;refine jn (fun hF=>?_) _ _ q;refine aF (ae (ag 4 [1,2,3,7,8,10,11,12] [(44,.bool (decide (z0<(xl.length:Int))))] ?_));refine aa (aJ hF (fun hc4 hF=>?_) (fun hc4 hF=>?_))
 ·refine Ok.k (Ok.t (gB [(1,iv xn),(2,.slice b0 xl.length c0),(3,pv dD 0),(7,.bool true),(8,sv ((fH xl).1)),(10,iv (Fy xd xn xl k0 z0)),(11,.bool ((rR xd xn (xl.getD z0.toNat default))||y0)),(12,iv z0)] [.blk dD C] (Df xd xn xl k0 y0 z0 (zq xd xn xl K k23)) ?_ (fun hF=>?_)))
  ·
   refine Ok.block (aF (gq kr kr (dS.op rfl (fK.s (v:=.agg (aD xd j0 x0)) (aZ 0 2 (aD xd j0 x0) rfl rfl underlying24 rfl kr kr kr) rfl rfl (eZ 3 [1,2,3,7,8,10,11,12] [(47,.agg (aD xd j0 x0)),(48,iv xn),(49,.slice b0 xl.length c0),(50,iv z0)] ?_)))));obtain ⟨uA,h16,hF⟩:=hF;have uz:=aT (l:=xl) default h16;generalize zH:(xl.getD z0.toNat default)=e6 at uz hF ⊢;refine dS.op rfl (fK.aX (e:=yP) rfl rfl underlying33 kr e0 uA uz rfl fun q5 o5 cs5 _ B0 MZ=>?_);obtain ⟨_,_,rfl,⟨Z0,V0,rfl,ajU,ajC⟩,⟨Q0,K0,rfl,ajT,ajB⟩⟩:=MZ;have DI:bE g (.slice (.slice yS)) [.slice Z0 e6.1.length V0] e6.1:=⟨Z0,V0,rfl,ajU,ajC⟩;have akB:bE g (.slice yb) [.slice Q0 e6.2.length K0] e6.2:=⟨Q0,K0,rfl,ajT,ajB⟩;replace B0:At g q5 o5 [.slice Z0 e6.1.length V0,.slice Q0 e6.2.length K0]:=B0;let B:=(#[.slice Z0 e6.1.length V0,.slice Q0 e6.2.length K0]:Array Value);refine dS.op rfl (fK.s (v:=.agg B) (bL 0 2 B B0 kr underlying28 rfl kr kr kr) rfl rfl ?_);obtain ⟨Im,hF⟩:=hF;refine dS.op rfl (fK.f gU (fun W hW=>ahv xd xn e6 (s0.mono hW.sees) (DI.mono hW.sees) (akB.mono hW.sees) (hG0.mono hW.sees) Im) rfl ?_);refine kQ (Ok.t (dW hF rfl (fun hc8=>?_) (fun hc8=>?_)))
   ·replace hF:=hF.1 hc8;refine ae (ag 3 [1,2,3,7,8,12] [(54,iv k0),(55,.slice b0 xl.length c0),(56,iv z0)] ?_);refine ai (af.aX (e:=yP) rfl rfl underlying33 kr e0 uA uz rfl fun q9 o9 cs9 _ C0 Um=>?_);obtain ⟨_,_,rfl,⟨D0,E0,rfl,UD,Ul⟩,⟨F0,G0,rfl,UC,Uk⟩⟩:=Um;have Pz:bE g (.slice (.slice yS)) [.slice D0 e6.1.length E0] e6.1:=⟨D0,E0,rfl,UD,Ul⟩;have UO:bE g (.slice yb) [.slice F0 e6.2.length G0] e6.2:=⟨F0,G0,rfl,UC,Uk⟩;replace C0:At g q9 o9 [.slice D0 e6.1.length E0,.slice F0 e6.2.length G0]:=C0;obtain ⟨Dy,hF⟩:=hF;refine aj 4 [.a 0 C0,.k (ahD e6 Pz UO Dy)] [1,2,3,7,8,12] [(10,iv (if k0<(qL e6) then (qL e6) else k0))] ?_;refine aa (aR (ag 1 [1,2,3,7,8,10,12] [(11,.bool true)] ?_));refine bV (bG (Ok.t ?_));subst zH;refine gX 10 rfl (show (iv (if k0<(qL (xl.getD z0.toNat default)) then (qL (xl.getD z0.toNat default)) else k0):Value)=iv (Fy xd xn xl k0 z0) from aA (Value.int .i64) ((aU hc8).symm)) (aB 11 ((rR xd xn (xl.getD z0.toNat default))||y0) (cK hc8) ?_);exact fz hF
   replace hF:=hF.2 hc8;refine Ok.k (bG (Ok.t ?_));subst zH;refine gX 10 rfl (show (iv k0:Value)=iv (Fy xd xn xl k0 z0) from aA (Value.int .i64) ((aG hc8).symm)) (aB 11 ((rR xd xn (xl.getD z0.toNat default))||y0) (bN hc8) ?_);exact fz hF
  refine aR (ag 3 [1,2,3,7,8,10,11] [(12,iv (w6 (z0+1)))] ?_);refine bV (Ok.t ?_);exact fun _ _ u v=>⟨k23,nl,Fy xd xn xl k0 z0,((rR xd xn (xl.getD z0.toNat default))||y0),w6 (z0+1),fA u v hF⟩
 refine fw (ay (ay (aM (Ok.t (aF (aR ?_))))));obtain ⟨Io,hF⟩:=hF;refine aj 11 [.e 0,.k (ags xd xn (fH xl).1 s0 hG0 Io)] [7,10,11] [(13,iv (gF xd xn (fH xl).1).1),(14,.bool (gF xd xn (fH xl).1).2.1),(15,iv (gF xd xn (fH xl).1).2.2)] ?_;refine aa (ae (ag 2 [10,11,13,14,15] [(70,.bool true)] ?_));refine Ok.w 3 [(10,iv k0),(11,.bool y0),(13,iv (gF xd xn (fH xl).1).1),(14,.bool (gF xd xn (fH xl).1).2.1),(73,.bool (true&&((gF xd xn (fH xl).1).2.2==0)))] (fun P0=>?_) ?_
 ·refine Ok.a 70 (true) rfl (fun H0=>?_) (fun H0=>?_)
  ·skip;refine ag 3 [10,11,13,14] [(73,.bool ((gF xd xn (fH xl).1).2.2==0))] ?_;refine aB 73 (true&&((gF xd xn (fH xl).1).2.2==0)) (bn H0) (ag 0 [10,11,13,14] [(73,.bool (true&&((gF xd xn (fH xl).1).2.2==0)))] ?_);exact P0
  skip;refine ag 3 [10,11,13,14] [(73,.bool false)] ?_;refine aB 73 (true&&((gF xd xn (fH xl).1).2.2==0)) (bZ H0) (ag 0 [10,11,13,14] [(73,.bool (true&&((gF xd xn (fH xl).1).2.2==0)))] ?_);exact P0
 refine ag 1 [10,11,13,14] [(74,.bool (true&&((gF xd xn (fH xl).1).2.2==0)))] ?_;refine Ok.w 4 [(10,iv k0),(13,iv (gF xd xn (fH xl).1).1),(78,.bool ((true&&((gF xd xn (fH xl).1).2.2==0))&&((gF xd xn (fH xl).1).2.1==y0)))] (fun R0=>?_) ?_
 ·refine Ok.a 74 (true&&((gF xd xn (fH xl).1).2.2==0)) rfl (fun M0=>?_) (fun M0=>?_)
  ·skip;refine ag 4 [10,13] [(78,.bool ((gF xd xn (fH xl).1).2.1==y0))] ?_;refine aB 78 ((true&&((gF xd xn (fH xl).1).2.2==0))&&((gF xd xn (fH xl).1).2.1==y0)) (bn M0) (ag 0 [10,13] [(78,.bool ((true&&((gF xd xn (fH xl).1).2.2==0))&&((gF xd xn (fH xl).1).2.1==y0)))] ?_);exact R0
  skip;refine ag 4 [10,13] [(78,.bool false)] ?_;refine aB 78 ((true&&((gF xd xn (fH xl).1).2.2==0))&&((gF xd xn (fH xl).1).2.1==y0)) (bZ M0) (ag 0 [10,13] [(78,.bool ((true&&((gF xd xn (fH xl).1).2.2==0))&&((gF xd xn (fH xl).1).2.1==y0)))] ?_);exact R0
 refine ag 1 [10,13] [(79,.bool ((true&&((gF xd xn (fH xl).1).2.2==0))&&((gF xd xn (fH xl).1).2.1==y0)))] ?_;refine Ok.w 4 [(83,.bool (((true&&((gF xd xn (fH xl).1).2.2==0))&&((gF xd xn (fH xl).1).2.1==y0))&&((gF xd xn (fH xl).1).1==k0)))] (fun T0=>?_) ?_
 ·refine Ok.a 79 ((true&&((gF xd xn (fH xl).1).2.2==0))&&((gF xd xn (fH xl).1).2.1==y0)) rfl (fun N0=>?_) (fun N0=>?_)
  ·skip;refine av 4 [(83,.bool ((gF xd xn (fH xl).1).1==k0))] kr (aB 83 (((true&&((gF xd xn (fH xl).1).2.2==0))&&((gF xd xn (fH xl).1).2.1==y0))&&((gF xd xn (fH xl).1).1==k0)) (bn N0) (av 0 [(83,.bool (((true&&((gF xd xn (fH xl).1).2.2==0))&&((gF xd xn (fH xl).1).2.1==y0))&&((gF xd xn (fH xl).1).1==k0)))] kr ?_));exact T0
  skip;refine av 4 [(83,.bool false)] kr (aB 83 (((true&&((gF xd xn (fH xl).1).2.2==0))&&((gF xd xn (fH xl).1).2.1==y0))&&((gF xd xn (fH xl).1).1==k0)) (bZ N0) (av 0 [(83,.bool (((true&&((gF xd xn (fH xl).1).2.2==0))&&((gF xd xn (fH xl).1).2.1==y0))&&((gF xd xn (fH xl).1).1==k0)))] kr ?_));exact T0
 refine av 1 [(6,.bool (((true&&((gF xd xn (fH xl).1).2.2==0))&&((gF xd xn (fH xl).1).2.1==y0))&&((gF xd xn (fH xl).1).1==k0)))] kr (aa (Ok.ret ?_));exact dE (((true&&((gF xd xn (fH xl).1).2.2==0))&&((gF xd xn (fH xl).1).2.1==y0))&&((gF xd xn (fH xl).1).1==k0)) hF
def aiY (d:DC) (n:Int) (l:List Ph):Prop:=VS (.pair qj (.bool)) d∧(Lit.int .i64 n).wf=true∧VS (.slice yP) l
theorem aiX (d:DC) (n:Int) (l:List Ph) (h:aiY d n l):aiZ d n l (fun r=>r=true):=by
 have hd:yJ d:=fun x hx=>(h.1.1.1.1.2 x hx).2.2.2.2.2.1;have hc:=arT h.2.2
 have j8:Ko d n l (fun r=>r=true):=by
  refine ⟨fun _=>rfl,fun hv=>?_⟩;unfold Dh at hv;simp only [dB,bne_eq_false_iff_eq,eP] at hv;obtain ⟨v0,⟨v1,v2⟩,v3⟩:=hv;obtain ⟨hT,hS⟩:=R4 hc v0
  have q0:(je d != 0)=false:=by simpa using v1
  have q1:GU d n=false:=by unfold GU; simp only [dB,eP]; exact ⟨v2,v3⟩
  obtain ⟨hG,hn,hb,ho⟩:=Oq hd hT q0 q1
  have hl:l.length≤1048600:=by have:=qo l; rw [mO] at hb; omega
  have hW:gF d n (fH l).1=((ou d n l).1,(ou d n l).2,0):=by
   unfold gF;rw [aG q0,aG q1,hS,JU hT]; rfl
  have hK:=aio ho
  have hw:ou d n l=w9 (rR d n) l 0 false:=FI fun q hq=>by
   show xk d [q] n=SF d (Gz d q.1) q.2 n;rw [FW,xk,nD];exact (QE hG (hK q hq) hn).symm
  have loop:∀ (k i:Nat) (m:Int) (b:Bool),i+k=l.length→w9 (rR d n) l 0 false=w9 (rR d n) (l.drop i) m b→zq d n l (fun r=>r=true) (k+1) m b (i:Int):=by
   intro k
   induction k with
   | zero =>
    intro i m b h1 h2;rw [eD om,w9] at h2;refine ⟨fun hc=>od hc,fun _=>⟨⟨hd,l,hT,by rw [hS]⟩,?_⟩⟩;rw [hW,hw,h2]; simp
   | succ k ih =>
    intro i m b h1 h2;have hq:l.getD i default ∈ l:=gM default om;have hoq:=kI ho hq;have hwq:=RG hq hb;rw [bX (l:=l) default om,w9] at h2
    have j30:Df d n l m b (i:Int) (zq d n l (fun r=>r=true) (k+1)):=by
     unfold Df Fy;rw [dR,fU om];exact ih (i+1) _ _ om h2
    refine ⟨fun _=>?_,fun hc=>oe hc⟩;rw [dR];exact ⟨om,om,⟨w2 (l.getD i default).1+2,om,by unfold pw at hwq; omega,hG,hn,hoq.1.1,hoq.1.2.1,hoq.2,hoq.1.2.2⟩,fun _=>⟨⟨pw (l.getD i default)+1,om,om⟩,j30⟩,fun _=>j30⟩
  exact ⟨_,loop l.length 0 0 false om rfl⟩
 exact ⟨hc,fun _=>j8,fun _=>⟨hd,fun _=>j8,fun _=>j8⟩⟩
theorem aiW {g:ak} {j0:Option Addr} {x0:Nat} (xd:Dc) (xn:Int) {b0:Option Addr} {c0:Nat} (xl:List PH) (s0:bE g qj [.slice j0 xd.1.length x0] xd.1) (e0:bE g (.slice yP) [.slice b0 xl.length c0] xl) (hG0:bR g 0) (hG3:mg g 3 (.int .u64) yZ)  (hp:aiY xd xn xl):bC prog 5 #[.agg (aD xd j0 x0),iv xn,.slice b0 xl.length c0] g (.bool true) :=
 (abU xd xn xl s0 e0 hG0 hG3 _ (aiX xd xn xl hp)).gv
end
end Go.Proofs.YtdapgmigogpdcaaGreatDoor.Ma
