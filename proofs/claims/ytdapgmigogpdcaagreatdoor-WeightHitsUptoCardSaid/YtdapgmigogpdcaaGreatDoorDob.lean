/-
 A slice of the call's own is cut at its end and kept. No program in sight.
-/
import Derived.Test.YtdapgmigogpdcaaGreatDoorByt
import Derived.Test.YtdapgmigogpdcaaGreatDoorEng
import Derived.Test.YtdapgmigogpdcaaGreatDoorExi
import Derived.Test.YtdapgmigogpdcaaGreatDoorSha
import Derived.Shelf.Strings.SlTrimAscii
set_option linter.unusedSimpArgs false
set_option linter.unusedVariables false
namespace Go.iT
open Go.RowKit (Below)
section
variable {P:Program} {n:nQ} {w0:Base} {m:Env} {H:List cu} {g:ak} {R:Act→World→Prop} {Q:Exit→Act→World→Prop} {ops:Array Oper}
theorem aW.take {e:Ty}:∀ {l:List e.den} {xs:List Value} (k:Nat),aW g e xs l→aW g e (xs.take (k * e.size)) (l.take k)
 | l,xs,0,_=>by rw [xm,List.take_zero,List.take_zero]; rfl
 | [],xs,k+1,h=>by rw [show xs=[] from h]; simp; rfl
 | x::l,xs,k+1,⟨c,r,h1,h2,h3⟩=>by
  refine ⟨c,r.take (k * e.size),?_,h2,aW.take k h3⟩;rw [h1,uQ,Nat.add_comm,← h2.size,List.take_length_add_append]
theorem qf {K:Act→World→Prop} {d:Nat} {T E ty:TypeId} {x o:Operand} {pos:String} {after:Array Edge} {gd:Option (Nat×Bool)} {k:IntKind} {h:Int} {e:Ty} {l:List e.den} {xs:List Value} {a:Option Addr} {c:Nat}
  (i:Nat) (hx:val m x=some (.slice a l.length c)) (ho:val m o=some (.int k h)) (hi:H[i]? = some (.own (.slice a l.length c) E e.size l.length xs)) (hR:aW g e xs l)
  (hu:P.underlying T=some (.slice E)) (hs:(P.info? E).map (·.size)=some e.size) (h0:0≤h) (h2:h≤(l.length:Int)) (hn:Nat.ble (d+1) n=true)
  (hk:∀ y5,aW g e y5 (l.take h.toNat)→Ok n w0 ((d,.slice a (l.take h.toNat).length c)::m) (H.set i (.own (.slice a (l.take h.toNat).length c) E e.size (l.take h.toNat).length y5)) g K) :
  af P K Q ⟨some d,.slice T x none (some o) none,ty,pos,after,gd⟩ n w0 m H g:=fun ac W hA hW=>by
 have hok:W.ownsRow 0 E e.size (.slice a l.length c) l.length xs:=hW.f_ _ (iq hi)
 have hlen:(l.take h.toNat).length=h.toNat:=by rw [gG]; omega
 have hl:(l.length:Int)≤c:=by
  rcases hok.2 with ⟨he,hl⟩ | ⟨b,cap,cur,he,hB,hh,hcap,hmax,hsize,htake⟩
  ·simp only [Value.slice.injEq] at he; omega
  simp only [Value.slice.injEq] at he; omega
 have e1:((h.toNat:Nat):Int)=h:=om;have hcap:h≤(c:Int):=om;show Oper.upon P _ ac _ Q (Sem.run P (execOp ac.eval _) W)
 have ev:(execOp ac.eval ⟨some d,.slice T x none (some o) none,ty,pos,after,gd⟩).run P W=.ok (.value (.slice a h.toNat c)) W:=by
  cases gW:P.info? E with
  | none=>simp [gW] at hs
  | some inf =>
   simp only [gW,mP,jB] at hs;simp only [execOp,hA.eval hx,hA.eval ho,mP,Option.map_none];simp [Instr.sliceAt,underlying,hu,Instr.slice,Instr.sliceBounds,Instr.sliceBound,asIntOf,h0,hcap,sizeOf,typeInfo,gW,go_sem]
 rw [ev,Oper.upon_value];have hk:=hk _ (aW.take h.toNat hR);rw [hlen] at hk;refine hk _ W (hA.put (gy hn) _) (hW.grown (e':=.own (.slice a h.toNat c) E e.size h.toNat (xs.take (h.toNat * e.size))) hi ⟨rfl,rfl,rfl,fP _,fun _ _ _=>rfl⟩ ?_ (.inl ?_))
 ·show W.ownsRow 0 E e.size (.slice a h.toNat c) h.toNat (xs.take (h.toNat * e.size));have hlx:=hok.1;refine ⟨?_,?_⟩
  ·rw [gG,hlx];exact og (qG _ (om))
  rcases hok.2 with ⟨he,hl⟩ | ⟨b,cap,cur,he,hB,hh,hcap,hmax,hsize,htake⟩
  ·simp only [Value.slice.injEq] at he;obtain ⟨rfl,-,rfl⟩:=he;exact .inl ⟨by rw [show h.toNat=0 by omega],om⟩
  simp only [Value.slice.injEq,true_and] at he;obtain ⟨rfl,rfl⟩:=he;refine .inr ⟨b,c,cur,rfl,hB,hh,om,hmax,hsize,?_⟩;rw [← htake,xq,og (qG _ (om))]
 show (Value.slice a h.toNat c).ownBlock=(Value.slice a l.length c).ownBlock
 cases a <;> rfl
end
end Go.iT
namespace Go.iT
open Go.RowKit (Below)
section
variable {P:Program} {ops:Array Oper} {Q:Exit→Act→World→Prop}
section
variable {B:Type} {C:B→World→Prop} {S:Nat→B→Prop} {T:Nat→B→Prop} {md:Region.Mode} {Qn:Act→World→Prop}
end
variable {n:nQ} {w0:Base} {m:Env} {H:List cu} {g:ak} {g0:ak} {R:Act→World→Prop}

theorem Y6 {id:Nat} {l:List Oper} (pre soft:List Nat) (Hf H0:List cu) (os:List (Nat×Bool)) (hm:P.follows .mixedOrders=true) (hB:Kh l.toArray pre soft os=true) (hs:List.Sublist H0 Hf) (hf:List.Sublist Hf H)
  (h:eH P l.toArray n w0 g pre soft Hf H0 m H g (Q .normal) os):Ok n w0 m H g ((Code.region id l.toArray true).wp P Q) :=
 fun a _ hA hW=>vU (C:=fun c W=>dm w0 c.2 c.1 W) (S:=fun i c=>lG g c.1∧List.Sublist (bif soft.contains i then Hf else H0) c.2) (T:=EI g pre Hf H0) (c:=(g,H)) os hm hB (fun c i j h hp=>⟨h.1,by
  have h2:=h.2
  rcases hp with hp | hp
  ·rw [hp] at h2;cases pre.contains i
   ·exact hs.trans h2
   exact h2
  ·rw [hp];cases hj:soft.contains j
   ·rw [hj] at h2; exact h2
   rw [hj] at h2; exact hs.trans h2⟩) (fun i=>⟨lG.refl g,by
  cases pre.contains i
  ·exact hs.trans hf
  exact hf⟩) (hW.of_below ((Below.refl _ _).drew)) (h a hA)

end
end Go.iT
namespace Go.Proofs.YtdapgmigogpdcaaGreatDoor.Ti
open Go Go.iT Go.RowKit Go.Shelf Go.Proofs
def Dw (s:Bs) (c:Int):Int:=Lib.indexByte s c.toNat.toUInt8
theorem ab8 {g:ak} (s:Bs) (c:Int):bC Tryz.prog 65 #[.string ⟨⟨s⟩⟩,.int .u8 c] g (.int .i64 (Dw s c)):=fun W hW =>
 (Tryz.strings_IndexByte ⟨⟨s⟩⟩ c W).mono fun e W' ⟨he,hw⟩=>⟨he,by subst hw; exact Below.refl _ _⟩
def Oj (s cut:Bs):Prop:=s.length≤9223372036854775807∧cut.length<4294967281∧cut.all (fun x=>decide (x.toNat<128))=true
def trimS (s cut:Bs):Bs:=Lib.trimS s cut
theorem trim_c {g:ak} (s cut:Bs) (hp:Oj s cut):bC Tryz.prog 101 #[.string ⟨⟨s⟩⟩,.string ⟨⟨cut⟩⟩] g (.string ⟨⟨trimS s cut⟩⟩):=fun W hW=>by
 obtain ⟨h1,h2,h3⟩:=hp;exact (Any.strings_Trim_laid Tryz.XF kr ⟨⟨s⟩⟩ ⟨⟨cut⟩⟩ W h1 h2 (ascii_of_all h3)).mono fun e w' ⟨he,hw⟩=>⟨he,hw⟩
end Go.Proofs.YtdapgmigogpdcaaGreatDoor.Ti
namespace Go.Proofs.YtdapgmigogpdcaaGreatDoor.Do
open _root_.Go.Proofs.Tryz Go Go.iT Go.RowKit Ti
theorem wK {p:Prop} (h:p:=by first | (show (26:Int)≤39; omega) | (rw [ma]; decide) | omega | assumption | exact trivial | (have h0:=List.length_pos_iff.mpr asm; omega) | (simp; omega) | (simp at *; omega)):p:=h
set_option maxHeartbeats 4000000
set_option maxRecDepth 100000
theorem Ha {s:Bs} {n:Int} (h:((!(s==([]:Bs)))&&decide ((s.length:Int)≤n))=true):Int.toNat 0<s.length:=by
 rw [aH,dC,dX] at h;exact List.length_pos_iff.2 h.1
theorem CY {s:Bs} {n:Int} {t:Bs} (h:((!(s==([]:Bs)))&&decide ((s.length:Int)≤n))=true) (hn:n≤1000) (ht:t.length<4294967281∧t.all (fun x=>decide (x.toNat<128))=true):Oj s t:=by
 rw [aH,dI] at h;exact ⟨om,ht.1,ht.2⟩
abbrev cS:Bs:=[97,98,99,100,101,102,103,104,105,106,107,108,109,110,111,112,113,114,115,116,117,118,119,120,121,122,48,49,50,51,52,53,54,55,56,57,45,95,58]
def zL (xs:Bs) (eu:Bs) (K:Bool→Prop):Prop :=
 K (((!(xs==([]:Bs)))&&(decide ((xs.length:Int)≤40)))&&((decide ((Dw eu ((xs.getD (Int.toNat 0) 0).toNat:Int))≥0))&&(trimS xs cS==([]:Bs))))
def PR (xs:Bs) (eu:Bs) (K:Bool→Prop):Prop :=
 (((!(xs==([]:Bs)))&&(decide ((xs.length:Int)≤40)))=true→(0:Int)≤0∧Int.toNat 0<xs.length∧((decide ((Dw eu ((xs.getD (Int.toNat 0) 0).toNat:Int))≥0))=true→Oj xs cS∧zL xs eu K)∧((decide ((Dw eu ((xs.getD (Int.toNat 0) 0).toNat:Int))≥0))=false→zL xs eu K))∧(((!(xs==([]:Bs)))&&(decide ((xs.length:Int)≤40)))=false→zL xs eu K)
theorem Yl {g:ak} (xs:Bs) (eu:Bs) (K:Bool→Prop)
  (hF:PR xs eu K):az prog 59 #[sv xs,sv eu] g [] (fun g' H' v=>∃ (r0:Bool),v=.bool r0∧H'=[]∧K r0):=by
 refine aP 24 func59 rfl fun w0=>?_;let A:=!(xs==([]:Bs));refine ae (av 1 [(0,sv xs),(1,sv eu)] kr (aa (gB [(4,.bool ((A&&(decide ((xs.length:Int)≤40)))&&((decide ((Dw eu ((xs.getD (Int.toNat 0) 0).toNat:Int))≥0))&&(trimS xs cS==([]:Bs)))))] [] (zL xs eu K) ?_ (fun hF=>?_))))
 ·
  refine aR (aj 3 [] [0,1] [(7,.bool A)] ?_);refine Ok.w 4 [(0,sv xs),(1,sv eu),(11,.bool (A&&(decide ((xs.length:Int)≤40))))] (fun AL=>?_) ?_
  ·refine Ok.a 7 A rfl (fun hc2=>?_) (fun hc2=>?_)
   ·skip;refine ag 4 [0,1] [(11,.bool (decide ((xs.length:Int)≤40)))] ?_;refine aB 11 (A&&(decide ((xs.length:Int)≤40))) (bn hc2) (ag 0 [0,1] [(11,.bool (A&&(decide ((xs.length:Int)≤40))))] ?_);exact AL
   skip;refine ag 4 [0,1] [(11,.bool false)] ?_;refine aB 11 (A&&(decide ((xs.length:Int)≤40))) (bZ hc2) (ag 0 [0,1] [(11,.bool (A&&(decide ((xs.length:Int)≤40))))] ?_);exact AL
  refine ag 1 [0,1] [(12,.bool (A&&(decide ((xs.length:Int)≤40))))] ?_;refine bP 12 hF (fun hc3 hF=>?_) (fun hc3 hF=>?_)
  ·refine ag 2 [0] [(12,.bool true),(13,sv eu),(14,sv xs)] ?_;obtain ⟨oo,pg,hF⟩:=hF;have ny:=aT (l:=xs) (0:UInt8) pg;generalize hg4:(xs.getD (Int.toNat 0) 0)=e4 at ny hF ⊢;let B:=(e4.toNat:Int);refine dZ (af.s (v:=.int .u8 B) (dQ (k:=.i64) (i:=0) (s:=xs) (b:=e4) kr kr underlying9 oo ny) rfl rfl (aj 4 [.k (ab8 eu B)] [0] [(19,.bool (decide (Dw eu B≥0)))] ?_));refine Ok.a 19 (decide (Dw eu B≥0)) rfl (fun jy=>?_) (fun jy=>?_)
   ·replace hF:=hF.1 jy;obtain ⟨hp6,hF⟩:=hF;refine aj 5 [.k (trim_c xs cS hp6)] [] [(4,.bool (trimS xs cS==([]:Bs)))] ?_;refine bV (Ok.t ?_);subst hg4;refine aB 4 (((!(xs==([]:Bs)))&&(decide ((xs.length:Int)≤40)))&&((decide ((Dw eu ((xs.getD (Int.toNat 0) 0).toNat:Int))≥0))&&(trimS xs cS==([]:Bs)))) (au (bn jy) (bn hc3)) ?_;exact fz hF
   replace hF:=hF.2 jy;refine av 5 [(4,.bool false)] kr (bV (Ok.t ?_));subst hg4;refine aB 4 (((!(xs==([]:Bs)))&&(decide ((xs.length:Int)≤40)))&&((decide ((Dw eu ((xs.getD (Int.toNat 0) 0).toNat:Int))≥0))&&(trimS xs cS==([]:Bs)))) (au (bZ jy) (bn hc3)) ?_;exact fz hF
  refine av 12 [(4,.bool false)] kr (aa (aB 4 (((!(xs==([]:Bs)))&&(decide ((xs.length:Int)≤40)))&&((decide ((Dw eu ((xs.getD (Int.toNat 0) 0).toNat:Int))≥0))&&(trimS xs cS==([]:Bs)))) (bZ hc3) ?_));exact fz hF
 refine Ok.ret ?_;exact dE (((!(xs==([]:Bs)))&&(decide ((xs.length:Int)≤40)))&&((decide ((Dw eu ((xs.getD (Int.toNat 0) 0).toNat:Int))≥0))&&(trimS xs cS==([]:Bs)))) hF
def IY (xs:Bs) (eu:Bs):Bool:=(((!(xs==([]:Bs)))&&(decide ((xs.length:Int)≤40)))&&((decide ((Dw eu ((xs.getD (Int.toNat 0) 0).toNat:Int))≥0))&&(trimS xs cS==([]:Bs))))
theorem D7 (xs:Bs) (eu:Bs) (P:Bool→Prop) (h:P (IY xs eu)):zL xs eu (fun k0=>P k0):=by
 unfold IY at h;unfold zL;exact h
def rE (xs:Bs) (eu:Bs):Bool:=(IY xs eu)
theorem Ym (xs:Bs) (eu:Bs) (P:Bool→Prop) (h:P (rE xs eu)):PR xs eu (fun k0=>P k0):=by
 unfold rE at h;unfold PR;refine ⟨fun hc0=>?_,fun hc0=>?_⟩
 ·skip
  have hd0:=hc0; try simp only [aH,dY,fF,dB,dC,eX,dI,eP,dJ,dX,gp] at hd0
  refine ⟨?_,?_,?_⟩
  ·first | exact CY asm dc dc | exact Ha asm | omega | assumption | exact trivial | (have h0:=List.length_pos_iff.mpr asm; omega) | (simp; omega) | (simp at *; omega)
  ·first | exact CY asm dc dc | exact Ha asm | omega | assumption | exact trivial | (have h0:=List.length_pos_iff.mpr asm; omega) | (simp; omega) | (simp at *; omega)
  refine ⟨fun hc1=>?_,fun hc1=>?_⟩
  ·skip
   have hd1:=hc1; try simp only [aH,dY,fF,dB,dC,eX,dI,eP,dJ,dX,gp] at hd1
   refine ⟨?_,?_⟩
   ·first | exact CY asm dc dc | exact Ha asm | omega | assumption | exact trivial | (have h0:=List.length_pos_iff.mpr asm; omega) | (simp; omega) | (simp at *; omega)
   exact D7 xs eu _ h
  skip
  have hd1:=hc1; try simp only [aH,dY,fF,dB,dC,eX,dI,eP,dJ,dX,gp] at hd1
  exact D7 xs eu _ h
 skip
 have hd0:=hc0; try simp only [aH,dY,fF,dB,dC,eX,dI,eP,dJ,dX,gp] at hd0
 exact D7 xs eu _ h
theorem aeF (xs:Bs) (eu:Bs):PR xs eu (fun k0=>k0=rE xs eu) :=
 Ym xs eu (fun z=>z=rE xs eu) rfl
theorem Vj {g:ak} (xs:Bs) (eu:Bs)  : bC prog 59 #[sv xs,sv eu] g (.bool (rE xs eu)) :=
 (Yl xs eu _ (aeF xs eu)).gv
def PZ (xs:Bs) (K:Bool→Prop):Prop :=
 (0:Int)≤0∧(0:Int)≤26∧26≤(cS.length:Int)∧K (rE xs (cS.take (Int.toNat 26)))
theorem YI {g:ak} (xs:Bs) (K:Bool→Prop)
  (hF:PZ xs K):az prog 34 #[sv xs] g [] (fun g' H' v=>∃ (r0:Bool),v=.bool r0∧H'=[]∧K r0):=by
 refine aP 6 func34 rfl fun w0=>?_;refine ae (av 1 [(0,sv xs)] kr (aa (ae (av 1 [(3,sv xs)] kr ?_))));obtain ⟨h01,h11,h21,hF⟩:=hF;refine ai (af.s (b_ (s:=cS) (l:=0) (h:=26) kr underlying9 (.inr ⟨rfl,rfl⟩) (.inl ⟨_,_,rfl,rfl⟩) h01 h11 h21 (cS.take (Int.toNat 26)) (by simp)) rfl rfl (aj 2 [.k (Vj xs (cS.take (Int.toNat 26)))] [] [(2,.bool (rE xs (cS.take (Int.toNat 26))))] ?_));refine aa (Ok.ret ?_);exact dE (rE xs (cS.take (Int.toNat 26))) hF
def uH (xs:Bs):Bool:=(rE xs (cS.take (Int.toNat 26)))
theorem YJ (xs:Bs) (P:Bool→Prop) (h:P (uH xs)):PZ xs (fun k0=>P k0):=by
 unfold uH at h;unfold PZ;refine ⟨?_,?_,?_,?_⟩
 ·exact wK
 ·exact wK
 ·exact wK
 exact h
theorem aeX (xs:Bs):PZ xs (fun k0=>k0=uH xs) :=
 YJ xs (fun z=>z=uH xs) rfl
theorem aeW {g:ak} (xs:Bs)  : bC prog 34 #[sv xs] g (.bool (uH xs)) :=
 (YI xs _ (aeX xs)).gv
def PY (xs:Bs) (K:Bool→Prop):Prop :=
 (0:Int)≤0∧(0:Int)≤26∧26≤(cS.length:Int)∧(cS.take (Int.toNat 26)).length+([45,95]:Bs).length≤maxLen∧K (rE xs (cS.take (Int.toNat 26)++([45,95]:Bs)))
theorem YG {g:ak} (xs:Bs) (K:Bool→Prop)
  (hF:PY xs K):az prog 60 #[sv xs] g [] (fun g' H' v=>∃ (r0:Bool),v=.bool r0∧H'=[]∧K r0):=by
 refine aP 7 func60 rfl fun w0=>?_;refine ae (av 1 [(0,sv xs)] kr (aa (ae (av 1 [(3,sv xs)] kr ?_))));obtain ⟨h01,h11,h21,hF⟩:=hF;refine ai (af.s (b_ (s:=cS) (l:=0) (h:=26) kr underlying9 (.inr ⟨rfl,rfl⟩) (.inl ⟨_,_,rfl,rfl⟩) h01 h11 h21 (cS.take (Int.toNat 26)) (by simp)) rfl rfl ?_);obtain ⟨hv,hF⟩:=hF;let A:=cS.take (Int.toNat 26)++([45,95]:Bs);refine ai (af.s (v:=sv A) (dz rfl rfl hv) rfl rfl (aj 2 [.k (Vj xs A)] [] [(2,.bool (rE xs A))] ?_));refine aa (Ok.ret ?_);exact dE (rE xs A) hF
def Ar (xs:Bs):Bool:=(rE xs (cS.take (Int.toNat 26)++([45,95]:Bs)))
theorem YH (xs:Bs) (P:Bool→Prop) (h:P (Ar xs)):PY xs (fun k0=>P k0):=by
 unfold Ar at h;unfold PY;refine ⟨?_,?_,?_,?_⟩
 ·exact wK
 ·exact wK
 ·exact wK
 refine ⟨?_,?_⟩
 ·exact wK
 exact h
theorem aeV (xs:Bs):PY xs (fun k0=>k0=Ar xs) :=
 YH xs (fun z=>z=Ar xs) rfl
theorem aeU {g:ak} (xs:Bs)  : bC prog 60 #[sv xs] g (.bool (Ar xs)) :=
 (YG xs _ (aeV xs)).gv
def Yz (xa:Bs×Bs) (x1:Bs) (K:Bool→Prop):Prop :=
 K (xa.1==x1)
theorem aeN {g:ak} (xa:Bs×Bs) {bx1 ox1:Nat} (x1:Bs) (C0:PtrTo g (.str) bx1 ox1 x1) (K:Bool→Prop)
  (hF:Yz xa x1 K):az prog 103 #[.agg #[sv xa.1,sv xa.2],pv bx1 ox1] g [] (fun g' H' v=>∃ (r0:Bool),v=.bool r0∧H'=[]∧K r0):=by
 refine aP 8 func103 rfl fun w0=>?_;obtain ⟨avP,_,Y0,an1⟩:=C0;obtain rfl:=an1;replace Y0:At g bx1 ox1 [sv x1]:=Y0;refine ae (ai (cO fun eT=>?_));refine av 1 [(1,pv bx1 ox1),(2,pv eT 0)] kr (aa (ae (aj 5 [.e 0,.a 0 Y0] [] [(3,.bool (xa.1==x1))] ?_)));refine aa (Ok.ret ?_);exact dE (xa.1==x1) hF
def D8 (xa:Bs×Bs) (x1:Bs):Bool:=(xa.1==x1)
theorem aeO (xa:Bs×Bs) (x1:Bs) (P:Bool→Prop) (h:P (D8 xa x1)):Yz xa x1 (fun k0=>P k0):=by
 unfold D8 at h;unfold Yz;exact h
theorem akY (xa:Bs×Bs) (x1:Bs):Yz xa x1 (fun k0=>k0=D8 xa x1) :=
 aeO xa x1 (fun z=>z=D8 xa x1) rfl
theorem akX {g:ak} (xa:Bs×Bs) {bx1 ox1:Nat} (x1:Bs) (C0:PtrTo g (.str) bx1 ox1 x1)  : bC prog 103 #[.agg #[sv xa.1,sv xa.2],pv bx1 ox1] g (.bool (D8 xa x1)) :=
 (aeN xa x1 C0 _ (akY xa x1)).gv
def Yu (xs:List (Bs×Bs)) (xf:(Bs×Bs)→Bool) (Mk:(Bs×Bs)→Prop) (K:Int→Prop) (b0:Int) (C7:Int→Prop):Prop :=
 ((decide (b0<(xs.length:Int)))=true→0≤b0∧b0.toNat<xs.length∧Mk (xs.getD b0.toNat default)∧((xf (xs.getD b0.toNat default))=true→K b0)∧((xf (xs.getD b0.toNat default))=false→C7 (w6 (b0+1))))∧((decide (b0<(xs.length:Int)))=false→K (-1))
def I5 (xs:List (Bs×Bs)) (xf:(Bs×Bs)→Bool) (Mk:(Bs×Bs)→Prop) (K:Int→Prop):Nat→Int→Prop
 | 0,_=>False
 | k+1,b0=>Yu xs xf Mk K b0 (I5 xs xf Mk K k)
def ZR (xs:List (Bs×Bs)) (xf:(Bs×Bs)→Bool) (Mk:(Bs×Bs)→Prop) (K:Int→Prop):Prop :=
 ∃ k,I5 xs xf Mk K k 0
theorem Yv {g:ak} {axs_0:Option Addr} {cxs_0:Nat} (xs:List (Bs×Bs)) {vxf:Value} (xf:(Bs×Bs)→Bool) (Mk:(Bs×Bs)→Prop) (o0:bE g (.slice yA) [.slice axs_0 xs.length cxs_0] xs) (acP:∀ (y0:Bs×Bs),Mk y0→Z7 prog vxf #[.agg #[sv y0.1,sv y0.2]] g (.bool (xf y0))) (K:Int→Prop)
  (hF:ZR xs xf Mk K):az prog 102 #[.slice axs_0 xs.length cxs_0,vxf] g [] (fun g' H' v=>∃ (r0:Int),v=iv r0∧H'=[]∧K r0):=by
 refine aP 19 func102 rfl fun w0=>?_;let B:=(xs.length:Int);refine ae (av 1 [(0,.slice axs_0 xs.length cxs_0),(1,vxf)] kr (aa (aF (ae (ag 3 [0,1] [(7,iv B),(8,iv 0)] ?_)))));refine aa (Ok.block ?_);obtain ⟨k,hF⟩:=hF;refine fQ (fun k a W=>∃ (b0:Int),fC 19 [(0,.slice axs_0 xs.length cxs_0),(1,vxf),(7,iv B),(8,iv b0)] a∧dm w0 [] g W∧I5 xs xf Mk K k b0) k ?_ ?_
 ·
  exact fun _ _ u v=>⟨0,fA u v hF⟩
 clear hF;rintro (_ | k7) _ _ ⟨b0,q⟩;exact (q.2.2:False).elim;refine jn (fun hF=>?_) _ _ q;refine ae (ag 1 [0,1,7,8] [(9,.bool (decide (b0<B)))] ?_);refine aa (aF (aJ hF (fun hc1 hF=>?_) (fun hc1 hF=>?_)))
 ·refine Ok.k (Ok.t (aF (Ok.block (ae (ag 2 [0,1,7,8] [(5,iv b0)] ?_)))));refine aa (ae (ag 3 [0,1,5,7,8] [(11,vxf),(12,.slice axs_0 xs.length cxs_0),(13,iv b0)] ?_));obtain ⟨DL,DJ,hF⟩:=hF;have wu:=aT (l:=xs) default DJ;generalize hg3:(xs.getD b0.toNat default)=e3 at wu hF ⊢;refine ai (af.aX (e:=.pair (.str) (.str)) rfl rfl underlying45 kr o0 DL wu rfl fun q2 o2 cs2 _ D0 hr2=>?_);obtain ⟨_,_,rfl,rfl,rfl⟩:=hr2;replace D0:At g q2 o2 [sv e3.1,sv e3.2]:=D0;let A:=(#[sv e3.1,sv e3.2]:Array Value);refine ai (af.s (v:=.agg A) (bL 0 2 A D0 kr underlying105 rfl kr kr kr) rfl rfl ?_);obtain ⟨hq4,hF⟩:=hF;refine ai (NV (args:=#[.agg A]) (v:=.bool (xf e3)) rfl kr kr (acP e3 hq4) rfl (aa (dW hF rfl (fun jy=>?_) (fun jy=>?_))))
  ·replace hF:=hF.1 jy;refine ae (av 2 [(4,iv b0)] kr (aa (Ok.ret (aV (aC (aC (aV (aC ?_))))))));exact pO (iv b0) ⟨_,rfl,rfl,hF⟩
  replace hF:=hF.2 jy;refine Ok.k (bG (Ok.t (aR (ag 2 [0,1,7] [(8,iv (w6 (b0+1)))] ?_))));refine bV (Ok.t ?_);subst hg3;exact fun _ _ u v=>⟨k7,nl,w6 (b0+1),fA u v hF⟩
 refine fw (ay (ay (aM (Ok.t (ae (av 1 [(4,iv (-1))] kr (aa (Ok.ret ?_))))))));exact pO (iv (-1)) ⟨_,rfl,rfl,hF⟩
def jZ {α:Type} (f:α→Bool):List α→Nat→Int
 | [],_=>-1
 | x::l,i=>if f x=true then (i:Int) else jZ f l (i+1)
def Ap (l:List (Bs×Bs)) (f:(Bs×Bs)→Bool):Int:=jZ f l 0
def Vp (l:List (Bs×Bs)) (_:(Bs×Bs)→Bool) (p:(Bs×Bs)→Prop):Prop:=l.length≤1000000∧∀ y,p y
theorem aeK (l:List (Bs×Bs)) (f:(Bs×Bs)→Bool) (p:(Bs×Bs)→Prop) (hp:Vp l f p):ZR l f p (fun r=>r=Ap l f):=by
 obtain ⟨hl,hp⟩:=hp
 have loop:∀ (k i:Nat),i+k=l.length→Ap l f=jZ f (l.drop i) i→I5 l f p (fun r=>r=Ap l f) (k+1) (i:Int):=by
  intro k
  induction k with
  | zero =>
   intro i h h2;have hn:decide ((i:Int)<(l.length:Int))=false:=l6 om;rw [eD om] at h2;exact ⟨fun h=>(Bool.false_ne_true (hn.symm.trans h)).elim,fun _=>h2.symm⟩
  | succ k ih =>
   intro i h h2;have hn:decide ((i:Int)<(l.length:Int))=true:=gu om;rw [bX (l:=l) default om,jZ] at h2;refine ⟨fun _=>⟨om,by rw [dR]; omega,hp _,fun hc=>?_,fun hc=>?_⟩,fun h=>(Bool.false_ne_true (h.symm.trans hn)).elim⟩
   ·rw [dR] at hc;rw [h2,aU hc]
   rw [dR] at hc;rw [aG hc] at h2;rw [fU om];exact ih (i+1) om h2
 exact ⟨_,loop l.length 0 om rfl⟩
theorem aeJ {g:ak} {axs_0:Option Addr} {cxs_0:Nat} (xs:List (Bs×Bs)) {vxf:Value} (xf:(Bs×Bs)→Bool) (Mk:(Bs×Bs)→Prop) (o0:bE g (.slice yA) [.slice axs_0 xs.length cxs_0] xs) (acP:∀ (y0:Bs×Bs),Mk y0→Z7 prog vxf #[.agg #[sv y0.1,sv y0.2]] g (.bool (xf y0)))  (hp:Vp xs xf Mk):bC prog 102 #[.slice axs_0 xs.length cxs_0,vxf] g (iv (Ap xs xf)) :=
 (Yv xs xf Mk o0 acP _ (aeK xs xf Mk hp)).gv
def Le (l:List (Bs×Bs)) (_:Bs):Prop:=l.length≤1000000
def PT (xl:List (Bs×Bs)) (dn:Bs) (K:Int→Prop):Prop :=
 Vp xl (fun y0=>D8 y0 dn) (fun _=>True)∧K (Ap xl (fun y0=>D8 y0 dn))
theorem Yx {g:ak} {v0:Option Addr} {q0:Nat} (xl:List (Bs×Bs)) (dn:Bs) (d0:bE g (.slice yA) [.slice v0 xl.length q0] xl) (K:Int→Prop)
  (hF:PT xl dn K):az prog 61 #[.slice v0 xl.length q0,sv dn] g [] (fun g' H' v=>∃ (r0:Int),v=iv r0∧H'=[]∧K r0):=by
 refine aP 8 func61 rfl fun w0=>?_;refine ae (ai (af.box (v:=sv dn) (cs:=#[sv dn]) rfl kr rfl fun dD=>?_));refine av 1 [(0,.slice v0 xl.length q0),(3,pv dD 0)] kr (aa (aF (aR ?_)));obtain ⟨hp2,hF⟩:=hF;refine aj 4 [.c (fun W hW=>aeJ (vxf:=.func (.func 103) #[] #[pv dD 0]) xl (fun y0=>D8 y0 dn) (fun _=>True) (d0.mono hW.sees) (fun y0 hq=>⟨103,_,fun _=>by kernel_rfl,akX y0 dn ⟨[sv dn],rfl,(hW.aaO 0 rfl 0 [sv dn] rfl),rfl⟩⟩) hp2)] [] [(4,iv (Ap xl (fun y0=>D8 y0 dn)))] ?_;refine aa (Ok.ret ?_);exact gV (iv (Ap xl (fun y0=>D8 y0 dn))) ⟨_,rfl,rfl,hF⟩
def Aq (xl:List (Bs×Bs)) (dn:Bs):Int:=(Ap xl (fun y0=>D8 y0 dn))
theorem Yy (xl:List (Bs×Bs)) (dn:Bs) (hp:Le xl dn) (P:Int→Prop) (h:P (Aq xl dn)):PT xl dn (fun k0=>P k0):=by
 unfold Aq at h;unfold PT;refine ⟨?_,?_⟩
 ·first | exact ⟨hp,fun _=>trivial⟩ | omega | assumption | exact trivial | (have h0:=List.length_pos_iff.mpr asm; omega) | (simp; omega) | (simp at *; omega)
 exact h
theorem aeM (xl:List (Bs×Bs)) (dn:Bs) (hp:Le xl dn):PT xl dn (fun k0=>k0=Aq xl dn) :=
 Yy xl dn hp (fun z=>z=Aq xl dn) rfl
theorem aeL {g:ak} {v0:Option Addr} {q0:Nat} (xl:List (Bs×Bs)) (dn:Bs) (d0:bE g (.slice yA) [.slice v0 xl.length q0] xl)  (hp:Le xl dn):bC prog 61 #[.slice v0 xl.length q0,sv dn] g (iv (Aq xl dn)) :=
 (Yx xl dn d0 _ (aeM xl dn hp)).gv
def Vv (xl:List (Bs×Bs)) (K:Int→Prop) (z0:Int) (C15:Int→Prop):Prop :=
 ((decide (z0<(xl.length:Int)))=true→0≤z0∧z0.toNat<xl.length∧((!(Ar (xl.getD z0.toNat default).1))=true→K 3)∧((!(Ar (xl.getD z0.toNat default).1))=false→((decide (((xl.getD z0.toNat default).2.length:Int)>400))=true→K 2)∧((decide (((xl.getD z0.toNat default).2.length:Int)>400))=false→(0:Int)≤0∧0≤z0∧z0≤(xl.length:Int)∧Le (xl.take z0.toNat) (xl.getD z0.toNat default).1∧((decide ((Aq (xl.take z0.toNat) (xl.getD z0.toNat default).1)≥0))=true→K 3)∧((decide ((Aq (xl.take z0.toNat) (xl.getD z0.toNat default).1)≥0))=false→C15 (w6 (z0+1))))))∧((decide (z0<(xl.length:Int)))=false→K 0)
def BC (xl:List (Bs×Bs)) (K:Int→Prop):Nat→Int→Prop
 | 0,_=>False
 | k+1,z0=>Vv xl K z0 (BC xl K k)
def FQ (xl:List (Bs×Bs)) (K:Int→Prop):Prop :=
 ((decide ((xl.length:Int)>12))=true→K 2)∧((decide ((xl.length:Int)>12))=false→∃ k,BC xl K k 0)
theorem YE {g:ak} {v0:Option Addr} {q0:Nat} (xl:List (Bs×Bs)) (d0:bE g (.slice yA) [.slice v0 xl.length q0] xl) (K:Int→Prop)
  (hF:FQ xl K):az prog 35 #[.slice v0 xl.length q0] g [] (fun g' H' v=>∃ (r0:Int),v=iv r0∧H'=[]∧K r0):=by
 refine aP 34 func35 rfl fun w0=>?_;refine ae (av 1 [(0,.slice v0 xl.length q0)] kr (aa (aF (ae (ag 3 [0] [(7,.bool (decide ((xl.length:Int)>12)))] ?_)))));refine aa (aJ hF (fun hc1 hF=>?_) (fun hc1 hF=>?_))
 ·refine ae (av 1 [(2,iv 2)] kr (aa (Ok.ret (aC ?_))));exact pO (iv 2) ⟨_,rfl,rfl,hF⟩
 refine Ok.k (Ok.t (aF (ae (ag 3 [0] [(8,.slice v0 xl.length q0),(9,iv (xl.length:Int)),(10,iv 0)] ?_))));refine aa (Ok.block ?_);obtain ⟨k,hF⟩:=hF;refine fQ (fun k a W=>∃ (z0:Int),fC 34 [(0,.slice v0 xl.length q0),(8,.slice v0 xl.length q0),(9,iv (xl.length:Int)),(10,iv z0)] a∧dm w0 [] g W∧BC xl K k z0) k ?_ ?_
 ·
  exact fun _ _ u v=>⟨0,fA u v hF⟩
 clear hF;rintro (_ | k15) _ _ ⟨z0,q⟩;exact (q.2.2:False).elim;refine jn (fun hF=>?_) _ _ q;refine ae (ag 1 [0,8,9,10] [(11,.bool (decide (z0<(xl.length:Int))))] ?_);refine aa (aF (aJ hF (fun hc2 hF=>?_) (fun hc2 hF=>?_)))
 ·refine Ok.k (Ok.t (aF (Ok.block (ae (ag 1 [0,8,9,10] [(12,iv z0)] ?_)))));obtain ⟨oo,pg,hF⟩:=hF;have ny:=aT (l:=xl) default pg;generalize hg4:(xl.getD z0.toNat default)=e4 at ny hF ⊢;refine ai (af.aX (e:=.pair (.str) (.str)) rfl rfl underlying45 kr d0 oo ny rfl fun q3 o3 Rz _ E0 hr3=>?_);obtain ⟨_,_,rfl,rfl,rfl⟩:=hr3;replace E0:At g q3 o3 [sv e4.1,sv e4.2]:=E0;refine ai (af.s (v:=.agg #[sv e4.1,sv e4.2]) (bL 0 2 #[sv e4.1,sv e4.2] E0 kr underlying105 rfl kr kr kr) rfl rfl (ai (bI #[sv ([]:Bs),sv ([]:Bs)] fun ll=>?_)));refine ag 1 [0,8,9,10] [(3,iv z0),(4,pv ll 0),(14,.agg #[sv e4.1,sv e4.2])] ?_;refine ai (af.w 0 ?_);refine aa (Ok.block (ae (aj 5 [.e 0,.k (aeU e4.1)] [0,3,4,8,9,10] [(15,.bool (!(Ar e4.1)))] ?_)));refine aa (dW hF rfl (fun hc6=>?_) (fun hc6=>?_))
  ·replace hF:=hF.1 hc6;refine ae (av 1 [(2,iv 3)] kr (aa (Ok.ret (aV (aV (aC (aC (aV (aC ?_)))))))));exact gV (iv 3) ⟨_,rfl,rfl,hF⟩
  replace hF:=hF.2 hc6;refine ae (aj 5 [.e 0] [0,3,4,8,9,10] [(20,.bool (decide ((e4.2.length:Int)>400)))] ?_);refine aa (dW hF rfl (fun iB=>?_) (fun iB=>?_))
  ·replace hF:=hF.1 iB;refine ae (av 1 [(2,iv 2)] kr (aa (Ok.ret (aV (aV (aC (aC (aV (aC ?_)))))))));exact gV (iv 2) ⟨_,rfl,rfl,hF⟩
  replace hF:=hF.2 iB;refine aF (gq kr kr (eZ 2 [0,4,8,9,10] [(26,.slice v0 xl.length q0),(27,iv z0)] ?_));obtain ⟨IK,h18,h28,hF⟩:=hF;refine dS.op rfl (fK.jm (e:=.pair (.str) (.str)) (l:=0) (h:=z0) rfl underlying45 kr (.inr ⟨rfl,rfl⟩) (.inl ⟨_,_,rfl,rfl⟩) d0 IK h18 h28 rfl (xl.take z0.toNat) (by simp) fun a8 c8 hR8=>?_);refine eZ 1 [0,8,9,10] [(28,.slice a8 (xl.take z0.toNat).length c8),(29,pv ll 0)] ?_;refine dS.op rfl (fK.s (v:=sv e4.1) (aS 0 rfl rfl underlying9 rfl kr) rfl rfl ?_);obtain ⟨Il,hF⟩:=hF;refine dS.op rfl (fK.f gU (fun W hW=>aeL (xl.take z0.toNat) e4.1 (hR8.mono hW.sees) Il) rfl ?_);refine eZ 2 [0,8,9,10] [(25,.bool (decide ((Aq (xl.take z0.toNat) e4.1)≥0)))] ?_;refine kQ (Ok.t (dW hF rfl (fun t0=>?_) (fun t0=>?_)))
  ·replace hF:=hF.1 t0;refine ae (av 1 [(2,iv 3)] kr (aa (Ok.ret (aV (aV (aC (aC (aV (aC ?_)))))))));exact gV (iv 3) ⟨_,rfl,rfl,hF⟩
  replace hF:=hF.2 t0;refine Ok.k (bG (bG (Ok.t (aR (ag 2 [0,8,9] [(10,iv (w6 (z0+1)))] ?_)))));refine bV (Ok.t ?_);subst hg4;exact fun _ _ u v=>⟨k15,nl,w6 (z0+1),fA u v hF⟩
 refine fw (ay (ay (aM (Ok.t (ae (av 1 [(2,iv 0)] kr (aa (Ok.ret ?_))))))));exact pO (iv 0) ⟨_,rfl,rfl,hF⟩
def mV (l:List (Bs×Bs)):Prop:=l.length≤12∧∀ a ∈ l,a.2.length≤400
theorem YF (l:List (Bs×Bs)):∃ e,FQ l (fun r=>r=e)∧(e=0→mV l):=by
 have no:∀ {e:Int},e≠0→(e=0→mV l):=fun h h0=>absurd h0 h;refine gY (fun h=>pF (no dc)) (fun h=>?_);have hl:=fq h
 have loop:∀ (k i:Nat),i+k=l.length→(∀ j,j<i→(l.getD j default).2.length≤400)→∃ e,BC l (fun r=>r=e) (k+1) (i:Int)∧(e=0→mV l):=by
  intro k
  induction k with
  | zero =>
   intro i h hj;refine gY (fun h=>od h) (fun _=>pF fun _=>⟨om,fun a ha=>?_⟩);obtain ⟨n,hn,rfl⟩:=List.getElem_of_mem ha;have:=hj n om
   rwa [gT,gH hn,uO] at this
  | succ k ih =>
   intro i h hj;refine gY (fun _=>fG om (fG (by rw [dR]; omega) (gY (fun _=>pF (no dc)) fun _=>gY (fun _=>pF (no dc)) fun hv=>fG om (fG om (fG om (fG (by unfold Le; rw [gG]; omega) (gY (fun _=>pF (no dc)) fun _=>?_))))))) (fun h=>oe h);rw [fU om];refine ih (i+1) om fun j hj2=>?_
   by_cases hji:j<i
   ·exact hj j hji
   have:j=i:=om;subst this;have:=fq hv;rw [dR] at this;omega
 exact vH _ (loop l.length 0 om fun j hj=>absurd hj om)
noncomputable def tK (l:List (Bs×Bs)):Int:=Fq fun e=>FQ l (fun r=>r=e)∧(e=0→mV l)
theorem PX (l:List (Bs×Bs)):FQ l (fun r=>r=tK l)∧(tK l=0→mV l):=yg (A:=fun e=>FQ l (fun r=>r=e)∧(e=0→mV l)) (YF l)
theorem aeT (l:List (Bs×Bs)):FQ l (fun r=>r=tK l):=(PX l).1
theorem aeS {g:ak} {v0:Option Addr} {q0:Nat} (xl:List (Bs×Bs)) (d0:bE g (.slice yA) [.slice v0 xl.length q0] xl)  : bC prog 35 #[.slice v0 xl.length q0] g (iv (tK xl)) :=
 (YE xl d0 _ (aeT xl)).gv
def PO (bW:Int) (K:Bool→Prop):Prop :=
 K ((bW==1)||(bW==2))
theorem Yh {g:ak} (bW:Int) (K:Bool→Prop)
  (hF:PO bW K):az prog 58 #[iv bW] g [] (fun g' H' v=>∃ (r0:Bool),v=.bool r0∧H'=[]∧K r0):=by
 refine aP 9 func58 rfl fun w0=>?_;refine ae (av 1 [(0,iv bW)] kr (aa (ae (ag 3 [0] [(5,.bool (bW==1))] ?_))));let A:=(bW==1)||(bW==2);refine Ok.w 3 [(8,.bool A)] (fun AL=>?_) ?_
 ·refine Ok.a 5 (bW==1) rfl (fun hc2=>?_) (fun hc2=>?_)
  ·skip;refine av 3 [(8,.bool true)] kr (aB 8 A (cK hc2) (av 0 [(8,.bool A)] kr ?_));exact AL
  skip;refine av 3 [(8,.bool (bW==2))] kr (aB 8 A (bN hc2) (av 0 [(8,.bool A)] kr ?_));exact AL
 refine av 1 [(2,.bool A)] kr (aa (Ok.ret ?_));exact dE A hF
def eY (bW:Int):Bool:=((bW==1)||(bW==2))
theorem Yi (bW:Int) (P:Bool→Prop) (h:P (eY bW)):PO bW (fun k0=>P k0):=by
 unfold eY at h;unfold PO;exact h
theorem aeC (bW:Int):PO bW (fun k0=>k0=eY bW) :=
 Yi bW (fun z=>z=eY bW) rfl
theorem n_ {g:ak} (bW:Int)  : bC prog 58 #[iv bW] g (.bool (eY bW)) :=
 (Yh bW _ (aeC bW)).gv
def fE (xx:Nd):Bool :=
 (if (xx.1==2)=true then (if (xx.1==2)=true then (if ((xx.1==3)||(xx.1==4))=true then (eY xx.1||((xx.2.2.2.2.2.length:Int)==0)) else ((xx.2.2.2.1==([]:Bs))&&(eY xx.1||((xx.2.2.2.2.2.length:Int)==0)))) else (((xx.2.2.1.length:Int)==0)&&(if ((xx.1==3)||(xx.1==4))=true then (eY xx.1||((xx.2.2.2.2.2.length:Int)==0)) else ((xx.2.2.2.1==([]:Bs))&&(eY xx.1||((xx.2.2.2.2.2.length:Int)==0)))))) else (if (xx.1==5)=true then (if (xx.1==2)=true then (if ((xx.1==3)||(xx.1==4))=true then (eY xx.1||((xx.2.2.2.2.2.length:Int)==0)) else ((xx.2.2.2.1==([]:Bs))&&(eY xx.1||((xx.2.2.2.2.2.length:Int)==0)))) else (((xx.2.2.1.length:Int)==0)&&(if ((xx.1==3)||(xx.1==4))=true then (eY xx.1||((xx.2.2.2.2.2.length:Int)==0)) else ((xx.2.2.2.1==([]:Bs))&&(eY xx.1||((xx.2.2.2.2.2.length:Int)==0)))))) else ((xx.2.1==([]:Bs))&&(if (xx.1==2)=true then (if ((xx.1==3)||(xx.1==4))=true then (eY xx.1||((xx.2.2.2.2.2.length:Int)==0)) else ((xx.2.2.2.1==([]:Bs))&&(eY xx.1||((xx.2.2.2.2.2.length:Int)==0)))) else (((xx.2.2.1.length:Int)==0)&&(if ((xx.1==3)||(xx.1==4))=true then (eY xx.1||((xx.2.2.2.2.2.length:Int)==0)) else ((xx.2.2.2.1==([]:Bs))&&(eY xx.1||((xx.2.2.2.2.2.length:Int)==0)))))))))
def fI (xx:Nd) (K:Bool→Prop):Prop :=
 K (fE xx)
def D9 (xx:Nd) (K:Bool→Prop):Prop :=
 ((xx.1==2)=true→((xx.1==2)=true→(((xx.1==3)||(xx.1==4))=true→(eY xx.1=true→fI xx K)∧(eY xx.1=false→fI xx K))∧(((xx.1==3)||(xx.1==4))=false→((xx.2.2.2.1==([]:Bs))=true→(eY xx.1=true→fI xx K)∧(eY xx.1=false→fI xx K))∧((xx.2.2.2.1==([]:Bs))=false→fI xx K)))∧((xx.1==2)=false→(((xx.2.2.1.length:Int)==0)=true→(((xx.1==3)||(xx.1==4))=true→(eY xx.1=true→fI xx K)∧(eY xx.1=false→fI xx K))∧(((xx.1==3)||(xx.1==4))=false→((xx.2.2.2.1==([]:Bs))=true→(eY xx.1=true→fI xx K)∧(eY xx.1=false→fI xx K))∧((xx.2.2.2.1==([]:Bs))=false→fI xx K)))∧(((xx.2.2.1.length:Int)==0)=false→fI xx K)))∧((xx.1==2)=false→((xx.1==5)=true→((xx.1==2)=true→(((xx.1==3)||(xx.1==4))=true→(eY xx.1=true→fI xx K)∧(eY xx.1=false→fI xx K))∧(((xx.1==3)||(xx.1==4))=false→((xx.2.2.2.1==([]:Bs))=true→(eY xx.1=true→fI xx K)∧(eY xx.1=false→fI xx K))∧((xx.2.2.2.1==([]:Bs))=false→fI xx K)))∧((xx.1==2)=false→(((xx.2.2.1.length:Int)==0)=true→(((xx.1==3)||(xx.1==4))=true→(eY xx.1=true→fI xx K)∧(eY xx.1=false→fI xx K))∧(((xx.1==3)||(xx.1==4))=false→((xx.2.2.2.1==([]:Bs))=true→(eY xx.1=true→fI xx K)∧(eY xx.1=false→fI xx K))∧((xx.2.2.2.1==([]:Bs))=false→fI xx K)))∧(((xx.2.2.1.length:Int)==0)=false→fI xx K)))∧((xx.1==5)=false→((xx.2.1==([]:Bs))=true→((xx.1==2)=true→(((xx.1==3)||(xx.1==4))=true→(eY xx.1=true→fI xx K)∧(eY xx.1=false→fI xx K))∧(((xx.1==3)||(xx.1==4))=false→((xx.2.2.2.1==([]:Bs))=true→(eY xx.1=true→fI xx K)∧(eY xx.1=false→fI xx K))∧((xx.2.2.2.1==([]:Bs))=false→fI xx K)))∧((xx.1==2)=false→(((xx.2.2.1.length:Int)==0)=true→(((xx.1==3)||(xx.1==4))=true→(eY xx.1=true→fI xx K)∧(eY xx.1=false→fI xx K))∧(((xx.1==3)||(xx.1==4))=false→((xx.2.2.2.1==([]:Bs))=true→(eY xx.1=true→fI xx K)∧(eY xx.1=false→fI xx K))∧((xx.2.2.2.1==([]:Bs))=false→fI xx K)))∧(((xx.2.2.1.length:Int)==0)=false→fI xx K)))∧((xx.2.1==([]:Bs))=false→fI xx K)))
def PW (xx:Nd) (K:Bool→Prop):Prop :=
 ((xx.1==3)=true→D9 xx K)∧((xx.1==3)=false→D9 xx K)
theorem YC {g:ak} {u0:Option Addr} {j0:Nat} {x0:Option Addr} {s0:Nat} (xx:Nd) (e0:bE g (.slice yA) [.slice u0 xx.2.2.1.length j0] xx.2.2.1) (f0:bE g (.slice (.int .i64)) [.slice x0 xx.2.2.2.2.2.length s0] xx.2.2.2.2.2) (K:Bool→Prop)
  (hF:PW xx K):az prog 33 #[.agg (aN xx u0 j0 x0 s0)] g [] (fun g' H' v=>∃ (r0:Bool),v=.bool r0∧H'=[]∧K r0):=by
 refine aP 55 func33 rfl fun w0=>?_;refine ae (ai (cO fun iC=>?_));let A:=(xx.1==3)||(xx.1==4);refine av 1 [(1,pv iC 0)] kr (aa (gB [(1,pv iC 0),(3,.bool (xx.1==2)),(4,.bool A)] [.blk iC (.cells (aN xx u0 j0 x0 s0) 48)] (D9 xx K) ?_ (fun hF=>?_)))
 ·
  refine gq kr kr (eZ 1 [1] [(5,pv iC 0)] ?_);refine dS.op rfl (fK.s (v:=iv xx.1) (aS 0 rfl rfl underlying3 rfl kr) rfl rfl (eZ 2 [1] [(7,.bool (xx.1==2)),(8,pv iC 0)] ?_));refine dS.op rfl (fK.s (v:=iv xx.1) (aS 0 rfl rfl underlying3 rfl kr) rfl rfl (eZ 2 [1,7] [(11,.bool (xx.1==3))] ?_));refine sP 11 (xx.1==3) rfl (fun U0=>?_) (fun U0=>?_)
  ·replace hF:=hF.1 U0;refine eZ 6 [1] [(3,.bool (xx.1==2)),(4,.bool true)] ?_;refine kQ (Ok.t (aB 4 A (cK U0) ?_));exact fz hF
  replace hF:=hF.2 U0;refine eZ 1 [1,7] [(11,.bool false),(12,pv iC 0)] ?_;refine lS (j:=6) (d:=11) (want:=false) (b:=false) rfl kr kr rfl (fK.s (v:=iv xx.1) (aS 0 rfl rfl underlying3 rfl kr) rfl rfl (eZ 4 [1] [(3,.bool (xx.1==2)),(4,.bool (xx.1==4))] ?_));refine kQ (Ok.t (aB 4 A (bN U0) ?_));exact fz hF
 refine gB [(2,.bool (fE xx))] [] (fI xx K) ?_ (fun hF=>?_)
 ·
  refine aR (ag 2 [1,3,4] [(17,.bool (xx.1==2))] ?_);refine bP 17 hF (fun hc2 hF=>?_) (fun hc2 hF=>?_)
  ·refine ag 12 [1,4] [(27,.bool true),(29,.bool (xx.1==2))] ?_;refine bP 29 hF (fun hc3 hF=>?_) (fun hc3 hF=>?_)
   ·refine ag 9 [1] [(36,.bool true),(38,.bool A)] ?_;refine bP 38 hF (fun hc4 hF=>?_) (fun hc4 hF=>?_)
    ·refine aj 10 [.e 0,.k (n_ xx.1)] [1] [(44,.bool true),(48,.bool (eY xx.1))] ?_;refine bP 48 hF (fun jy hF=>?_) (fun jy hF=>?_)
     ·refine av 7 [(2,.bool true)] kr (aa (aB 2 (fE xx) (au (au (au (cK jy) ((aU hc4).symm)) ((aU hc3).symm)) ((aU hc2).symm)) ?_));exact fz hF
     refine aj 7 [.e 0] [] [(2,.bool ((xx.2.2.2.2.2.length:Int)==0))] ?_;refine aa (aB 2 (fE xx) (au (au (au (bN jy) ((aU hc4).symm)) ((aU hc3).symm)) ((aU hc2).symm)) ?_);exact fz hF
    refine aj 6 [.e 0] [1] [(44,.bool (xx.2.2.2.1==([]:Bs)))] ?_;refine bP 44 hF (fun hc6 hF=>?_) (fun hc6 hF=>?_)
    ·refine aj 4 [.e 0,.k (n_ xx.1)] [1] [(44,.bool true),(48,.bool (eY xx.1))] ?_;refine bP 48 hF (fun iB hF=>?_) (fun iB hF=>?_)
     ·refine av 7 [(2,.bool true)] kr (aa (aB 2 (fE xx) (au (au (au (au (cK iB) (bn hc6)) ((aG hc4).symm)) ((aU hc3).symm)) ((aU hc2).symm)) ?_));exact fz hF
     refine aj 7 [.e 0] [] [(2,.bool ((xx.2.2.2.2.2.length:Int)==0))] ?_;refine aa (aB 2 (fE xx) (au (au (au (au (bN iB) (bn hc6)) ((aG hc4).symm)) ((aU hc3).symm)) ((aU hc2).symm)) ?_);exact fz hF
    refine av 11 [(2,.bool false)] kr (aa (aB 2 (fE xx) (au (au (au (bZ hc6) ((aG hc4).symm)) ((aU hc3).symm)) ((aU hc2).symm)) ?_));exact fz hF
   refine aj 7 [.e 0] [1,4] [(36,.bool ((xx.2.2.1.length:Int)==0))] ?_;refine bP 36 hF (fun hc8 hF=>?_) (fun hc8 hF=>?_)
   ·refine ag 2 [1] [(36,.bool true),(38,.bool A)] ?_;refine bP 38 hF (fun mq hF=>?_) (fun mq hF=>?_)
    ·refine aj 10 [.e 0,.k (n_ xx.1)] [1] [(44,.bool true),(48,.bool (eY xx.1))] ?_;refine bP 48 hF (fun t0 hF=>?_) (fun t0 hF=>?_)
     ·refine av 7 [(2,.bool true)] kr (aa (aB 2 (fE xx) (au (au (au (au (cK t0) ((aU mq).symm)) (bn hc8)) ((aG hc3).symm)) ((aU hc2).symm)) ?_));exact fz hF
     refine aj 7 [.e 0] [] [(2,.bool ((xx.2.2.2.2.2.length:Int)==0))] ?_;refine aa (aB 2 (fE xx) (au (au (au (au (bN t0) ((aU mq).symm)) (bn hc8)) ((aG hc3).symm)) ((aU hc2).symm)) ?_);exact fz hF
    refine aj 6 [.e 0] [1] [(44,.bool (xx.2.2.2.1==([]:Bs)))] ?_;refine bP 44 hF (fun J0 hF=>?_) (fun J0 hF=>?_)
    ·refine aj 4 [.e 0,.k (n_ xx.1)] [1] [(44,.bool true),(48,.bool (eY xx.1))] ?_;refine bP 48 hF (fun F0 hF=>?_) (fun F0 hF=>?_)
     ·refine av 7 [(2,.bool true)] kr (aa (aB 2 (fE xx) (au (au (au (au (au (cK F0) (bn J0)) ((aG mq).symm)) (bn hc8)) ((aG hc3).symm)) ((aU hc2).symm)) ?_));exact fz hF
     refine aj 7 [.e 0] [] [(2,.bool ((xx.2.2.2.2.2.length:Int)==0))] ?_;refine aa (aB 2 (fE xx) (au (au (au (au (au (bN F0) (bn J0)) ((aG mq).symm)) (bn hc8)) ((aG hc3).symm)) ((aU hc2).symm)) ?_);exact fz hF
    refine av 11 [(2,.bool false)] kr (aa (aB 2 (fE xx) (au (au (au (au (bZ J0) ((aG mq).symm)) (bn hc8)) ((aG hc3).symm)) ((aU hc2).symm)) ?_));exact fz hF
   refine av 19 [(2,.bool false)] kr (aa (aB 2 (fE xx) (au (au (bZ hc8) ((aG hc3).symm)) ((aU hc2).symm)) ?_));exact fz hF
  refine aj 5 [.e 0] [1,3,4] [(22,.bool (xx.1==5))] ?_;refine bP 22 hF (fun c0 hF=>?_) (fun c0 hF=>?_)
  ·refine ag 7 [1,4] [(27,.bool true),(29,.bool (xx.1==2))] ?_;refine bP 29 hF (fun m0 hF=>?_) (fun m0 hF=>?_)
   ·refine ag 9 [1] [(36,.bool true),(38,.bool A)] ?_;refine bP 38 hF (fun Z0 hF=>?_) (fun Z0 hF=>?_)
    ·refine aj 10 [.e 0,.k (n_ xx.1)] [1] [(44,.bool true),(48,.bool (eY xx.1))] ?_;refine bP 48 hF (fun G0 hF=>?_) (fun G0 hF=>?_)
     ·refine av 7 [(2,.bool true)] kr (aa (aB 2 (fE xx) (au (au (au (au (cK G0) ((aU Z0).symm)) ((aU m0).symm)) ((aU c0).symm)) ((aG hc2).symm)) ?_));exact fz hF
     refine aj 7 [.e 0] [] [(2,.bool ((xx.2.2.2.2.2.length:Int)==0))] ?_;refine aa (aB 2 (fE xx) (au (au (au (au (bN G0) ((aU Z0).symm)) ((aU m0).symm)) ((aU c0).symm)) ((aG hc2).symm)) ?_);exact fz hF
    refine aj 6 [.e 0] [1] [(44,.bool (xx.2.2.2.1==([]:Bs)))] ?_;refine bP 44 hF (fun W0 hF=>?_) (fun W0 hF=>?_)
    ·refine aj 4 [.e 0,.k (n_ xx.1)] [1] [(44,.bool true),(48,.bool (eY xx.1))] ?_;refine bP 48 hF (fun H0 hF=>?_) (fun H0 hF=>?_)
     ·refine av 7 [(2,.bool true)] kr (aa (aB 2 (fE xx) (au (au (au (au (au (cK H0) (bn W0)) ((aG Z0).symm)) ((aU m0).symm)) ((aU c0).symm)) ((aG hc2).symm)) ?_));exact fz hF
     refine aj 7 [.e 0] [] [(2,.bool ((xx.2.2.2.2.2.length:Int)==0))] ?_;refine aa (aB 2 (fE xx) (au (au (au (au (au (bN H0) (bn W0)) ((aG Z0).symm)) ((aU m0).symm)) ((aU c0).symm)) ((aG hc2).symm)) ?_);exact fz hF
    refine av 11 [(2,.bool false)] kr (aa (aB 2 (fE xx) (au (au (au (au (bZ W0) ((aG Z0).symm)) ((aU m0).symm)) ((aU c0).symm)) ((aG hc2).symm)) ?_));exact fz hF
   refine aj 7 [.e 0] [1,4] [(36,.bool ((xx.2.2.1.length:Int)==0))] ?_;refine bP 36 hF (fun a0 hF=>?_) (fun a0 hF=>?_)
   ·refine ag 2 [1] [(36,.bool true),(38,.bool A)] ?_;refine bP 38 hF (fun V0 hF=>?_) (fun V0 hF=>?_)
    ·refine aj 10 [.e 0,.k (n_ xx.1)] [1] [(44,.bool true),(48,.bool (eY xx.1))] ?_;refine bP 48 hF (fun M0 hF=>?_) (fun M0 hF=>?_)
     ·refine av 7 [(2,.bool true)] kr (aa (aB 2 (fE xx) (au (au (au (au (au (cK M0) ((aU V0).symm)) (bn a0)) ((aG m0).symm)) ((aU c0).symm)) ((aG hc2).symm)) ?_));exact fz hF
     refine aj 7 [.e 0] [] [(2,.bool ((xx.2.2.2.2.2.length:Int)==0))] ?_;refine aa (aB 2 (fE xx) (au (au (au (au (au (bN M0) ((aU V0).symm)) (bn a0)) ((aG m0).symm)) ((aU c0).symm)) ((aG hc2).symm)) ?_);exact fz hF
    refine aj 6 [.e 0] [1] [(44,.bool (xx.2.2.2.1==([]:Bs)))] ?_;refine bP 44 hF (fun X0 hF=>?_) (fun X0 hF=>?_)
    ·refine aj 4 [.e 0,.k (n_ xx.1)] [1] [(44,.bool true),(48,.bool (eY xx.1))] ?_;refine bP 48 hF (fun N0 hF=>?_) (fun N0 hF=>?_)
     ·refine av 7 [(2,.bool true)] kr (aa (aB 2 (fE xx) (au (au (au (au (au (au (cK N0) (bn X0)) ((aG V0).symm)) (bn a0)) ((aG m0).symm)) ((aU c0).symm)) ((aG hc2).symm)) ?_));exact fz hF
     refine aj 7 [.e 0] [] [(2,.bool ((xx.2.2.2.2.2.length:Int)==0))] ?_;refine aa (aB 2 (fE xx) (au (au (au (au (au (au (bN N0) (bn X0)) ((aG V0).symm)) (bn a0)) ((aG m0).symm)) ((aU c0).symm)) ((aG hc2).symm)) ?_);exact fz hF
    refine av 11 [(2,.bool false)] kr (aa (aB 2 (fE xx) (au (au (au (au (au (bZ X0) ((aG V0).symm)) (bn a0)) ((aG m0).symm)) ((aU c0).symm)) ((aG hc2).symm)) ?_));exact fz hF
   refine av 19 [(2,.bool false)] kr (aa (aB 2 (fE xx) (au (au (au (bZ a0) ((aG m0).symm)) ((aU c0).symm)) ((aG hc2).symm)) ?_));exact fz hF
  refine aj 5 [.e 0] [1,3,4] [(27,.bool (xx.2.1==([]:Bs)))] ?_;refine bP 27 hF (fun g0 hF=>?_) (fun g0 hF=>?_)
  ·refine ag 2 [1,4] [(27,.bool true),(29,.bool (xx.1==2))] ?_;refine bP 29 hF (fun n0 hF=>?_) (fun n0 hF=>?_)
   ·refine ag 9 [1] [(36,.bool true),(38,.bool A)] ?_;refine bP 38 hF (fun Q0 hF=>?_) (fun Q0 hF=>?_)
    ·refine aj 10 [.e 0,.k (n_ xx.1)] [1] [(44,.bool true),(48,.bool (eY xx.1))] ?_;refine bP 48 hF (fun O0 hF=>?_) (fun O0 hF=>?_)
     ·refine av 7 [(2,.bool true)] kr (aa (aB 2 (fE xx) (au (au (au (au (au (cK O0) ((aU Q0).symm)) ((aU n0).symm)) (bn g0)) ((aG c0).symm)) ((aG hc2).symm)) ?_));exact fz hF
     refine aj 7 [.e 0] [] [(2,.bool ((xx.2.2.2.2.2.length:Int)==0))] ?_;refine aa (aB 2 (fE xx) (au (au (au (au (au (bN O0) ((aU Q0).symm)) ((aU n0).symm)) (bn g0)) ((aG c0).symm)) ((aG hc2).symm)) ?_);exact fz hF
    refine aj 6 [.e 0] [1] [(44,.bool (xx.2.2.2.1==([]:Bs)))] ?_;refine bP 44 hF (fun S0 hF=>?_) (fun S0 hF=>?_)
    ·refine aj 4 [.e 0,.k (n_ xx.1)] [1] [(44,.bool true),(48,.bool (eY xx.1))] ?_;refine bP 48 hF (fun P0 hF=>?_) (fun P0 hF=>?_)
     ·refine av 7 [(2,.bool true)] kr (aa (aB 2 (fE xx) (au (au (au (au (au (au (cK P0) (bn S0)) ((aG Q0).symm)) ((aU n0).symm)) (bn g0)) ((aG c0).symm)) ((aG hc2).symm)) ?_));exact fz hF
     refine aj 7 [.e 0] [] [(2,.bool ((xx.2.2.2.2.2.length:Int)==0))] ?_;refine aa (aB 2 (fE xx) (au (au (au (au (au (au (bN P0) (bn S0)) ((aG Q0).symm)) ((aU n0).symm)) (bn g0)) ((aG c0).symm)) ((aG hc2).symm)) ?_);exact fz hF
    refine av 11 [(2,.bool false)] kr (aa (aB 2 (fE xx) (au (au (au (au (au (bZ S0) ((aG Q0).symm)) ((aU n0).symm)) (bn g0)) ((aG c0).symm)) ((aG hc2).symm)) ?_));exact fz hF
   refine aj 7 [.e 0] [1,4] [(36,.bool ((xx.2.2.1.length:Int)==0))] ?_;refine bP 36 hF (fun i0 hF=>?_) (fun i0 hF=>?_)
   ·refine ag 2 [1] [(36,.bool true),(38,.bool A)] ?_;refine bP 38 hF (fun K0 hF=>?_) (fun K0 hF=>?_)
    ·refine aj 10 [.e 0,.k (n_ xx.1)] [1] [(44,.bool true),(48,.bool (eY xx.1))] ?_;refine bP 48 hF (fun R0 hF=>?_) (fun R0 hF=>?_)
     ·refine av 7 [(2,.bool true)] kr (aa (aB 2 (fE xx) (au (au (au (au (au (au (cK R0) ((aU K0).symm)) (bn i0)) ((aG n0).symm)) (bn g0)) ((aG c0).symm)) ((aG hc2).symm)) ?_));exact fz hF
     refine aj 7 [.e 0] [] [(2,.bool ((xx.2.2.2.2.2.length:Int)==0))] ?_;refine aa (aB 2 (fE xx) (au (au (au (au (au (au (bN R0) ((aU K0).symm)) (bn i0)) ((aG n0).symm)) (bn g0)) ((aG c0).symm)) ((aG hc2).symm)) ?_);exact fz hF
    refine aj 6 [.e 0] [1] [(44,.bool (xx.2.2.2.1==([]:Bs)))] ?_;refine bP 44 hF (fun B0 hF=>?_) (fun B0 hF=>?_)
    ·refine aj 4 [.e 0,.k (n_ xx.1)] [1] [(44,.bool true),(48,.bool (eY xx.1))] ?_;refine bP 48 hF (fun T0 hF=>?_) (fun T0 hF=>?_)
     ·refine av 7 [(2,.bool true)] kr (aa (aB 2 (fE xx) (au (au (au (au (au (au (au (cK T0) (bn B0)) ((aG K0).symm)) (bn i0)) ((aG n0).symm)) (bn g0)) ((aG c0).symm)) ((aG hc2).symm)) ?_));exact fz hF
     refine aj 7 [.e 0] [] [(2,.bool ((xx.2.2.2.2.2.length:Int)==0))] ?_;refine aa (aB 2 (fE xx) (au (au (au (au (au (au (au (bN T0) (bn B0)) ((aG K0).symm)) (bn i0)) ((aG n0).symm)) (bn g0)) ((aG c0).symm)) ((aG hc2).symm)) ?_);exact fz hF
    refine av 11 [(2,.bool false)] kr (aa (aB 2 (fE xx) (au (au (au (au (au (au (bZ B0) ((aG K0).symm)) (bn i0)) ((aG n0).symm)) (bn g0)) ((aG c0).symm)) ((aG hc2).symm)) ?_));exact fz hF
   refine av 19 [(2,.bool false)] kr (aa (aB 2 (fE xx) (au (au (au (au (bZ i0) ((aG n0).symm)) (bn g0)) ((aG c0).symm)) ((aG hc2).symm)) ?_));exact fz hF
  refine av 28 [(2,.bool false)] kr (aa (aB 2 (fE xx) (au (au (bZ g0) ((aG c0).symm)) ((aG hc2).symm)) ?_));exact fz hF
 refine Ok.ret ?_;exact dE (fE xx) hF
def I6 (xx:Nd):Bool:=(fE xx)
theorem dL (xx:Nd) (P:Bool→Prop) (h:P (I6 xx)):fI xx (fun k0=>P k0):=by
 unfold I6 at h;unfold fI;exact h
def I7 (xx:Nd):Bool:=(I6 xx)
theorem Lf (xx:Nd) (P:Bool→Prop) (h:P (I7 xx)):D9 xx (fun k0=>P k0):=by
 unfold I7 at h;unfold D9;refine ⟨fun hc0=>?_,fun hc0=>?_⟩
 ·skip;refine ⟨fun hc1=>?_,fun hc1=>?_⟩
  ·skip;refine ⟨fun hc2=>?_,fun hc2=>?_⟩
   ·skip;refine ⟨fun hc3=>?_,fun hc3=>?_⟩
    ·skip;exact dL xx _ h
    skip;exact dL xx _ h
   skip;refine ⟨fun hc3=>?_,fun hc3=>?_⟩
   ·skip;refine ⟨fun hc4=>?_,fun hc4=>?_⟩
    ·skip;exact dL xx _ h
    skip;exact dL xx _ h
   skip;exact dL xx _ h
  skip;refine ⟨fun hc2=>?_,fun hc2=>?_⟩
  ·skip;refine ⟨fun hc3=>?_,fun hc3=>?_⟩
   ·skip;refine ⟨fun hc4=>?_,fun hc4=>?_⟩
    ·skip;exact dL xx _ h
    skip;exact dL xx _ h
   skip;refine ⟨fun hc4=>?_,fun hc4=>?_⟩
   ·skip;refine ⟨fun jy=>?_,fun jy=>?_⟩
    ·skip;exact dL xx _ h
    skip;exact dL xx _ h
   skip;exact dL xx _ h
  skip;exact dL xx _ h
 skip;refine ⟨fun hc1=>?_,fun hc1=>?_⟩
 ·skip;refine ⟨fun hc2=>?_,fun hc2=>?_⟩
  ·skip;refine ⟨fun hc3=>?_,fun hc3=>?_⟩
   ·skip;refine ⟨fun hc4=>?_,fun hc4=>?_⟩
    ·skip;exact dL xx _ h
    skip;exact dL xx _ h
   skip;refine ⟨fun hc4=>?_,fun hc4=>?_⟩
   ·skip;refine ⟨fun jy=>?_,fun jy=>?_⟩
    ·skip;exact dL xx _ h
    skip;exact dL xx _ h
   skip;exact dL xx _ h
  skip;refine ⟨fun hc3=>?_,fun hc3=>?_⟩
  ·skip;refine ⟨fun hc4=>?_,fun hc4=>?_⟩
   ·skip;refine ⟨fun jy=>?_,fun jy=>?_⟩
    ·skip;exact dL xx _ h
    skip;exact dL xx _ h
   skip;refine ⟨fun jy=>?_,fun jy=>?_⟩
   ·skip;refine ⟨fun hc6=>?_,fun hc6=>?_⟩
    ·skip;exact dL xx _ h
    skip;exact dL xx _ h
   skip;exact dL xx _ h
  skip;exact dL xx _ h
 skip;refine ⟨fun hc2=>?_,fun hc2=>?_⟩
 ·skip;refine ⟨fun hc3=>?_,fun hc3=>?_⟩
  ·skip;refine ⟨fun hc4=>?_,fun hc4=>?_⟩
   ·skip;refine ⟨fun jy=>?_,fun jy=>?_⟩
    ·skip;exact dL xx _ h
    skip;exact dL xx _ h
   skip;refine ⟨fun jy=>?_,fun jy=>?_⟩
   ·skip;refine ⟨fun hc6=>?_,fun hc6=>?_⟩
    ·skip;exact dL xx _ h
    skip;exact dL xx _ h
   skip;exact dL xx _ h
  skip;refine ⟨fun hc4=>?_,fun hc4=>?_⟩
  ·skip;refine ⟨fun jy=>?_,fun jy=>?_⟩
   ·skip;refine ⟨fun hc6=>?_,fun hc6=>?_⟩
    ·skip;exact dL xx _ h
    skip;exact dL xx _ h
   skip;refine ⟨fun hc6=>?_,fun hc6=>?_⟩
   ·skip;refine ⟨fun iB=>?_,fun iB=>?_⟩
    ·skip;exact dL xx _ h
    skip;exact dL xx _ h
   skip;exact dL xx _ h
  skip;exact dL xx _ h
 skip;exact dL xx _ h
def tJ (xx:Nd):Bool:=(I7 xx)
theorem YD (xx:Nd) (P:Bool→Prop) (h:P (tJ xx)):PW xx (fun k0=>P k0):=by
 unfold tJ at h;unfold PW;refine ⟨fun hc0=>?_,fun hc0=>?_⟩
 ·skip;exact Lf xx _ h
 skip;exact Lf xx _ h
theorem aeR (xx:Nd):PW xx (fun k0=>k0=tJ xx) :=
 YD xx (fun z=>z=tJ xx) rfl
theorem aeQ {g:ak} {u0:Option Addr} {j0:Nat} {x0:Option Addr} {s0:Nat} (xx:Nd) (e0:bE g (.slice yA) [.slice u0 xx.2.2.1.length j0] xx.2.2.1) (f0:bE g (.slice (.int .i64)) [.slice x0 xx.2.2.2.2.2.length s0] xx.2.2.2.2.2)  : bC prog 33 #[.agg (aN xx u0 j0 x0 s0)] g (.bool (tJ xx)) :=
 (YC xx e0 f0 _ (aeR xx)).gv
def Bt (xx:Nd) (K:Int→Prop):Prop :=
 (((decide ((xx.2.2.2.1.length:Int)>400))||(decide ((xx.2.1.length:Int)>400)))=true→K 2)∧(((decide ((xx.2.2.2.1.length:Int)>400))||(decide ((xx.2.1.length:Int)>400)))=false→K 0)
def Bu (xx:Nd) (K:Int→Prop):Prop :=
 (((xx.1==2)&&(!(uH xx.2.1)))=true→K 3)∧(((xx.1==2)&&(!(uH xx.2.1)))=false→(((tK xx.2.2.1) != 0)=true→K (tK xx.2.2.1))∧(((tK xx.2.2.1) != 0)=false→((decide ((xx.2.2.2.1.length:Int)>400))=true→Bt xx K)∧((decide ((xx.2.2.2.1.length:Int)>400))=false→Bt xx K)))
def D6 (xx:Nd) (K:Int→Prop):Prop :=
 ((decide (xx.1<1)||(decide (xx.1>5)||(!(tJ xx))))=true→K 7)∧((decide (xx.1<1)||(decide (xx.1>5)||(!(tJ xx))))=false→((xx.1==2)=true→Bu xx K)∧((xx.1==2)=false→Bu xx K))
def FM (xx:Nd) (K:Int→Prop):Prop :=
 (decide (xx.1<1)=true→D6 xx K)∧(decide (xx.1<1)=false→(decide (xx.1>5)=true→D6 xx K)∧(decide (xx.1>5)=false→D6 xx K))
theorem Yj {g:ak} {u0:Option Addr} {j0:Nat} {x0:Option Addr} {s0:Nat} (xx:Nd) (e0:bE g (.slice yA) [.slice u0 xx.2.2.1.length j0] xx.2.2.1) (f0:bE g (.slice (.int .i64)) [.slice x0 xx.2.2.2.2.2.length s0] xx.2.2.2.2.2) (K:Int→Prop)
  (hF:FM xx K):az prog 17 #[.agg (aN xx u0 j0 x0 s0)] g [] (fun g' H' v=>∃ (r0:Int),v=iv r0∧H'=[]∧K r0):=by
 refine aP 44 func17 rfl fun w0=>?_;refine ae (ai (cO fun iC=>?_));let B:=decide (xx.1<1)||(decide (xx.1>5)||(!(tJ xx)));let F:=(.cells (aN xx u0 j0 x0 s0) 48:Obj);refine av 1 [(1,pv iC 0)] kr (aa (aF (Ok.block (gB [(1,pv iC 0),(4,.bool B)] [.blk iC F] (D6 xx K) ?_ (fun hF=>?_)))))
 ·
  refine aR (aj 4 [.e 0] [1] [(8,.bool (decide (xx.1<1)))] ?_);refine bP 8 hF (fun hc8 hF=>?_) (fun hc8 hF=>?_)
  ·refine ag 10 [1] [(4,.bool true)] ?_;refine aa (aB 4 B (cK hc8) ?_);exact fz hF
  refine aj 5 [.e 0] [1] [(13,.bool (decide (xx.1>5)))] ?_;refine bP 13 hF (fun mq hF=>?_) (fun mq hF=>?_)
  ·refine ag 5 [1] [(4,.bool true)] ?_;refine aa (aB 4 B (au (cK mq) (bN hc8)) ?_);exact fz hF
  refine aj 5 [.e 0,.k (aeQ xx e0 f0)] [1] [(4,.bool (!(tJ xx)))] ?_;refine aa (aB 4 B (au (bN mq) (bN hc8)) ?_);exact fz hF
 refine aJ hF (fun hc2 hF=>?_) (fun hc2 hF=>?_)
 ·refine ae (av 1 [(2,iv 7)] kr (aa (Ok.ret (aV (aC ?_)))));exact gV (iv 7) ⟨_,rfl,rfl,hF⟩
 let C:=(xx.1==2)&&(!(uH xx.2.1));refine gB [(1,pv iC 0),(18,.bool C)] [.blk iC F] (Bu xx K) ?_ (fun hF=>?_)
 ·
  refine aR (aj 4 [.e 0] [1] [(22,.bool (xx.1==2))] ?_);refine bP 22 hF (fun iB hF=>?_) (fun iB hF=>?_)
  ·refine aj 6 [.e 0,.k (aeW xx.2.1)] [1] [(18,.bool (!(uH xx.2.1)))] ?_;refine aa (aB 18 C (bn iB) ?_);exact fz hF
  refine ag 6 [1] [(18,.bool false)] ?_;refine aa (aB 18 C (bZ iB) ?_);exact fz hF
 refine aJ hF (fun hc3 hF=>?_) (fun hc3 hF=>?_)
 ·refine ae (av 1 [(2,iv 3)] kr (aa (Ok.ret (aV (aC ?_)))));exact gV (iv 3) ⟨_,rfl,rfl,hF⟩
 refine Ok.k (bG (Ok.t (aF (ae (aj 4 [.e 0,.k (aeS xx.2.2.1 e0)] [1] [(3,iv (tK xx.2.2.1))] ?_)))));refine aa (ae (ag 2 [1,3] [(32,.bool ((tK xx.2.2.1) != 0))] ?_));refine aa (aJ hF (fun hc4 hF=>?_) (fun hc4 hF=>?_))
 ·refine ae (av 2 [(2,iv (tK xx.2.2.1))] kr (aa (Ok.ret (aC ?_))));exact gV (iv (tK xx.2.2.1)) ⟨_,rfl,rfl,hF⟩
 let D:=decide ((xx.2.2.2.1.length:Int)>400);let E:=decide ((xx.2.1.length:Int)>400);let A:=D||E;refine Ok.k (Ok.t (aF (gB [(43,.bool A)] [] (Bt xx K) ?_ (fun hF=>?_))))
 ·
  refine aR (aj 5 [.e 0] [1] [(38,.bool D)] ?_);refine bP 38 hF (fun hc6 hF=>?_) (fun hc6 hF=>?_)
  ·refine av 5 [(43,.bool true)] kr (aa (aB 43 A (cK hc6) ?_));exact fz hF
  refine aj 5 [.e 0] [] [(43,.bool E)] ?_;refine aa (aB 43 A (bN hc6) ?_);exact fz hF
 refine aJ hF (fun jy hF=>?_) (fun jy hF=>?_)
 ·refine ae (av 1 [(2,iv 2)] kr (aa (Ok.ret (aC ?_))));exact pO (iv 2) ⟨_,rfl,rfl,hF⟩
 refine Ok.k (Ok.t (ae (av 1 [(2,iv 0)] kr (aa (Ok.ret ?_)))));exact pO (iv 0) ⟨_,rfl,rfl,hF⟩
theorem Yk (x:Nd):∃ e,FM x (fun r=>r=e)∧(e=0→mV x.2.2.1):=by
 have no:∀ {e:Int},e≠0→(e=0→mV x.2.2.1):=fun h h0=>absurd h0 h;have j29:tK x.2.2.1=0→∃ e,Bt x (fun r=>r=e)∧(e=0→mV x.2.2.1):=fun h0=>gY (fun _=>pF (no dc)) fun _=>pF fun _=>(PX x.2.2.1).2 h0;have j11:∃ e,Bu x (fun r=>r=e)∧(e=0→mV x.2.2.1):=gY (fun _=>pF (no dc)) fun _=>gY (fun hn=>pF (no (by simpa using hn))) fun hz=>gY (fun _=>j29 (by simpa using hz)) fun _=>j29 (by simpa using hz);have j5:∃ e,D6 x (fun r=>r=e)∧(e=0→mV x.2.2.1):=gY (fun _=>pF (no dc)) fun _=>gY (fun _=>j11) fun _=>j11;exact gY (fun _=>j5) fun _=>gY (fun _=>j5) fun _=>j5
noncomputable def tF (x:Nd):Int:=Fq fun e=>FM x (fun r=>r=e)∧(e=0→mV x.2.2.1)
theorem PQ (x:Nd):FM x (fun r=>r=tF x)∧(tF x=0→mV x.2.2.1):=yg (A:=fun e=>FM x (fun r=>r=e)∧(e=0→mV x.2.2.1)) (Yk x)
theorem aeE (x:Nd):FM x (fun r=>r=tF x):=(PQ x).1
theorem aeD {g:ak} {u0:Option Addr} {j0:Nat} {x0:Option Addr} {s0:Nat} (xx:Nd) (e0:bE g (.slice yA) [.slice u0 xx.2.2.1.length j0] xx.2.2.1) (f0:bE g (.slice (.int .i64)) [.slice x0 xx.2.2.2.2.2.length s0] xx.2.2.2.2.2)  : bC prog 17 #[.agg (aN xx u0 j0 x0 s0)] g (iv (tF xx)) :=
 (Yj xx e0 f0 _ (aeE xx)).gv
set_option maxHeartbeats 4000000
set_option maxRecDepth 100000
abbrev ND:=Nd
abbrev DC:=List ND×Bool
def par (l:List ND) (k:Nat):Int:=(l.getD k default).2.2.2.2.1
def fo (l:List ND) (k:Nat):List Int:=(l.getD k default).2.2.2.2.2
structure pQ (l:List ND):Prop where
 kid:∀ i,i<l.length→∀ k ∈ fo l i,0≤k∧k<(l.length:Int)∧par l k.toNat=(i:Int)
 up:∀ k,k<l.length→par l k = -1∨∃ i,i<l.length∧par l k=(i:Int)∧(k:Int) ∈ fo l i
 root:par l 0 = -1
 nodup:∀ i,i<l.length→(fo l i).Nodup
def Bw (xd:Dc) (K:Int→Prop) (e5:Nd) (e9:Int) (k0:Int) (z0:List Bool) (q0:Int) (Es:Int→List Bool→Prop):Prop :=
 (((q0==0)&&((xd.1.getD e9.toNat default).1==3))=true→K 7)∧(((q0==0)&&((xd.1.getD e9.toNat default).1==3))=false→0≤e9∧e9.toNat<z0.length∧Es (w6 (k0+1)) (z0.set (Int.toNat (e5.2.2.2.2.2.getD k0.toNat default)) true))
def yI (xd:Dc) (K:Int→Prop) (e5:Nd) (e9:Int) (k0:Int) (z0:List Bool) (q0:Int) (Es:Int→List Bool→Prop):Prop :=
 (((decide (e9<0)||(decide (e9≥(z0.length:Int))))||(((xd.1.getD e9.toNat default).2.2.2.2.1 != q0)||z0.getD e9.toNat default))=true→K 3)∧(((decide (e9<0)||(decide (e9≥(z0.length:Int))))||(((xd.1.getD e9.toNat default).2.2.2.2.1 != q0)||z0.getD e9.toNat default))=false→((q0==0)=true→0≤e9∧e9.toNat<xd.1.length∧Bw xd K e5 e9 k0 z0 q0 Es)∧((q0==0)=false→Bw xd K e5 e9 k0 z0 q0 Es))
def Vl (xd:Dc) (K:Int→Prop) (e5:Nd) (q0:Int) (C9:Int→List Bool→Prop) (k0:Int) (z0:List Bool) (Es:Int→List Bool→Prop):Prop :=
 ((decide (k0<(e5.2.2.2.2.2.length:Int)))=true→0≤k0∧k0.toNat<e5.2.2.2.2.2.length∧(((decide (e5.2.2.2.2.2.getD k0.toNat default<0))||(decide (e5.2.2.2.2.2.getD k0.toNat default≥(z0.length:Int))))=true→yI xd K e5 (e5.2.2.2.2.2.getD k0.toNat default) k0 z0 q0 Es)∧(((decide (e5.2.2.2.2.2.getD k0.toNat default<0))||(decide (e5.2.2.2.2.2.getD k0.toNat default≥(z0.length:Int))))=false→0≤e5.2.2.2.2.2.getD k0.toNat default∧Int.toNat (e5.2.2.2.2.2.getD k0.toNat default)<xd.1.length∧(((xd.1.getD (Int.toNat (e5.2.2.2.2.2.getD k0.toNat default)) default).2.2.2.2.1 != q0)=true→yI xd K e5 (e5.2.2.2.2.2.getD k0.toNat default) k0 z0 q0 Es)∧(((xd.1.getD (Int.toNat (e5.2.2.2.2.2.getD k0.toNat default)) default).2.2.2.2.1 != q0)=false→0≤e5.2.2.2.2.2.getD k0.toNat default∧Int.toNat (e5.2.2.2.2.2.getD k0.toNat default)<z0.length∧yI xd K e5 (e5.2.2.2.2.2.getD k0.toNat default) k0 z0 q0 Es)))∧((decide (k0<(e5.2.2.2.2.2.length:Int)))=false→C9 (w6 (q0+1)) z0)
def qb (xd:Dc) (K:Int→Prop) (e5:Nd) (q0:Int) (C9:Int→List Bool→Prop):Nat→Int→List Bool→Prop
 | 0,_,_=>False
 | k+1,k0,z0=>Vl xd K e5 q0 C9 k0 z0 (qb xd K e5 q0 C9 k)
def Bv (K:Int→Prop) (v0:List Bool) (y0:Int) (e28:Nd) (C56:Int→Prop):Prop :=
 (((e28.2.2.2.2.1 != (-1))&&(!(v0.getD y0.toNat default)))=true→K 3)∧(((e28.2.2.2.2.1 != (-1))&&(!(v0.getD y0.toNat default)))=false→C56 (w6 (y0+1)))
def Vk (xd:Dc) (K:Int→Prop) (v0:List Bool) (y0:Int) (C56:Int→Prop):Prop :=
 ((decide (y0<(xd.1.length:Int)))=true→0≤y0∧y0.toNat<xd.1.length∧(((xd.1.getD y0.toNat default).2.2.2.2.1 != (-1))=true→0≤y0∧y0.toNat<v0.length∧Bv K v0 y0 (xd.1.getD y0.toNat default) C56)∧(((xd.1.getD y0.toNat default).2.2.2.2.1 != (-1))=false→Bv K v0 y0 (xd.1.getD y0.toNat default) C56))∧((decide (y0<(xd.1.length:Int)))=false→(0:Int)≤0∧Int.toNat 0<xd.1.length∧(((xd.1.getD (Int.toNat 0) default).2.2.2.2.1 != (-1))=true→K 3)∧(((xd.1.getD (Int.toNat 0) default).2.2.2.2.1 != (-1))=false→K 0))
def vM (xd:Dc) (K:Int→Prop) (v0:List Bool):Nat→Int→Prop
 | 0,_=>False
 | k+1,y0=>Vk xd K v0 y0 (vM xd K v0 k)
def Yn (xd:Dc) (K:Int→Prop) (q0:Int) (v0:List Bool) (C9:Int→List Bool→Prop):Prop :=
 ((decide (q0<(xd.1.length:Int)))=true→0≤q0∧q0.toNat<xd.1.length∧∃ k,qb xd K (xd.1.getD q0.toNat default) q0 C9 k 0 v0)∧((decide (q0<(xd.1.length:Int)))=false→∃ k,vM xd K v0 k 0)
def qE (xd:Dc) (K:Int→Prop):Nat→Int→List Bool→Prop
 | 0,_,_=>False
 | k+1,q0,v0=>Yn xd K q0 v0 (qE xd K k)
def FO (xd:Dc) (K:Int→Prop):Prop :=
 0≤(xd.1.length:Int)∧(xd.1.length:Int)≤140737488355328∧∃ k,qE xd K k 0 (List.replicate (Int.toNat (xd.1.length:Int)) false)
theorem Yo {g:ak} {u0:Option Addr} {j0:Nat} (xd:Dc) (b0:bE g qj [.slice u0 xd.1.length j0] xd.1) (K:Int→Prop)
  (hF:FO xd K):az prog 18 #[.agg (aD xd u0 j0)] g [] (fun g' H' v=>∃ (r0:Int),v=iv r0∧H'=[]∧K r0):=by
 refine aP 96 func18 rfl fun w0=>?_;refine ae (ai (cO fun iC=>?_));refine av 1 [(1,pv iC 0)] kr (aa (ae (aj 3 [.e 0] [1] [(12,iv (xd.1.length:Int))] ?_)));obtain ⟨h02,h12,hF⟩:=hF;refine ai (wE (e:=.bool) (E:=4) (nn:=(xd.1.length:Int)) (y:=false) (z:=.bool false) 1 140737488355328 rfl rfl underlying75 kr kr kr rfl h02 h12 rfl fun a2 c2 y5 hL2=>?_);refine ag 1 [1] [(3,.slice a2 (List.replicate (Int.toNat (xd.1.length:Int)) false).length c2)] ?_;refine aa (aF (ae (aj 4 [.e 1] [1,3] [(15,.slice u0 xd.1.length j0),(16,iv (xd.1.length:Int)),(17,iv 0)] ?_)));refine aa (Ok.block ?_);obtain ⟨k,hF⟩:=hF;refine fQ (fun k a W=>∃ jP:ak,bf w0 g jP∧∃ (q0:Int) (m0:Option Addr) (n0:Nat) (v0:List Bool) (o0:List Value),aW jP (.bool) o0 v0∧fC 96 [(1,pv iC 0),(3,.slice m0 v0.length n0),(15,.slice u0 xd.1.length j0),(16,iv (xd.1.length:Int)),(17,iv q0)] a∧dm w0 [.own (.slice m0 v0.length n0) 4 1 v0.length o0,.blk iC (.cells (aD xd u0 j0) 24)] jP W∧qE xd K k q0 v0) k ?_ ?_
 ·
  exact fun _ _ u v=>⟨g,bu w0 g,0,a2,c2,(List.replicate (Int.toNat (xd.1.length:Int)) false),y5,hL2,fA u v hF⟩
 clear hF;rintro (_ | k9) _ _ ⟨jP,B0,q0,m0,n0,v0,o0,t0,q⟩;exact (q.2.2:False).elim;refine jn (fun hF=>?_) _ _ q;replace b0:=b0.mono B0.1;refine ae (ag 1 [1,3,15,16,17] [(18,.bool (decide (q0<(xd.1.length:Int))))] ?_);refine aa (aF (aJ hF (fun hc3 hF=>?_) (fun hc3 hF=>?_)))
 ·refine Ok.k (Ok.t (aF (Ok.block (ae (ag 1 [1,3,15,16,17] [(19,iv q0)] ?_)))));obtain ⟨Ep,IE,hF⟩:=hF;have DD:=aT (l:=xd.1) default IE;generalize hg5:(xd.1.getD q0.toNat default)=e5 at DD hF ⊢;refine ai (af.aX (e:=yN) rfl rfl underlying22 kr b0 Ep DD rfl fun q4 o4 cs4 _ ac7 hr4=>?_);obtain ⟨k1,y1,U0,J0,rfl,UQ,V0⟩:=oN hr4;let C:=aN e5 k1 y1 U0 J0;refine ai (af.s (v:=.agg C) (bL 0 6 C ac7 kr underlying48 rfl kr kr kr) rfl rfl (ai (bI #[iv 0,sv ([]:Bs),.slice none 0 0,sv ([]:Bs),iv 0,.slice none 0 0] fun iF=>?_)));refine ag 1 [1,3,15,16,17] [(4,iv q0),(5,pv iF 0),(21,.agg C)] ?_;refine ai (af.w 0 ?_);refine aa (ae (aj 4 [.e 0] [1,3,4,15,16,17] [(23,.slice U0 e5.2.2.2.2.2.length J0),(24,iv (e5.2.2.2.2.2.length:Int)),(25,iv 0)] ?_));refine aa (Ok.block ?_);obtain ⟨k,hF⟩:=hF;let D:=(.cells (aD xd u0 j0) 24:Obj);refine fQ (fun k a W=>∃ Z0:ak,bf w0 jP Z0∧∃ (k0:Int) (x0:Option Addr) (s0:Nat) (z0:List Bool) (e0:List Value),aW Z0 (.bool) e0 z0∧fC 96 [(1,pv iC 0),(3,.slice x0 z0.length s0),(4,iv q0),(15,.slice u0 xd.1.length j0),(16,iv (xd.1.length:Int)),(17,iv q0),(23,.slice U0 e5.2.2.2.2.2.length J0),(24,iv (e5.2.2.2.2.2.length:Int)),(25,iv k0)] a∧dm w0 [.own (.slice x0 z0.length s0) 4 1 z0.length e0,.blk iC D] Z0 W∧qb xd K e5 q0 (qE xd K k9) k k0 z0) k ?_ ?_
  ·
   exact fun _ _ u v=>⟨jP,bu w0 jP,0,m0,n0,v0,o0,t0,fA u v hF⟩
  clear hF;rintro (_ | k23) _ _ ⟨Z0,Q0,k0,x0,s0,z0,e0,f0,q⟩;exact (q.2.2:False).elim;refine jn (fun hF=>?_) _ _ q;replace b0:=b0.mono Q0.1;replace V0:=V0.mono Q0.1;refine ae (ag 1 [1,3,4,15,16,17,23,24,25] [(26,.bool (decide (k0<(e5.2.2.2.2.2.length:Int))))] ?_);refine aa (aF (dW hF rfl (fun iB=>?_) (fun iB=>?_)))
  ·replace hF:=hF.1 iB;refine Ok.k (Ok.t (aF (Ok.block (aF (aR ?_)))));obtain ⟨Eo,h19,hF⟩:=hF;have Rv:=aT (l:=e5.2.2.2.2.2) default h19;generalize hg9:(e5.2.2.2.2.2.getD k0.toNat default)=e9 at Rv hF ⊢;refine ai (af.aX (e:=.int .i64) rfl rfl underlying46 kr V0 Eo Rv rfl fun q8 o8 cs8 _ u1 hr8=>?_);obtain rfl:=hr8;replace u1:At Z0 q8 o8 [iv e9]:=u1;refine aj 2 [.a 0 u1] [1,3,4,15,16,17,23,24,25] [(7,iv e9)] ?_;refine aa (aF (Ok.block (Ok.cut (fun a W=>∃ W0:ak,bf w0 Z0 W0∧fC 96 [(1,pv iC 0),(3,.slice x0 z0.length s0),(4,iv q0),(7,iv e9),(15,.slice u0 xd.1.length j0),(16,iv (xd.1.length:Int)),(17,iv q0),(23,.slice U0 e5.2.2.2.2.2.length J0),(24,iv (e5.2.2.2.2.2.length:Int)),(25,iv k0),(29,.bool ((decide (e9<0)||(decide (e9≥(z0.length:Int))))||(((xd.1.getD e9.toNat default).2.2.2.2.1 != q0)||z0.getD e9.toNat default)))] a∧dm w0 [.own (.slice x0 z0.length s0) 4 1 z0.length e0,.blk iC D] W0 W∧yI xd K e5 e9 k0 z0 q0 (qb xd K e5 q0 (qE xd K k9) k23)) ?_ ?_)))
   ·
    refine aR (ag 3 [1,3,4,7,15,16,17,23,24,25] [(32,.bool (decide (e9<0)))] ?_);refine Ok.w 5 [(1,pv iC 0),(3,.slice x0 z0.length s0),(4,iv q0),(7,iv e9),(15,.slice u0 xd.1.length j0),(16,iv (xd.1.length:Int)),(17,iv q0),(23,.slice U0 e5.2.2.2.2.2.length J0),(24,iv (e5.2.2.2.2.2.length:Int)),(25,iv k0),(37,.bool (decide (e9<0)||(decide (e9≥(z0.length:Int)))))] (fun n1=>?_) ?_
    ·refine Ok.a 32 (decide (e9<0)) rfl (fun j1=>?_) (fun j1=>?_)
     ·skip;refine ag 5 [1,3,4,7,15,16,17,23,24,25] [(37,.bool true)] ?_;refine aB 37 (decide (e9<0)||(decide (e9≥(z0.length:Int)))) (cK j1) (ag 0 [1,3,4,7,15,16,17,23,24,25] [(37,.bool (decide (e9<0)||(decide (e9≥(z0.length:Int)))))] ?_);exact n1
     skip;refine ag 5 [1,3,4,7,15,16,17,23,24,25] [(37,.bool (decide (e9≥(z0.length:Int))))] ?_;refine aB 37 (decide (e9<0)||(decide (e9≥(z0.length:Int)))) (bN j1) (ag 0 [1,3,4,7,15,16,17,23,24,25] [(37,.bool (decide (e9<0)||(decide (e9≥(z0.length:Int)))))] ?_);exact n1
    refine ag 1 [1,3,4,7,15,16,17,23,24,25] [(38,.bool (decide (e9<0)||(decide (e9≥(z0.length:Int)))))] ?_;refine bP 38 hF (fun P0 hF=>?_) (fun P0 hF=>?_)
    ·refine ag 16 [1,3,4,7,15,16,17,23,24,25] [(29,.bool true)] ?_;refine aa (aB 29 ((decide (e9<0)||(decide (e9≥(z0.length:Int))))||(((xd.1.getD e9.toNat default).2.2.2.2.1 != q0)||z0.getD e9.toNat default)) (cK P0) ?_);exact fg hF
    refine aj 3 [.e 1] [1,3,4,7,15,16,17,23,24,25] [(38,.bool false),(40,.slice u0 xd.1.length j0),(41,iv e9)] ?_;obtain ⟨U8,h122,hF⟩:=hF;have o1:=aT (l:=xd.1) default h122;generalize r1:(xd.1.getD e9.toNat default)=e22 at o1 hF ⊢;refine dZ (af.aX (e:=yN) rfl rfl underlying22 kr b0 U8 o1 rfl fun q21 o21 arL _ ake acm=>?_);obtain ⟨aub,atE,aua,atD,rfl,aqi,aqh⟩:=oN acm;refine aj 6 [.a 4 ake] [1,3,4,7,15,16,17,23,24,25] [(48,.bool (e22.2.2.2.2.1 != q0))] ?_;refine Ok.a 48 (e22.2.2.2.2.1 != q0) rfl (fun D0=>?_) (fun D0=>?_)
    ·replace hF:=hF.1 D0;refine ag 6 [1,3,4,7,15,16,17,23,24,25] [(29,.bool true)] ?_;refine bV (Ok.t ?_);subst r1;refine aB 29 ((decide (e9<0)||(decide (e9≥(z0.length:Int))))||(((xd.1.getD e9.toNat default).2.2.2.2.1 != q0)||z0.getD e9.toNat default)) (au (cK D0) (bN P0)) ?_;exact fg hF
    replace hF:=hF.2 D0;refine ag 2 [1,3,4,7,15,16,17,23,24,25] [(48,.bool false),(49,.slice x0 z0.length s0),(50,iv e9)] ?_;obtain ⟨DN,IG,hF⟩:=hF;have t1:=aT (l:=z0) default IG;generalize acN:(z0.getD e9.toNat default)=e25 at t1 hF ⊢;refine dZ (af.fZ (e:=.bool) 0 rfl f0 rfl rfl underlying75 kr kr DN t1 rfl fun ak9 _ Us x1=>?_);obtain rfl:=Us;replace x1:∀ j v,([.bool e25]:List Value)[j]? = some v→e0[e9.toNat * 1+j]? = some v:=x1;refine dZ (af.s (v:=.bool e25) (dP 0 0 rfl x1 rfl underlying4 rfl kr) rfl rfl (ag 2 [1,3,4,7,15,16,17,23,24,25] [(29,.bool e25)] ?_));refine bV (Ok.t ?_);subst acN;subst r1;refine aB 29 ((decide (e9<0)||(decide (e9≥(z0.length:Int))))||(((xd.1.getD e9.toNat default).2.2.2.2.1 != q0)||z0.getD e9.toNat default)) (au (bN D0) (bN P0)) ?_;exact fg hF
   clear hF;rintro _ _ ⟨W0,K0,q⟩;refine jn (fun hF=>?_) _ _ q;replace f0:=f0.mono K0.1;replace b0:=b0.mono K0.1;refine dW hF rfl (fun b1=>?_) (fun b1=>?_)
   ·replace hF:=hF.1 b1;refine ae (av 1 [(2,iv 3)] kr (aa (Ok.ret (aV (aC (aV (aC (aC (aV (aV (aC (aC (aV (aC ?_))))))))))))));exact jg (iv 3) ((B0.trans Q0).trans K0) ⟨_,rfl,rfl,hF⟩
   replace hF:=hF.2 b1;refine Ok.cut (fun a W=>∃ R0:ak,bf w0 W0 R0∧fC 96 [(1,pv iC 0),(3,.slice x0 z0.length s0),(4,iv q0),(7,iv e9),(15,.slice u0 xd.1.length j0),(16,iv (xd.1.length:Int)),(17,iv q0),(23,.slice U0 e5.2.2.2.2.2.length J0),(24,iv (e5.2.2.2.2.2.length:Int)),(25,iv k0),(54,.bool ((q0==0)&&((xd.1.getD e9.toNat default).1==3)))] a∧dm w0 [.own (.slice x0 z0.length s0) 4 1 z0.length e0,.blk iC (.cells (aD xd u0 j0) 24)] R0 W∧Bw xd K e5 e9 k0 z0 q0 (qb xd K e5 q0 (qE xd K k9) k23)) ?_ ?_
   ·
    refine aR (ag 3 [1,3,4,7,15,16,17,23,24,25] [(57,.bool (q0==0))] ?_);refine bP 57 hF (fun E0 hF=>?_) (fun E0 hF=>?_)
    ·refine aj 3 [.e 1] [1,3,4,7,15,16,17,23,24,25] [(57,.bool true),(59,.slice u0 xd.1.length j0),(60,iv e9)] ?_;obtain ⟨aem,aeb,hF⟩:=hF;have a1:=aT (l:=xd.1) default aeb;generalize aoO:(xd.1.getD e9.toNat default)=e17 at a1 hF ⊢;refine dZ (af.aX (e:=yN) rfl rfl underlying22 kr b0 aem a1 rfl fun q16 o16 arO _ akh acp=>?_);obtain ⟨auf,atI,aue,atH,rfl,aqm,aql⟩:=oN acp;refine aj 5 [.a 0 akh] [1,3,4,7,15,16,17,23,24,25] [(54,.bool (e17.1==3))] ?_;refine bV (Ok.t ?_);subst aoO;refine aB 54 ((q0==0)&&((xd.1.getD e9.toNat default).1==3)) (bn E0) ?_;exact fg hF
    refine ag 9 [1,3,4,7,15,16,17,23,24,25] [(54,.bool false)] ?_;refine aa (aB 54 ((q0==0)&&((xd.1.getD e9.toNat default).1==3)) (bZ E0) ?_);exact fg hF
   clear hF;rintro _ _ ⟨R0,X0,q⟩;refine jn (fun hF=>?_) _ _ q;replace f0:=f0.mono X0.1;replace b0:=b0.mono X0.1;refine dW hF rfl (fun F0=>?_) (fun F0=>?_)
   ·replace hF:=hF.1 F0;refine ae (av 1 [(2,iv 7)] kr (aa (Ok.ret (aV (aC (aV (aC (aC (aV (aV (aC (aC (aV (aC ?_))))))))))))));exact jg (iv 7) (((B0.trans Q0).trans K0).trans X0) ⟨_,rfl,rfl,hF⟩
   replace hF:=hF.2 F0;refine Ok.k (bG (Ok.t (aR (ag 2 [1,3,4,15,16,17,23,24,25] [(66,.slice x0 z0.length s0),(67,iv e9)] ?_))));obtain ⟨Nt,IJ,hF⟩:=hF;have i1:=aT (l:=z0) default IJ;generalize UH:(z0.getD e9.toNat default)=e13 at i1 hF ⊢;refine ai (af.fZ (e:=.bool) 0 rfl f0 rfl rfl underlying75 kr kr Nt i1 rfl fun alc _ Uv G0=>?_);obtain rfl:=Uv;replace G0:∀ j v,([.bool e13]:List Value)[j]? = some v→e0[e9.toNat * 1+j]? = some v:=G0;refine ai (ko (e:=.bool) (q:=e9.toNat) (cells:=[.bool e13]) (vs:=[.bool true]) (xG:=true) 0 0 1 rfl f0 G0 kr rfl rfl rfl kr kr kr kr kr (show bE _ _ [.bool true] _ from rfl) fun Z_ UY=>?_);rw [show z0.length=(z0.set e9.toNat true).length from (kP ..).symm];refine bV (bG (Ok.t (aR (ag 2 [1,4,15,16,17,23,24] [(3,.slice x0 (z0.set e9.toNat true).length s0),(25,iv (w6 (k0+1)))] ?_))));refine bV (Ok.t ?_);subst UH;subst hg9;exact fun _ _ u v=>⟨k23,nl,R0,((Q0.trans K0).trans X0),w6 (k0+1),x0,s0,(z0.set (Int.toNat (e5.2.2.2.2.2.getD k0.toNat default)) true),Z_,UY,fA u v hF⟩
  replace hF:=hF.2 iB;refine fw (ay (ay (aM (bG (Ok.t (aR (ag 2 [1,3,15,16] [(17,iv (w6 (q0+1)))] ?_)))))));refine bV (Ok.t ?_);subst hg5;exact fun _ _ u v=>⟨k9,nl,Z0,B0.trans Q0,w6 (q0+1),x0,s0,z0,e0,f0,fA u v hF⟩
 refine fw (ay (ay (aM (Ok.t (aF (ae (aj 4 [.e 1] [1,3] [(72,.slice u0 xd.1.length j0),(73,iv (xd.1.length:Int)),(74,iv 0)] ?_)))))));refine aa (Ok.block ?_);obtain ⟨k,hF⟩:=hF;refine fQ (fun k a W=>∃ S0:ak,bf w0 jP S0∧∃ (y0:Int),fC 96 [(1,pv iC 0),(3,.slice m0 v0.length n0),(72,.slice u0 xd.1.length j0),(73,iv (xd.1.length:Int)),(74,iv y0)] a∧dm w0 [.own (.slice m0 v0.length n0) 4 1 v0.length o0,.blk iC (.cells (aD xd u0 j0) 24)] S0 W∧vM xd K v0 k y0) k ?_ ?_
 ·
  exact fun _ _ u v=>⟨jP,bu w0 jP,0,fA u v hF⟩
 clear hF;rintro (_ | k56) _ _ ⟨S0,Y0,y0,q⟩;exact (q.2.2:False).elim;refine jn (fun hF=>?_) _ _ q;replace t0:=t0.mono Y0.1;replace b0:=b0.mono Y0.1;refine ae (ag 1 [1,3,72,73,74] [(75,.bool (decide (y0<(xd.1.length:Int))))] ?_);refine aa (aF (aJ hF (fun M_ hF=>?_) (fun M_ hF=>?_)))
 ·refine Ok.k (Ok.t (aF (Ok.block (ae (ag 1 [1,3,72,73,74] [(76,iv y0)] ?_)))));obtain ⟨aei,h128,hF⟩:=hF;have Z1:=aT (l:=xd.1) default h128;generalize aoI:(xd.1.getD y0.toNat default)=e28 at Z1 hF ⊢;refine ai (af.aX (e:=yN) rfl rfl underlying22 kr b0 aei Z1 rfl fun q27 o27 arI _ akb aci=>?_);obtain ⟨H0,M0,N0,O0,rfl,aqa,ap9⟩:=oN aci;let B:=aN e28 H0 M0 N0 O0;refine ai (af.s (v:=.agg B) (bL 0 6 B akb kr underlying48 rfl kr kr kr) rfl rfl (ai (bI #[iv 0,sv ([]:Bs),.slice none 0 0,sv ([]:Bs),iv 0,.slice none 0 0] fun bs9=>?_)));refine ag 1 [1,3,72,73,74] [(8,iv y0),(9,pv bs9 0),(78,.agg B)] ?_;refine ai (af.w 0 ?_);let A:=e28.2.2.2.2.1 != (-1);refine aa (Ok.cut (fun a W=>∃ T0:ak,bf w0 S0 T0∧fC 96 [(1,pv iC 0),(3,.slice m0 v0.length n0),(72,.slice u0 xd.1.length j0),(73,iv (xd.1.length:Int)),(74,iv y0),(88,.bool (A&&(!(v0.getD y0.toNat default))))] a∧dm w0 [.own (.slice m0 v0.length n0) 4 1 v0.length o0,.blk iC (.cells (aD xd u0 j0) 24)] T0 W∧Bv K v0 y0 e28 (vM xd K v0 k56)) ?_ ?_)
  ·
   refine aR (aj 4 [.e 0] [1,3,8,72,73,74] [(82,.bool A)] ?_);refine bP 82 hF (fun d1 hF=>?_) (fun d1 hF=>?_)
   ·refine ag 2 [1,3,72,73,74] [(82,.bool true),(83,.slice m0 v0.length n0),(84,iv y0)] ?_;obtain ⟨aeg,ad6,hF⟩:=hF;have V1:=aT (l:=v0) default ad6;generalize aoG:(v0.getD y0.toNat default)=e33 at V1 hF ⊢;refine dZ (af.fZ (e:=.bool) 1 rfl t0 rfl rfl underlying75 kr kr aeg V1 rfl fun avY _ aoa e1=>?_);obtain rfl:=aoa;replace e1:∀ j v,([.bool e33]:List Value)[j]? = some v→o0[y0.toNat * 1+j]? = some v:=e1;refine dZ (af.s (v:=.bool e33) (dP 1 0 rfl e1 rfl underlying4 rfl kr) rfl rfl (ag 2 [1,3,72,73,74] [(88,.bool (!e33))] ?_));refine bV (Ok.t ?_);subst aoG;refine aB 88 (A&&(!(v0.getD y0.toNat default))) (bn d1) ?_;exact fg hF
   refine ag 6 [1,3,72,73,74] [(88,.bool false)] ?_;refine aa (aB 88 (A&&(!(v0.getD y0.toNat default))) (bZ d1) ?_);exact fg hF
  clear hF;rintro _ _ ⟨T0,C0,q⟩;refine jn (fun hF=>?_) _ _ q;replace b0:=b0.mono C0.1;refine dW hF rfl (fun f1=>?_) (fun f1=>?_)
  ·replace hF:=hF.1 f1;refine ae (av 1 [(2,iv 3)] kr (aa (Ok.ret (aV (aC (aC (aV (aC ?_))))))));exact jg (iv 3) ((B0.trans Y0).trans C0) ⟨_,rfl,rfl,hF⟩
  replace hF:=hF.2 f1;refine Ok.k (bG (Ok.t (aR (ag 2 [1,3,72,73] [(74,iv (w6 (y0+1)))] ?_))));refine bV (Ok.t ?_);subst aoI;exact fun _ _ u v=>⟨k56,nl,T0,Y0.trans C0,w6 (y0+1),fA u v hF⟩
 refine fw (ay (ay (aM (Ok.t (aF (ae (av 1 [(90,pv iC 0)] kr (ai (af.s (v:=.slice u0 xd.1.length j0) (aS 1 rfl rfl underlying22 rfl kr) rfl rfl ?_)))))))));obtain ⟨U6,U4,hF⟩:=hF;have Q1:=aT (l:=xd.1) default U4;generalize X4:(xd.1.getD (Int.toNat 0) default)=e35 at Q1 hF ⊢;refine ai (af.aX (e:=yN) rfl rfl underlying22 kr b0 U6 Q1 rfl fun q34 o34 ak7 _ aj7 Un=>?_);obtain ⟨at1,atz,atZ,aty,rfl,ap4,ap3⟩:=oN Un;refine aj 3 [.a 4 aj7] [] [(95,.bool (e35.2.2.2.2.1 != (-1)))] ?_;refine aa (aJ hF (fun UJ hF=>?_) (fun UJ hF=>?_))
 ·refine ae (av 1 [(2,iv 3)] kr (aa (Ok.ret (aC ?_))));exact jg (iv 3) (B0.trans Y0) ⟨_,rfl,rfl,hF⟩
 refine Ok.k (Ok.t (ae (av 1 [(2,iv 0)] kr (aa (Ok.ret ?_)))));exact jg (iv 0) (B0.trans Y0) ⟨_,rfl,rfl,hF⟩
def FN (d:DC):Prop:=1≤d.1.length∧d.1.length≤200∧∀ x ∈ d.1,x.2.2.2.2.2.length≤maxLen
theorem gM {α:Type} {l:List α} {i:Nat} (d:α) (h:i<l.length):l.getD i d ∈ l:=by
 rw [gT,gH h,uO]; exact zU h
theorem Vb {l:List Bool} {i j:Nat}:(l.set i true).getD j default=true→j=i∨l.getD j default=true:=by
 rw [gT,gT,uU]
 split
 ·rename_i h; intro _; exact .inl h.symm
 intro h; exact .inr h
theorem QZ {l:List Bool} {i j:Nat} (h:l.getD j default=true):(l.set i true).getD j default=true:=by
 rw [gT] at h ⊢;rw [uU]
 split
 ·rename_i hij
  subst hij
  split
  ·rfl
  rename_i hl
  rw [sK om] at h;exact h
 exact h
theorem Ve {l:List Bool} {i:Nat} (h:i<l.length):(l.set i true).getD i default=true:=by
 rw [gT,uU,bB rfl,bB h]; rfl
theorem MC {α:Type} {l:List α} {x:α} (h:l.Nodup) (hx:x ∉ l):(l++[x]).Nodup:=by
 rw [List.nodup_append];refine ⟨h,by simp,fun a ha b hb=>?_⟩;rw [il] at hb;subst hb;intro e;subst e;exact hx ha
theorem Vd (n j:Nat):(List.replicate n false).getD j default=false:=by
 rw [gT,List.getElem?_replicate]
 split <;> rfl
theorem Yp (d:DC) (hp:FN d):∃ e,FO d (fun r=>r=e)∧(e=0→pQ d.1):=by
 obtain ⟨h1,h2,h3⟩:=hp;have no:∀ {e:Int},e≠0→(e=0→pQ d.1):=fun h h0=>absurd h0 h
 -- what is known of the flags
 have Flags:∀ (seen:List Bool),(∀ k,seen.getD k default=true→∃ i,i<d.1.length∧par d.1 k=(i:Int)∧(k:Int) ∈ fo d.1 i) →
   (∀ i,i<d.1.length→∀ k ∈ fo d.1 i,0≤k∧k<(d.1.length:Int)∧par d.1 k.toNat=(i:Int))→(∀ i,i<d.1.length→(fo d.1 i).Nodup)→seen.length=d.1.length →
   ∀ (k i:Nat),i+k=d.1.length→(∀ j,j<i→par d.1 j = -1∨seen.getD j default=true)→∃ e,vM d (fun r=>r=e) seen (k+1) (i:Int)∧(e=0→pQ d.1):=by
  intro seen hs hk hnd hl k
  induction k with
  | zero =>
   intro i h hj;refine gY (fun h=>od h) (fun _=>fG om (fG (by show 0<d.1.length; omega) (gY (fun _=>pF (no dc)) fun hr=>pF fun _=>⟨hk,fun j hj2=>?_,?_,hnd⟩)))
   ·rcases hj j om with h | h
    ·exact .inl h
    exact .inr (hs j h)
   have hr':(par d.1 0 != -1)=false:=hr;simpa using hr'
  | succ k ih =>
   intro i h hj;refine gY (fun _=>fG om (fG (by rw [dR]; omega) ?_)) (fun h=>oe h)
   have j67:∃ e,Bv (fun r=>r=e) seen (i:Int) (d.1.getD (Int.toNat (i:Int)) default) (vM d (fun r=>r=e) seen (k+1))∧(e=0→pQ d.1):=by
    refine gY (fun _=>pF (no dc)) fun hc=>?_;rw [fU om];refine ih (i+1) om fun j hj2=>?_
    by_cases hji:j<i
    ·exact hj j hji
    have:j=i:=om;subst this;rw [dR] at hc;have hc':((par d.1 j != -1)&&(!(seen.getD j default)))=false:=hc;rw [fF] at hc'
    rcases hc' with h | h
    ·exact .inl (by simpa using h)
    exact .inr (by simpa using h)
   exact gY (fun _=>fG om (fG (by rw [dR]; omega) j67)) fun _=>j67
 have loop:∀ (k i:Nat) (seen:List Bool),i+k=d.1.length→seen.length=d.1.length→(∀ k,seen.getD k default=true→∃ i,i<d.1.length∧par d.1 k=(i:Int)∧(k:Int) ∈ fo d.1 i) →
   (∀ i',i'<i→∀ k ∈ fo d.1 i',0≤k∧k<(d.1.length:Int)∧par d.1 k.toNat=(i':Int))→(∀ i',i'<i→(fo d.1 i').Nodup)→∃ e,qE d (fun r=>r=e) (k+1) (i:Int) seen∧(e=0→pQ d.1):=by
  intro k
  induction k with
  | zero =>
   intro i seen h hl hs hk hnd;refine gY (fun h=>od h) (fun _=>vH _ (Flags seen hs (fun i' hi'=>hk i' om) (fun i' hi'=>hnd i' om) hl d.1.length 0 om fun j hj=>absurd hj om))
  | succ k ih =>
   intro i seen h hl hs hk hnd;refine gY (fun _=>fG om (fG (by rw [dR]; omega) ?_)) (fun h=>oe h);rw [dR];have hlen:(fo d.1 i).length≤maxLen:=h3 _ (gM default om)
   have inner:∀ (q j:Nat) (seen:List Bool),j+q=(fo d.1 i).length→seen.length=d.1.length→(∀ k,seen.getD k default=true→∃ i,i<d.1.length∧par d.1 k=(i:Int)∧(k:Int) ∈ fo d.1 i) →
     (∀ x ∈ (fo d.1 i).take j,0≤x∧x<(d.1.length:Int)∧par d.1 x.toNat=(i:Int))→((fo d.1 i).take j).Nodup→(∀ x ∈ (fo d.1 i).take j,seen.getD x.toNat default=true)→∃ e,qb d (fun r=>r=e) (d.1.getD i default) (i:Int) (qE d (fun r=>r=e) (k+1)) (q+1) (j:Int) seen∧(e=0→pQ d.1):=by
    intro q
    induction q with
    | zero =>
     intro j seen hj hl hs ht hn hse;refine gY (fun h=>by have h':=df h; have h'':(j:Int)<((fo d.1 i).length:Int):=h'; omega) (fun _=>?_);rw [fU om];rw [jU om] at ht hn;refine ih (i+1) seen om hl hs (fun i' hi'=>?_) (fun i' hi'=>?_)
     ·by_cases hii:i'<i
      ·exact hk i' hii
      have:i'=i:=om;subst this;exact ht
     by_cases hii:i'<i
     ·exact hnd i' hii
     have:i'=i:=om;subst this;exact hn
    | succ q ihq =>
     intro j seen hj hl hs ht hn hse;rw [ma] at hlen;refine gY (fun _=>fG om (fG (by rw [dR]; show j<(fo d.1 i).length; omega) ?_)) (fun h=>by have h':=fq h; have h'':¬ (j:Int)<((fo d.1 i).length:Int):=h'; omega);rw [dR];have hx:∃ x,(d.1.getD i default).2.2.2.2.2.getD j default=x∧x ∈ fo d.1 i∧(fo d.1 i).take (j+1)=(fo d.1 i).take j++[x]:=⟨_,rfl,gM default om,iD default om⟩;obtain ⟨x,hx,hxm,hxt⟩:=hx
     have j36:∃ e,yI d (fun r=>r=e) (d.1.getD i default) x (j:Int) seen (i:Int) (qb d (fun r=>r=e) (d.1.getD i default) (i:Int) (qE d (fun r=>r=e) (k+1)) (q+1))∧(e=0→pQ d.1):=by
      refine gY (fun _=>pF (no dc)) fun hc=>?_;simp only [dB,eP] at hc;obtain ⟨⟨c1,c2⟩,c3,c4⟩:=hc
      have c3':par d.1 x.toNat=(i:Int):=by
       have:(par d.1 x.toNat != (i:Int))=false:=c3;simpa using this
      have hx0:0≤x:=om;have hxl:x<(d.1.length:Int):=om
      have j42:∃ e,Bw d (fun r=>r=e) (d.1.getD i default) x (j:Int) seen (i:Int) (qb d (fun r=>r=e) (d.1.getD i default) (i:Int) (qE d (fun r=>r=e) (k+1)) (q+1))∧(e=0→pQ d.1):=by
       refine gY (fun _=>pF (no dc)) fun _=>fG hx0 (fG om ?_);rw [fU om];have c4':seen.getD x.toNat default=false:=c4
       have hxn:x ∉ (fo d.1 i).take j:=fun hm=>by rw [hse x hm] at c4'; cases c4'
       refine ihq (j+1) _ om (by rw [kP]; exact hl) (fun k hk2=>?_) (fun y hy=>?_) (by rw [hxt]; exact MC hn hxn) (fun y hy=>?_)
       ·rw [dR,hx] at hk2
        rcases Vb hk2 with h | h
        ·subst h;exact ⟨i,om,c3',by rw [Int.toNat_of_nonneg hx0]; exact hxm⟩
        exact hs k h
       ·rw [hxt] at hy
        rcases lu.1 hy with hy | hy
        ·exact ht y hy
        rw [il] at hy; subst hy; exact ⟨hx0,hxl,c3'⟩
       rw [dR,hx];rw [hxt] at hy
       rcases lu.1 hy with hy | hy
       ·exact QZ (hse y hy)
       rw [il] at hy; subst hy; exact Ve om
      exact gY (fun _=>fG hx0 (fG om j42)) fun _=>j42
     rw [hx];refine gY (fun _=>j36) fun hb=>?_;simp only [dB,eP] at hb;exact fG om (fG om (gY (fun _=>j36) fun _=>fG om (fG om j36)))
   exact vH _ (inner (fo d.1 i).length 0 seen om hl hs (fun x hx=>absurd hx (by simp)) (by rw [List.take_zero]; exact List.nodup_nil) (fun x hx=>absurd hx (by simp)))
 refine fG om (fG om (vH _ (loop d.1.length 0 _ om ?_ (fun k hk=>?_) (fun i' hi'=>absurd hi' om) (fun i' hi'=>absurd hi' om))))
 ·rw [List.length_replicate,dR]
 rw [Vd] at hk; cases hk
noncomputable def tH (d:DC):Int:=Fq fun e=>FO d (fun r=>r=e)∧(e=0→pQ d.1)
theorem PS (d:DC) (hp:FN d):FO d (fun r=>r=tH d)∧(tH d=0→pQ d.1):=yg (A:=fun e=>FO d (fun r=>r=e)∧(e=0→pQ d.1)) (Yp d hp)
theorem aeH (d:DC) (hp:FN d):FO d (fun r=>r=tH d):=(PS d hp).1
theorem aeG {g:ak} {u0:Option Addr} {j0:Nat} (xd:Dc) (b0:bE g qj [.slice u0 xd.1.length j0] xd.1)  (hp:FN xd):bC prog 18 #[.agg (aD xd u0 j0)] g (iv (tH xd)) :=
 (Yo xd b0 _ (aeH xd hp)).gv
def K_ (xd:Dc) (K:Int→Prop) (a0:Int) (i0:Int) (C5:Int→Int→Prop):Prop :=
 (((decide ((xd.1.getD a0.toNat default).2.2.2.2.1≥0))&&(decide (i0≤(xd.1.length:Int))))=true→0≤a0∧a0.toNat<xd.1.length∧C5 (xd.1.getD a0.toNat default).2.2.2.2.1 (w6 (i0+1)))∧(((decide ((xd.1.getD a0.toNat default).2.2.2.2.1≥0))&&(decide (i0≤(xd.1.length:Int))))=false→K i0)
def aez (xd:Dc) (K:Int→Prop) (a0:Int) (i0:Int) (C5:Int→Int→Prop):Prop :=
 0≤a0∧a0.toNat<xd.1.length∧((decide ((xd.1.getD a0.toNat default).2.2.2.2.1≥0))=true→K_ xd K a0 i0 C5)∧((decide ((xd.1.getD a0.toNat default).2.2.2.2.1≥0))=false→K_ xd K a0 i0 C5)
def D5 (xd:Dc) (K:Int→Prop):Nat→Int→Int→Prop
 | 0,_,_=>False
 | k+1,a0,i0=>aez xd K a0 i0 (D5 xd K k)
def akT (xd:Dc) (xn:Int) (K:Int→Prop):Prop :=
 ∃ k,D5 xd K k xn 0
theorem aeA {g:ak} {u0:Option Addr} {j0:Nat} (xd:Dc) (xn:Int) (b0:bE g qj [.slice u0 xd.1.length j0] xd.1) (K:Int→Prop)
  (hF:akT xd xn K):az prog 19 #[.agg (aD xd u0 j0),iv xn] g [] (fun g' H' v=>∃ (r0:Int),v=iv r0∧H'=[]∧K r0):=by
 refine aP 28 func19 rfl fun w0=>?_;refine ae (ai (cO fun eT=>?_));refine av 1 [(1,iv xn),(2,pv eT 0),(4,iv 0)] kr (aa (aF (Ok.block ?_)));obtain ⟨k,hF⟩:=hF;let C:=(.cells (aD xd u0 j0) 24:Obj);refine fQ (fun k a W=>∃ (a0:Int) (i0:Int),fC 28 [(1,iv a0),(2,pv eT 0),(4,iv i0)] a∧dm w0 [.blk eT C] g W∧D5 xd K k a0 i0) k ?_ ?_
 ·
  exact fun _ _ u v=>⟨xn,0,fA u v hF⟩
 clear hF;rintro (_ | k5) _ _ ⟨a0,i0,q⟩;exact (q.2.2:False).elim;refine jn (fun hF=>?_) _ _ q;refine aF (gB [(1,iv a0),(2,pv eT 0),(4,iv i0),(18,.bool ((decide ((xd.1.getD a0.toNat default).2.2.2.2.1≥0))&&(decide (i0≤(xd.1.length:Int)))))] [.blk eT C] (K_ xd K a0 i0 (D5 xd K k5)) ?_ (fun hF=>?_))
 ·
  refine aR (aj 3 [.e 0] [1,2,4] [(6,.slice u0 xd.1.length j0),(7,iv a0)] ?_);obtain ⟨uA,h16,hF⟩:=hF;have uz:=aT (l:=xd.1) default h16;generalize zH:(xd.1.getD a0.toNat default)=e6 at uz hF ⊢;refine ai (af.aX (e:=yN) rfl rfl underlying22 kr b0 uA uz rfl fun q5 o5 cs5 _ m1 MZ=>?_);obtain ⟨L0,A0,I0,z1,rfl,v1,q1⟩:=oN MZ;let B:=decide (e6.2.2.2.2.1≥0);refine aj 4 [.a 4 m1] [1,2,4] [(12,.bool B)] ?_;refine Ok.a 12 B rfl (fun iB=>?_) (fun iB=>?_)
  ·replace hF:=hF.1 iB;let A:=decide (i0≤(xd.1.length:Int));refine aj 6 [.e 0] [1,2,4] [(18,.bool A)] ?_;refine bV (Ok.t ?_);subst zH;refine aB 18 ((decide ((xd.1.getD a0.toNat default).2.2.2.2.1≥0))&&A) (bn iB) ?_;exact fz hF
  replace hF:=hF.2 iB;refine ag 6 [1,2,4] [(18,.bool false)] ?_;refine bV (Ok.t ?_);subst zH;refine aB 18 ((decide ((xd.1.getD a0.toNat default).2.2.2.2.1≥0))&&(decide (i0≤(xd.1.length:Int)))) (bZ iB) ?_;exact fz hF
 refine aJ hF (fun hc2 hF=>?_) (fun hc2 hF=>?_)
 ·refine Ok.k (Ok.t (aF (Ok.block (aR (ag 3 [1,2] [(4,iv (w6 (i0+1)))] ?_)))));refine bV (bG (Ok.t (aR (aj 3 [.e 0] [2,4] [(20,.slice u0 xd.1.length j0),(21,iv a0)] ?_))));obtain ⟨oo,pg,hF⟩:=hF;have ny:=aT (l:=xd.1) default pg;generalize hg4:(xd.1.getD a0.toNat default)=e4 at ny hF ⊢;refine ai (af.aX (e:=yN) rfl rfl underlying22 kr b0 oo ny rfl fun q3 o3 Rz _ UL hr3=>?_);obtain ⟨afN,afg,ar9,arY,rfl,UT,akF⟩:=oN hr3;refine aj 3 [.a 4 UL] [2,4] [(1,iv e4.2.2.2.2.1)] ?_;refine bV (Ok.t ?_);subst hg4;exact fun _ _ u v=>⟨k5,nl,(xd.1.getD a0.toNat default).2.2.2.2.1,w6 (i0+1),fA u v hF⟩
 refine fw (ay (ay (aM (Ok.t (ae (ag 2 [4] [] ?_))))));refine aa (Ok.ret ?_);exact gV (iv i0) ⟨_,rfl,rfl,hF⟩
def zJ (l:List ND):Nat→Int→Int→Int
 | 0,_,m=>m
 | k+1,n,m=>if (decide (par l n.toNat≥0)&&decide (m≤(l.length:Int)))=true then zJ l k (par l n.toNat) (m+1) else m
def rD (d:DC) (n:Int):Int:=zJ d.1 (d.1.length+2) n 0
def aeB (d:DC) (n:Int):Prop:=d.1.length≤200∧pQ d.1∧0≤n∧n<(d.1.length:Int)
theorem RP {l:List ND} (h:pQ l) {n:Int} (h0:0≤n) (h1:n<(l.length:Int)) (hu:par l n.toNat≥0):par l n.toNat<(l.length:Int):=by
 rcases h.up n.toNat om with h | ⟨i,hi,he,_⟩
 ·omega
 omega
theorem akS (d:DC) (n:Int) (hp:aeB d n):akT d n (fun r=>r=rD d n):=by
 obtain ⟨hl,hk,h0,h1⟩:=hp
 have loop:∀ (k:Nat) (n' m:Int),0≤n'→n'<(d.1.length:Int)→0≤m→m≤(d.1.length:Int)+1→(d.1.length:Int)+1≤m+k→rD d n=zJ d.1 (k+1) n' m→D5 d (fun r=>r=rD d n) (k+1) n' m:=by
  intro k
  induction k with
  | zero =>
   intro n' m g0 g1 g2 g3 g4 he
   have hc:(decide (par d.1 n'.toNat≥0)&&decide (m≤(d.1.length:Int)))=false:=by
    rw [l6 (show ¬ m≤(d.1.length:Int) by omega),uY]
   rw [zJ,aG hc] at he;have j7:K_ d (fun r=>r=rD d n) n' m (D5 d (fun r=>r=rD d n) 0):=⟨fun h=>(Bool.false_ne_true (hc.symm.trans h)).elim,fun _=>he.symm⟩;exact ⟨g0,om,fun _=>j7,fun _=>j7⟩
  | succ k ih =>
   intro n' m g0 g1 g2 g3 g4 he;rw [zJ] at he
   have j7:K_ d (fun r=>r=rD d n) n' m (D5 d (fun r=>r=rD d n) (k+1)):=by
    refine ⟨fun h=>?_,fun h=>?_⟩
    ·have h':(decide (par d.1 n'.toNat≥0)&&decide (m≤(d.1.length:Int)))=true:=h;rw [aU h'] at he;rw [aH,dI,dI] at h';rw [fU om];exact ⟨g0,om,ih _ _ h'.1 (RP hk g0 g1 h'.1) om om om he⟩
    rw [aG (show (decide (par d.1 n'.toNat≥0)&&decide (m≤(d.1.length:Int)))=false from h)] at he;exact he.symm
   exact ⟨g0,om,fun _=>j7,fun _=>j7⟩
 exact ⟨_,loop (d.1.length+1) n 0 h0 h1 om om om rfl⟩
theorem akR {g:ak} {u0:Option Addr} {j0:Nat} (xd:Dc) (xn:Int) (b0:bE g qj [.slice u0 xd.1.length j0] xd.1)  (hp:aeB xd xn):bC prog 19 #[.agg (aD xd u0 j0),iv xn] g (iv (rD xd xn)) :=
 (aeA xd xn b0 _ (akS xd xn hp)).gv
def Vs (xd:Dc) (K:Int→Prop) (d0:Int) (C65:Int→Prop):Prop :=
 ((decide (d0<(xd.1.length:Int)))=true→aeB xd d0∧((decide ((rD xd d0)>(xd.1.length:Int)))=true→K 8)∧((decide ((rD xd d0)>(xd.1.length:Int)))=false→((decide ((rD xd d0)>40))=true→K 2)∧((decide ((rD xd d0)>40))=false→C65 (w6 (d0+1)))))∧((decide (d0<(xd.1.length:Int)))=false→K 0)
def BA (xd:Dc) (K:Int→Prop):Nat→Int→Prop
 | 0,_=>False
 | k+1,d0=>Vs xd K d0 (BA xd K k)
def Vt (xd:Dc) (K:Int→Prop) (c0:Int) (C22:Int→Prop):Prop :=
 ((decide (c0<(xd.1.length:Int)))=true→0≤c0∧c0.toNat<xd.1.length∧((!(((xd.1.getD c0.toNat default).1==1)==(c0==0)))=true→K 3)∧((!(((xd.1.getD c0.toNat default).1==1)==(c0==0)))=false→(((tF (xd.1.getD c0.toNat default)) != 0)=true→K (tF (xd.1.getD c0.toNat default)))∧(((tF (xd.1.getD c0.toNat default)) != 0)=false→C22 (w6 (c0+1)))))∧((decide (c0<(xd.1.length:Int)))=false→FN xd∧(((tH xd) != 0)=true→K (tH xd))∧(((tH xd) != 0)=false→∃ k,BA xd K k 0))
def BB (xd:Dc) (K:Int→Prop):Nat→Int→Prop
 | 0,_=>False
 | k+1,c0=>Vt xd K c0 (BB xd K k)
def FP (xd:Dc) (K:Int→Prop):Prop :=
 ((decide ((xd.1.length:Int)>200))=true→K 2)∧((decide ((xd.1.length:Int)>200))=false→(((xd.1.length:Int)==0)=true→K 3)∧(((xd.1.length:Int)==0)=false→∃ k,BB xd K k 0))
theorem YA {g:ak} {u0:Option Addr} {j0:Nat} (xd:Dc) (b0:bE g qj [.slice u0 xd.1.length j0] xd.1) (K:Int→Prop)
  (hF:FP xd K):az prog 7 #[.agg (aD xd u0 j0)] g [] (fun g' H' v=>∃ (r0:Int),v=iv r0∧H'=[]∧K r0):=by
 refine aP 63 func7 rfl fun w0=>?_;refine ae (ai (cO fun iC=>?_));let A:=(xd.1.length:Int);refine av 1 [(1,pv iC 0)] kr (aa (aF (Ok.block (ae (aj 5 [.e 0] [1] [(9,.bool (decide (A>200)))] ?_)))));refine aa (aJ hF (fun hc2 hF=>?_) (fun hc2 hF=>?_))
 ·refine ae (av 1 [(2,iv 2)] kr (aa (Ok.ret (aV (aC ?_)))));exact gV (iv 2) ⟨_,rfl,rfl,hF⟩
 refine ae (aj 5 [.e 0] [1] [(14,.bool (A==0))] ?_);refine aa (aJ hF (fun hc3 hF=>?_) (fun hc3 hF=>?_))
 ·refine ae (av 1 [(2,iv 3)] kr (aa (Ok.ret (aV (aC ?_)))));exact gV (iv 3) ⟨_,rfl,rfl,hF⟩
 refine Ok.k (bG (Ok.t (aF (ae (aj 4 [.e 0] [1] [(20,.slice u0 xd.1.length j0),(21,iv A),(22,iv 0)] ?_)))));refine aa (Ok.block ?_);obtain ⟨k,hF⟩:=hF;refine fQ (fun k a W=>∃ (c0:Int),fC 63 [(1,pv iC 0),(20,.slice u0 xd.1.length j0),(21,iv A),(22,iv c0)] a∧dm w0 [.blk iC (.cells (aD xd u0 j0) 24)] g W∧BB xd K k c0) k ?_ ?_
 ·
  exact fun _ _ u v=>⟨0,fA u v hF⟩
 clear hF;rintro (_ | k22) _ _ ⟨c0,q⟩;exact (q.2.2:False).elim;refine jn (fun hF=>?_) _ _ q;refine ae (ag 1 [1,20,21,22] [(23,.bool (decide (c0<A)))] ?_);refine aa (aF (aJ hF (fun hc4 hF=>?_) (fun hc4 hF=>?_)))
 ·refine Ok.k (Ok.t (aF (Ok.block (ae (ag 1 [1,20,21,22] [(24,iv c0)] ?_)))));obtain ⟨uA,h16,hF⟩:=hF;have uz:=aT (l:=xd.1) default h16;generalize zH:(xd.1.getD c0.toNat default)=e6 at uz hF ⊢;refine ai (af.aX (e:=yN) rfl rfl underlying22 kr b0 uA uz rfl fun q5 o5 cs5 _ m1 MZ=>?_);obtain ⟨L0,A0,I0,z1,rfl,v1,q1⟩:=oN MZ;let B:=aN e6 L0 A0 I0 z1;refine ai (af.s (v:=.agg B) (bL 0 6 B m1 kr underlying48 rfl kr kr kr) rfl rfl (ai (bI #[iv 0,sv ([]:Bs),.slice none 0 0,sv ([]:Bs),iv 0,.slice none 0 0] fun ll=>?_)));refine ag 1 [1,20,21,22] [(3,iv c0),(4,pv ll 0),(26,.agg B)] ?_;refine ai (af.w 0 ?_);refine aa (aF (ae (aj 6 [.e 0] [1,4,20,21,22] [(32,.bool (!((e6.1==1)==(c0==0))))] ?_)));refine aa (dW hF rfl (fun hc8=>?_) (fun hc8=>?_))
  ·replace hF:=hF.1 hc8;refine ae (av 1 [(2,iv 3)] kr (aa (Ok.ret (aC (aV (aC (aC (aV (aC ?_)))))))));exact gV (iv 3) ⟨_,rfl,rfl,hF⟩
  replace hF:=hF.2 hc8;refine Ok.k (Ok.t (ae (aj 3 [.e 0,.k (aeD e6 v1 q1)] [1,20,21,22] [(5,iv (tF e6))] ?_)));refine aa (ae (ag 2 [1,5,20,21,22] [(36,.bool ((tF e6) != 0))] ?_));refine aa (dW hF rfl (fun mq=>?_) (fun mq=>?_))
  ·replace hF:=hF.1 mq;refine ae (av 2 [(2,iv (tF e6))] kr (aa (Ok.ret (aV (aC (aC (aV (aC ?_))))))));exact gV (iv (tF e6)) ⟨_,rfl,rfl,hF⟩
  replace hF:=hF.2 mq;refine Ok.k (bG (Ok.t (aR (ag 2 [1,20,21] [(22,iv (w6 (c0+1)))] ?_))));refine bV (Ok.t ?_);subst zH;exact fun _ _ u v=>⟨k22,nl,w6 (c0+1),fA u v hF⟩
 refine fw (ay (ay (aM (Ok.t (aF (aF (aR ?_)))))));obtain ⟨Dy,hF⟩:=hF;refine aj 3 [.e 0,.k (aeG xd b0 Dy)] [1] [(6,iv (tH xd))] ?_;refine aa (ae (ag 2 [1,6] [(42,.bool ((tH xd) != 0))] ?_));refine aa (aJ hF (fun F0 hF=>?_) (fun F0 hF=>?_))
 ·refine ae (av 2 [(2,iv (tH xd))] kr (aa (Ok.ret (aC ?_))));exact gV (iv (tH xd)) ⟨_,rfl,rfl,hF⟩
 refine Ok.k (Ok.t (aF (ae (aj 4 [.e 0] [1] [(46,iv (xd.1.length:Int)),(47,iv 0)] ?_))));refine aa (Ok.block ?_);obtain ⟨k,hF⟩:=hF;refine fQ (fun k a W=>∃ (d0:Int),fC 63 [(1,pv iC 0),(46,iv (xd.1.length:Int)),(47,iv d0)] a∧dm w0 [.blk iC (.cells (aD xd u0 j0) 24)] g W∧BA xd K k d0) k ?_ ?_
 ·
  exact fun _ _ u v=>⟨0,fA u v hF⟩
 clear hF;rintro (_ | k65) _ _ ⟨d0,q⟩;exact (q.2.2:False).elim;refine jn (fun hF=>?_) _ _ q;refine ae (ag 1 [1,46,47] [(48,.bool (decide (d0<(xd.1.length:Int))))] ?_);refine aa (aF (aJ hF (fun G0 hF=>?_) (fun G0 hF=>?_)))
 ·refine Ok.k (Ok.t (aF (Ok.block (ae (ag 2 [1,46,47] [(7,iv d0)] ?_)))));refine aa (aF (aR ?_));obtain ⟨zD,hF⟩:=hF;refine aj 4 [.e 0,.k (akR xd d0 b0 zD)] [1,46,47] [(8,iv (rD xd d0))] ?_;refine aa (Ok.block (ae (aj 6 [.e 0] [1,8,46,47] [(53,.bool (decide ((rD xd d0)>(xd.1.length:Int))))] ?_)));refine aa (aJ hF (fun Nb hF=>?_) (fun Nb hF=>?_))
  ·refine ae (av 1 [(2,iv 8)] kr (aa (Ok.ret (aV (aV (aC (aC (aV (aC ?_)))))))));exact gV (iv 8) ⟨_,rfl,rfl,hF⟩
  refine ae (ag 3 [1,46,47] [(59,.bool (decide ((rD xd d0)>40)))] ?_);refine aa (aJ hF (fun E0 hF=>?_) (fun E0 hF=>?_))
  ·refine ae (av 1 [(2,iv 2)] kr (aa (Ok.ret (aV (aV (aC (aC (aV (aC ?_)))))))));exact gV (iv 2) ⟨_,rfl,rfl,hF⟩
  refine Ok.k (bG (bG (Ok.t (aR (ag 2 [1,46] [(47,iv (w6 (d0+1)))] ?_)))));refine bV (Ok.t ?_);exact fun _ _ u v=>⟨k65,nl,w6 (d0+1),fA u v hF⟩
 refine fw (ay (ay (aM (Ok.t (ae (av 1 [(2,iv 0)] kr (aa (Ok.ret ?_))))))));exact gV (iv 0) ⟨_,rfl,rfl,hF⟩
structure gN (d:DC):Prop where
 pos:1≤d.1.length
 few:d.1.length≤200
 kids:pQ d.1
 deep:∀ n,n<d.1.length→rD d n≤40
 ends:∀ n,n<d.1.length→rD d n≤(d.1.length:Int)
 kind:∀ n,n<d.1.length→(((d.1.getD n default).1==1)=decide (n=0))
 vals:∀ n,n<d.1.length→mV (d.1.getD n default).2.2.1
def yJ (d:DC):Prop:=∀ x ∈ d.1,x.2.2.2.2.2.length≤maxLen
theorem YB (d:DC) (hp:yJ d):∃ e,FP d (fun r=>r=e)∧(e=0→gN d):=by
 have no:∀ {e:Int},e≠0→(e=0→gN d):=fun h h0=>absurd h0 h;refine gY (fun _=>pF (no dc)) fun h1=>gY (fun _=>pF (no dc)) fun h2=>?_;have h1:=fq h1
 have h2:¬ d.1.length=0:=by
  intro h0;rw [h0] at h2;exact absurd h2 dc
 have hkp:FN d:=⟨om,om,hp⟩
 have last:tH d=0→(∀ n,n<d.1.length→(((d.1.getD n default).1==1)=decide (n=0)))→(∀ n,n<d.1.length→mV (d.1.getD n default).2.2.1)→∀ (k i:Nat),i+k=d.1.length→(∀ j,j<i→rD d j≤40∧rD d j≤(d.1.length:Int))→∃ e,BA d (fun r=>r=e) (k+1) (i:Int)∧(e=0→gN d):=by
  intro hz hkind hval k;have hkg:=(PS d hkp).2 hz
  induction k with
  | zero =>
   intro i h hj;exact gY (fun h=>od h) (fun _=>pF fun _=>⟨om,om,hkg,fun n hn=>(hj n om).1,fun n hn=>(hj n om).2,hkind,hval⟩)
  | succ k ih =>
   intro i h hj;refine gY (fun _=>fG ⟨om,hkg,om,om⟩ (gY (fun _=>pF (no dc)) fun hm=>gY (fun _=>pF (no dc)) fun h40=>?_)) (fun h=>oe h);rw [fU om];refine ih (i+1) om fun j hj2=>?_
   by_cases hji:j<i
   ·exact hj j hji
   have:j=i:=om;subst this;have h1:=fq h40;have h2:=fq hm;exact ⟨om,om⟩
 have loop:∀ (k i:Nat),i+k=d.1.length→(∀ n,n<i→(((d.1.getD n default).1==1)=decide (n=0)))→(∀ n,n<i→mV (d.1.getD n default).2.2.1)→∃ e,BB d (fun r=>r=e) (k+1) (i:Int)∧(e=0→gN d):=by
  intro k
  induction k with
  | zero =>
   intro i h hj hv;refine gY (fun h=>od h) (fun _=>fG hkp (gY (fun hne=>pF (no (by simpa using hne))) fun hz=>vH _ (last (by simpa using hz) (fun n hn=>hj n om) (fun n hn=>hv n om) d.1.length 0 om fun j hj=>absurd hj om)))
  | succ k ih =>
   intro i h hj hv;refine gY (fun _=>fG om (fG (by rw [dR]; omega) (gY (fun _=>pF (no dc)) fun hk=>gY (fun hne=>pF (no (by simpa using hne))) fun ho=>?_))) (fun h=>oe h);rw [fU om]
   have ho':tF (d.1.getD i default)=0:=by rw [dR] at ho; simpa using ho
   refine ih (i+1) om (fun n hn=>?_) fun n hn=>?_
   rotate_left
   ·by_cases hni:n<i
    ·exact hv n hni
    have:n=i:=om;subst this;exact (PQ _).2 ho'
   by_cases hni:n<i
   ·exact hj n hni
   have:n=i:=om;subst this;rw [dR] at hk
   have h2:(((d.1.getD n default).1==1)==((n:Int)==0))=true:=by simpa using hk
   rw [dJ.1 h2];rw [uX,dJ,dI]; omega
 exact vH _ (loop d.1.length 0 om (fun n hn=>absurd hn om) fun n hn=>absurd hn om)
noncomputable def je (d:DC):Int:=Fq fun e=>FP d (fun r=>r=e)∧(e=0→gN d)
theorem PV (d:DC) (hp:yJ d):FP d (fun r=>r=je d)∧(je d=0→gN d):=yg (A:=fun e=>FP d (fun r=>r=e)∧(e=0→gN d)) (YB d hp)
theorem aeP (d:DC) (hp:yJ d):FP d (fun r=>r=je d):=(PV d hp).1
theorem Vu {g:ak} {u0:Option Addr} {j0:Nat} (xd:Dc) (b0:bE g qj [.slice u0 xd.1.length j0] xd.1)  (hp:yJ xd):bC prog 7 #[.agg (aD xd u0 j0)] g (iv (je xd)) :=
 (YA xd b0 _ (aeP xd hp)).gv
end Go.Proofs.YtdapgmigogpdcaaGreatDoor.Do
