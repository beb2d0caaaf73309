/-
 A slice of the call's own is cut at its end and kept. No program in sight.
-/
import Derived.Test.YtdapgmigogpdcaaGreatDoorByt
import Derived.Test.YtdapgmigogpdcaaGreatDoorEng
import Derived.Test.YtdapgmigogpdcaaGreatDoorExi
import Derived.Test.YtdapgmigogpdcaaGreatDoorSha
import Derived.Shelf.Strings.SlTrimAscii
namespace Go.iQ
open Go.RowKit (Below)
set_option linter.unusedVariables false
section
variable {P:Program} {n:nP} {w0:Base} {m:Env} {H:List b_} {g:ak} {R:Act→World→Prop} {Q:Exit→Act→World→Prop} {ops:Array Oper}
theorem aW.take {e:Ty}:∀ {l:List e.den} {xs:List Value} (k:Nat),aW g e xs l→aW g e (xs.take (k * e.size)) (l.take k)
 | l,xs,0,_=>by rw [wZ,List.take_zero,List.take_zero]; rfl
 | [],xs,k+1,h=>by rw [show xs=[] from h]; simp; rfl
 | x::l,xs,k+1,⟨c,r,h1,h2,h3⟩=>by
  refine ⟨c,r.take (k * e.size),?_,h2,aW.take k h3⟩
  rw [h1,uK,Nat.add_comm,← h2.size,List.take_length_add_append]
theorem qc {K:Act→World→Prop} {d:Nat} {T E ty:TypeId} {x o:Operand} {pos:String} {after:Array Edge} {gd:Option (Nat×Bool)} {k:IntKind} {h:Int} {e:Ty} {l:List e.den} {xs:List Value} {a:Option Addr} {c:Nat}
  (i:Nat) (hx:val m x=some (.slice a l.length c)) (ho:val m o=some (.int k h)) (hi:H[i]? = some (.own (.slice a l.length c) E e.size l.length xs)) (hR:aW g e xs l)
  (hu:P.underlying T=some (.slice E)) (hs:(P.info? E).map (·.size)=some e.size) (h0:0≤h) (h2:h≤(l.length:Int)) (hn:Nat.ble (d+1) n=true)
  (hk:∀ yT,aW g e yT (l.take h.toNat)→Ok n w0 ((d,.slice a (l.take h.toNat).length c)::m) (H.set i (.own (.slice a (l.take h.toNat).length c) E e.size (l.take h.toNat).length yT)) g K) :
  af P K Q ⟨some d,.slice T x none (some o) none,ty,pos,after,gd⟩ n w0 m H g:=fun ac W hA hW=>by
 have hok:W.ownsRow 0 E e.size (.slice a l.length c) l.length xs:=hW.fT _ (iq hi)
 have hlen:(l.take h.toNat).length=h.toNat:=by rw [gz]; omega
 have hl:(l.length:Int)≤c:=by
  rcases hok.2 with ⟨he,hl⟩ | ⟨b,cap,cur,he,hB,hh,hcap,hmax,hsize,htake⟩
  ·simp only [Value.slice.injEq] at he; omega
  simp only [Value.slice.injEq] at he; omega
 have e1:((h.toNat:Nat):Int)=h:=om
 have hcap:h≤(c:Int):=om
 show Oper.upon P _ ac _ Q (Sem.run P (execOp ac.eval _) W)
 have ev:(execOp ac.eval ⟨some d,.slice T x none (some o) none,ty,pos,after,gd⟩).run P W=.ok (.value (.slice a h.toNat c)) W:=by
  cases gQ:P.info? E with
  | none=>simp [gQ] at hs
  | some inf =>
   simp only [gQ,mK,jy] at hs
   simp only [execOp,hA.eval hx,hA.eval ho,mK,Option.map_none]
   simp [Instr.sliceAt,underlying,hu,Instr.slice,Instr.sliceBounds,Instr.sliceBound,asIntOf,h0,hcap,sizeOf,typeInfo,gQ,go_sem]
 rw [ev,Oper.upon_value]
 have hk:=hk _ (aW.take h.toNat hR)
 rw [hlen] at hk
 refine hk _ W (hA.put (gm hn) _) (hW.grown (e':=.own (.slice a h.toNat c) E e.size h.toNat (xs.take (h.toNat * e.size))) hi ⟨rfl,rfl,rfl,fK _,fun _ _ _=>rfl⟩ ?_ (.inl ?_))
 ·show W.ownsRow 0 E e.size (.slice a h.toNat c) h.toNat (xs.take (h.toNat * e.size))
  have hlx:=hok.1
  refine ⟨?_,?_⟩
  ·rw [gz,hlx]
   exact og (qE _ (om))
  rcases hok.2 with ⟨he,hl⟩ | ⟨b,cap,cur,he,hB,hh,hcap,hmax,hsize,htake⟩
  ·simp only [Value.slice.injEq] at he
   obtain ⟨rfl,-,rfl⟩:=he
   exact .inl ⟨by rw [show h.toNat=0 by omega],om⟩
  simp only [Value.slice.injEq,true_and] at he
  obtain ⟨rfl,rfl⟩:=he
  refine .inr ⟨b,c,cur,rfl,hB,hh,om,hmax,hsize,?_⟩
  rw [← htake,w9,og (qE _ (om))]
 show (Value.slice a h.toNat c).ownBlock=(Value.slice a l.length c).ownBlock
 cases a <;> rfl
end
end Go.iQ
namespace Go.iQ
open Go.RowKit (Below)
set_option linter.unusedVariables false
section
variable {P:Program} {ops:Array Oper} {Q:Exit→Act→World→Prop}
section
variable {B:Type} {C:B→World→Prop} {S:Nat→B→Prop} {T:Nat→B→Prop} {md:Region.Mode} {Qn:Act→World→Prop}
end
variable {n:nP} {w0:Base} {m:Env} {H:List b_} {g:ak} {g0:ak} {R:Act→World→Prop}

theorem Yc {id:Nat} {l:List Oper} (pre soft:List Nat) (Hf H0:List b_) (os:List (Nat×Bool)) (hm:P.follows .mixedOrders=true) (hB:JJ l.toArray pre soft os=true) (hs:List.Sublist H0 Hf) (hf:List.Sublist Hf H)
  (h:eF P l.toArray n w0 g pre soft Hf H0 m H g (Q .normal) os):Ok n w0 m H g ((Code.region id l.toArray true).wp P Q) :=
 fun a _ hA hW=>vO (C:=fun c W=>dh w0 c.2 c.1 W) (S:=fun i c=>lC g c.1∧List.Sublist (bif soft.contains i then Hf else H0) c.2) (T:=EB g pre Hf H0) (c:=(g,H)) os hm hB (fun c i j h hp=>⟨h.1,by
  have h2:=h.2
  rcases hp with hp | hp
  ·rw [hp] at h2
   cases pre.contains i
   ·exact hs.trans h2
   exact h2
  ·rw [hp]
   cases hj:soft.contains j
   ·rw [hj] at h2; exact h2
   rw [hj] at h2; exact hs.trans h2⟩) (fun i=>⟨lC.refl g,by
  cases pre.contains i
  ·exact hs.trans hf
  exact hf⟩) (hW.of_below ((Below.refl _ _).drew)) (h a hA)

end
end Go.iQ
namespace Go.Proofs.YtdapgmigogpdcaaGreatDoor.Ti
open Go Go.iQ Go.RowKit Go.Shelf Go.Proofs
set_option linter.unusedVariables false
def Du (s:Bs) (c:Int):Int:=Lib.indexByte s c.toNat.toUInt8
theorem aa6 {g:ak} (s:Bs) (c:Int):bE Tryz.prog 65 #[.string ⟨⟨s⟩⟩,.int .u8 c] g (.int .i64 (Du s c)):=fun W hW =>
 (Tryz.strings_IndexByte ⟨⟨s⟩⟩ c W).mono fun e W' ⟨he,hw⟩=>⟨he,by subst hw; exact Below.refl _ _⟩
def Nu (s cut:Bs):Prop:=s.length≤9223372036854775807∧cut.length<4294967281∧cut.all (fun x=>decide (x.toNat<128))=true
def trimS (s cut:Bs):Bs:=Lib.trimS s cut
theorem trim_c {g:ak} (s cut:Bs) (hp:Nu s cut):bE Tryz.prog 101 #[.string ⟨⟨s⟩⟩,.string ⟨⟨cut⟩⟩] g (.string ⟨⟨trimS s cut⟩⟩):=fun W hW=>by
 obtain ⟨h1,h2,h3⟩:=hp
 exact (Any.strings_Trim_laid Tryz.WB kr ⟨⟨s⟩⟩ ⟨⟨cut⟩⟩ W h1 h2 (ascii_of_all h3)).mono fun e w' ⟨he,hw⟩=>⟨he,hw⟩
end Go.Proofs.YtdapgmigogpdcaaGreatDoor.Ti
namespace Go.Proofs.YtdapgmigogpdcaaGreatDoor.Do
open _root_.Go.Proofs.Tryz Go Go.iQ Go.RowKit Ti
set_option linter.unusedVariables false
set_option linter.unusedSimpArgs false
theorem wF {p:Prop} (h:p:=by first | (show (26:Int)≤39; omega) | (rw [l9]; decide) | omega | assumption | exact trivial | (have h0:=List.length_pos_iff.mpr asm; omega) | (simp; omega) | (simp at *; omega)):p:=h
set_option maxHeartbeats 4000000
set_option maxRecDepth 100000
theorem Gz {s:Bs} {n:Int} (h:((!(s==([]:Bs)))&&decide ((s.length:Int)≤n))=true):Int.toNat 0<s.length:=by
 rw [aG,dA,dR] at h
 exact List.length_pos_iff.2 h.1
theorem CV {s:Bs} {n:Int} {t:Bs} (h:((!(s==([]:Bs)))&&decide ((s.length:Int)≤n))=true) (hn:n≤1000) (ht:t.length<4294967281∧t.all (fun x=>decide (x.toNat<128))=true):Nu s t:=by
 rw [aG,dH] at h
 exact ⟨om,ht.1,ht.2⟩
abbrev cS:Bs:=[97,98,99,100,101,102,103,104,105,106,107,108,109,110,111,112,113,114,115,116,117,118,119,120,121,122,48,49,50,51,52,53,54,55,56,57,45,95,58]
def zD (xs:Bs) (ek:Bs) (K:Bool→Prop):Prop :=
 K (((!(xs==([]:Bs)))&&(decide ((xs.length:Int)≤40)))&&((decide ((Du ek ((xs.getD (Int.toNat 0) 0).toNat:Int))≥0))&&(trimS xs cS==([]:Bs))))
def OV (xs:Bs) (ek:Bs) (K:Bool→Prop):Prop :=
 (((!(xs==([]:Bs)))&&(decide ((xs.length:Int)≤40)))=true→(0:Int)≤0∧Int.toNat 0<xs.length∧((decide ((Du ek ((xs.getD (Int.toNat 0) 0).toNat:Int))≥0))=true→Nu xs cS∧zD xs ek K)∧((decide ((Du ek ((xs.getD (Int.toNat 0) 0).toNat:Int))≥0))=false→zD xs ek K))∧(((!(xs==([]:Bs)))&&(decide ((xs.length:Int)≤40)))=false→zD xs ek K)
theorem Xq {g:ak} (xs:Bs) (ek:Bs) (K:Bool→Prop)
  (hF:OV xs ek K):az prog 59 #[sv xs,sv ek] g [] (fun g' H' v=>∃ (r0:Bool),v=.bool r0∧H'=[]∧K r0):=by
 refine aP 24 func59 rfl fun w0=>?_
 let A:=!(xs==([]:Bs))
 refine ae (av 1 [(0,sv xs),(1,sv ek)] kr (aa (gD [(4,.bool ((A&&(decide ((xs.length:Int)≤40)))&&((decide ((Du ek ((xs.getD (Int.toNat 0) 0).toNat:Int))≥0))&&(trimS xs cS==([]:Bs)))))] [] (zD xs ek K) ?_ (fun hF=>?_))))
 ·
  refine aS (aj 3 [] [0,1] [(7,.bool A)] ?_)
  refine Ok.w 4 [(0,sv xs),(1,sv ek),(11,.bool (A&&(decide ((xs.length:Int)≤40))))] (fun AA=>?_) ?_
  ·refine Ok.a 7 A rfl (fun hc2=>?_) (fun hc2=>?_)
   ·skip
    refine ag 4 [0,1] [(11,.bool (decide ((xs.length:Int)≤40)))] ?_
    refine aB 11 (A&&(decide ((xs.length:Int)≤40))) (aZ hc2) (ag 0 [0,1] [(11,.bool (A&&(decide ((xs.length:Int)≤40))))] ?_)
    exact AA
   skip
   refine ag 4 [0,1] [(11,.bool false)] ?_
   refine aB 11 (A&&(decide ((xs.length:Int)≤40))) (bW hc2) (ag 0 [0,1] [(11,.bool (A&&(decide ((xs.length:Int)≤40))))] ?_)
   exact AA
  refine ag 1 [0,1] [(12,.bool (A&&(decide ((xs.length:Int)≤40))))] ?_
  refine bN 12 hF (fun hc3 hF=>?_) (fun hc3 hF=>?_)
  ·refine ag 2 [0] [(12,.bool true),(13,sv ek),(14,sv xs)] ?_
   obtain ⟨qA,ru,hF⟩:=hF
   have pR:=aV (l:=xs) (0:UInt8) ru
   generalize hg4:(xs.getD (Int.toNat 0) 0)=e4 at pR hF ⊢
   let B:=(e4.toNat:Int)
   refine dW (af.s (v:=.int .u8 B) (dO (k:=.i64) (i:=0) (s:=xs) (b:=e4) kr kr underlying9 qA pR) rfl rfl (aj 4 [.k (aa6 ek B)] [0] [(19,.bool (decide (Du ek B≥0)))] ?_))
   refine Ok.a 19 (decide (Du ek B≥0)) rfl (fun j4=>?_) (fun j4=>?_)
   ·replace hF:=hF.1 j4
    obtain ⟨hp6,hF⟩:=hF
    refine aj 5 [.k (trim_c xs cS hp6)] [] [(4,.bool (trimS xs cS==([]:Bs)))] ?_
    refine bY (Ok.t ?_)
    subst hg4
    refine aB 4 (((!(xs==([]:Bs)))&&(decide ((xs.length:Int)≤40)))&&((decide ((Du ek ((xs.getD (Int.toNat 0) 0).toNat:Int))≥0))&&(trimS xs cS==([]:Bs)))) (au (aZ j4) (aZ hc3)) ?_
    exact fz hF
   replace hF:=hF.2 j4
   refine av 5 [(4,.bool false)] kr (bY (Ok.t ?_))
   subst hg4
   refine aB 4 (((!(xs==([]:Bs)))&&(decide ((xs.length:Int)≤40)))&&((decide ((Du ek ((xs.getD (Int.toNat 0) 0).toNat:Int))≥0))&&(trimS xs cS==([]:Bs)))) (au (bW j4) (aZ hc3)) ?_
   exact fz hF
  refine av 12 [(4,.bool false)] kr (aa (aB 4 (((!(xs==([]:Bs)))&&(decide ((xs.length:Int)≤40)))&&((decide ((Du ek ((xs.getD (Int.toNat 0) 0).toNat:Int))≥0))&&(trimS xs cS==([]:Bs)))) (bW hc3) ?_))
  exact fz hF
 refine Ok.ret ?_
 exact dD (((!(xs==([]:Bs)))&&(decide ((xs.length:Int)≤40)))&&((decide ((Du ek ((xs.getD (Int.toNat 0) 0).toNat:Int))≥0))&&(trimS xs cS==([]:Bs)))) hF
def Io (xs:Bs) (ek:Bs):Bool:=(((!(xs==([]:Bs)))&&(decide ((xs.length:Int)≤40)))&&((decide ((Du ek ((xs.getD (Int.toNat 0) 0).toNat:Int))≥0))&&(trimS xs cS==([]:Bs))))
theorem DW (xs:Bs) (ek:Bs) (P:Bool→Prop) (h:P (Io xs ek)):zD xs ek (fun k0=>P k0):=by
 unfold Io at h
 unfold zD
 exact h
def rC (xs:Bs) (ek:Bs):Bool:=(Io xs ek)
theorem Xr (xs:Bs) (ek:Bs) (P:Bool→Prop) (h:P (rC xs ek)):OV xs ek (fun k0=>P k0):=by
 unfold rC at h
 unfold OV
 refine ⟨fun hc0=>?_,fun hc0=>?_⟩
 ·skip
  have hd0:=hc0; try simp only [aG,dU,fw,dC,dA,eT,dH,eQ,dI,dR,fV] at hd0
  refine ⟨?_,?_,?_⟩
  ·first | exact CV asm dc dc | exact Gz asm | omega | assumption | exact trivial | (have h0:=List.length_pos_iff.mpr asm; omega) | (simp; omega) | (simp at *; omega)
  ·first | exact CV asm dc dc | exact Gz asm | omega | assumption | exact trivial | (have h0:=List.length_pos_iff.mpr asm; omega) | (simp; omega) | (simp at *; omega)
  refine ⟨fun hc1=>?_,fun hc1=>?_⟩
  ·skip
   have hd1:=hc1; try simp only [aG,dU,fw,dC,dA,eT,dH,eQ,dI,dR,fV] at hd1
   refine ⟨?_,?_⟩
   ·first | exact CV asm dc dc | exact Gz asm | omega | assumption | exact trivial | (have h0:=List.length_pos_iff.mpr asm; omega) | (simp; omega) | (simp at *; omega)
   exact DW xs ek _ h
  skip
  have hd1:=hc1; try simp only [aG,dU,fw,dC,dA,eT,dH,eQ,dI,dR,fV] at hd1
  exact DW xs ek _ h
 skip
 have hd0:=hc0; try simp only [aG,dU,fw,dC,dA,eT,dH,eQ,dI,dR,fV] at hd0
 exact DW xs ek _ h
theorem adD (xs:Bs) (ek:Bs):OV xs ek (fun k0=>k0=rC xs ek) :=
 Xr xs ek (fun z=>z=rC xs ek) rfl
theorem Uk {g:ak} (xs:Bs) (ek:Bs)  : bE prog 59 #[sv xs,sv ek] g (.bool (rC xs ek)) :=
 (Xq xs ek _ (adD xs ek)).gv
def O6 (xs:Bs) (K:Bool→Prop):Prop :=
 (0:Int)≤0∧(0:Int)≤26∧26≤(cS.length:Int)∧K (rC xs (cS.take (Int.toNat 26)))
theorem XN {g:ak} (xs:Bs) (K:Bool→Prop)
  (hF:O6 xs K):az prog 34 #[sv xs] g [] (fun g' H' v=>∃ (r0:Bool),v=.bool r0∧H'=[]∧K r0):=by
 refine aP 6 func34 rfl fun w0=>?_
 refine ae (av 1 [(0,sv xs)] kr (aa (ae (av 1 [(3,sv xs)] kr ?_))))
 obtain ⟨h01,h11,h21,hF⟩:=hF
 refine ai (af.s (bZ (s:=cS) (l:=0) (h:=26) kr underlying9 (.inr ⟨rfl,rfl⟩) (.inl ⟨_,_,rfl,rfl⟩) h01 h11 h21 (cS.take (Int.toNat 26)) (by simp)) rfl rfl (aj 2 [.k (Uk xs (cS.take (Int.toNat 26)))] [] [(2,.bool (rC xs (cS.take (Int.toNat 26))))] ?_))
 refine aa (Ok.ret ?_)
 exact dD (rC xs (cS.take (Int.toNat 26))) hF
def uA (xs:Bs):Bool:=(rC xs (cS.take (Int.toNat 26)))
theorem XO (xs:Bs) (P:Bool→Prop) (h:P (uA xs)):O6 xs (fun k0=>P k0):=by
 unfold uA at h
 unfold O6
 refine ⟨?_,?_,?_,?_⟩
 ·exact wF
 ·exact wF
 ·exact wF
 exact h
theorem adV (xs:Bs):O6 xs (fun k0=>k0=uA xs) :=
 XO xs (fun z=>z=uA xs) rfl
theorem adU {g:ak} (xs:Bs)  : bE prog 34 #[sv xs] g (.bool (uA xs)) :=
 (XN xs _ (adV xs)).gv
def O5 (xs:Bs) (K:Bool→Prop):Prop :=
 (0:Int)≤0∧(0:Int)≤26∧26≤(cS.length:Int)∧(cS.take (Int.toNat 26)).length+([45,95]:Bs).length≤maxLen∧K (rC xs (cS.take (Int.toNat 26)++([45,95]:Bs)))
theorem XL {g:ak} (xs:Bs) (K:Bool→Prop)
  (hF:O5 xs K):az prog 60 #[sv xs] g [] (fun g' H' v=>∃ (r0:Bool),v=.bool r0∧H'=[]∧K r0):=by
 refine aP 7 func60 rfl fun w0=>?_
 refine ae (av 1 [(0,sv xs)] kr (aa (ae (av 1 [(3,sv xs)] kr ?_))))
 obtain ⟨h01,h11,h21,hF⟩:=hF
 refine ai (af.s (bZ (s:=cS) (l:=0) (h:=26) kr underlying9 (.inr ⟨rfl,rfl⟩) (.inl ⟨_,_,rfl,rfl⟩) h01 h11 h21 (cS.take (Int.toNat 26)) (by simp)) rfl rfl ?_)
 obtain ⟨hv,hF⟩:=hF
 let A:=cS.take (Int.toNat 26)++([45,95]:Bs)
 refine ai (af.s (v:=sv A) (dx rfl rfl hv) rfl rfl (aj 2 [.k (Uk xs A)] [] [(2,.bool (rC xs A))] ?_))
 refine aa (Ok.ret ?_)
 exact dD (rC xs A) hF
def Am (xs:Bs):Bool:=(rC xs (cS.take (Int.toNat 26)++([45,95]:Bs)))
theorem XM (xs:Bs) (P:Bool→Prop) (h:P (Am xs)):O5 xs (fun k0=>P k0):=by
 unfold Am at h
 unfold O5
 refine ⟨?_,?_,?_,?_⟩
 ·exact wF
 ·exact wF
 ·exact wF
 refine ⟨?_,?_⟩
 ·exact wF
 exact h
theorem adT (xs:Bs):O5 xs (fun k0=>k0=Am xs) :=
 XM xs (fun z=>z=Am xs) rfl
theorem adS {g:ak} (xs:Bs)  : bE prog 60 #[sv xs] g (.bool (Am xs)) :=
 (XL xs _ (adT xs)).gv
def XE (xa:Bs×Bs) (x1:Bs) (K:Bool→Prop):Prop :=
 K (xa.1==x1)
theorem adL {g:ak} (xa:Bs×Bs) {bx1 ox1:Nat} (x1:Bs) (C0:PtrTo g (.str) bx1 ox1 x1) (K:Bool→Prop)
  (hF:XE xa x1 K):az prog 103 #[.agg #[sv xa.1,sv xa.2],pv bx1 ox1] g [] (fun g' H' v=>∃ (r0:Bool),v=.bool r0∧H'=[]∧K r0):=by
 refine aP 8 func103 rfl fun w0=>?_
 obtain ⟨aue,_,Y0,amn⟩:=C0
 obtain rfl:=amn
 replace Y0:At g bx1 ox1 [sv x1]:=Y0
 refine ae (ai (di fun eO=>?_))
 refine av 1 [(1,pv bx1 ox1),(2,pv eO 0)] kr (aa (ae (aj 5 [.e 0,.a 0 Y0] [] [(3,.bool (xa.1==x1))] ?_)))
 refine aa (Ok.ret ?_)
 exact dD (xa.1==x1) hF
def DX (xa:Bs×Bs) (x1:Bs):Bool:=(xa.1==x1)
theorem adM (xa:Bs×Bs) (x1:Bs) (P:Bool→Prop) (h:P (DX xa x1)):XE xa x1 (fun k0=>P k0):=by
 unfold DX at h
 unfold XE
 exact h
theorem ajn (xa:Bs×Bs) (x1:Bs):XE xa x1 (fun k0=>k0=DX xa x1) :=
 adM xa x1 (fun z=>z=DX xa x1) rfl
theorem ajm {g:ak} (xa:Bs×Bs) {bx1 ox1:Nat} (x1:Bs) (C0:PtrTo g (.str) bx1 ox1 x1)  : bE prog 103 #[.agg #[sv xa.1,sv xa.2],pv bx1 ox1] g (.bool (DX xa x1)) :=
 (adL xa x1 C0 _ (ajn xa x1)).gv
def Xz (xs:List (Bs×Bs)) (xf:(Bs×Bs)→Bool) (Lr:(Bs×Bs)→Prop) (K:Int→Prop) (b0:Int) (C7:Int→Prop):Prop :=
 ((decide (b0<(xs.length:Int)))=true→0≤b0∧b0.toNat<xs.length∧Lr (xs.getD b0.toNat default)∧((xf (xs.getD b0.toNat default))=true→K b0)∧((xf (xs.getD b0.toNat default))=false→C7 (w6 (b0+1))))∧((decide (b0<(xs.length:Int)))=false→K (-1))
def Ir (xs:List (Bs×Bs)) (xf:(Bs×Bs)→Bool) (Lr:(Bs×Bs)→Prop) (K:Int→Prop):Nat→Int→Prop
 | 0,_=>False
 | k+1,b0=>Xz xs xf Lr K b0 (Ir xs xf Lr K k)
def YW (xs:List (Bs×Bs)) (xf:(Bs×Bs)→Bool) (Lr:(Bs×Bs)→Prop) (K:Int→Prop):Prop :=
 ∃ k,Ir xs xf Lr K k 0
theorem XA {g:ak} {axs_0:Option Addr} {cxs_0:Nat} (xs:List (Bs×Bs)) {vxf:Value} (xf:(Bs×Bs)→Bool) (Lr:(Bs×Bs)→Prop) (o0:bG g (.slice yA) [.slice axs_0 xs.length cxs_0] xs) (abL:∀ (y0:Bs×Bs),Lr y0→Zb prog vxf #[.agg #[sv y0.1,sv y0.2]] g (.bool (xf y0))) (K:Int→Prop)
  (hF:YW xs xf Lr K):az prog 102 #[.slice axs_0 xs.length cxs_0,vxf] g [] (fun g' H' v=>∃ (r0:Int),v=iv r0∧H'=[]∧K r0):=by
 refine aP 19 func102 rfl fun w0=>?_
 let B:=(xs.length:Int)
 refine ae (av 1 [(0,.slice axs_0 xs.length cxs_0),(1,vxf)] kr (aa (aH (ae (ag 3 [0,1] [(7,iv B),(8,iv 0)] ?_)))))
 refine aa (Ok.block ?_)
 obtain ⟨k,hF⟩:=hF
 refine gF (fun k a W=>∃ (b0:Int),fJ 19 [(0,.slice axs_0 xs.length cxs_0),(1,vxf),(7,iv B),(8,iv b0)] a∧dh w0 [] g W∧Ir xs xf Lr K k b0) k ?_ ?_
 ·
  exact fun _ _ u v=>⟨0,fA u v hF⟩
 clear hF
 rintro (_ | k7) _ _ ⟨b0,q⟩
 exact (q.2.2:False).elim
 refine jn (fun hF=>?_) _ _ q
 refine ae (ag 1 [0,1,7,8] [(9,.bool (decide (b0<B)))] ?_)
 refine aa (aH (aM hF (fun hc1 hF=>?_) (fun hc1 hF=>?_)))
 ·refine Ok.k (Ok.t (aH (Ok.block (ae (ag 2 [0,1,7,8] [(5,iv b0)] ?_)))))
  refine aa (ae (ag 3 [0,1,5,7,8] [(11,vxf),(12,.slice axs_0 xs.length cxs_0),(13,iv b0)] ?_))
  obtain ⟨Eu,Et,hF⟩:=hF
  have yu:=aV (l:=xs) default Et
  generalize hg3:(xs.getD b0.toNat default)=e3 at yu hF ⊢
  refine ai (af.bf (e:=.pair (.str) (.str)) rfl rfl underlying45 kr o0 Eu yu rfl fun q2 o2 cs2 _ D0 hr2=>?_)
  obtain ⟨_,_,rfl,rfl,rfl⟩:=hr2
  replace D0:At g q2 o2 [sv e3.1,sv e3.2]:=D0
  let A:=(#[sv e3.1,sv e3.2]:Array Value)
  refine ai (af.s (v:=.agg A) (bU 0 2 A D0 kr underlying105 rfl kr kr kr) rfl rfl ?_)
  obtain ⟨hq4,hF⟩:=hF
  refine ai (Ng (args:=#[.agg A]) (v:=.bool (xf e3)) rfl kr kr (abL e3 hq4) rfl (aa (ed hF rfl (fun j4=>?_) (fun j4=>?_))))
  ·replace hF:=hF.1 j4
   refine ae (av 2 [(4,iv b0)] kr (aa (Ok.ret (aU (aC (aC (aU (aC ?_))))))))
   exact rG (iv b0) ⟨_,rfl,rfl,hF⟩
  replace hF:=hF.2 j4
  refine Ok.k (bJ (Ok.t (aS (ag 2 [0,1,7] [(8,iv (w6 (b0+1)))] ?_))))
  refine bY (Ok.t ?_)
  subst hg3
  exact fun _ _ u v=>⟨k7,nl,w6 (b0+1),fA u v hF⟩
 refine fU (aA (aA (aO (Ok.t (ae (av 1 [(4,iv (-1))] kr (aa (Ok.ret ?_))))))))
 exact rG (iv (-1)) ⟨_,rfl,rfl,hF⟩
def jW {α:Type} (f:α→Bool):List α→Nat→Int
 | [],_=>-1
 | x::l,i=>if f x=true then (i:Int) else jW f l (i+1)
def Ak (l:List (Bs×Bs)) (f:(Bs×Bs)→Bool):Int:=jW f l 0
def Ur (l:List (Bs×Bs)) (_:(Bs×Bs)→Bool) (p:(Bs×Bs)→Prop):Prop:=l.length≤1000000∧∀ y,p y
theorem adI (l:List (Bs×Bs)) (f:(Bs×Bs)→Bool) (p:(Bs×Bs)→Prop) (hp:Ur l f p):YW l f p (fun r=>r=Ak l f):=by
 obtain ⟨hl,hp⟩:=hp
 have loop:∀ (k i:Nat),i+k=l.length→Ak l f=jW f (l.drop i) i→Ir l f p (fun r=>r=Ak l f) (k+1) (i:Int):=by
  intro k
  induction k with
  | zero =>
   intro i h h2
   have hn:decide ((i:Int)<(l.length:Int))=false:=lZ om
   rw [fF om] at h2
   exact ⟨fun h=>(Bool.false_ne_true (hn.symm.trans h)).elim,fun _=>h2.symm⟩
  | succ k ih =>
   intro i h h2
   have hn:decide ((i:Int)<(l.length:Int))=true:=f_ om
   rw [dm (l:=l) default om,jW] at h2
   refine ⟨fun _=>⟨om,by rw [eB]; omega,hp _,fun hc=>?_,fun hc=>?_⟩,fun h=>(Bool.false_ne_true (h.symm.trans hn)).elim⟩
   ·rw [eB] at hc
    rw [h2,aT hc]
   rw [eB] at hc
   rw [aF hc] at h2
   rw [gp om]
   exact ih (i+1) om h2
 exact ⟨_,loop l.length 0 om rfl⟩
theorem adH {g:ak} {axs_0:Option Addr} {cxs_0:Nat} (xs:List (Bs×Bs)) {vxf:Value} (xf:(Bs×Bs)→Bool) (Lr:(Bs×Bs)→Prop) (o0:bG g (.slice yA) [.slice axs_0 xs.length cxs_0] xs) (abL:∀ (y0:Bs×Bs),Lr y0→Zb prog vxf #[.agg #[sv y0.1,sv y0.2]] g (.bool (xf y0)))  (hp:Ur xs xf Lr):bE prog 102 #[.slice axs_0 xs.length cxs_0,vxf] g (iv (Ak xs xf)) :=
 (XA xs xf Lr o0 abL _ (adI xs xf Lr hp)).gv
def Kz (l:List (Bs×Bs)) (_:Bs):Prop:=l.length≤1000000
def OX (xl:List (Bs×Bs)) (cZ:Bs) (K:Int→Prop):Prop :=
 Ur xl (fun y0=>DX y0 cZ) (fun _=>True)∧K (Ak xl (fun y0=>DX y0 cZ))
theorem XC {g:ak} {v0:Option Addr} {q0:Nat} (xl:List (Bs×Bs)) (cZ:Bs) (d0:bG g (.slice yA) [.slice v0 xl.length q0] xl) (K:Int→Prop)
  (hF:OX xl cZ K):az prog 61 #[.slice v0 xl.length q0,sv cZ] g [] (fun g' H' v=>∃ (r0:Int),v=iv r0∧H'=[]∧K r0):=by
 refine aP 8 func61 rfl fun w0=>?_
 refine ae (ai (af.box (v:=sv cZ) (cs:=#[sv cZ]) rfl kr rfl fun dK=>?_))
 refine av 1 [(0,.slice v0 xl.length q0),(3,pv dK 0)] kr (aa (aH (aS ?_)))
 obtain ⟨hp2,hF⟩:=hF
 refine aj 4 [.c (fun W hW=>adH (vxf:=.func (.func 103) #[] #[pv dK 0]) xl (fun y0=>DX y0 cZ) (fun _=>True) (d0.mono hW.sees) (fun y0 hq=>⟨103,_,fun _=>by kernel_rfl,ajm y0 cZ ⟨[sv cZ],rfl,(hW.ZN 0 rfl 0 [sv cZ] rfl),rfl⟩⟩) hp2)] [] [(4,iv (Ak xl (fun y0=>DX y0 cZ)))] ?_
 refine aa (Ok.ret ?_)
 exact jr (iv (Ak xl (fun y0=>DX y0 cZ))) ⟨_,rfl,rfl,hF⟩
def Al (xl:List (Bs×Bs)) (cZ:Bs):Int:=(Ak xl (fun y0=>DX y0 cZ))
theorem XD (xl:List (Bs×Bs)) (cZ:Bs) (hp:Kz xl cZ) (P:Int→Prop) (h:P (Al xl cZ)):OX xl cZ (fun k0=>P k0):=by
 unfold Al at h
 unfold OX
 refine ⟨?_,?_⟩
 ·first | exact ⟨hp,fun _=>trivial⟩ | omega | assumption | exact trivial | (have h0:=List.length_pos_iff.mpr asm; omega) | (simp; omega) | (simp at *; omega)
 exact h
theorem adK (xl:List (Bs×Bs)) (cZ:Bs) (hp:Kz xl cZ):OX xl cZ (fun k0=>k0=Al xl cZ) :=
 XD xl cZ hp (fun z=>z=Al xl cZ) rfl
theorem adJ {g:ak} {v0:Option Addr} {q0:Nat} (xl:List (Bs×Bs)) (cZ:Bs) (d0:bG g (.slice yA) [.slice v0 xl.length q0] xl)  (hp:Kz xl cZ):bE prog 61 #[.slice v0 xl.length q0,sv cZ] g (iv (Al xl cZ)) :=
 (XC xl cZ d0 _ (adK xl cZ hp)).gv
def Ux (xl:List (Bs×Bs)) (K:Int→Prop) (z0:Int) (C15:Int→Prop):Prop :=
 ((decide (z0<(xl.length:Int)))=true→0≤z0∧z0.toNat<xl.length∧((!(Am (xl.getD z0.toNat default).1))=true→K 3)∧((!(Am (xl.getD z0.toNat default).1))=false→((decide (((xl.getD z0.toNat default).2.length:Int)>400))=true→K 2)∧((decide (((xl.getD z0.toNat default).2.length:Int)>400))=false→(0:Int)≤0∧0≤z0∧z0≤(xl.length:Int)∧Kz (xl.take z0.toNat) (xl.getD z0.toNat default).1∧((decide ((Al (xl.take z0.toNat) (xl.getD z0.toNat default).1)≥0))=true→K 3)∧((decide ((Al (xl.take z0.toNat) (xl.getD z0.toNat default).1)≥0))=false→C15 (w6 (z0+1))))))∧((decide (z0<(xl.length:Int)))=false→K 0)
def Bz (xl:List (Bs×Bs)) (K:Int→Prop):Nat→Int→Prop
 | 0,_=>False
 | k+1,z0=>Ux xl K z0 (Bz xl K k)
def Fy (xl:List (Bs×Bs)) (K:Int→Prop):Prop :=
 ((decide ((xl.length:Int)>12))=true→K 2)∧((decide ((xl.length:Int)>12))=false→∃ k,Bz xl K k 0)
theorem XJ {g:ak} {v0:Option Addr} {q0:Nat} (xl:List (Bs×Bs)) (d0:bG g (.slice yA) [.slice v0 xl.length q0] xl) (K:Int→Prop)
  (hF:Fy xl K):az prog 35 #[.slice v0 xl.length q0] g [] (fun g' H' v=>∃ (r0:Int),v=iv r0∧H'=[]∧K r0):=by
 refine aP 34 func35 rfl fun w0=>?_
 refine ae (av 1 [(0,.slice v0 xl.length q0)] kr (aa (aH (ae (ag 3 [0] [(7,.bool (decide ((xl.length:Int)>12)))] ?_)))))
 refine aa (aM hF (fun hc1 hF=>?_) (fun hc1 hF=>?_))
 ·refine ae (av 1 [(2,iv 2)] kr (aa (Ok.ret (aC ?_))))
  exact rG (iv 2) ⟨_,rfl,rfl,hF⟩
 refine Ok.k (Ok.t (aH (ae (ag 3 [0] [(8,.slice v0 xl.length q0),(9,iv (xl.length:Int)),(10,iv 0)] ?_))))
 refine aa (Ok.block ?_)
 obtain ⟨k,hF⟩:=hF
 refine gF (fun k a W=>∃ (z0:Int),fJ 34 [(0,.slice v0 xl.length q0),(8,.slice v0 xl.length q0),(9,iv (xl.length:Int)),(10,iv z0)] a∧dh w0 [] g W∧Bz xl K k z0) k ?_ ?_
 ·
  exact fun _ _ u v=>⟨0,fA u v hF⟩
 clear hF
 rintro (_ | k15) _ _ ⟨z0,q⟩
 exact (q.2.2:False).elim
 refine jn (fun hF=>?_) _ _ q
 refine ae (ag 1 [0,8,9,10] [(11,.bool (decide (z0<(xl.length:Int))))] ?_)
 refine aa (aH (aM hF (fun hc2 hF=>?_) (fun hc2 hF=>?_)))
 ·refine Ok.k (Ok.t (aH (Ok.block (ae (ag 1 [0,8,9,10] [(12,iv z0)] ?_)))))
  obtain ⟨qA,ru,hF⟩:=hF
  have pR:=aV (l:=xl) default ru
  generalize hg4:(xl.getD z0.toNat default)=e4 at pR hF ⊢
  refine ai (af.bf (e:=.pair (.str) (.str)) rfl rfl underlying45 kr d0 qA pR rfl fun q3 o3 XQ _ E0 hr3=>?_)
  obtain ⟨_,_,rfl,rfl,rfl⟩:=hr3
  replace E0:At g q3 o3 [sv e4.1,sv e4.2]:=E0
  refine ai (af.s (v:=.agg #[sv e4.1,sv e4.2]) (bU 0 2 #[sv e4.1,sv e4.2] E0 kr underlying105 rfl kr kr kr) rfl rfl (ai (bK #[sv ([]:Bs),sv ([]:Bs)] fun kZ=>?_)))
  refine ag 1 [0,8,9,10] [(3,iv z0),(4,pv kZ 0),(14,.agg #[sv e4.1,sv e4.2])] ?_
  refine ai (af.w 0 ?_)
  refine aa (Ok.block (ae (aj 5 [.e 0,.k (adS e4.1)] [0,3,4,8,9,10] [(15,.bool (!(Am e4.1)))] ?_)))
  refine aa (ed hF rfl (fun hc6=>?_) (fun hc6=>?_))
  ·replace hF:=hF.1 hc6
   refine ae (av 1 [(2,iv 3)] kr (aa (Ok.ret (aU (aU (aC (aC (aU (aC ?_)))))))))
   exact jr (iv 3) ⟨_,rfl,rfl,hF⟩
  replace hF:=hF.2 hc6
  refine ae (aj 5 [.e 0] [0,3,4,8,9,10] [(20,.bool (decide ((e4.2.length:Int)>400)))] ?_)
  refine aa (ed hF rfl (fun iC=>?_) (fun iC=>?_))
  ·replace hF:=hF.1 iC
   refine ae (av 1 [(2,iv 2)] kr (aa (Ok.ret (aU (aU (aC (aC (aU (aC ?_)))))))))
   exact jr (iv 2) ⟨_,rfl,rfl,hF⟩
  replace hF:=hF.2 iC
  refine aH (gu kr kr (fe 2 [0,4,8,9,10] [(26,.slice v0 xl.length q0),(27,iv z0)] ?_))
  obtain ⟨MG,h18,h28,hF⟩:=hF
  refine dX.op rfl (fM.ji (e:=.pair (.str) (.str)) (l:=0) (h:=z0) rfl underlying45 kr (.inr ⟨rfl,rfl⟩) (.inl ⟨_,_,rfl,rfl⟩) d0 MG h18 h28 rfl (xl.take z0.toNat) (by simp) fun a8 c8 hR8=>?_)
  refine fe 1 [0,8,9,10] [(28,.slice a8 (xl.take z0.toNat).length c8),(29,pv kZ 0)] ?_
  refine dX.op rfl (fM.s (v:=sv e4.1) (aR 0 rfl rfl underlying9 rfl kr) rfl rfl ?_)
  obtain ⟨Tn,hF⟩:=hF
  refine dX.op rfl (fM.f gT (fun W hW=>adJ (xl.take z0.toNat) e4.1 (hR8.mono hW.sees) Tn) rfl ?_)
  refine fe 2 [0,8,9,10] [(25,.bool (decide ((Al (xl.take z0.toNat) e4.1)≥0)))] ?_
  refine kU (Ok.t (ed hF rfl (fun t0=>?_) (fun t0=>?_)))
  ·replace hF:=hF.1 t0
   refine ae (av 1 [(2,iv 3)] kr (aa (Ok.ret (aU (aU (aC (aC (aU (aC ?_)))))))))
   exact jr (iv 3) ⟨_,rfl,rfl,hF⟩
  replace hF:=hF.2 t0
  refine Ok.k (bJ (bJ (Ok.t (aS (ag 2 [0,8,9] [(10,iv (w6 (z0+1)))] ?_)))))
  refine bY (Ok.t ?_)
  subst hg4
  exact fun _ _ u v=>⟨k15,nl,w6 (z0+1),fA u v hF⟩
 refine fU (aA (aA (aO (Ok.t (ae (av 1 [(2,iv 0)] kr (aa (Ok.ret ?_))))))))
 exact rG (iv 0) ⟨_,rfl,rfl,hF⟩
def mQ (l:List (Bs×Bs)):Prop:=l.length≤12∧∀ a ∈ l,a.2.length≤400
theorem XK (l:List (Bs×Bs)):∃ e,Fy l (fun r=>r=e)∧(e=0→mQ l):=by
 have no:∀ {e:Int},e≠0→(e=0→mQ l):=fun h h0=>absurd h0 h
 refine gU (fun h=>pq (no dc)) (fun h=>?_)
 have hl:=fZ h
 have loop:∀ (k i:Nat),i+k=l.length→(∀ j,j<i→(l.getD j default).2.length≤400)→∃ e,Bz l (fun r=>r=e) (k+1) (i:Int)∧(e=0→mQ l):=by
  intro k
  induction k with
  | zero =>
   intro i h hj
   refine gU (fun h=>od h) (fun _=>pq fun _=>⟨om,fun a ha=>?_⟩)
   obtain ⟨n,hn,rfl⟩:=List.getElem_of_mem ha
   have:=hj n om
   rwa [gN,gB hn,uI] at this
  | succ k ih =>
   intro i h hj
   refine gU (fun _=>fC om (fC (by rw [eB]; omega) (gU (fun _=>pq (no dc)) fun _=>gU (fun _=>pq (no dc)) fun hv=>fC om (fC om (fC om (fC (by unfold Kz; rw [gz]; omega) (gU (fun _=>pq (no dc)) fun _=>?_))))))) (fun h=>oe h)
   rw [gp om]
   refine ih (i+1) om fun j hj2=>?_
   by_cases hji:j<i
   ·exact hj j hji
   have:j=i:=om
   subst this
   have:=fZ hv
   rw [eB] at this
   omega
 exact vB _ (loop l.length 0 om fun j hj=>absurd hj om)
noncomputable def tu (l:List (Bs×Bs)):Int:=E5 fun e=>Fy l (fun r=>r=e)∧(e=0→mQ l)
theorem O4 (l:List (Bs×Bs)):Fy l (fun r=>r=tu l)∧(tu l=0→mQ l):=xY (A:=fun e=>Fy l (fun r=>r=e)∧(e=0→mQ l)) (XK l)
theorem adR (l:List (Bs×Bs)):Fy l (fun r=>r=tu l):=(O4 l).1
theorem adQ {g:ak} {v0:Option Addr} {q0:Nat} (xl:List (Bs×Bs)) (d0:bG g (.slice yA) [.slice v0 xl.length q0] xl)  : bE prog 35 #[.slice v0 xl.length q0] g (iv (tu xl)) :=
 (XJ xl d0 _ (adR xl)).gv
def OT (bV:Int) (K:Bool→Prop):Prop :=
 K ((bV==1)||(bV==2))
theorem Xm {g:ak} (bV:Int) (K:Bool→Prop)
  (hF:OT bV K):az prog 58 #[iv bV] g [] (fun g' H' v=>∃ (r0:Bool),v=.bool r0∧H'=[]∧K r0):=by
 refine aP 9 func58 rfl fun w0=>?_
 refine ae (av 1 [(0,iv bV)] kr (aa (ae (ag 3 [0] [(5,.bool (bV==1))] ?_))))
 let A:=(bV==1)||(bV==2)
 refine Ok.w 3 [(8,.bool A)] (fun AA=>?_) ?_
 ·refine Ok.a 5 (bV==1) rfl (fun hc2=>?_) (fun hc2=>?_)
  ·skip
   refine av 3 [(8,.bool true)] kr (aB 8 A (df hc2) (av 0 [(8,.bool A)] kr ?_))
   exact AA
  skip
  refine av 3 [(8,.bool (bV==2))] kr (aB 8 A (bR hc2) (av 0 [(8,.bool A)] kr ?_))
  exact AA
 refine av 1 [(2,.bool A)] kr (aa (Ok.ret ?_))
 exact dD A hF
def eU (bV:Int):Bool:=((bV==1)||(bV==2))
theorem Xn (bV:Int) (P:Bool→Prop) (h:P (eU bV)):OT bV (fun k0=>P k0):=by
 unfold eU at h
 unfold OT
 exact h
theorem adA (bV:Int):OT bV (fun k0=>k0=eU bV) :=
 Xn bV (fun z=>z=eU bV) rfl
theorem n_ {g:ak} (bV:Int)  : bE prog 58 #[iv bV] g (.bool (eU bV)) :=
 (Xm bV _ (adA bV)).gv
def fq (xx:Nd):Bool :=
 (if (xx.1==2)=true then (if (xx.1==2)=true then (if ((xx.1==3)||(xx.1==4))=true then (eU xx.1||((xx.2.2.2.2.2.length:Int)==0)) else ((xx.2.2.2.1==([]:Bs))&&(eU xx.1||((xx.2.2.2.2.2.length:Int)==0)))) else (((xx.2.2.1.length:Int)==0)&&(if ((xx.1==3)||(xx.1==4))=true then (eU xx.1||((xx.2.2.2.2.2.length:Int)==0)) else ((xx.2.2.2.1==([]:Bs))&&(eU xx.1||((xx.2.2.2.2.2.length:Int)==0)))))) else (if (xx.1==5)=true then (if (xx.1==2)=true then (if ((xx.1==3)||(xx.1==4))=true then (eU xx.1||((xx.2.2.2.2.2.length:Int)==0)) else ((xx.2.2.2.1==([]:Bs))&&(eU xx.1||((xx.2.2.2.2.2.length:Int)==0)))) else (((xx.2.2.1.length:Int)==0)&&(if ((xx.1==3)||(xx.1==4))=true then (eU xx.1||((xx.2.2.2.2.2.length:Int)==0)) else ((xx.2.2.2.1==([]:Bs))&&(eU xx.1||((xx.2.2.2.2.2.length:Int)==0)))))) else ((xx.2.1==([]:Bs))&&(if (xx.1==2)=true then (if ((xx.1==3)||(xx.1==4))=true then (eU xx.1||((xx.2.2.2.2.2.length:Int)==0)) else ((xx.2.2.2.1==([]:Bs))&&(eU xx.1||((xx.2.2.2.2.2.length:Int)==0)))) else (((xx.2.2.1.length:Int)==0)&&(if ((xx.1==3)||(xx.1==4))=true then (eU xx.1||((xx.2.2.2.2.2.length:Int)==0)) else ((xx.2.2.2.1==([]:Bs))&&(eU xx.1||((xx.2.2.2.2.2.length:Int)==0)))))))))
def fE (xx:Nd) (K:Bool→Prop):Prop :=
 K (fq xx)
def DY (xx:Nd) (K:Bool→Prop):Prop :=
 ((xx.1==2)=true→((xx.1==2)=true→(((xx.1==3)||(xx.1==4))=true→(eU xx.1=true→fE xx K)∧(eU xx.1=false→fE xx K))∧(((xx.1==3)||(xx.1==4))=false→((xx.2.2.2.1==([]:Bs))=true→(eU xx.1=true→fE xx K)∧(eU xx.1=false→fE xx K))∧((xx.2.2.2.1==([]:Bs))=false→fE xx K)))∧((xx.1==2)=false→(((xx.2.2.1.length:Int)==0)=true→(((xx.1==3)||(xx.1==4))=true→(eU xx.1=true→fE xx K)∧(eU xx.1=false→fE xx K))∧(((xx.1==3)||(xx.1==4))=false→((xx.2.2.2.1==([]:Bs))=true→(eU xx.1=true→fE xx K)∧(eU xx.1=false→fE xx K))∧((xx.2.2.2.1==([]:Bs))=false→fE xx K)))∧(((xx.2.2.1.length:Int)==0)=false→fE xx K)))∧((xx.1==2)=false→((xx.1==5)=true→((xx.1==2)=true→(((xx.1==3)||(xx.1==4))=true→(eU xx.1=true→fE xx K)∧(eU xx.1=false→fE xx K))∧(((xx.1==3)||(xx.1==4))=false→((xx.2.2.2.1==([]:Bs))=true→(eU xx.1=true→fE xx K)∧(eU xx.1=false→fE xx K))∧((xx.2.2.2.1==([]:Bs))=false→fE xx K)))∧((xx.1==2)=false→(((xx.2.2.1.length:Int)==0)=true→(((xx.1==3)||(xx.1==4))=true→(eU xx.1=true→fE xx K)∧(eU xx.1=false→fE xx K))∧(((xx.1==3)||(xx.1==4))=false→((xx.2.2.2.1==([]:Bs))=true→(eU xx.1=true→fE xx K)∧(eU xx.1=false→fE xx K))∧((xx.2.2.2.1==([]:Bs))=false→fE xx K)))∧(((xx.2.2.1.length:Int)==0)=false→fE xx K)))∧((xx.1==5)=false→((xx.2.1==([]:Bs))=true→((xx.1==2)=true→(((xx.1==3)||(xx.1==4))=true→(eU xx.1=true→fE xx K)∧(eU xx.1=false→fE xx K))∧(((xx.1==3)||(xx.1==4))=false→((xx.2.2.2.1==([]:Bs))=true→(eU xx.1=true→fE xx K)∧(eU xx.1=false→fE xx K))∧((xx.2.2.2.1==([]:Bs))=false→fE xx K)))∧((xx.1==2)=false→(((xx.2.2.1.length:Int)==0)=true→(((xx.1==3)||(xx.1==4))=true→(eU xx.1=true→fE xx K)∧(eU xx.1=false→fE xx K))∧(((xx.1==3)||(xx.1==4))=false→((xx.2.2.2.1==([]:Bs))=true→(eU xx.1=true→fE xx K)∧(eU xx.1=false→fE xx K))∧((xx.2.2.2.1==([]:Bs))=false→fE xx K)))∧(((xx.2.2.1.length:Int)==0)=false→fE xx K)))∧((xx.2.1==([]:Bs))=false→fE xx K)))
def O3 (xx:Nd) (K:Bool→Prop):Prop :=
 ((xx.1==3)=true→DY xx K)∧((xx.1==3)=false→DY xx K)
theorem XH {g:ak} {u0:Option Addr} {j0:Nat} {x0:Option Addr} {s0:Nat} (xx:Nd) (e0:bG g (.slice yA) [.slice u0 xx.2.2.1.length j0] xx.2.2.1) (f0:bG g (.slice (.int .i64)) [.slice x0 xx.2.2.2.2.2.length s0] xx.2.2.2.2.2) (K:Bool→Prop)
  (hF:O3 xx K):az prog 33 #[.agg (aN xx u0 j0 x0 s0)] g [] (fun g' H' v=>∃ (r0:Bool),v=.bool r0∧H'=[]∧K r0):=by
 refine aP 55 func33 rfl fun w0=>?_
 refine ae (ai (di fun jg=>?_))
 let A:=(xx.1==3)||(xx.1==4)
 refine av 1 [(1,pv jg 0)] kr (aa (gD [(1,pv jg 0),(3,.bool (xx.1==2)),(4,.bool A)] [.blk jg (.cells (aN xx u0 j0 x0 s0) 48)] (DY xx K) ?_ (fun hF=>?_)))
 ·
  refine gu kr kr (fe 1 [1] [(5,pv jg 0)] ?_)
  refine dX.op rfl (fM.s (v:=iv xx.1) (aR 0 rfl rfl underlying3 rfl kr) rfl rfl (fe 2 [1] [(7,.bool (xx.1==2)),(8,pv jg 0)] ?_))
  refine dX.op rfl (fM.s (v:=iv xx.1) (aR 0 rfl rfl underlying3 rfl kr) rfl rfl (fe 2 [1,7] [(11,.bool (xx.1==3))] ?_))
  refine sK 11 (xx.1==3) rfl (fun U0=>?_) (fun U0=>?_)
  ·replace hF:=hF.1 U0
   refine fe 6 [1] [(3,.bool (xx.1==2)),(4,.bool true)] ?_
   refine kU (Ok.t (aB 4 A (df U0) ?_))
   exact fz hF
  replace hF:=hF.2 U0
  refine fe 1 [1,7] [(11,.bool false),(12,pv jg 0)] ?_
  refine lM (j:=6) (d:=11) (want:=false) (b:=false) rfl kr kr rfl (fM.s (v:=iv xx.1) (aR 0 rfl rfl underlying3 rfl kr) rfl rfl (fe 4 [1] [(3,.bool (xx.1==2)),(4,.bool (xx.1==4))] ?_))
  refine kU (Ok.t (aB 4 A (bR U0) ?_))
  exact fz hF
 refine gD [(2,.bool (fq xx))] [] (fE xx K) ?_ (fun hF=>?_)
 ·
  refine aS (ag 2 [1,3,4] [(17,.bool (xx.1==2))] ?_)
  refine bN 17 hF (fun hc2 hF=>?_) (fun hc2 hF=>?_)
  ·refine ag 12 [1,4] [(27,.bool true),(29,.bool (xx.1==2))] ?_
   refine bN 29 hF (fun hc3 hF=>?_) (fun hc3 hF=>?_)
   ·refine ag 9 [1] [(36,.bool true),(38,.bool A)] ?_
    refine bN 38 hF (fun hc4 hF=>?_) (fun hc4 hF=>?_)
    ·refine aj 10 [.e 0,.k (n_ xx.1)] [1] [(44,.bool true),(48,.bool (eU xx.1))] ?_
     refine bN 48 hF (fun j4 hF=>?_) (fun j4 hF=>?_)
     ·refine av 7 [(2,.bool true)] kr (aa (aB 2 (fq xx) (au (au (au (df j4) ((aT hc4).symm)) ((aT hc3).symm)) ((aT hc2).symm)) ?_))
      exact fz hF
     refine aj 7 [.e 0] [] [(2,.bool ((xx.2.2.2.2.2.length:Int)==0))] ?_
     refine aa (aB 2 (fq xx) (au (au (au (bR j4) ((aT hc4).symm)) ((aT hc3).symm)) ((aT hc2).symm)) ?_)
     exact fz hF
    refine aj 6 [.e 0] [1] [(44,.bool (xx.2.2.2.1==([]:Bs)))] ?_
    refine bN 44 hF (fun hc6 hF=>?_) (fun hc6 hF=>?_)
    ·refine aj 4 [.e 0,.k (n_ xx.1)] [1] [(44,.bool true),(48,.bool (eU xx.1))] ?_
     refine bN 48 hF (fun iC hF=>?_) (fun iC hF=>?_)
     ·refine av 7 [(2,.bool true)] kr (aa (aB 2 (fq xx) (au (au (au (au (df iC) (aZ hc6)) ((aF hc4).symm)) ((aT hc3).symm)) ((aT hc2).symm)) ?_))
      exact fz hF
     refine aj 7 [.e 0] [] [(2,.bool ((xx.2.2.2.2.2.length:Int)==0))] ?_
     refine aa (aB 2 (fq xx) (au (au (au (au (bR iC) (aZ hc6)) ((aF hc4).symm)) ((aT hc3).symm)) ((aT hc2).symm)) ?_)
     exact fz hF
    refine av 11 [(2,.bool false)] kr (aa (aB 2 (fq xx) (au (au (au (bW hc6) ((aF hc4).symm)) ((aT hc3).symm)) ((aT hc2).symm)) ?_))
    exact fz hF
   refine aj 7 [.e 0] [1,4] [(36,.bool ((xx.2.2.1.length:Int)==0))] ?_
   refine bN 36 hF (fun hc8 hF=>?_) (fun hc8 hF=>?_)
   ·refine ag 2 [1] [(36,.bool true),(38,.bool A)] ?_
    refine bN 38 hF (fun mW hF=>?_) (fun mW hF=>?_)
    ·refine aj 10 [.e 0,.k (n_ xx.1)] [1] [(44,.bool true),(48,.bool (eU xx.1))] ?_
     refine bN 48 hF (fun t0 hF=>?_) (fun t0 hF=>?_)
     ·refine av 7 [(2,.bool true)] kr (aa (aB 2 (fq xx) (au (au (au (au (df t0) ((aT mW).symm)) (aZ hc8)) ((aF hc3).symm)) ((aT hc2).symm)) ?_))
      exact fz hF
     refine aj 7 [.e 0] [] [(2,.bool ((xx.2.2.2.2.2.length:Int)==0))] ?_
     refine aa (aB 2 (fq xx) (au (au (au (au (bR t0) ((aT mW).symm)) (aZ hc8)) ((aF hc3).symm)) ((aT hc2).symm)) ?_)
     exact fz hF
    refine aj 6 [.e 0] [1] [(44,.bool (xx.2.2.2.1==([]:Bs)))] ?_
    refine bN 44 hF (fun J0 hF=>?_) (fun J0 hF=>?_)
    ·refine aj 4 [.e 0,.k (n_ xx.1)] [1] [(44,.bool true),(48,.bool (eU xx.1))] ?_
     refine bN 48 hF (fun F0 hF=>?_) (fun F0 hF=>?_)
     ·refine av 7 [(2,.bool true)] kr (aa (aB 2 (fq xx) (au (au (au (au (au (df F0) (aZ J0)) ((aF mW).symm)) (aZ hc8)) ((aF hc3).symm)) ((aT hc2).symm)) ?_))
      exact fz hF
     refine aj 7 [.e 0] [] [(2,.bool ((xx.2.2.2.2.2.length:Int)==0))] ?_
     refine aa (aB 2 (fq xx) (au (au (au (au (au (bR F0) (aZ J0)) ((aF mW).symm)) (aZ hc8)) ((aF hc3).symm)) ((aT hc2).symm)) ?_)
     exact fz hF
    refine av 11 [(2,.bool false)] kr (aa (aB 2 (fq xx) (au (au (au (au (bW J0) ((aF mW).symm)) (aZ hc8)) ((aF hc3).symm)) ((aT hc2).symm)) ?_))
    exact fz hF
   refine av 19 [(2,.bool false)] kr (aa (aB 2 (fq xx) (au (au (bW hc8) ((aF hc3).symm)) ((aT hc2).symm)) ?_))
   exact fz hF
  refine aj 5 [.e 0] [1,3,4] [(22,.bool (xx.1==5))] ?_
  refine bN 22 hF (fun c0 hF=>?_) (fun c0 hF=>?_)
  ·refine ag 7 [1,4] [(27,.bool true),(29,.bool (xx.1==2))] ?_
   refine bN 29 hF (fun m0 hF=>?_) (fun m0 hF=>?_)
   ·refine ag 9 [1] [(36,.bool true),(38,.bool A)] ?_
    refine bN 38 hF (fun Z0 hF=>?_) (fun Z0 hF=>?_)
    ·refine aj 10 [.e 0,.k (n_ xx.1)] [1] [(44,.bool true),(48,.bool (eU xx.1))] ?_
     refine bN 48 hF (fun G0 hF=>?_) (fun G0 hF=>?_)
     ·refine av 7 [(2,.bool true)] kr (aa (aB 2 (fq xx) (au (au (au (au (df G0) ((aT Z0).symm)) ((aT m0).symm)) ((aT c0).symm)) ((aF hc2).symm)) ?_))
      exact fz hF
     refine aj 7 [.e 0] [] [(2,.bool ((xx.2.2.2.2.2.length:Int)==0))] ?_
     refine aa (aB 2 (fq xx) (au (au (au (au (bR G0) ((aT Z0).symm)) ((aT m0).symm)) ((aT c0).symm)) ((aF hc2).symm)) ?_)
     exact fz hF
    refine aj 6 [.e 0] [1] [(44,.bool (xx.2.2.2.1==([]:Bs)))] ?_
    refine bN 44 hF (fun W0 hF=>?_) (fun W0 hF=>?_)
    ·refine aj 4 [.e 0,.k (n_ xx.1)] [1] [(44,.bool true),(48,.bool (eU xx.1))] ?_
     refine bN 48 hF (fun H0 hF=>?_) (fun H0 hF=>?_)
     ·refine av 7 [(2,.bool true)] kr (aa (aB 2 (fq xx) (au (au (au (au (au (df H0) (aZ W0)) ((aF Z0).symm)) ((aT m0).symm)) ((aT c0).symm)) ((aF hc2).symm)) ?_))
      exact fz hF
     refine aj 7 [.e 0] [] [(2,.bool ((xx.2.2.2.2.2.length:Int)==0))] ?_
     refine aa (aB 2 (fq xx) (au (au (au (au (au (bR H0) (aZ W0)) ((aF Z0).symm)) ((aT m0).symm)) ((aT c0).symm)) ((aF hc2).symm)) ?_)
     exact fz hF
    refine av 11 [(2,.bool false)] kr (aa (aB 2 (fq xx) (au (au (au (au (bW W0) ((aF Z0).symm)) ((aT m0).symm)) ((aT c0).symm)) ((aF hc2).symm)) ?_))
    exact fz hF
   refine aj 7 [.e 0] [1,4] [(36,.bool ((xx.2.2.1.length:Int)==0))] ?_
   refine bN 36 hF (fun a0 hF=>?_) (fun a0 hF=>?_)
   ·refine ag 2 [1] [(36,.bool true),(38,.bool A)] ?_
    refine bN 38 hF (fun V0 hF=>?_) (fun V0 hF=>?_)
    ·refine aj 10 [.e 0,.k (n_ xx.1)] [1] [(44,.bool true),(48,.bool (eU xx.1))] ?_
     refine bN 48 hF (fun M0 hF=>?_) (fun M0 hF=>?_)
     ·refine av 7 [(2,.bool true)] kr (aa (aB 2 (fq xx) (au (au (au (au (au (df M0) ((aT V0).symm)) (aZ a0)) ((aF m0).symm)) ((aT c0).symm)) ((aF hc2).symm)) ?_))
      exact fz hF
     refine aj 7 [.e 0] [] [(2,.bool ((xx.2.2.2.2.2.length:Int)==0))] ?_
     refine aa (aB 2 (fq xx) (au (au (au (au (au (bR M0) ((aT V0).symm)) (aZ a0)) ((aF m0).symm)) ((aT c0).symm)) ((aF hc2).symm)) ?_)
     exact fz hF
    refine aj 6 [.e 0] [1] [(44,.bool (xx.2.2.2.1==([]:Bs)))] ?_
    refine bN 44 hF (fun X0 hF=>?_) (fun X0 hF=>?_)
    ·refine aj 4 [.e 0,.k (n_ xx.1)] [1] [(44,.bool true),(48,.bool (eU xx.1))] ?_
     refine bN 48 hF (fun N0 hF=>?_) (fun N0 hF=>?_)
     ·refine av 7 [(2,.bool true)] kr (aa (aB 2 (fq xx) (au (au (au (au (au (au (df N0) (aZ X0)) ((aF V0).symm)) (aZ a0)) ((aF m0).symm)) ((aT c0).symm)) ((aF hc2).symm)) ?_))
      exact fz hF
     refine aj 7 [.e 0] [] [(2,.bool ((xx.2.2.2.2.2.length:Int)==0))] ?_
     refine aa (aB 2 (fq xx) (au (au (au (au (au (au (bR N0) (aZ X0)) ((aF V0).symm)) (aZ a0)) ((aF m0).symm)) ((aT c0).symm)) ((aF hc2).symm)) ?_)
     exact fz hF
    refine av 11 [(2,.bool false)] kr (aa (aB 2 (fq xx) (au (au (au (au (au (bW X0) ((aF V0).symm)) (aZ a0)) ((aF m0).symm)) ((aT c0).symm)) ((aF hc2).symm)) ?_))
    exact fz hF
   refine av 19 [(2,.bool false)] kr (aa (aB 2 (fq xx) (au (au (au (bW a0) ((aF m0).symm)) ((aT c0).symm)) ((aF hc2).symm)) ?_))
   exact fz hF
  refine aj 5 [.e 0] [1,3,4] [(27,.bool (xx.2.1==([]:Bs)))] ?_
  refine bN 27 hF (fun g0 hF=>?_) (fun g0 hF=>?_)
  ·refine ag 2 [1,4] [(27,.bool true),(29,.bool (xx.1==2))] ?_
   refine bN 29 hF (fun n0 hF=>?_) (fun n0 hF=>?_)
   ·refine ag 9 [1] [(36,.bool true),(38,.bool A)] ?_
    refine bN 38 hF (fun Q0 hF=>?_) (fun Q0 hF=>?_)
    ·refine aj 10 [.e 0,.k (n_ xx.1)] [1] [(44,.bool true),(48,.bool (eU xx.1))] ?_
     refine bN 48 hF (fun O0 hF=>?_) (fun O0 hF=>?_)
     ·refine av 7 [(2,.bool true)] kr (aa (aB 2 (fq xx) (au (au (au (au (au (df O0) ((aT Q0).symm)) ((aT n0).symm)) (aZ g0)) ((aF c0).symm)) ((aF hc2).symm)) ?_))
      exact fz hF
     refine aj 7 [.e 0] [] [(2,.bool ((xx.2.2.2.2.2.length:Int)==0))] ?_
     refine aa (aB 2 (fq xx) (au (au (au (au (au (bR O0) ((aT Q0).symm)) ((aT n0).symm)) (aZ g0)) ((aF c0).symm)) ((aF hc2).symm)) ?_)
     exact fz hF
    refine aj 6 [.e 0] [1] [(44,.bool (xx.2.2.2.1==([]:Bs)))] ?_
    refine bN 44 hF (fun S0 hF=>?_) (fun S0 hF=>?_)
    ·refine aj 4 [.e 0,.k (n_ xx.1)] [1] [(44,.bool true),(48,.bool (eU xx.1))] ?_
     refine bN 48 hF (fun P0 hF=>?_) (fun P0 hF=>?_)
     ·refine av 7 [(2,.bool true)] kr (aa (aB 2 (fq xx) (au (au (au (au (au (au (df P0) (aZ S0)) ((aF Q0).symm)) ((aT n0).symm)) (aZ g0)) ((aF c0).symm)) ((aF hc2).symm)) ?_))
      exact fz hF
     refine aj 7 [.e 0] [] [(2,.bool ((xx.2.2.2.2.2.length:Int)==0))] ?_
     refine aa (aB 2 (fq xx) (au (au (au (au (au (au (bR P0) (aZ S0)) ((aF Q0).symm)) ((aT n0).symm)) (aZ g0)) ((aF c0).symm)) ((aF hc2).symm)) ?_)
     exact fz hF
    refine av 11 [(2,.bool false)] kr (aa (aB 2 (fq xx) (au (au (au (au (au (bW S0) ((aF Q0).symm)) ((aT n0).symm)) (aZ g0)) ((aF c0).symm)) ((aF hc2).symm)) ?_))
    exact fz hF
   refine aj 7 [.e 0] [1,4] [(36,.bool ((xx.2.2.1.length:Int)==0))] ?_
   refine bN 36 hF (fun i0 hF=>?_) (fun i0 hF=>?_)
   ·refine ag 2 [1] [(36,.bool true),(38,.bool A)] ?_
    refine bN 38 hF (fun K0 hF=>?_) (fun K0 hF=>?_)
    ·refine aj 10 [.e 0,.k (n_ xx.1)] [1] [(44,.bool true),(48,.bool (eU xx.1))] ?_
     refine bN 48 hF (fun R0 hF=>?_) (fun R0 hF=>?_)
     ·refine av 7 [(2,.bool true)] kr (aa (aB 2 (fq xx) (au (au (au (au (au (au (df R0) ((aT K0).symm)) (aZ i0)) ((aF n0).symm)) (aZ g0)) ((aF c0).symm)) ((aF hc2).symm)) ?_))
      exact fz hF
     refine aj 7 [.e 0] [] [(2,.bool ((xx.2.2.2.2.2.length:Int)==0))] ?_
     refine aa (aB 2 (fq xx) (au (au (au (au (au (au (bR R0) ((aT K0).symm)) (aZ i0)) ((aF n0).symm)) (aZ g0)) ((aF c0).symm)) ((aF hc2).symm)) ?_)
     exact fz hF
    refine aj 6 [.e 0] [1] [(44,.bool (xx.2.2.2.1==([]:Bs)))] ?_
    refine bN 44 hF (fun B0 hF=>?_) (fun B0 hF=>?_)
    ·refine aj 4 [.e 0,.k (n_ xx.1)] [1] [(44,.bool true),(48,.bool (eU xx.1))] ?_
     refine bN 48 hF (fun T0 hF=>?_) (fun T0 hF=>?_)
     ·refine av 7 [(2,.bool true)] kr (aa (aB 2 (fq xx) (au (au (au (au (au (au (au (df T0) (aZ B0)) ((aF K0).symm)) (aZ i0)) ((aF n0).symm)) (aZ g0)) ((aF c0).symm)) ((aF hc2).symm)) ?_))
      exact fz hF
     refine aj 7 [.e 0] [] [(2,.bool ((xx.2.2.2.2.2.length:Int)==0))] ?_
     refine aa (aB 2 (fq xx) (au (au (au (au (au (au (au (bR T0) (aZ B0)) ((aF K0).symm)) (aZ i0)) ((aF n0).symm)) (aZ g0)) ((aF c0).symm)) ((aF hc2).symm)) ?_)
     exact fz hF
    refine av 11 [(2,.bool false)] kr (aa (aB 2 (fq xx) (au (au (au (au (au (au (bW B0) ((aF K0).symm)) (aZ i0)) ((aF n0).symm)) (aZ g0)) ((aF c0).symm)) ((aF hc2).symm)) ?_))
    exact fz hF
   refine av 19 [(2,.bool false)] kr (aa (aB 2 (fq xx) (au (au (au (au (bW i0) ((aF n0).symm)) (aZ g0)) ((aF c0).symm)) ((aF hc2).symm)) ?_))
   exact fz hF
  refine av 28 [(2,.bool false)] kr (aa (aB 2 (fq xx) (au (au (bW g0) ((aF c0).symm)) ((aF hc2).symm)) ?_))
  exact fz hF
 refine Ok.ret ?_
 exact dD (fq xx) hF
def Iu (xx:Nd):Bool:=(fq xx)
theorem dJ (xx:Nd) (P:Bool→Prop) (h:P (Iu xx)):fE xx (fun k0=>P k0):=by
 unfold Iu at h
 unfold fE
 exact h
def Iw (xx:Nd):Bool:=(Iu xx)
theorem KA (xx:Nd) (P:Bool→Prop) (h:P (Iw xx)):DY xx (fun k0=>P k0):=by
 unfold Iw at h
 unfold DY
 refine ⟨fun hc0=>?_,fun hc0=>?_⟩
 ·skip
  refine ⟨fun hc1=>?_,fun hc1=>?_⟩
  ·skip
   refine ⟨fun hc2=>?_,fun hc2=>?_⟩
   ·skip
    refine ⟨fun hc3=>?_,fun hc3=>?_⟩
    ·skip
     exact dJ xx _ h
    skip
    exact dJ xx _ h
   skip
   refine ⟨fun hc3=>?_,fun hc3=>?_⟩
   ·skip
    refine ⟨fun hc4=>?_,fun hc4=>?_⟩
    ·skip
     exact dJ xx _ h
    skip
    exact dJ xx _ h
   skip
   exact dJ xx _ h
  skip
  refine ⟨fun hc2=>?_,fun hc2=>?_⟩
  ·skip
   refine ⟨fun hc3=>?_,fun hc3=>?_⟩
   ·skip
    refine ⟨fun hc4=>?_,fun hc4=>?_⟩
    ·skip
     exact dJ xx _ h
    skip
    exact dJ xx _ h
   skip
   refine ⟨fun hc4=>?_,fun hc4=>?_⟩
   ·skip
    refine ⟨fun j4=>?_,fun j4=>?_⟩
    ·skip
     exact dJ xx _ h
    skip
    exact dJ xx _ h
   skip
   exact dJ xx _ h
  skip
  exact dJ xx _ h
 skip
 refine ⟨fun hc1=>?_,fun hc1=>?_⟩
 ·skip
  refine ⟨fun hc2=>?_,fun hc2=>?_⟩
  ·skip
   refine ⟨fun hc3=>?_,fun hc3=>?_⟩
   ·skip
    refine ⟨fun hc4=>?_,fun hc4=>?_⟩
    ·skip
     exact dJ xx _ h
    skip
    exact dJ xx _ h
   skip
   refine ⟨fun hc4=>?_,fun hc4=>?_⟩
   ·skip
    refine ⟨fun j4=>?_,fun j4=>?_⟩
    ·skip
     exact dJ xx _ h
    skip
    exact dJ xx _ h
   skip
   exact dJ xx _ h
  skip
  refine ⟨fun hc3=>?_,fun hc3=>?_⟩
  ·skip
   refine ⟨fun hc4=>?_,fun hc4=>?_⟩
   ·skip
    refine ⟨fun j4=>?_,fun j4=>?_⟩
    ·skip
     exact dJ xx _ h
    skip
    exact dJ xx _ h
   skip
   refine ⟨fun j4=>?_,fun j4=>?_⟩
   ·skip
    refine ⟨fun hc6=>?_,fun hc6=>?_⟩
    ·skip
     exact dJ xx _ h
    skip
    exact dJ xx _ h
   skip
   exact dJ xx _ h
  skip
  exact dJ xx _ h
 skip
 refine ⟨fun hc2=>?_,fun hc2=>?_⟩
 ·skip
  refine ⟨fun hc3=>?_,fun hc3=>?_⟩
  ·skip
   refine ⟨fun hc4=>?_,fun hc4=>?_⟩
   ·skip
    refine ⟨fun j4=>?_,fun j4=>?_⟩
    ·skip
     exact dJ xx _ h
    skip
    exact dJ xx _ h
   skip
   refine ⟨fun j4=>?_,fun j4=>?_⟩
   ·skip
    refine ⟨fun hc6=>?_,fun hc6=>?_⟩
    ·skip
     exact dJ xx _ h
    skip
    exact dJ xx _ h
   skip
   exact dJ xx _ h
  skip
  refine ⟨fun hc4=>?_,fun hc4=>?_⟩
  ·skip
   refine ⟨fun j4=>?_,fun j4=>?_⟩
   ·skip
    refine ⟨fun hc6=>?_,fun hc6=>?_⟩
    ·skip
     exact dJ xx _ h
    skip
    exact dJ xx _ h
   skip
   refine ⟨fun hc6=>?_,fun hc6=>?_⟩
   ·skip
    refine ⟨fun iC=>?_,fun iC=>?_⟩
    ·skip
     exact dJ xx _ h
    skip
    exact dJ xx _ h
   skip
   exact dJ xx _ h
  skip
  exact dJ xx _ h
 skip
 exact dJ xx _ h
def tq (xx:Nd):Bool:=(Iw xx)
theorem XI (xx:Nd) (P:Bool→Prop) (h:P (tq xx)):O3 xx (fun k0=>P k0):=by
 unfold tq at h
 unfold O3
 refine ⟨fun hc0=>?_,fun hc0=>?_⟩
 ·skip
  exact KA xx _ h
 skip
 exact KA xx _ h
theorem adP (xx:Nd):O3 xx (fun k0=>k0=tq xx) :=
 XI xx (fun z=>z=tq xx) rfl
theorem adO {g:ak} {u0:Option Addr} {j0:Nat} {x0:Option Addr} {s0:Nat} (xx:Nd) (e0:bG g (.slice yA) [.slice u0 xx.2.2.1.length j0] xx.2.2.1) (f0:bG g (.slice (.int .i64)) [.slice x0 xx.2.2.2.2.2.length s0] xx.2.2.2.2.2)  : bE prog 33 #[.agg (aN xx u0 j0 x0 s0)] g (.bool (tq xx)) :=
 (XH xx e0 f0 _ (adP xx)).gv
def Bp (xx:Nd) (K:Int→Prop):Prop :=
 (((decide ((xx.2.2.2.1.length:Int)>400))||(decide ((xx.2.1.length:Int)>400)))=true→K 2)∧(((decide ((xx.2.2.2.1.length:Int)>400))||(decide ((xx.2.1.length:Int)>400)))=false→K 0)
def Bq (xx:Nd) (K:Int→Prop):Prop :=
 (((xx.1==2)&&(!(uA xx.2.1)))=true→K 3)∧(((xx.1==2)&&(!(uA xx.2.1)))=false→(((tu xx.2.2.1) != 0)=true→K (tu xx.2.2.1))∧(((tu xx.2.2.1) != 0)=false→((decide ((xx.2.2.2.1.length:Int)>400))=true→Bp xx K)∧((decide ((xx.2.2.2.1.length:Int)>400))=false→Bp xx K)))
def DV (xx:Nd) (K:Int→Prop):Prop :=
 ((decide (xx.1<1)||(decide (xx.1>5)||(!(tq xx))))=true→K 7)∧((decide (xx.1<1)||(decide (xx.1>5)||(!(tq xx))))=false→((xx.1==2)=true→Bq xx K)∧((xx.1==2)=false→Bq xx K))
def Fu (xx:Nd) (K:Int→Prop):Prop :=
 (decide (xx.1<1)=true→DV xx K)∧(decide (xx.1<1)=false→(decide (xx.1>5)=true→DV xx K)∧(decide (xx.1>5)=false→DV xx K))
theorem Xo {g:ak} {u0:Option Addr} {j0:Nat} {x0:Option Addr} {s0:Nat} (xx:Nd) (e0:bG g (.slice yA) [.slice u0 xx.2.2.1.length j0] xx.2.2.1) (f0:bG g (.slice (.int .i64)) [.slice x0 xx.2.2.2.2.2.length s0] xx.2.2.2.2.2) (K:Int→Prop)
  (hF:Fu xx K):az prog 17 #[.agg (aN xx u0 j0 x0 s0)] g [] (fun g' H' v=>∃ (r0:Int),v=iv r0∧H'=[]∧K r0):=by
 refine aP 44 func17 rfl fun w0=>?_
 refine ae (ai (di fun jg=>?_))
 let B:=decide (xx.1<1)||(decide (xx.1>5)||(!(tq xx)))
 let F:=(.cells (aN xx u0 j0 x0 s0) 48:Obj)
 refine av 1 [(1,pv jg 0)] kr (aa (aH (Ok.block (gD [(1,pv jg 0),(4,.bool B)] [.blk jg F] (DV xx K) ?_ (fun hF=>?_)))))
 ·
  refine aS (aj 4 [.e 0] [1] [(8,.bool (decide (xx.1<1)))] ?_)
  refine bN 8 hF (fun hc8 hF=>?_) (fun hc8 hF=>?_)
  ·refine ag 10 [1] [(4,.bool true)] ?_
   refine aa (aB 4 B (df hc8) ?_)
   exact fz hF
  refine aj 5 [.e 0] [1] [(13,.bool (decide (xx.1>5)))] ?_
  refine bN 13 hF (fun mW hF=>?_) (fun mW hF=>?_)
  ·refine ag 5 [1] [(4,.bool true)] ?_
   refine aa (aB 4 B (au (df mW) (bR hc8)) ?_)
   exact fz hF
  refine aj 5 [.e 0,.k (adO xx e0 f0)] [1] [(4,.bool (!(tq xx)))] ?_
  refine aa (aB 4 B (au (bR mW) (bR hc8)) ?_)
  exact fz hF
 refine aM hF (fun hc2 hF=>?_) (fun hc2 hF=>?_)
 ·refine ae (av 1 [(2,iv 7)] kr (aa (Ok.ret (aU (aC ?_)))))
  exact jr (iv 7) ⟨_,rfl,rfl,hF⟩
 let C:=(xx.1==2)&&(!(uA xx.2.1))
 refine gD [(1,pv jg 0),(18,.bool C)] [.blk jg F] (Bq xx K) ?_ (fun hF=>?_)
 ·
  refine aS (aj 4 [.e 0] [1] [(22,.bool (xx.1==2))] ?_)
  refine bN 22 hF (fun iC hF=>?_) (fun iC hF=>?_)
  ·refine aj 6 [.e 0,.k (adU xx.2.1)] [1] [(18,.bool (!(uA xx.2.1)))] ?_
   refine aa (aB 18 C (aZ iC) ?_)
   exact fz hF
  refine ag 6 [1] [(18,.bool false)] ?_
  refine aa (aB 18 C (bW iC) ?_)
  exact fz hF
 refine aM hF (fun hc3 hF=>?_) (fun hc3 hF=>?_)
 ·refine ae (av 1 [(2,iv 3)] kr (aa (Ok.ret (aU (aC ?_)))))
  exact jr (iv 3) ⟨_,rfl,rfl,hF⟩
 refine Ok.k (bJ (Ok.t (aH (ae (aj 4 [.e 0,.k (adQ xx.2.2.1 e0)] [1] [(3,iv (tu xx.2.2.1))] ?_)))))
 refine aa (ae (ag 2 [1,3] [(32,.bool ((tu xx.2.2.1) != 0))] ?_))
 refine aa (aM hF (fun hc4 hF=>?_) (fun hc4 hF=>?_))
 ·refine ae (av 2 [(2,iv (tu xx.2.2.1))] kr (aa (Ok.ret (aC ?_))))
  exact jr (iv (tu xx.2.2.1)) ⟨_,rfl,rfl,hF⟩
 let D:=decide ((xx.2.2.2.1.length:Int)>400)
 let E:=decide ((xx.2.1.length:Int)>400)
 let A:=D||E
 refine Ok.k (Ok.t (aH (gD [(43,.bool A)] [] (Bp xx K) ?_ (fun hF=>?_))))
 ·
  refine aS (aj 5 [.e 0] [1] [(38,.bool D)] ?_)
  refine bN 38 hF (fun hc6 hF=>?_) (fun hc6 hF=>?_)
  ·refine av 5 [(43,.bool true)] kr (aa (aB 43 A (df hc6) ?_))
   exact fz hF
  refine aj 5 [.e 0] [] [(43,.bool E)] ?_
  refine aa (aB 43 A (bR hc6) ?_)
  exact fz hF
 refine aM hF (fun j4 hF=>?_) (fun j4 hF=>?_)
 ·refine ae (av 1 [(2,iv 2)] kr (aa (Ok.ret (aC ?_))))
  exact rG (iv 2) ⟨_,rfl,rfl,hF⟩
 refine Ok.k (Ok.t (ae (av 1 [(2,iv 0)] kr (aa (Ok.ret ?_)))))
 exact rG (iv 0) ⟨_,rfl,rfl,hF⟩
theorem Xp (x:Nd):∃ e,Fu x (fun r=>r=e)∧(e=0→mQ x.2.2.1):=by
 have no:∀ {e:Int},e≠0→(e=0→mQ x.2.2.1):=fun h h0=>absurd h0 h
 have j29:tu x.2.2.1=0→∃ e,Bp x (fun r=>r=e)∧(e=0→mQ x.2.2.1):=fun h0=>gU (fun _=>pq (no dc)) fun _=>pq fun _=>(O4 x.2.2.1).2 h0
 have j11:∃ e,Bq x (fun r=>r=e)∧(e=0→mQ x.2.2.1):=gU (fun _=>pq (no dc)) fun _=>gU (fun hn=>pq (no (by simpa using hn))) fun hz=>gU (fun _=>j29 (by simpa using hz)) fun _=>j29 (by simpa using hz)
 have j5:∃ e,DV x (fun r=>r=e)∧(e=0→mQ x.2.2.1):=gU (fun _=>pq (no dc)) fun _=>gU (fun _=>j11) fun _=>j11
 exact gU (fun _=>j5) fun _=>gU (fun _=>j5) fun _=>j5
noncomputable def sW (x:Nd):Int:=E5 fun e=>Fu x (fun r=>r=e)∧(e=0→mQ x.2.2.1)
theorem OU (x:Nd):Fu x (fun r=>r=sW x)∧(sW x=0→mQ x.2.2.1):=xY (A:=fun e=>Fu x (fun r=>r=e)∧(e=0→mQ x.2.2.1)) (Xp x)
theorem adC (x:Nd):Fu x (fun r=>r=sW x):=(OU x).1
theorem adB {g:ak} {u0:Option Addr} {j0:Nat} {x0:Option Addr} {s0:Nat} (xx:Nd) (e0:bG g (.slice yA) [.slice u0 xx.2.2.1.length j0] xx.2.2.1) (f0:bG g (.slice (.int .i64)) [.slice x0 xx.2.2.2.2.2.length s0] xx.2.2.2.2.2)  : bE prog 17 #[.agg (aN xx u0 j0 x0 s0)] g (iv (sW xx)) :=
 (Xo xx e0 f0 _ (adC xx)).gv
set_option linter.unusedVariables false
set_option linter.unusedSimpArgs false
set_option maxHeartbeats 4000000
set_option maxRecDepth 100000
abbrev ND:=Nd
abbrev DC:=List ND×Bool
def par (l:List ND) (k:Nat):Int:=(l.getD k default).2.2.2.2.1
def eY (l:List ND) (k:Nat):List Int:=(l.getD k default).2.2.2.2.2
structure pJ (l:List ND):Prop where
 kid:∀ i,i<l.length→∀ k ∈ eY l i,0≤k∧k<(l.length:Int)∧par l k.toNat=(i:Int)
 up:∀ k,k<l.length→par l k = -1∨∃ i,i<l.length∧par l k=(i:Int)∧(k:Int) ∈ eY l i
 root:par l 0 = -1
 nodup:∀ i,i<l.length→(eY l i).Nodup
def Bt (xd:Dc) (K:Int→Prop) (e5:Nd) (e9:Int) (k0:Int) (z0:List Bool) (q0:Int) (Nj:Int→List Bool→Prop):Prop :=
 (((q0==0)&&((xd.1.getD e9.toNat default).1==3))=true→K 7)∧(((q0==0)&&((xd.1.getD e9.toNat default).1==3))=false→0≤e9∧e9.toNat<z0.length∧Nj (w6 (k0+1)) (z0.set (Int.toNat (e5.2.2.2.2.2.getD k0.toNat default)) true))
def yC (xd:Dc) (K:Int→Prop) (e5:Nd) (e9:Int) (k0:Int) (z0:List Bool) (q0:Int) (Nj:Int→List Bool→Prop):Prop :=
 (((decide (e9<0)||(decide (e9≥(z0.length:Int))))||(((xd.1.getD e9.toNat default).2.2.2.2.1 != q0)||z0.getD e9.toNat default))=true→K 3)∧(((decide (e9<0)||(decide (e9≥(z0.length:Int))))||(((xd.1.getD e9.toNat default).2.2.2.2.1 != q0)||z0.getD e9.toNat default))=false→((q0==0)=true→0≤e9∧e9.toNat<xd.1.length∧Bt xd K e5 e9 k0 z0 q0 Nj)∧((q0==0)=false→Bt xd K e5 e9 k0 z0 q0 Nj))
def Um (xd:Dc) (K:Int→Prop) (e5:Nd) (q0:Int) (C9:Int→List Bool→Prop) (k0:Int) (z0:List Bool) (Nj:Int→List Bool→Prop):Prop :=
 ((decide (k0<(e5.2.2.2.2.2.length:Int)))=true→0≤k0∧k0.toNat<e5.2.2.2.2.2.length∧(((decide (e5.2.2.2.2.2.getD k0.toNat default<0))||(decide (e5.2.2.2.2.2.getD k0.toNat default≥(z0.length:Int))))=true→yC xd K e5 (e5.2.2.2.2.2.getD k0.toNat default) k0 z0 q0 Nj)∧(((decide (e5.2.2.2.2.2.getD k0.toNat default<0))||(decide (e5.2.2.2.2.2.getD k0.toNat default≥(z0.length:Int))))=false→0≤e5.2.2.2.2.2.getD k0.toNat default∧Int.toNat (e5.2.2.2.2.2.getD k0.toNat default)<xd.1.length∧(((xd.1.getD (Int.toNat (e5.2.2.2.2.2.getD k0.toNat default)) default).2.2.2.2.1 != q0)=true→yC xd K e5 (e5.2.2.2.2.2.getD k0.toNat default) k0 z0 q0 Nj)∧(((xd.1.getD (Int.toNat (e5.2.2.2.2.2.getD k0.toNat default)) default).2.2.2.2.1 != q0)=false→0≤e5.2.2.2.2.2.getD k0.toNat default∧Int.toNat (e5.2.2.2.2.2.getD k0.toNat default)<z0.length∧yC xd K e5 (e5.2.2.2.2.2.getD k0.toNat default) k0 z0 q0 Nj)))∧((decide (k0<(e5.2.2.2.2.2.length:Int)))=false→C9 (w6 (q0+1)) z0)
def p_ (xd:Dc) (K:Int→Prop) (e5:Nd) (q0:Int) (C9:Int→List Bool→Prop):Nat→Int→List Bool→Prop
 | 0,_,_=>False
 | k+1,k0,z0=>Um xd K e5 q0 C9 k0 z0 (p_ xd K e5 q0 C9 k)
def Br (K:Int→Prop) (v0:List Bool) (y0:Int) (e28:Nd) (C56:Int→Prop):Prop :=
 (((e28.2.2.2.2.1 != (-1))&&(!(v0.getD y0.toNat default)))=true→K 3)∧(((e28.2.2.2.2.1 != (-1))&&(!(v0.getD y0.toNat default)))=false→C56 (w6 (y0+1)))
def Ul (xd:Dc) (K:Int→Prop) (v0:List Bool) (y0:Int) (C56:Int→Prop):Prop :=
 ((decide (y0<(xd.1.length:Int)))=true→0≤y0∧y0.toNat<xd.1.length∧(((xd.1.getD y0.toNat default).2.2.2.2.1 != (-1))=true→0≤y0∧y0.toNat<v0.length∧Br K v0 y0 (xd.1.getD y0.toNat default) C56)∧(((xd.1.getD y0.toNat default).2.2.2.2.1 != (-1))=false→Br K v0 y0 (xd.1.getD y0.toNat default) C56))∧((decide (y0<(xd.1.length:Int)))=false→(0:Int)≤0∧Int.toNat 0<xd.1.length∧(((xd.1.getD (Int.toNat 0) default).2.2.2.2.1 != (-1))=true→K 3)∧(((xd.1.getD (Int.toNat 0) default).2.2.2.2.1 != (-1))=false→K 0))
def vD (xd:Dc) (K:Int→Prop) (v0:List Bool):Nat→Int→Prop
 | 0,_=>False
 | k+1,y0=>Ul xd K v0 y0 (vD xd K v0 k)
def Xt (xd:Dc) (K:Int→Prop) (q0:Int) (v0:List Bool) (C9:Int→List Bool→Prop):Prop :=
 ((decide (q0<(xd.1.length:Int)))=true→0≤q0∧q0.toNat<xd.1.length∧∃ k,p_ xd K (xd.1.getD q0.toNat default) q0 C9 k 0 v0)∧((decide (q0<(xd.1.length:Int)))=false→∃ k,vD xd K v0 k 0)
def qC (xd:Dc) (K:Int→Prop):Nat→Int→List Bool→Prop
 | 0,_,_=>False
 | k+1,q0,v0=>Xt xd K q0 v0 (qC xd K k)
def Fw (xd:Dc) (K:Int→Prop):Prop :=
 0≤(xd.1.length:Int)∧(xd.1.length:Int)≤140737488355328∧∃ k,qC xd K k 0 (List.replicate (Int.toNat (xd.1.length:Int)) false)
theorem Xu {g:ak} {u0:Option Addr} {j0:Nat} (xd:Dc) (b0:bG g qh [.slice u0 xd.1.length j0] xd.1) (K:Int→Prop)
  (hF:Fw xd K):az prog 18 #[.agg (aD xd u0 j0)] g [] (fun g' H' v=>∃ (r0:Int),v=iv r0∧H'=[]∧K r0):=by
 refine aP 96 func18 rfl fun w0=>?_
 refine ae (ai (di fun jg=>?_))
 refine av 1 [(1,pv jg 0)] kr (aa (ae (aj 3 [.e 0] [1] [(12,iv (xd.1.length:Int))] ?_)))
 obtain ⟨h02,h12,hF⟩:=hF
 refine ai (wo (e:=.bool) (E:=4) (nn:=(xd.1.length:Int)) (y:=false) (z:=.bool false) 1 140737488355328 rfl rfl underlying75 kr kr kr rfl h02 h12 rfl fun a2 c2 yT hL2=>?_)
 refine ag 1 [1] [(3,.slice a2 (List.replicate (Int.toNat (xd.1.length:Int)) false).length c2)] ?_
 refine aa (aH (ae (aj 4 [.e 1] [1,3] [(15,.slice u0 xd.1.length j0),(16,iv (xd.1.length:Int)),(17,iv 0)] ?_)))
 refine aa (Ok.block ?_)
 obtain ⟨k,hF⟩:=hF
 refine gF (fun k a W=>∃ kC:ak,aY w0 g kC∧∃ (q0:Int) (m0:Option Addr) (n0:Nat) (v0:List Bool) (o0:List Value),aW kC (.bool) o0 v0∧fJ 96 [(1,pv jg 0),(3,.slice m0 v0.length n0),(15,.slice u0 xd.1.length j0),(16,iv (xd.1.length:Int)),(17,iv q0)] a∧dh w0 [.own (.slice m0 v0.length n0) 4 1 v0.length o0,.blk jg (.cells (aD xd u0 j0) 24)] kC W∧qC xd K k q0 v0) k ?_ ?_
 ·
  exact fun _ _ u v=>⟨g,bq w0 g,0,a2,c2,(List.replicate (Int.toNat (xd.1.length:Int)) false),yT,hL2,fA u v hF⟩
 clear hF
 rintro (_ | k9) _ _ ⟨kC,B0,q0,m0,n0,v0,o0,t0,q⟩
 exact (q.2.2:False).elim
 refine jn (fun hF=>?_) _ _ q
 replace b0:=b0.mono B0.1
 refine ae (ag 1 [1,3,15,16,17] [(18,.bool (decide (q0<(xd.1.length:Int))))] ?_)
 refine aa (aH (aM hF (fun hc3 hF=>?_) (fun hc3 hF=>?_)))
 ·refine Ok.k (Ok.t (aH (Ok.block (ae (ag 1 [1,3,15,16,17] [(19,iv q0)] ?_)))))
  obtain ⟨Ei,H_,hF⟩:=hF
  have Dx:=aV (l:=xd.1) default H_
  generalize hg5:(xd.1.getD q0.toNat default)=e5 at Dx hF ⊢
  refine ai (af.bf (e:=yN) rfl rfl underlying22 kr b0 Ei Dx rfl fun q4 o4 cs4 _ ab3 hr4=>?_)
  obtain ⟨k1,y1,U0,J0,rfl,TL,V0⟩:=oN hr4
  let C:=aN e5 k1 y1 U0 J0
  refine ai (af.s (v:=.agg C) (bU 0 6 C ab3 kr underlying48 rfl kr kr kr) rfl rfl (ai (bK #[iv 0,sv ([]:Bs),.slice none 0 0,sv ([]:Bs),iv 0,.slice none 0 0] fun iD=>?_)))
  refine ag 1 [1,3,15,16,17] [(4,iv q0),(5,pv iD 0),(21,.agg C)] ?_
  refine ai (af.w 0 ?_)
  refine aa (ae (aj 4 [.e 0] [1,3,4,15,16,17] [(23,.slice U0 e5.2.2.2.2.2.length J0),(24,iv (e5.2.2.2.2.2.length:Int)),(25,iv 0)] ?_))
  refine aa (Ok.block ?_)
  obtain ⟨k,hF⟩:=hF
  let D:=(.cells (aD xd u0 j0) 24:Obj)
  refine gF (fun k a W=>∃ Z0:ak,aY w0 kC Z0∧∃ (k0:Int) (x0:Option Addr) (s0:Nat) (z0:List Bool) (e0:List Value),aW Z0 (.bool) e0 z0∧fJ 96 [(1,pv jg 0),(3,.slice x0 z0.length s0),(4,iv q0),(15,.slice u0 xd.1.length j0),(16,iv (xd.1.length:Int)),(17,iv q0),(23,.slice U0 e5.2.2.2.2.2.length J0),(24,iv (e5.2.2.2.2.2.length:Int)),(25,iv k0)] a∧dh w0 [.own (.slice x0 z0.length s0) 4 1 z0.length e0,.blk jg D] Z0 W∧p_ xd K e5 q0 (qC xd K k9) k k0 z0) k ?_ ?_
  ·
   exact fun _ _ u v=>⟨kC,bq w0 kC,0,m0,n0,v0,o0,t0,fA u v hF⟩
  clear hF
  rintro (_ | k23) _ _ ⟨Z0,Q0,k0,x0,s0,z0,e0,f0,q⟩
  exact (q.2.2:False).elim
  refine jn (fun hF=>?_) _ _ q
  replace b0:=b0.mono Q0.1
  replace V0:=V0.mono Q0.1
  refine ae (ag 1 [1,3,4,15,16,17,23,24,25] [(26,.bool (decide (k0<(e5.2.2.2.2.2.length:Int))))] ?_)
  refine aa (aH (ed hF rfl (fun iC=>?_) (fun iC=>?_)))
  ·replace hF:=hF.1 iC
   refine Ok.k (Ok.t (aH (Ok.block (aH (aS ?_)))))
   obtain ⟨Eh,h19,hF⟩:=hF
   have QD:=aV (l:=e5.2.2.2.2.2) default h19
   generalize hg9:(e5.2.2.2.2.2.getD k0.toNat default)=e9 at QD hF ⊢
   refine ai (af.bf (e:=.int .i64) rfl rfl underlying46 kr V0 Eh QD rfl fun q8 o8 cs8 _ u1 hr8=>?_)
   obtain rfl:=hr8
   replace u1:At Z0 q8 o8 [iv e9]:=u1
   refine aj 2 [.a 0 u1] [1,3,4,15,16,17,23,24,25] [(7,iv e9)] ?_
   refine aa (aH (Ok.block (Ok.cut (fun a W=>∃ W0:ak,aY w0 Z0 W0∧fJ 96 [(1,pv jg 0),(3,.slice x0 z0.length s0),(4,iv q0),(7,iv e9),(15,.slice u0 xd.1.length j0),(16,iv (xd.1.length:Int)),(17,iv q0),(23,.slice U0 e5.2.2.2.2.2.length J0),(24,iv (e5.2.2.2.2.2.length:Int)),(25,iv k0),(29,.bool ((decide (e9<0)||(decide (e9≥(z0.length:Int))))||(((xd.1.getD e9.toNat default).2.2.2.2.1 != q0)||z0.getD e9.toNat default)))] a∧dh w0 [.own (.slice x0 z0.length s0) 4 1 z0.length e0,.blk jg D] W0 W∧yC xd K e5 e9 k0 z0 q0 (p_ xd K e5 q0 (qC xd K k9) k23)) ?_ ?_)))
   ·
    refine aS (ag 3 [1,3,4,7,15,16,17,23,24,25] [(32,.bool (decide (e9<0)))] ?_)
    refine Ok.w 5 [(1,pv jg 0),(3,.slice x0 z0.length s0),(4,iv q0),(7,iv e9),(15,.slice u0 xd.1.length j0),(16,iv (xd.1.length:Int)),(17,iv q0),(23,.slice U0 e5.2.2.2.2.2.length J0),(24,iv (e5.2.2.2.2.2.length:Int)),(25,iv k0),(37,.bool (decide (e9<0)||(decide (e9≥(z0.length:Int)))))] (fun n1=>?_) ?_
    ·refine Ok.a 32 (decide (e9<0)) rfl (fun j1=>?_) (fun j1=>?_)
     ·skip
      refine ag 5 [1,3,4,7,15,16,17,23,24,25] [(37,.bool true)] ?_
      refine aB 37 (decide (e9<0)||(decide (e9≥(z0.length:Int)))) (df j1) (ag 0 [1,3,4,7,15,16,17,23,24,25] [(37,.bool (decide (e9<0)||(decide (e9≥(z0.length:Int)))))] ?_)
      exact n1
     skip
     refine ag 5 [1,3,4,7,15,16,17,23,24,25] [(37,.bool (decide (e9≥(z0.length:Int))))] ?_
     refine aB 37 (decide (e9<0)||(decide (e9≥(z0.length:Int)))) (bR j1) (ag 0 [1,3,4,7,15,16,17,23,24,25] [(37,.bool (decide (e9<0)||(decide (e9≥(z0.length:Int)))))] ?_)
     exact n1
    refine ag 1 [1,3,4,7,15,16,17,23,24,25] [(38,.bool (decide (e9<0)||(decide (e9≥(z0.length:Int)))))] ?_
    refine bN 38 hF (fun P0 hF=>?_) (fun P0 hF=>?_)
    ·refine ag 16 [1,3,4,7,15,16,17,23,24,25] [(29,.bool true)] ?_
     refine aa (aB 29 ((decide (e9<0)||(decide (e9≥(z0.length:Int))))||(((xd.1.getD e9.toNat default).2.2.2.2.1 != q0)||z0.getD e9.toNat default)) (df P0) ?_)
     exact fg hF
    refine aj 3 [.e 1] [1,3,4,7,15,16,17,23,24,25] [(38,.bool false),(40,.slice u0 xd.1.length j0),(41,iv e9)] ?_
    obtain ⟨T_,h122,hF⟩:=hF
    have o1:=aV (l:=xd.1) default h122
    generalize r1:(xd.1.getD e9.toNat default)=e22 at o1 hF ⊢
    refine dW (af.bf (e:=yN) rfl rfl underlying22 kr b0 T_ o1 rfl fun q21 o21 ap6 _ aiH abk=>?_)
    obtain ⟨asr,arW,asq,arV,rfl,aoI,aoH⟩:=oN abk
    refine aj 6 [.a 4 aiH] [1,3,4,7,15,16,17,23,24,25] [(48,.bool (e22.2.2.2.2.1 != q0))] ?_
    refine Ok.a 48 (e22.2.2.2.2.1 != q0) rfl (fun D0=>?_) (fun D0=>?_)
    ·replace hF:=hF.1 D0
     refine ag 6 [1,3,4,7,15,16,17,23,24,25] [(29,.bool true)] ?_
     refine bY (Ok.t ?_)
     subst r1
     refine aB 29 ((decide (e9<0)||(decide (e9≥(z0.length:Int))))||(((xd.1.getD e9.toNat default).2.2.2.2.1 != q0)||z0.getD e9.toNat default)) (au (df D0) (bR P0)) ?_
     exact fg hF
    replace hF:=hF.2 D0
    refine ag 2 [1,3,4,7,15,16,17,23,24,25] [(48,.bool false),(49,.slice x0 z0.length s0),(50,iv e9)] ?_
    obtain ⟨DD,Ia,hF⟩:=hF
    have t1:=aV (l:=z0) default Ia
    generalize abJ:(z0.getD e9.toNat default)=e25 at t1 hF ⊢
    refine dW (af.fQ (e:=.bool) 0 rfl f0 rfl rfl underlying75 kr kr DD t1 rfl fun ajy _ Te x1=>?_)
    obtain rfl:=Te
    replace x1:∀ j v,([.bool e25]:List Value)[j]? = some v→e0[e9.toNat * 1+j]? = some v:=x1
    refine dW (af.s (v:=.bool e25) (dN 0 0 rfl x1 rfl underlying4 rfl kr) rfl rfl (ag 2 [1,3,4,7,15,16,17,23,24,25] [(29,.bool e25)] ?_))
    refine bY (Ok.t ?_)
    subst abJ
    subst r1
    refine aB 29 ((decide (e9<0)||(decide (e9≥(z0.length:Int))))||(((xd.1.getD e9.toNat default).2.2.2.2.1 != q0)||z0.getD e9.toNat default)) (au (bR D0) (bR P0)) ?_
    exact fg hF
   clear hF
   rintro _ _ ⟨W0,K0,q⟩
   refine jn (fun hF=>?_) _ _ q
   replace f0:=f0.mono K0.1
   replace b0:=b0.mono K0.1
   refine ed hF rfl (fun b1=>?_) (fun b1=>?_)
   ·replace hF:=hF.1 b1
    refine ae (av 1 [(2,iv 3)] kr (aa (Ok.ret (aU (aC (aU (aC (aC (aU (aU (aC (aC (aU (aC ?_))))))))))))))
    exact jd (iv 3) ((B0.trans Q0).trans K0) ⟨_,rfl,rfl,hF⟩
   replace hF:=hF.2 b1
   refine Ok.cut (fun a W=>∃ R0:ak,aY w0 W0 R0∧fJ 96 [(1,pv jg 0),(3,.slice x0 z0.length s0),(4,iv q0),(7,iv e9),(15,.slice u0 xd.1.length j0),(16,iv (xd.1.length:Int)),(17,iv q0),(23,.slice U0 e5.2.2.2.2.2.length J0),(24,iv (e5.2.2.2.2.2.length:Int)),(25,iv k0),(54,.bool ((q0==0)&&((xd.1.getD e9.toNat default).1==3)))] a∧dh w0 [.own (.slice x0 z0.length s0) 4 1 z0.length e0,.blk jg (.cells (aD xd u0 j0) 24)] R0 W∧Bt xd K e5 e9 k0 z0 q0 (p_ xd K e5 q0 (qC xd K k9) k23)) ?_ ?_
   ·
    refine aS (ag 3 [1,3,4,7,15,16,17,23,24,25] [(57,.bool (q0==0))] ?_)
    refine bN 57 hF (fun E0 hF=>?_) (fun E0 hF=>?_)
    ·refine aj 3 [.e 1] [1,3,4,7,15,16,17,23,24,25] [(57,.bool true),(59,.slice u0 xd.1.length j0),(60,iv e9)] ?_
     obtain ⟨adk,ac7,hF⟩:=hF
     have a1:=aV (l:=xd.1) default ac7
     generalize anc:(xd.1.getD e9.toNat default)=e17 at a1 hF ⊢
     refine dW (af.bf (e:=yN) rfl rfl underlying22 kr b0 adk a1 rfl fun q16 o16 ap9 _ aiK abn=>?_)
     obtain ⟨asv,ar1,asu,arZ,rfl,aoM,aoL⟩:=oN abn
     refine aj 5 [.a 0 aiK] [1,3,4,7,15,16,17,23,24,25] [(54,.bool (e17.1==3))] ?_
     refine bY (Ok.t ?_)
     subst anc
     refine aB 54 ((q0==0)&&((xd.1.getD e9.toNat default).1==3)) (aZ E0) ?_
     exact fg hF
    refine ag 9 [1,3,4,7,15,16,17,23,24,25] [(54,.bool false)] ?_
    refine aa (aB 54 ((q0==0)&&((xd.1.getD e9.toNat default).1==3)) (bW E0) ?_)
    exact fg hF
   clear hF
   rintro _ _ ⟨R0,X0,q⟩
   refine jn (fun hF=>?_) _ _ q
   replace f0:=f0.mono X0.1
   replace b0:=b0.mono X0.1
   refine ed hF rfl (fun F0=>?_) (fun F0=>?_)
   ·replace hF:=hF.1 F0
    refine ae (av 1 [(2,iv 7)] kr (aa (Ok.ret (aU (aC (aU (aC (aC (aU (aU (aC (aC (aU (aC ?_))))))))))))))
    exact jd (iv 7) (((B0.trans Q0).trans K0).trans X0) ⟨_,rfl,rfl,hF⟩
   replace hF:=hF.2 F0
   refine Ok.k (bJ (Ok.t (aS (ag 2 [1,3,4,15,16,17,23,24,25] [(66,.slice x0 z0.length s0),(67,iv e9)] ?_))))
   obtain ⟨ML,Ic,hF⟩:=hF
   have i1:=aV (l:=z0) default Ic
   generalize TD:(z0.getD e9.toNat default)=e13 at i1 hF ⊢
   refine ai (af.fQ (e:=.bool) 0 rfl f0 rfl rfl underlying75 kr kr ML i1 rfl fun ajB _ Tj G0=>?_)
   obtain rfl:=Tj
   replace G0:∀ j v,([.bool e13]:List Value)[j]? = some v→e0[e9.toNat * 1+j]? = some v:=G0
   refine ai (j_ (e:=.bool) (q:=e9.toNat) (cells:=[.bool e13]) (vs:=[.bool true]) (xy:=true) 0 0 1 rfl f0 G0 kr rfl rfl rfl kr kr kr kr kr (show bG _ _ [.bool true] _ from rfl) fun Ze TT=>?_)
   rw [show z0.length=(z0.set e9.toNat true).length from (kK ..).symm]
   refine bY (bJ (Ok.t (aS (ag 2 [1,4,15,16,17,23,24] [(3,.slice x0 (z0.set e9.toNat true).length s0),(25,iv (w6 (k0+1)))] ?_))))
   refine bY (Ok.t ?_)
   subst TD
   subst hg9
   exact fun _ _ u v=>⟨k23,nl,R0,((Q0.trans K0).trans X0),w6 (k0+1),x0,s0,(z0.set (Int.toNat (e5.2.2.2.2.2.getD k0.toNat default)) true),Ze,TT,fA u v hF⟩
  replace hF:=hF.2 iC
  refine fU (aA (aA (aO (bJ (Ok.t (aS (ag 2 [1,3,15,16] [(17,iv (w6 (q0+1)))] ?_)))))))
  refine bY (Ok.t ?_)
  subst hg5
  exact fun _ _ u v=>⟨k9,nl,Z0,B0.trans Q0,w6 (q0+1),x0,s0,z0,e0,f0,fA u v hF⟩
 refine fU (aA (aA (aO (Ok.t (aH (ae (aj 4 [.e 1] [1,3] [(72,.slice u0 xd.1.length j0),(73,iv (xd.1.length:Int)),(74,iv 0)] ?_)))))))
 refine aa (Ok.block ?_)
 obtain ⟨k,hF⟩:=hF
 refine gF (fun k a W=>∃ S0:ak,aY w0 kC S0∧∃ (y0:Int),fJ 96 [(1,pv jg 0),(3,.slice m0 v0.length n0),(72,.slice u0 xd.1.length j0),(73,iv (xd.1.length:Int)),(74,iv y0)] a∧dh w0 [.own (.slice m0 v0.length n0) 4 1 v0.length o0,.blk jg (.cells (aD xd u0 j0) 24)] S0 W∧vD xd K v0 k y0) k ?_ ?_
 ·
  exact fun _ _ u v=>⟨kC,bq w0 kC,0,fA u v hF⟩
 clear hF
 rintro (_ | k56) _ _ ⟨S0,Y0,y0,q⟩
 exact (q.2.2:False).elim
 refine jn (fun hF=>?_) _ _ q
 replace t0:=t0.mono Y0.1
 replace b0:=b0.mono Y0.1
 refine ae (ag 1 [1,3,72,73,74] [(75,.bool (decide (y0<(xd.1.length:Int))))] ?_)
 refine aa (aH (aM hF (fun Mo hF=>?_) (fun Mo hF=>?_)))
 ·refine Ok.k (Ok.t (aH (Ok.block (ae (ag 1 [1,3,72,73,74] [(76,iv y0)] ?_)))))
  obtain ⟨adg,h128,hF⟩:=hF
  have Z1:=aV (l:=xd.1) default h128
  generalize am6:(xd.1.getD y0.toNat default)=e28 at Z1 hF ⊢
  refine ai (af.bf (e:=yN) rfl rfl underlying22 kr b0 adg Z1 rfl fun q27 o27 ap3 _ aiE abg=>?_)
  obtain ⟨H0,M0,N0,O0,rfl,aoA,aoz⟩:=oN abg
  let B:=aN e28 H0 M0 N0 O0
  refine ai (af.s (v:=.agg B) (bU 0 6 B aiE kr underlying48 rfl kr kr kr) rfl rfl (ai (bK #[iv 0,sv ([]:Bs),.slice none 0 0,sv ([]:Bs),iv 0,.slice none 0 0] fun bs9=>?_)))
  refine ag 1 [1,3,72,73,74] [(8,iv y0),(9,pv bs9 0),(78,.agg B)] ?_
  refine ai (af.w 0 ?_)
  let A:=e28.2.2.2.2.1 != (-1)
  refine aa (Ok.cut (fun a W=>∃ T0:ak,aY w0 S0 T0∧fJ 96 [(1,pv jg 0),(3,.slice m0 v0.length n0),(72,.slice u0 xd.1.length j0),(73,iv (xd.1.length:Int)),(74,iv y0),(88,.bool (A&&(!(v0.getD y0.toNat default))))] a∧dh w0 [.own (.slice m0 v0.length n0) 4 1 v0.length o0,.blk jg (.cells (aD xd u0 j0) 24)] T0 W∧Br K v0 y0 e28 (vD xd K v0 k56)) ?_ ?_)
  ·
   refine aS (aj 4 [.e 0] [1,3,8,72,73,74] [(82,.bool A)] ?_)
   refine bN 82 hF (fun d1 hF=>?_) (fun d1 hF=>?_)
   ·refine ag 2 [1,3,72,73,74] [(82,.bool true),(83,.slice m0 v0.length n0),(84,iv y0)] ?_
    obtain ⟨ade,ac2,hF⟩:=hF
    have V1:=aV (l:=v0) default ac2
    generalize am4:(v0.getD y0.toNat default)=e33 at V1 hF ⊢
    refine dW (af.fQ (e:=.bool) 1 rfl t0 rfl rfl underlying75 kr kr ade V1 rfl fun aun _ amx e1=>?_)
    obtain rfl:=amx
    replace e1:∀ j v,([.bool e33]:List Value)[j]? = some v→o0[y0.toNat * 1+j]? = some v:=e1
    refine dW (af.s (v:=.bool e33) (dN 1 0 rfl e1 rfl underlying4 rfl kr) rfl rfl (ag 2 [1,3,72,73,74] [(88,.bool (!e33))] ?_))
    refine bY (Ok.t ?_)
    subst am4
    refine aB 88 (A&&(!(v0.getD y0.toNat default))) (aZ d1) ?_
    exact fg hF
   refine ag 6 [1,3,72,73,74] [(88,.bool false)] ?_
   refine aa (aB 88 (A&&(!(v0.getD y0.toNat default))) (bW d1) ?_)
   exact fg hF
  clear hF
  rintro _ _ ⟨T0,C0,q⟩
  refine jn (fun hF=>?_) _ _ q
  replace b0:=b0.mono C0.1
  refine ed hF rfl (fun f1=>?_) (fun f1=>?_)
  ·replace hF:=hF.1 f1
   refine ae (av 1 [(2,iv 3)] kr (aa (Ok.ret (aU (aC (aC (aU (aC ?_))))))))
   exact jd (iv 3) ((B0.trans Y0).trans C0) ⟨_,rfl,rfl,hF⟩
  replace hF:=hF.2 f1
  refine Ok.k (bJ (Ok.t (aS (ag 2 [1,3,72,73] [(74,iv (w6 (y0+1)))] ?_))))
  refine bY (Ok.t ?_)
  subst am6
  exact fun _ _ u v=>⟨k56,nl,T0,Y0.trans C0,w6 (y0+1),fA u v hF⟩
 refine fU (aA (aA (aO (Ok.t (aH (ae (av 1 [(90,pv jg 0)] kr (ai (af.s (v:=.slice u0 xd.1.length j0) (aR 1 rfl rfl underlying22 rfl kr) rfl rfl ?_)))))))))
 obtain ⟨TZ,TW,hF⟩:=hF
 have Q1:=aV (l:=xd.1) default TW
 generalize WZ:(xd.1.getD (Int.toNat 0) default)=e35 at Q1 hF ⊢
 refine ai (af.bf (e:=yN) rfl rfl underlying22 kr b0 TZ Q1 rfl fun q34 o34 ajw _ aiA Tc=>?_)
 obtain ⟨asj,arR,asi,arQ,rfl,aou,aot⟩:=oN Tc
 refine aj 3 [.a 4 aiA] [] [(95,.bool (e35.2.2.2.2.1 != (-1)))] ?_
 refine aa (aM hF (fun TF hF=>?_) (fun TF hF=>?_))
 ·refine ae (av 1 [(2,iv 3)] kr (aa (Ok.ret (aC ?_))))
  exact jd (iv 3) (B0.trans Y0) ⟨_,rfl,rfl,hF⟩
 refine Ok.k (Ok.t (ae (av 1 [(2,iv 0)] kr (aa (Ok.ret ?_)))))
 exact jd (iv 0) (B0.trans Y0) ⟨_,rfl,rfl,hF⟩
def Fv (d:DC):Prop:=1≤d.1.length∧d.1.length≤200∧∀ x ∈ d.1,x.2.2.2.2.2.length≤maxLen
theorem h_ {α:Type} {l:List α} {i:Nat} (d:α) (h:i<l.length):l.getD i d ∈ l:=by
 rw [gN,gB h,uI]; exact zN h
theorem Ud {l:List Bool} {i j:Nat}:(l.set i true).getD j default=true→j=i∨l.getD j default=true:=by
 rw [gN,gN,uO]
 split
 ·rename_i h; intro _; exact .inl h.symm
 intro h; exact .inr h
theorem Qa {l:List Bool} {i j:Nat} (h:l.getD j default=true):(l.set i true).getD j default=true:=by
 rw [gN] at h ⊢
 rw [uO]
 split
 ·rename_i hij
  subst hij
  split
  ·rfl
  rename_i hl
  rw [sG om] at h
  exact h
 exact h
theorem Uf {l:List Bool} {i:Nat} (h:i<l.length):(l.set i true).getD i default=true:=by
 rw [gN,uO,bn rfl,bn h]; rfl
theorem LH {α:Type} {l:List α} {x:α} (h:l.Nodup) (hx:x ∉ l):(l++[x]).Nodup:=by
 rw [List.nodup_append]
 refine ⟨h,by simp,fun a ha b hb=>?_⟩
 rw [il] at hb
 subst hb
 intro e
 subst e
 exact hx ha
theorem Ue (n j:Nat):(List.replicate n false).getD j default=false:=by
 rw [gN,List.getElem?_replicate]
 split <;> rfl
theorem Xv (d:DC) (hp:Fv d):∃ e,Fw d (fun r=>r=e)∧(e=0→pJ d.1):=by
 obtain ⟨h1,h2,h3⟩:=hp
 have no:∀ {e:Int},e≠0→(e=0→pJ d.1):=fun h h0=>absurd h0 h
 -- what is known of the flags
 have Flags:∀ (seen:List Bool),(∀ k,seen.getD k default=true→∃ i,i<d.1.length∧par d.1 k=(i:Int)∧(k:Int) ∈ eY d.1 i) →
   (∀ i,i<d.1.length→∀ k ∈ eY d.1 i,0≤k∧k<(d.1.length:Int)∧par d.1 k.toNat=(i:Int))→(∀ i,i<d.1.length→(eY d.1 i).Nodup)→seen.length=d.1.length →
   ∀ (k i:Nat),i+k=d.1.length→(∀ j,j<i→par d.1 j = -1∨seen.getD j default=true)→∃ e,vD d (fun r=>r=e) seen (k+1) (i:Int)∧(e=0→pJ d.1):=by
  intro seen hs hk hnd hl k
  induction k with
  | zero =>
   intro i h hj
   refine gU (fun h=>od h) (fun _=>fC om (fC (by show 0<d.1.length; omega) (gU (fun _=>pq (no dc)) fun hr=>pq fun _=>⟨hk,fun j hj2=>?_,?_,hnd⟩)))
   ·rcases hj j om with h | h
    ·exact .inl h
    exact .inr (hs j h)
   have hr':(par d.1 0 != -1)=false:=hr
   simpa using hr'
  | succ k ih =>
   intro i h hj
   refine gU (fun _=>fC om (fC (by rw [eB]; omega) ?_)) (fun h=>oe h)
   have j67:∃ e,Br (fun r=>r=e) seen (i:Int) (d.1.getD (Int.toNat (i:Int)) default) (vD d (fun r=>r=e) seen (k+1))∧(e=0→pJ d.1):=by
    refine gU (fun _=>pq (no dc)) fun hc=>?_
    rw [gp om]
    refine ih (i+1) om fun j hj2=>?_
    by_cases hji:j<i
    ·exact hj j hji
    have:j=i:=om
    subst this
    rw [eB] at hc
    have hc':((par d.1 j != -1)&&(!(seen.getD j default)))=false:=hc
    rw [fw] at hc'
    rcases hc' with h | h
    ·exact .inl (by simpa using h)
    exact .inr (by simpa using h)
   exact gU (fun _=>fC om (fC (by rw [eB]; omega) j67)) fun _=>j67
 have loop:∀ (k i:Nat) (seen:List Bool),i+k=d.1.length→seen.length=d.1.length→(∀ k,seen.getD k default=true→∃ i,i<d.1.length∧par d.1 k=(i:Int)∧(k:Int) ∈ eY d.1 i) →
   (∀ i',i'<i→∀ k ∈ eY d.1 i',0≤k∧k<(d.1.length:Int)∧par d.1 k.toNat=(i':Int))→(∀ i',i'<i→(eY d.1 i').Nodup)→∃ e,qC d (fun r=>r=e) (k+1) (i:Int) seen∧(e=0→pJ d.1):=by
  intro k
  induction k with
  | zero =>
   intro i seen h hl hs hk hnd
   refine gU (fun h=>od h) (fun _=>vB _ (Flags seen hs (fun i' hi'=>hk i' om) (fun i' hi'=>hnd i' om) hl d.1.length 0 om fun j hj=>absurd hj om))
  | succ k ih =>
   intro i seen h hl hs hk hnd
   refine gU (fun _=>fC om (fC (by rw [eB]; omega) ?_)) (fun h=>oe h)
   rw [eB]
   have hlen:(eY d.1 i).length≤maxLen:=h3 _ (h_ default om)
   have inner:∀ (q j:Nat) (seen:List Bool),j+q=(eY d.1 i).length→seen.length=d.1.length→(∀ k,seen.getD k default=true→∃ i,i<d.1.length∧par d.1 k=(i:Int)∧(k:Int) ∈ eY d.1 i) →
     (∀ x ∈ (eY d.1 i).take j,0≤x∧x<(d.1.length:Int)∧par d.1 x.toNat=(i:Int))→((eY d.1 i).take j).Nodup→(∀ x ∈ (eY d.1 i).take j,seen.getD x.toNat default=true)→∃ e,p_ d (fun r=>r=e) (d.1.getD i default) (i:Int) (qC d (fun r=>r=e) (k+1)) (q+1) (j:Int) seen∧(e=0→pJ d.1):=by
    intro q
    induction q with
    | zero =>
     intro j seen hj hl hs ht hn hse
     refine gU (fun h=>by have h':=dn h; have h'':(j:Int)<((eY d.1 i).length:Int):=h'; omega) (fun _=>?_)
     rw [gp om]
     rw [jR om] at ht hn
     refine ih (i+1) seen om hl hs (fun i' hi'=>?_) (fun i' hi'=>?_)
     ·by_cases hii:i'<i
      ·exact hk i' hii
      have:i'=i:=om
      subst this
      exact ht
     by_cases hii:i'<i
     ·exact hnd i' hii
     have:i'=i:=om
     subst this
     exact hn
    | succ q ihq =>
     intro j seen hj hl hs ht hn hse
     rw [l9] at hlen
     refine gU (fun _=>fC om (fC (by rw [eB]; show j<(eY d.1 i).length; omega) ?_)) (fun h=>by have h':=fZ h; have h'':¬ (j:Int)<((eY d.1 i).length:Int):=h'; omega)
     rw [eB]
     have hx:∃ x,(d.1.getD i default).2.2.2.2.2.getD j default=x∧x ∈ eY d.1 i∧(eY d.1 i).take (j+1)=(eY d.1 i).take j++[x]:=⟨_,rfl,h_ default om,iA default om⟩
     obtain ⟨x,hx,hxm,hxt⟩:=hx
     have j36:∃ e,yC d (fun r=>r=e) (d.1.getD i default) x (j:Int) seen (i:Int) (p_ d (fun r=>r=e) (d.1.getD i default) (i:Int) (qC d (fun r=>r=e) (k+1)) (q+1))∧(e=0→pJ d.1):=by
      refine gU (fun _=>pq (no dc)) fun hc=>?_
      simp only [dC,eQ] at hc
      obtain ⟨⟨c1,c2⟩,c3,c4⟩:=hc
      have c3':par d.1 x.toNat=(i:Int):=by
       have:(par d.1 x.toNat != (i:Int))=false:=c3
       simpa using this
      have hx0:0≤x:=om
      have hxl:x<(d.1.length:Int):=om
      have j42:∃ e,Bt d (fun r=>r=e) (d.1.getD i default) x (j:Int) seen (i:Int) (p_ d (fun r=>r=e) (d.1.getD i default) (i:Int) (qC d (fun r=>r=e) (k+1)) (q+1))∧(e=0→pJ d.1):=by
       refine gU (fun _=>pq (no dc)) fun _=>fC hx0 (fC om ?_)
       rw [gp om]
       have c4':seen.getD x.toNat default=false:=c4
       have hxn:x ∉ (eY d.1 i).take j:=fun hm=>by rw [hse x hm] at c4'; cases c4'
       refine ihq (j+1) _ om (by rw [kK]; exact hl) (fun k hk2=>?_) (fun y hy=>?_) (by rw [hxt]; exact LH hn hxn) (fun y hy=>?_)
       ·rw [eB,hx] at hk2
        rcases Ud hk2 with h | h
        ·subst h
         exact ⟨i,om,c3',by rw [Int.toNat_of_nonneg hx0]; exact hxm⟩
        exact hs k h
       ·rw [hxt] at hy
        rcases lh.1 hy with hy | hy
        ·exact ht y hy
        rw [il] at hy; subst hy; exact ⟨hx0,hxl,c3'⟩
       rw [eB,hx]
       rw [hxt] at hy
       rcases lh.1 hy with hy | hy
       ·exact Qa (hse y hy)
       rw [il] at hy; subst hy; exact Uf om
      exact gU (fun _=>fC hx0 (fC om j42)) fun _=>j42
     rw [hx]
     refine gU (fun _=>j36) fun hb=>?_
     simp only [dC,eQ] at hb
     exact fC om (fC om (gU (fun _=>j36) fun _=>fC om (fC om j36)))
   exact vB _ (inner (eY d.1 i).length 0 seen om hl hs (fun x hx=>absurd hx (by simp)) (by rw [List.take_zero]; exact List.nodup_nil) (fun x hx=>absurd hx (by simp)))
 refine fC om (fC om (vB _ (loop d.1.length 0 _ om ?_ (fun k hk=>?_) (fun i' hi'=>absurd hi' om) (fun i' hi'=>absurd hi' om))))
 ·rw [List.length_replicate,eB]
 rw [Ue] at hk; cases hk
noncomputable def sZ (d:DC):Int:=E5 fun e=>Fw d (fun r=>r=e)∧(e=0→pJ d.1)
theorem OW (d:DC) (hp:Fv d):Fw d (fun r=>r=sZ d)∧(sZ d=0→pJ d.1):=xY (A:=fun e=>Fw d (fun r=>r=e)∧(e=0→pJ d.1)) (Xv d hp)
theorem adF (d:DC) (hp:Fv d):Fw d (fun r=>r=sZ d):=(OW d hp).1
theorem adE {g:ak} {u0:Option Addr} {j0:Nat} (xd:Dc) (b0:bG g qh [.slice u0 xd.1.length j0] xd.1)  (hp:Fv xd):bE prog 18 #[.agg (aD xd u0 j0)] g (iv (sZ xd)) :=
 (Xu xd b0 _ (adF xd hp)).gv
def Ku (xd:Dc) (K:Int→Prop) (a0:Int) (i0:Int) (C5:Int→Int→Prop):Prop :=
 (((decide ((xd.1.getD a0.toNat default).2.2.2.2.1≥0))&&(decide (i0≤(xd.1.length:Int))))=true→0≤a0∧a0.toNat<xd.1.length∧C5 (xd.1.getD a0.toNat default).2.2.2.2.1 (w6 (i0+1)))∧(((decide ((xd.1.getD a0.toNat default).2.2.2.2.1≥0))&&(decide (i0≤(xd.1.length:Int))))=false→K i0)
def adx (xd:Dc) (K:Int→Prop) (a0:Int) (i0:Int) (C5:Int→Int→Prop):Prop :=
 0≤a0∧a0.toNat<xd.1.length∧((decide ((xd.1.getD a0.toNat default).2.2.2.2.1≥0))=true→Ku xd K a0 i0 C5)∧((decide ((xd.1.getD a0.toNat default).2.2.2.2.1≥0))=false→Ku xd K a0 i0 C5)
def DU (xd:Dc) (K:Int→Prop):Nat→Int→Int→Prop
 | 0,_,_=>False
 | k+1,a0,i0=>adx xd K a0 i0 (DU xd K k)
def aji (xd:Dc) (xn:Int) (K:Int→Prop):Prop :=
 ∃ k,DU xd K k xn 0
theorem ady {g:ak} {u0:Option Addr} {j0:Nat} (xd:Dc) (xn:Int) (b0:bG g qh [.slice u0 xd.1.length j0] xd.1) (K:Int→Prop)
  (hF:aji xd xn K):az prog 19 #[.agg (aD xd u0 j0),iv xn] g [] (fun g' H' v=>∃ (r0:Int),v=iv r0∧H'=[]∧K r0):=by
 refine aP 28 func19 rfl fun w0=>?_
 refine ae (ai (di fun eO=>?_))
 refine av 1 [(1,iv xn),(2,pv eO 0),(4,iv 0)] kr (aa (aH (Ok.block ?_)))
 obtain ⟨k,hF⟩:=hF
 let C:=(.cells (aD xd u0 j0) 24:Obj)
 refine gF (fun k a W=>∃ (a0:Int) (i0:Int),fJ 28 [(1,iv a0),(2,pv eO 0),(4,iv i0)] a∧dh w0 [.blk eO C] g W∧DU xd K k a0 i0) k ?_ ?_
 ·
  exact fun _ _ u v=>⟨xn,0,fA u v hF⟩
 clear hF
 rintro (_ | k5) _ _ ⟨a0,i0,q⟩
 exact (q.2.2:False).elim
 refine jn (fun hF=>?_) _ _ q
 refine aH (gD [(1,iv a0),(2,pv eO 0),(4,iv i0),(18,.bool ((decide ((xd.1.getD a0.toNat default).2.2.2.2.1≥0))&&(decide (i0≤(xd.1.length:Int)))))] [.blk eO C] (Ku xd K a0 i0 (DU xd K k5)) ?_ (fun hF=>?_))
 ·
  refine aS (aj 3 [.e 0] [1,2,4] [(6,.slice u0 xd.1.length j0),(7,iv a0)] ?_)
  obtain ⟨vY,h16,hF⟩:=hF
  have wW:=aV (l:=xd.1) default h16
  generalize Bi:(xd.1.getD a0.toNat default)=e6 at wW hF ⊢
  refine ai (af.bf (e:=yN) rfl rfl underlying22 kr b0 vY wW rfl fun q5 o5 cs5 _ m1 P8=>?_)
  obtain ⟨L0,A0,I0,z1,rfl,v1,q1⟩:=oN P8
  let B:=decide (e6.2.2.2.2.1≥0)
  refine aj 4 [.a 4 m1] [1,2,4] [(12,.bool B)] ?_
  refine Ok.a 12 B rfl (fun iC=>?_) (fun iC=>?_)
  ·replace hF:=hF.1 iC
   let A:=decide (i0≤(xd.1.length:Int))
   refine aj 6 [.e 0] [1,2,4] [(18,.bool A)] ?_
   refine bY (Ok.t ?_)
   subst Bi
   refine aB 18 ((decide ((xd.1.getD a0.toNat default).2.2.2.2.1≥0))&&A) (aZ iC) ?_
   exact fz hF
  replace hF:=hF.2 iC
  refine ag 6 [1,2,4] [(18,.bool false)] ?_
  refine bY (Ok.t ?_)
  subst Bi
  refine aB 18 ((decide ((xd.1.getD a0.toNat default).2.2.2.2.1≥0))&&(decide (i0≤(xd.1.length:Int)))) (bW iC) ?_
  exact fz hF
 refine aM hF (fun hc2 hF=>?_) (fun hc2 hF=>?_)
 ·refine Ok.k (Ok.t (aH (Ok.block (aS (ag 3 [1,2] [(4,iv (w6 (i0+1)))] ?_)))))
  refine bY (bJ (Ok.t (aS (aj 3 [.e 0] [2,4] [(20,.slice u0 xd.1.length j0),(21,iv a0)] ?_))))
  obtain ⟨qA,ru,hF⟩:=hF
  have pR:=aV (l:=xd.1) default ru
  generalize hg4:(xd.1.getD a0.toNat default)=e4 at pR hF ⊢
  refine ai (af.bf (e:=yN) rfl rfl underlying22 kr b0 qA pR rfl fun q3 o3 XQ _ TH hr3=>?_)
  obtain ⟨aeJ,aee,aqu,aqj,rfl,TN,ai4⟩:=oN hr3
  refine aj 3 [.a 4 TH] [2,4] [(1,iv e4.2.2.2.2.1)] ?_
  refine bY (Ok.t ?_)
  subst hg4
  exact fun _ _ u v=>⟨k5,nl,(xd.1.getD a0.toNat default).2.2.2.2.1,w6 (i0+1),fA u v hF⟩
 refine fU (aA (aA (aO (Ok.t (ae (ag 2 [4] [] ?_))))))
 refine aa (Ok.ret ?_)
 exact jr (iv i0) ⟨_,rfl,rfl,hF⟩
def zC (l:List ND):Nat→Int→Int→Int
 | 0,_,m=>m
 | k+1,n,m=>if (decide (par l n.toNat≥0)&&decide (m≤(l.length:Int)))=true then zC l k (par l n.toNat) (m+1) else m
def rA (d:DC) (n:Int):Int:=zC d.1 (d.1.length+2) n 0
def adz (d:DC) (n:Int):Prop:=d.1.length≤200∧pJ d.1∧0≤n∧n<(d.1.length:Int)
theorem QO {l:List ND} (h:pJ l) {n:Int} (h0:0≤n) (h1:n<(l.length:Int)) (hu:par l n.toNat≥0):par l n.toNat<(l.length:Int):=by
 rcases h.up n.toNat om with h | ⟨i,hi,he,_⟩
 ·omega
 omega
theorem ajh (d:DC) (n:Int) (hp:adz d n):aji d n (fun r=>r=rA d n):=by
 obtain ⟨hl,hk,h0,h1⟩:=hp
 have loop:∀ (k:Nat) (n' m:Int),0≤n'→n'<(d.1.length:Int)→0≤m→m≤(d.1.length:Int)+1→(d.1.length:Int)+1≤m+k→rA d n=zC d.1 (k+1) n' m→DU d (fun r=>r=rA d n) (k+1) n' m:=by
  intro k
  induction k with
  | zero =>
   intro n' m g0 g1 g2 g3 g4 he
   have hc:(decide (par d.1 n'.toNat≥0)&&decide (m≤(d.1.length:Int)))=false:=by
    rw [lZ (show ¬ m≤(d.1.length:Int) by omega),uS]
   rw [zC,aF hc] at he
   have j7:Ku d (fun r=>r=rA d n) n' m (DU d (fun r=>r=rA d n) 0):=⟨fun h=>(Bool.false_ne_true (hc.symm.trans h)).elim,fun _=>he.symm⟩
   exact ⟨g0,om,fun _=>j7,fun _=>j7⟩
  | succ k ih =>
   intro n' m g0 g1 g2 g3 g4 he
   rw [zC] at he
   have j7:Ku d (fun r=>r=rA d n) n' m (DU d (fun r=>r=rA d n) (k+1)):=by
    refine ⟨fun h=>?_,fun h=>?_⟩
    ·have h':(decide (par d.1 n'.toNat≥0)&&decide (m≤(d.1.length:Int)))=true:=h
     rw [aT h'] at he
     rw [aG,dH,dH] at h'
     rw [gp om]
     exact ⟨g0,om,ih _ _ h'.1 (QO hk g0 g1 h'.1) om om om he⟩
    rw [aF (show (decide (par d.1 n'.toNat≥0)&&decide (m≤(d.1.length:Int)))=false from h)] at he
    exact he.symm
   exact ⟨g0,om,fun _=>j7,fun _=>j7⟩
 exact ⟨_,loop (d.1.length+1) n 0 h0 h1 om om om rfl⟩
theorem ajg {g:ak} {u0:Option Addr} {j0:Nat} (xd:Dc) (xn:Int) (b0:bG g qh [.slice u0 xd.1.length j0] xd.1)  (hp:adz xd xn):bE prog 19 #[.agg (aD xd u0 j0),iv xn] g (iv (rA xd xn)) :=
 (ady xd xn b0 _ (ajh xd xn hp)).gv
def Uu (xd:Dc) (K:Int→Prop) (d0:Int) (C65:Int→Prop):Prop :=
 ((decide (d0<(xd.1.length:Int)))=true→adz xd d0∧((decide ((rA xd d0)>(xd.1.length:Int)))=true→K 8)∧((decide ((rA xd d0)>(xd.1.length:Int)))=false→((decide ((rA xd d0)>40))=true→K 2)∧((decide ((rA xd d0)>40))=false→C65 (w6 (d0+1)))))∧((decide (d0<(xd.1.length:Int)))=false→K 0)
def Bv (xd:Dc) (K:Int→Prop):Nat→Int→Prop
 | 0,_=>False
 | k+1,d0=>Uu xd K d0 (Bv xd K k)
def Uv (xd:Dc) (K:Int→Prop) (c0:Int) (C22:Int→Prop):Prop :=
 ((decide (c0<(xd.1.length:Int)))=true→0≤c0∧c0.toNat<xd.1.length∧((!(((xd.1.getD c0.toNat default).1==1)==(c0==0)))=true→K 3)∧((!(((xd.1.getD c0.toNat default).1==1)==(c0==0)))=false→(((sW (xd.1.getD c0.toNat default)) != 0)=true→K (sW (xd.1.getD c0.toNat default)))∧(((sW (xd.1.getD c0.toNat default)) != 0)=false→C22 (w6 (c0+1)))))∧((decide (c0<(xd.1.length:Int)))=false→Fv xd∧(((sZ xd) != 0)=true→K (sZ xd))∧(((sZ xd) != 0)=false→∃ k,Bv xd K k 0))
def Bw (xd:Dc) (K:Int→Prop):Nat→Int→Prop
 | 0,_=>False
 | k+1,c0=>Uv xd K c0 (Bw xd K k)
def Fx (xd:Dc) (K:Int→Prop):Prop :=
 ((decide ((xd.1.length:Int)>200))=true→K 2)∧((decide ((xd.1.length:Int)>200))=false→(((xd.1.length:Int)==0)=true→K 3)∧(((xd.1.length:Int)==0)=false→∃ k,Bw xd K k 0))
theorem XF {g:ak} {u0:Option Addr} {j0:Nat} (xd:Dc) (b0:bG g qh [.slice u0 xd.1.length j0] xd.1) (K:Int→Prop)
  (hF:Fx xd K):az prog 7 #[.agg (aD xd u0 j0)] g [] (fun g' H' v=>∃ (r0:Int),v=iv r0∧H'=[]∧K r0):=by
 refine aP 63 func7 rfl fun w0=>?_
 refine ae (ai (di fun jg=>?_))
 let A:=(xd.1.length:Int)
 refine av 1 [(1,pv jg 0)] kr (aa (aH (Ok.block (ae (aj 5 [.e 0] [1] [(9,.bool (decide (A>200)))] ?_)))))
 refine aa (aM hF (fun hc2 hF=>?_) (fun hc2 hF=>?_))
 ·refine ae (av 1 [(2,iv 2)] kr (aa (Ok.ret (aU (aC ?_)))))
  exact jr (iv 2) ⟨_,rfl,rfl,hF⟩
 refine ae (aj 5 [.e 0] [1] [(14,.bool (A==0))] ?_)
 refine aa (aM hF (fun hc3 hF=>?_) (fun hc3 hF=>?_))
 ·refine ae (av 1 [(2,iv 3)] kr (aa (Ok.ret (aU (aC ?_)))))
  exact jr (iv 3) ⟨_,rfl,rfl,hF⟩
 refine Ok.k (bJ (Ok.t (aH (ae (aj 4 [.e 0] [1] [(20,.slice u0 xd.1.length j0),(21,iv A),(22,iv 0)] ?_)))))
 refine aa (Ok.block ?_)
 obtain ⟨k,hF⟩:=hF
 refine gF (fun k a W=>∃ (c0:Int),fJ 63 [(1,pv jg 0),(20,.slice u0 xd.1.length j0),(21,iv A),(22,iv c0)] a∧dh w0 [.blk jg (.cells (aD xd u0 j0) 24)] g W∧Bw xd K k c0) k ?_ ?_
 ·
  exact fun _ _ u v=>⟨0,fA u v hF⟩
 clear hF
 rintro (_ | k22) _ _ ⟨c0,q⟩
 exact (q.2.2:False).elim
 refine jn (fun hF=>?_) _ _ q
 refine ae (ag 1 [1,20,21,22] [(23,.bool (decide (c0<A)))] ?_)
 refine aa (aH (aM hF (fun hc4 hF=>?_) (fun hc4 hF=>?_)))
 ·refine Ok.k (Ok.t (aH (Ok.block (ae (ag 1 [1,20,21,22] [(24,iv c0)] ?_)))))
  obtain ⟨vY,h16,hF⟩:=hF
  have wW:=aV (l:=xd.1) default h16
  generalize Bi:(xd.1.getD c0.toNat default)=e6 at wW hF ⊢
  refine ai (af.bf (e:=yN) rfl rfl underlying22 kr b0 vY wW rfl fun q5 o5 cs5 _ m1 P8=>?_)
  obtain ⟨L0,A0,I0,z1,rfl,v1,q1⟩:=oN P8
  let B:=aN e6 L0 A0 I0 z1
  refine ai (af.s (v:=.agg B) (bU 0 6 B m1 kr underlying48 rfl kr kr kr) rfl rfl (ai (bK #[iv 0,sv ([]:Bs),.slice none 0 0,sv ([]:Bs),iv 0,.slice none 0 0] fun kZ=>?_)))
  refine ag 1 [1,20,21,22] [(3,iv c0),(4,pv kZ 0),(26,.agg B)] ?_
  refine ai (af.w 0 ?_)
  refine aa (aH (ae (aj 6 [.e 0] [1,4,20,21,22] [(32,.bool (!((e6.1==1)==(c0==0))))] ?_)))
  refine aa (ed hF rfl (fun hc8=>?_) (fun hc8=>?_))
  ·replace hF:=hF.1 hc8
   refine ae (av 1 [(2,iv 3)] kr (aa (Ok.ret (aC (aU (aC (aC (aU (aC ?_)))))))))
   exact jr (iv 3) ⟨_,rfl,rfl,hF⟩
  replace hF:=hF.2 hc8
  refine Ok.k (Ok.t (ae (aj 3 [.e 0,.k (adB e6 v1 q1)] [1,20,21,22] [(5,iv (sW e6))] ?_)))
  refine aa (ae (ag 2 [1,5,20,21,22] [(36,.bool ((sW e6) != 0))] ?_))
  refine aa (ed hF rfl (fun mW=>?_) (fun mW=>?_))
  ·replace hF:=hF.1 mW
   refine ae (av 2 [(2,iv (sW e6))] kr (aa (Ok.ret (aU (aC (aC (aU (aC ?_))))))))
   exact jr (iv (sW e6)) ⟨_,rfl,rfl,hF⟩
  replace hF:=hF.2 mW
  refine Ok.k (bJ (Ok.t (aS (ag 2 [1,20,21] [(22,iv (w6 (c0+1)))] ?_))))
  refine bY (Ok.t ?_)
  subst Bi
  exact fun _ _ u v=>⟨k22,nl,w6 (c0+1),fA u v hF⟩
 refine fU (aA (aA (aO (Ok.t (aH (aH (aS ?_)))))))
 obtain ⟨Hw,hF⟩:=hF
 refine aj 3 [.e 0,.k (adE xd b0 Hw)] [1] [(6,iv (sZ xd))] ?_
 refine aa (ae (ag 2 [1,6] [(42,.bool ((sZ xd) != 0))] ?_))
 refine aa (aM hF (fun F0 hF=>?_) (fun F0 hF=>?_))
 ·refine ae (av 2 [(2,iv (sZ xd))] kr (aa (Ok.ret (aC ?_))))
  exact jr (iv (sZ xd)) ⟨_,rfl,rfl,hF⟩
 refine Ok.k (Ok.t (aH (ae (aj 4 [.e 0] [1] [(46,iv (xd.1.length:Int)),(47,iv 0)] ?_))))
 refine aa (Ok.block ?_)
 obtain ⟨k,hF⟩:=hF
 refine gF (fun k a W=>∃ (d0:Int),fJ 63 [(1,pv jg 0),(46,iv (xd.1.length:Int)),(47,iv d0)] a∧dh w0 [.blk jg (.cells (aD xd u0 j0) 24)] g W∧Bv xd K k d0) k ?_ ?_
 ·
  exact fun _ _ u v=>⟨0,fA u v hF⟩
 clear hF
 rintro (_ | k65) _ _ ⟨d0,q⟩
 exact (q.2.2:False).elim
 refine jn (fun hF=>?_) _ _ q
 refine ae (ag 1 [1,46,47] [(48,.bool (decide (d0<(xd.1.length:Int))))] ?_)
 refine aa (aH (aM hF (fun G0 hF=>?_) (fun G0 hF=>?_)))
 ·refine Ok.k (Ok.t (aH (Ok.block (ae (ag 2 [1,46,47] [(7,iv d0)] ?_)))))
  refine aa (aH (aS ?_))
  obtain ⟨zx,hF⟩:=hF
  refine aj 4 [.e 0,.k (ajg xd d0 b0 zx)] [1,46,47] [(8,iv (rA xd d0))] ?_
  refine aa (Ok.block (ae (aj 6 [.e 0] [1,8,46,47] [(53,.bool (decide ((rA xd d0)>(xd.1.length:Int))))] ?_)))
  refine aa (aM hF (fun Mr hF=>?_) (fun Mr hF=>?_))
  ·refine ae (av 1 [(2,iv 8)] kr (aa (Ok.ret (aU (aU (aC (aC (aU (aC ?_)))))))))
   exact jr (iv 8) ⟨_,rfl,rfl,hF⟩
  refine ae (ag 3 [1,46,47] [(59,.bool (decide ((rA xd d0)>40)))] ?_)
  refine aa (aM hF (fun E0 hF=>?_) (fun E0 hF=>?_))
  ·refine ae (av 1 [(2,iv 2)] kr (aa (Ok.ret (aU (aU (aC (aC (aU (aC ?_)))))))))
   exact jr (iv 2) ⟨_,rfl,rfl,hF⟩
  refine Ok.k (bJ (bJ (Ok.t (aS (ag 2 [1,46] [(47,iv (w6 (d0+1)))] ?_)))))
  refine bY (Ok.t ?_)
  exact fun _ _ u v=>⟨k65,nl,w6 (d0+1),fA u v hF⟩
 refine fU (aA (aA (aO (Ok.t (ae (av 1 [(2,iv 0)] kr (aa (Ok.ret ?_))))))))
 exact jr (iv 0) ⟨_,rfl,rfl,hF⟩
structure gP (d:DC):Prop where
 pos:1≤d.1.length
 few:d.1.length≤200
 kids:pJ d.1
 deep:∀ n,n<d.1.length→rA d n≤40
 ends:∀ n,n<d.1.length→rA d n≤(d.1.length:Int)
 kind:∀ n,n<d.1.length→(((d.1.getD n default).1==1)=decide (n=0))
 vals:∀ n,n<d.1.length→mQ (d.1.getD n default).2.2.1
def vZ (d:DC):Prop:=∀ x ∈ d.1,x.2.2.2.2.2.length≤maxLen
theorem XG (d:DC) (hp:vZ d):∃ e,Fx d (fun r=>r=e)∧(e=0→gP d):=by
 have no:∀ {e:Int},e≠0→(e=0→gP d):=fun h h0=>absurd h0 h
 refine gU (fun _=>pq (no dc)) fun h1=>gU (fun _=>pq (no dc)) fun h2=>?_
 have h1:=fZ h1
 have h2:¬ d.1.length=0:=by
  intro h0
  rw [h0] at h2
  exact absurd h2 dc
 have hkp:Fv d:=⟨om,om,hp⟩
 have last:sZ d=0→(∀ n,n<d.1.length→(((d.1.getD n default).1==1)=decide (n=0)))→(∀ n,n<d.1.length→mQ (d.1.getD n default).2.2.1)→∀ (k i:Nat),i+k=d.1.length→(∀ j,j<i→rA d j≤40∧rA d j≤(d.1.length:Int))→∃ e,Bv d (fun r=>r=e) (k+1) (i:Int)∧(e=0→gP d):=by
  intro hz hkind hval k
  have hkg:=(OW d hkp).2 hz
  induction k with
  | zero =>
   intro i h hj
   exact gU (fun h=>od h) (fun _=>pq fun _=>⟨om,om,hkg,fun n hn=>(hj n om).1,fun n hn=>(hj n om).2,hkind,hval⟩)
  | succ k ih =>
   intro i h hj
   refine gU (fun _=>fC ⟨om,hkg,om,om⟩ (gU (fun _=>pq (no dc)) fun hm=>gU (fun _=>pq (no dc)) fun h40=>?_)) (fun h=>oe h)
   rw [gp om]
   refine ih (i+1) om fun j hj2=>?_
   by_cases hji:j<i
   ·exact hj j hji
   have:j=i:=om
   subst this
   have h1:=fZ h40
   have h2:=fZ hm
   exact ⟨om,om⟩
 have loop:∀ (k i:Nat),i+k=d.1.length→(∀ n,n<i→(((d.1.getD n default).1==1)=decide (n=0)))→(∀ n,n<i→mQ (d.1.getD n default).2.2.1)→∃ e,Bw d (fun r=>r=e) (k+1) (i:Int)∧(e=0→gP d):=by
  intro k
  induction k with
  | zero =>
   intro i h hj hv
   refine gU (fun h=>od h) (fun _=>fC hkp (gU (fun hne=>pq (no (by simpa using hne))) fun hz=>vB _ (last (by simpa using hz) (fun n hn=>hj n om) (fun n hn=>hv n om) d.1.length 0 om fun j hj=>absurd hj om)))
  | succ k ih =>
   intro i h hj hv
   refine gU (fun _=>fC om (fC (by rw [eB]; omega) (gU (fun _=>pq (no dc)) fun hk=>gU (fun hne=>pq (no (by simpa using hne))) fun ho=>?_))) (fun h=>oe h)
   rw [gp om]
   have ho':sW (d.1.getD i default)=0:=by rw [eB] at ho; simpa using ho
   refine ih (i+1) om (fun n hn=>?_) fun n hn=>?_
   rotate_left
   ·by_cases hni:n<i
    ·exact hv n hni
    have:n=i:=om
    subst this
    exact (OU _).2 ho'
   by_cases hni:n<i
   ·exact hj n hni
   have:n=i:=om
   subst this
   rw [eB] at hk
   have h2:(((d.1.getD n default).1==1)==((n:Int)==0))=true:=by simpa using hk
   rw [dI.1 h2]
   rw [uR,dI,dH]; omega
 exact vB _ (loop d.1.length 0 om (fun n hn=>absurd hn om) fun n hn=>absurd hn om)
noncomputable def fI (d:DC):Int:=E5 fun e=>Fx d (fun r=>r=e)∧(e=0→gP d)
theorem OZ (d:DC) (hp:vZ d):Fx d (fun r=>r=fI d)∧(fI d=0→gP d):=xY (A:=fun e=>Fx d (fun r=>r=e)∧(e=0→gP d)) (XG d hp)
theorem adN (d:DC) (hp:vZ d):Fx d (fun r=>r=fI d):=(OZ d hp).1
theorem Uw {g:ak} {u0:Option Addr} {j0:Nat} (xd:Dc) (b0:bG g qh [.slice u0 xd.1.length j0] xd.1)  (hp:vZ xd):bE prog 7 #[.agg (aD xd u0 j0)] g (iv (fI xd)) :=
 (XF xd b0 _ (adN xd hp)).gv
end Go.Proofs.YtdapgmigogpdcaaGreatDoor.Do
