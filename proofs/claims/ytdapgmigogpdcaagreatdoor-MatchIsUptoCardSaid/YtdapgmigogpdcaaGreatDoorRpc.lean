/- strings.NewReplacer: what its table is. -/
import Derived.Test.YtdapgmigogpdcaaGreatDoorRnd
import Derived.Test.YtdapgmigogpdcaaGreatDoorExi
import Derived.Test.YtdapgmigogpdcaaGreatDoorProg
import Derived.Test.YtdapgmigogpdcaaGreatDoorLaid
import Derived.Lib.SliceRun
import Derived.Test.YtdapgmigogpdcaaGreatDoorSha
namespace Go.Proofs.YtdapgmigogpdcaaGreatDoor.Rp
open _root_.Go.Proofs.Tryz Go Go.iQ Go.RowKit
set_option linter.unusedVariables false
set_option linter.unusedSimpArgs false
set_option maxHeartbeats 4000000
set_option maxRecDepth 100000
def Lp (a b c d:Value):List Value:=let n (k:Nat):List Value:=List.replicate k (.slice none 0 0); n 10++a::(n 23++b::(n 57++c::(n 163++[d])))
def oF (g:ak) (b:Nat):Prop:=∃ (Ve a34 Vd t:Option Addr) (c10 c34 Vb ct:Nat),g b=some (.cells (Lp (.slice Ve 2 c10) (.slice a34 2 c34) (.slice Vd 2 Vb) (.slice t 3 ct)).toArray 237) ∧
 bG g (.slice yb) [.slice Ve 2 c10] [92,10]∧bG g (.slice yb) [.slice a34 2 c34] [92,34]∧bG g (.slice yb) [.slice Vd 2 Vb] [92,92]∧bG g (.slice .str) [.slice t 3 ct] [[10],[34],[92]]
theorem oF.mk {g:ak} {b:Nat} {Ve a34 Vd t:Option Addr} {c10 c34 Vb ct:Nat} (h:g b=some (.cells (Lp (.slice Ve 2 c10) (.slice a34 2 c34) (.slice Vd 2 Vb) (.slice t 3 ct)).toArray 237))
  (h1:bG g (.slice yb) [.slice Ve 2 c10] [92,10]) (h2:bG g (.slice yb) [.slice a34 2 c34] [92,34]) (h3:bG g (.slice yb) [.slice Vd 2 Vb] [92,92]) (h4:bG g (.slice .str) [.slice t 3 ct] [[10],[34],[92]]):oF g b :=
 ⟨_,_,_,_,_,_,_,_,h,h1,h2,h3,h4⟩
theorem oF.mono {g g':ak} {b:Nat} (h:oF g b) (hg:lC g g'):oF g' b:=by
 obtain ⟨Ve,a34,Vd,t,c10,c34,Vb,ct,hb,h1,h2,h3,h4⟩:=h
 exact ⟨_,_,_,_,_,_,_,_,hg _ _ hb,h1.mono hg,h2.mono hg,h3.mono hg,h4.mono hg⟩
def aeC (K:Prop):Prop :=
 (0:Int)≤0∧Int.toNat 0<([[92],[92,92],[34],[92,34],[10],[92,10]]:List Bs).length∧(0:Int)≤1∧Int.toNat 1<([[92],[92,92],[34],[92,34],[10],[92,10]]:List Bs).length∧(0:Int)≤2∧Int.toNat 2<([[92],[92,92],[34],[92,34],[10],[92,10]]:List Bs).length∧(0:Int)≤3∧Int.toNat 3<([[92],[92,92],[34],[92,34],[10],[92,10]]:List Bs).length∧(0:Int)≤4∧Int.toNat 4<([[92],[92,92],[34],[92,34],[10],[92,10]]:List Bs).length∧(0:Int)≤5∧Int.toNat 5<([[92],[92,92],[34],[92,34],[10],[92,10]]:List Bs).length∧(0:Int)≤4∧Int.toNat 4<([[92],[92,92],[34],[92,34],[10],[92,10]]:List Bs).length∧(0:Int)≤5∧Int.toNat 5<([[92],[92,92],[34],[92,34],[10],[92,10]]:List Bs).length∧(([]:List Bs)++([bytesOf ([10]:List Int)]:List Bs)).length≤8796093022208∧([92,10]:Bs).length≤maxLen∧(0:Int)≤2∧Int.toNat 2<([[92],[92,92],[34],[92,34],[10],[92,10]]:List Bs).length∧(0:Int)≤3∧Int.toNat 3<([[92],[92,92],[34],[92,34],[10],[92,10]]:List Bs).length∧((([]:List Bs)++([bytesOf ([10]:List Int)]:List Bs))++([bytesOf ([34]:List Int)]:List Bs)).length≤8796093022208∧([92,34]:Bs).length≤maxLen∧(0:Int)≤0∧Int.toNat 0<([[92],[92,92],[34],[92,34],[10],[92,10]]:List Bs).length∧(0:Int)≤1∧Int.toNat 1<([[92],[92,92],[34],[92,34],[10],[92,10]]:List Bs).length∧(((([]:List Bs)++([bytesOf ([10]:List Int)]:List Bs))++([bytesOf ([34]:List Int)]:List Bs))++([bytesOf ([92]:List Int)]:List Bs)).length≤8796093022208∧([92,92]:Bs).length≤maxLen∧K
theorem aeB {g:ak} {b:Nat} {ao:Option Addr} {co:Nat} (Bj:bG g (.slice (.str)) [.slice ao ([[92],[92,92],[34],[92,34],[10],[92,10]]:List Bs).length co] ([[92],[92,92],[34],[92,34],[10],[92,10]]:List Bs)) (K:Prop)
  (hF:aeC K):az prog 174 #[pv b 0] g [.blk b (.cells #[.int .u32 0,.int .i32 1,.int .u32 0,.nilIface,.slice ao ([[92],[92,92],[34],[92,34],[10],[92,10]]:List Bs).length co] 195)] (fun g' H' v=>∃ b2,v=.tuple #[]∧H'=[.blk b (.cells #[.int .u32 0,.int .i32 1,.int .u32 0,.iface 238 (pv b2 0),.slice none 0 0] 195)]∧oF g' b2):=by
 refine aP 10 func174 rfl fun w0=>?_
 refine ae (av 2 [(0,pv b 0),(2,pv b 0),(3,pv b 0)] kr (ai (bM (args:=#[pv b 0]) 132 [(0,pv b 0)] gT func205 rfl rfl rfl rfl (ae (ag 1 [0] [] ?_)))))
 refine aa (ae (aj 5 [.e 0] [] [(3,.slice ao ([[92],[92,92],[34],[92,34],[10],[92,10]]:List Bs).length co)] ?_))
 refine aa (aH (ae (ag 10 [3] [(28,.bool false)] ?_)))
 refine aa (Ok.c (b:=false) rfl (fun h=>by cases h) (fun _=>?_))
 refine Ok.k (Ok.t (ae (ag 1 [3] [(4,.bool true)] ?_)))
 refine aa (aH (ae (ag 1 [3,4] [(5,iv 0)] ?_)))
 refine aa (Ok.block (Ok.rounds 5 (jY (aH (ae (av 4 [(3,.slice ao ([[92],[92,92],[34],[92,34],[10],[92,10]]:List Bs).length co),(4,.bool true),(5,iv 0),(40,.bool true)] kr (aa (Ok.c (b:=true) rfl (fun _=>?_) (fun h=>by cases h)))))))))
 refine Ok.k (Ok.t (aH (Ok.block (aH (ae (ag 2 [3,4,5] [(43,.slice ao ([[92],[92,92],[34],[92,34],[10],[92,10]]:List Bs).length co),(44,iv 0)] ?_))))))
 obtain ⟨h02,h12,hF⟩:=hF
 have he2:([[92],[92,92],[34],[92,34],[10],[92,10]]:List Bs)[Int.toNat 0]? = some ([92]:Bs):=aV (l:=([[92],[92,92],[34],[92,34],[10],[92,10]]:List Bs)) (default:Bs) h12
 refine ai (af.bf (e:=.str) rfl rfl underlying84 kr Bj h02 he2 rfl fun q1 o1 cs1 _ V0 hr1=>?_)
 obtain rfl:=hr1
 replace V0:At g q1 o1 [sv ([92]:Bs)]:=V0
 refine aj 3 [.a 0 V0] [3,4,5] [(48,.bool false)] ?_
 refine aa (Ok.c (b:=false) rfl (fun h=>by cases h) (fun _=>?_))
 refine Ok.k (Ok.t (ae (ag 3 [3,4,5] [(52,.slice ao ([[92],[92,92],[34],[92,34],[10],[92,10]]:List Bs).length co),(54,iv 1)] ?_)))
 obtain ⟨qA,ru,hF⟩:=hF
 have pR:([[92],[92,92],[34],[92,34],[10],[92,10]]:List Bs)[Int.toNat 1]? = some ([92,92]:Bs):=aV (l:=([[92],[92,92],[34],[92,34],[10],[92,10]]:List Bs)) (default:Bs) ru
 refine ai (af.bf (e:=.str) rfl rfl underlying84 kr Bj qA pR rfl fun q3 o3 XQ _ Q0 hr3=>?_)
 obtain rfl:=hr3
 replace Q0:At g q3 o3 [sv ([92,92]:Bs)]:=Q0
 refine aj 3 [.a 0 Q0] [3,4,5] [(58,.bool true)] ?_
 refine aa (Ok.c (b:=true) rfl (fun _=>?_) (fun h=>by cases h))
 refine aS (ag 1 [3,5] [(4,.bool false)] ?_)
 refine bY (bJ (Ok.t (aS (ag 3 [3,4] [(5,iv 2)] ?_))))
 refine aa (jY (aH (ae (av 4 [(3,.slice ao ([[92],[92,92],[34],[92,34],[10],[92,10]]:List Bs).length co),(4,.bool false),(5,iv 2),(40,.bool true)] kr (aa (Ok.c (b:=true) rfl (fun _=>?_) (fun h=>by cases h)))))))
 refine Ok.k (Ok.t (aH (Ok.block (aH (ae (ag 2 [3,4,5] [(43,.slice ao ([[92],[92,92],[34],[92,34],[10],[92,10]]:List Bs).length co),(44,iv 2)] ?_))))))
 obtain ⟨vY,h16,hF⟩:=hF
 have wW:([[92],[92,92],[34],[92,34],[10],[92,10]]:List Bs)[Int.toNat 2]? = some ([34]:Bs):=aV (l:=([[92],[92,92],[34],[92,34],[10],[92,10]]:List Bs)) (default:Bs) h16
 refine ai (af.bf (e:=.str) rfl rfl underlying84 kr Bj vY wW rfl fun q5 o5 cs5 _ K0 P8=>?_)
 obtain rfl:=P8
 replace K0:At g q5 o5 [sv ([34]:Bs)]:=K0
 refine aj 3 [.a 0 K0] [3,4,5] [(48,.bool false)] ?_
 refine aa (Ok.c (b:=false) rfl (fun h=>by cases h) (fun _=>?_))
 refine Ok.k (Ok.t (ae (ag 3 [3,4,5] [(52,.slice ao ([[92],[92,92],[34],[92,34],[10],[92,10]]:List Bs).length co),(54,iv 3)] ?_)))
 obtain ⟨MG,h18,hF⟩:=hF
 have Ml:([[92],[92,92],[34],[92,34],[10],[92,10]]:List Bs)[Int.toNat 3]? = some ([92,34]:Bs):=aV (l:=([[92],[92,92],[34],[92,34],[10],[92,10]]:List Bs)) (default:Bs) h18
 refine ai (af.bf (e:=.str) rfl rfl underlying84 kr Bj MG Ml rfl fun q7 o7 cs7 _ Y0 S9=>?_)
 obtain rfl:=S9
 replace Y0:At g q7 o7 [sv ([92,34]:Bs)]:=Y0
 refine aj 3 [.a 0 Y0] [3,4,5] [(58,.bool true)] ?_
 refine aa (Ok.c (b:=true) rfl (fun _=>?_) (fun h=>by cases h))
 refine aS (ag 1 [3,4,5] [] ?_)
 refine bY (bJ (Ok.t (aS (ag 3 [3,4] [(5,iv 4)] ?_))))
 refine aa (jY (aH (ae (av 4 [(3,.slice ao ([[92],[92,92],[34],[92,34],[10],[92,10]]:List Bs).length co),(4,.bool false),(5,iv 4),(40,.bool true)] kr (aa (Ok.c (b:=true) rfl (fun _=>?_) (fun h=>by cases h)))))))
 refine Ok.k (Ok.t (aH (Ok.block (aH (ae (ag 2 [3,4,5] [(43,.slice ao ([[92],[92,92],[34],[92,34],[10],[92,10]]:List Bs).length co),(44,iv 4)] ?_))))))
 obtain ⟨Ub,MF,hF⟩:=hF
 have anr:([[92],[92,92],[34],[92,34],[10],[92,10]]:List Bs)[Int.toNat 4]? = some ([10]:Bs):=aV (l:=([[92],[92,92],[34],[92,34],[10],[92,10]]:List Bs)) (default:Bs) MF
 refine ai (af.bf (e:=.str) rfl rfl underlying84 kr Bj Ub anr rfl fun q9 o9 cs9 _ U0 WR=>?_)
 obtain rfl:=WR
 replace U0:At g q9 o9 [sv ([10]:Bs)]:=U0
 refine aj 3 [.a 0 U0] [3,4,5] [(48,.bool false)] ?_
 refine aa (Ok.c (b:=false) rfl (fun h=>by cases h) (fun _=>?_))
 refine Ok.k (Ok.t (ae (ag 3 [3,4,5] [(52,.slice ao ([[92],[92,92],[34],[92,34],[10],[92,10]]:List Bs).length co),(54,iv 5)] ?_)))
 obtain ⟨Ua,h112,hF⟩:=hF
 have anq:([[92],[92,92],[34],[92,34],[10],[92,10]]:List Bs)[Int.toNat 5]? = some ([92,10]:Bs):=aV (l:=([[92],[92,92],[34],[92,34],[10],[92,10]]:List Bs)) (default:Bs) h112
 refine ai (af.bf (e:=.str) rfl rfl underlying84 kr Bj Ua anq rfl fun q11 o11 ad6 _ f0 abr=>?_)
 obtain rfl:=abr
 replace f0:At g q11 o11 [sv ([92,10]:Bs)]:=f0
 refine aj 3 [.a 0 f0] [3,4,5] [(58,.bool true)] ?_
 refine aa (Ok.c (b:=true) rfl (fun _=>?_) (fun h=>by cases h))
 refine aS (ag 1 [3,4,5] [] ?_)
 refine bY (bJ (Ok.t (aS (ag 3 [3,4] [(5,iv 6)] ?_))))
 refine aa (jY (aH (ae (av 4 [(3,.slice ao ([[92],[92,92],[34],[92,34],[10],[92,10]]:List Bs).length co),(4,.bool false),(5,iv 6),(40,.bool false)] kr (aa (Ok.c (b:=false) rfl (fun h=>by cases h) (fun _=>?_)))))))
 refine fU (aA (aA (aO (Ok.t (aH (ae (ag 1 [3] [(59,.bool false)] ?_)))))))
 refine aa (Ok.c (b:=false) rfl (fun h=>by cases h) (fun _=>?_))
 refine Ok.k (Ok.t (ae (ag 3 [3] [(93,iv 3)] ?_)))
 refine ai (IM (e:=.str) (E:=9) 16 3 rfl rfl underlying84 kr kr rfl fun b13=>?_)
 have ao6:aW g (.str) [] ([]:List Bs):=rfl
 refine ag 1 [3] [(95,.agg (Lp (.slice none 0 0) (.slice none 0 0) (.slice none 0 0) (.slice (some ⟨b13,0,none⟩) ([]:List Bs).length 3)).toArray)] ?_
 refine ai (af.a (z:=.agg (Lp (.slice none 0 0) (.slice none 0 0) (.slice none 0 0) (.slice none 0 0)).toArray) (cs:=(List.toArray <| Lp (.slice none 0 0) (.slice none 0 0) (.slice none 0 0) (.slice none 0 0))) kr kr rfl fun z0=>?_)
 refine ai (Ya 0 (Lp (.slice none 0 0) (.slice none 0 0) (.slice none 0 0) (.slice (some ⟨b13,0,none⟩) ([]:List Bs).length 3)).toArray rfl rfl rfl ?_)
 refine aa (aH (ae (ag 4 [3] [(11,pv z0 0),(12,iv 4)] ?_)))
 refine aa (Ok.block (Ok.rounds 5 (jY (aH (ae (av 2 [(3,.slice ao ([[92],[92,92],[34],[92,34],[10],[92,10]]:List Bs).length co),(11,pv z0 0),(12,iv 4),(100,.bool true)] kr (aa (Ok.c (b:=true) rfl (fun _=>?_) (fun h=>by cases h)))))))))
 refine Ok.k (Ok.t (aH (Ok.block (ae (ag 2 [3,11,12] [(103,.slice ao ([[92],[92,92],[34],[92,34],[10],[92,10]]:List Bs).length co),(104,iv 4)] ?_)))))
 obtain ⟨MK,h116,hF⟩:=hF
 have anp:([[92],[92,92],[34],[92,34],[10],[92,10]]:List Bs)[Int.toNat 4]? = some ([10]:Bs):=aV (l:=([[92],[92,92],[34],[92,34],[10],[92,10]]:List Bs)) (default:Bs) h116
 refine ai (af.bf (e:=.str) rfl rfl underlying84 kr Bj MK anp rfl fun q15 o15 aqa _ g0 abo=>?_)
 obtain rfl:=abo
 replace g0:At g q15 o15 [sv ([10]:Bs)]:=g0
 refine aj 3 [.a 0 g0] [3,11,12] [(13,.int .u8 10)] ?_
 refine aa (ae (ag 3 [3,11,12,13] [(108,.slice ao ([[92],[92,92],[34],[92,34],[10],[92,10]]:List Bs).length co),(110,iv 5)] ?_))
 obtain ⟨MJ,MC,hF⟩:=hF
 have ano:([[92],[92,92],[34],[92,34],[10],[92,10]]:List Bs)[Int.toNat 5]? = some ([92,10]:Bs):=aV (l:=([[92],[92,92],[34],[92,34],[10],[92,10]]:List Bs)) (default:Bs) MC
 refine ai (af.bf (e:=.str) rfl rfl underlying84 kr Bj MJ ano rfl fun q17 o17 ajA _ m0 Tg=>?_)
 obtain rfl:=Tg
 replace m0:At g q17 o17 [sv ([92,10]:Bs)]:=m0
 refine aj 2 [.a 0 m0] [3,11,12,13] [(14,sv ([92,10]:Bs))] ?_
 refine aa (aH (ae (aj 5 [.e 0] [3,11,12,13,14] [(117,.bool true)] ?_)))
 refine aa (Ok.c (b:=true) rfl (fun _=>?_) (fun h=>by cases h))
 refine aS (aj 3 [.e 0] [3,11,12,13,14] [(119,.slice (some ⟨b13,0,none⟩) ([]:List Bs).length 3),(120,.int .u8 10)] ?_)
 have v0:aW g yb ([.int .u8 10]:List Value) ([10]:List Int):=(dB (c:=[.int .u8 10]) rfl rfl)
 refine ai (gG v0 fun b19=>?_)
 refine ai (af.s (v:=sv (bytesOf ([10]:List Int))) (jX 0 kr rfl rfl v0 underlying26 underlying9 underlying5) rfl rfl ?_)
 have q0:aW g (.str) ([sv (bytesOf ([10]:List Int))]:List Value) ([bytesOf ([10]:List Int)]:List Bs):=(dB (c:=[sv (bytesOf ([10]:List Int))]) rfl rfl)
 refine ai (gG q0 fun b20=>?_)
 obtain ⟨anP,hF⟩:=hF
 refine ai (eZ (e:=.str) 16 8796093022208 3 0 rfl rfl rfl rfl ao6 q0 underlying84 kr kr kr anP rfl fun a21 c21 asM J0=>?_)
 refine ag 1 [3,11,12,13,14] [(124,.slice a21 (([]:List Bs)++([bytesOf ([10]:List Int)]:List Bs)).length c21),(125,pv z0 256)] ?_
 refine ai (mP (k:=1) (v:=.slice a21 (([]:List Bs)++([bytesOf ([10]:List Int)]:List Bs)).length c21) 2 (Lp (.slice none 0 0) (.slice none 0 0) (.slice none 0 0) (.slice a21 (([]:List Bs)++([bytesOf ([10]:List Int)]:List Bs)).length c21)).toArray rfl rfl rfl ?_)
 refine aa (aS (ag 2 [3,11,12] [(126,.int .u8 10),(127,sv ([92,10]:Bs))] ?_))
 obtain ⟨amZ,hF⟩:=hF
 refine ai (oG (s:=([92,10]:Bs)) kr underlying9 underlying26 underlying5 amZ rfl fun g22 a22 Qm n0 s0=>?_)
 replace Bj:=Bj.mono n0.1
 replace J0:=J0.mono n0.1
 refine ag 2 [3,11,12] [(128,.slice a22 (intsOf ([92,10]:Bs)).length Qm),(130,pv z0 10)] ?_
 refine ai (mP (k:=1) (v:=.slice a22 (intsOf ([92,10]:Bs)).length Qm) 2 (Lp (.slice a22 (intsOf ([92,10]:Bs)).length Qm) (.slice none 0 0) (.slice none 0 0) (.slice a21 (([]:List Bs)++([bytesOf ([10]:List Int)]:List Bs)).length c21)).toArray rfl rfl rfl ?_)
 refine bY (bJ (Ok.t (aS (ag 3 [3,11] [(12,iv 2)] ?_))))
 refine aa (jY (aH (ae (av 2 [(3,.slice ao ([[92],[92,92],[34],[92,34],[10],[92,10]]:List Bs).length co),(11,pv z0 0),(12,iv 2),(100,.bool true)] kr (aa (Ok.c (b:=true) rfl (fun _=>?_) (fun h=>by cases h)))))))
 refine Ok.k (Ok.t (aH (Ok.block (ae (ag 2 [3,11,12] [(103,.slice ao ([[92],[92,92],[34],[92,34],[10],[92,10]]:List Bs).length co),(104,iv 2)] ?_)))))
 obtain ⟨adh,ac4,hF⟩:=hF
 have anm:([[92],[92,92],[34],[92,34],[10],[92,10]]:List Bs)[Int.toNat 2]? = some ([34]:Bs):=aV (l:=([[92],[92,92],[34],[92,34],[10],[92,10]]:List Bs)) (default:Bs) ac4
 refine ai (af.bf (e:=.str) rfl rfl underlying84 kr Bj adh anm rfl fun q23 o23 ap5 _ o0 abj=>?_)
 obtain rfl:=abj
 replace o0:At g22 q23 o23 [sv ([34]:Bs)]:=o0
 refine aj 3 [.a 0 o0] [3,11,12] [(13,.int .u8 34)] ?_
 refine aa (ae (ag 3 [3,11,12,13] [(108,.slice ao ([[92],[92,92],[34],[92,34],[10],[92,10]]:List Bs).length co),(110,iv 3)] ?_))
 obtain ⟨apP,apB,hF⟩:=hF
 have ank:([[92],[92,92],[34],[92,34],[10],[92,10]]:List Bs)[Int.toNat 3]? = some ([92,34]:Bs):=aV (l:=([[92],[92,92],[34],[92,34],[10],[92,10]]:List Bs)) (default:Bs) apB
 refine ai (af.bf (e:=.str) rfl rfl underlying84 kr Bj apP ank rfl fun q25 o25 ap4 _ r0 abh=>?_)
 obtain rfl:=abh
 replace r0:At g22 q25 o25 [sv ([92,34]:Bs)]:=r0
 refine aj 2 [.a 0 r0] [3,11,12,13] [(14,sv ([92,34]:Bs))] ?_
 refine aa (aH (ae (aj 5 [.e 2] [3,11,12,13,14] [(117,.bool true)] ?_)))
 refine aa (Ok.c (b:=true) rfl (fun _=>?_) (fun h=>by cases h))
 refine aS (aj 3 [.e 2] [3,11,12,13,14] [(119,.slice a21 (([]:List Bs)++([bytesOf ([10]:List Int)]:List Bs)).length c21),(120,.int .u8 34)] ?_)
 have u0:aW g22 yb ([.int .u8 34]:List Value) ([34]:List Int):=(dB (c:=[.int .u8 34]) rfl rfl)
 refine ai (gG u0 fun b27=>?_)
 refine ai (af.s (v:=sv (bytesOf ([34]:List Int))) (jX 0 kr rfl rfl u0 underlying26 underlying9 underlying5) rfl rfl ?_)
 have j0:aW g22 (.str) ([sv (bytesOf ([34]:List Int))]:List Value) ([bytesOf ([34]:List Int)]:List Bs):=(dB (c:=[sv (bytesOf ([34]:List Int))]) rfl rfl)
 refine ai (gG j0 fun b28=>?_)
 obtain ⟨anM,hF⟩:=hF
 refine ai (eZ (e:=.str) 16 8796093022208 5 0 rfl rfl rfl rfl J0 j0 underlying84 kr kr kr anM rfl fun a29 Y5 asK W0=>?_)
 refine ag 1 [3,11,12,13,14] [(124,.slice a29 ((([]:List Bs)++([bytesOf ([10]:List Int)]:List Bs))++([bytesOf ([34]:List Int)]:List Bs)).length Y5),(125,pv z0 256)] ?_
 refine ai (mP (k:=1) (v:=.slice a29 ((([]:List Bs)++([bytesOf ([10]:List Int)]:List Bs))++([bytesOf ([34]:List Int)]:List Bs)).length Y5) 4 (Lp (.slice a22 (intsOf ([92,10]:Bs)).length Qm) (.slice none 0 0) (.slice none 0 0) (.slice a29 ((([]:List Bs)++([bytesOf ([10]:List Int)]:List Bs))++([bytesOf ([34]:List Int)]:List Bs)).length Y5)).toArray rfl rfl rfl ?_)
 refine aa (aS (ag 2 [3,11,12] [(126,.int .u8 34),(127,sv ([92,34]:Bs))] ?_))
 obtain ⟨amY,hF⟩:=hF
 refine ai (oG (s:=([92,34]:Bs)) kr underlying9 underlying26 underlying5 amY rfl fun g30 a30 QH b0 e0=>?_)
 replace Bj:=Bj.mono b0.1
 replace s0:=s0.mono b0.1
 replace W0:=W0.mono b0.1
 refine ag 2 [3,11,12] [(128,.slice a30 (intsOf ([92,34]:Bs)).length QH),(130,pv z0 34)] ?_
 refine ai (mP (k:=1) (v:=.slice a30 (intsOf ([92,34]:Bs)).length QH) 4 (Lp (.slice a22 (intsOf ([92,10]:Bs)).length Qm) (.slice a30 (intsOf ([92,34]:Bs)).length QH) (.slice none 0 0) (.slice a29 ((([]:List Bs)++([bytesOf ([10]:List Int)]:List Bs))++([bytesOf ([34]:List Int)]:List Bs)).length Y5)).toArray rfl rfl rfl ?_)
 refine bY (bJ (Ok.t (aS (ag 3 [3,11] [(12,iv 0)] ?_))))
 refine aa (jY (aH (ae (av 2 [(3,.slice ao ([[92],[92,92],[34],[92,34],[10],[92,10]]:List Bs).length co),(11,pv z0 0),(12,iv 0),(100,.bool true)] kr (aa (Ok.c (b:=true) rfl (fun _=>?_) (fun h=>by cases h)))))))
 refine Ok.k (Ok.t (aH (Ok.block (ae (ag 2 [3,11,12] [(103,.slice ao ([[92],[92,92],[34],[92,34],[10],[92,10]]:List Bs).length co),(104,iv 0)] ?_)))))
 obtain ⟨apN,apz,hF⟩:=hF
 have ani:([[92],[92,92],[34],[92,34],[10],[92,10]]:List Bs)[Int.toNat 0]? = some ([92]:Bs):=aV (l:=([[92],[92,92],[34],[92,34],[10],[92,10]]:List Bs)) (default:Bs) apz
 refine ai (af.bf (e:=.str) rfl rfl underlying84 kr Bj apN ani rfl fun q31 o31 auo _ t0 amy=>?_)
 obtain rfl:=amy
 replace t0:At g30 q31 o31 [sv ([92]:Bs)]:=t0
 refine aj 3 [.a 0 t0] [3,11,12] [(13,.int .u8 92)] ?_
 refine aa (ae (ag 3 [3,11,12,13] [(108,.slice ao ([[92],[92,92],[34],[92,34],[10],[92,10]]:List Bs).length co),(110,iv 1)] ?_))
 obtain ⟨adb,ac1,hF⟩:=hF
 have anh:([[92],[92,92],[34],[92,34],[10],[92,10]]:List Bs)[Int.toNat 1]? = some ([92,92]:Bs):=aV (l:=([[92],[92,92],[34],[92,34],[10],[92,10]]:List Bs)) (default:Bs) ac1
 refine ai (af.bf (e:=.str) rfl rfl underlying84 kr Bj adb anh rfl fun q33 o33 ap1 _ a0 abe=>?_)
 obtain rfl:=abe
 replace a0:At g30 q33 o33 [sv ([92,92]:Bs)]:=a0
 refine aj 2 [.a 0 a0] [3,11,12,13] [(14,sv ([92,92]:Bs))] ?_
 refine aa (aH (ae (aj 5 [.e 4] [3,11,12,13,14] [(117,.bool true)] ?_)))
 refine aa (Ok.c (b:=true) rfl (fun _=>?_) (fun h=>by cases h))
 refine aS (aj 3 [.e 4] [3,11,12,13,14] [(119,.slice a29 ((([]:List Bs)++([bytesOf ([10]:List Int)]:List Bs))++([bytesOf ([34]:List Int)]:List Bs)).length Y5),(120,.int .u8 92)] ?_)
 have c0:aW g30 yb ([.int .u8 92]:List Value) ([92]:List Int):=(dB (c:=[.int .u8 92]) rfl rfl)
 refine ai (gG c0 fun b35=>?_)
 refine ai (af.s (v:=sv (bytesOf ([92]:List Int))) (jX 0 kr rfl rfl c0 underlying26 underlying9 underlying5) rfl rfl ?_)
 have d0:aW g30 (.str) ([sv (bytesOf ([92]:List Int))]:List Value) ([bytesOf ([92]:List Int)]:List Bs):=(dB (c:=[sv (bytesOf ([92]:List Int))]) rfl rfl)
 refine ai (gG d0 fun b36=>?_)
 obtain ⟨anJ,hF⟩:=hF
 refine ai (eZ (e:=.str) 16 8796093022208 7 0 rfl rfl rfl rfl W0 d0 underlying84 kr kr kr anJ rfl fun a37 c37 asJ X0=>?_)
 refine ag 1 [3,11,12,13,14] [(124,.slice a37 (((([]:List Bs)++([bytesOf ([10]:List Int)]:List Bs))++([bytesOf ([34]:List Int)]:List Bs))++([bytesOf ([92]:List Int)]:List Bs)).length c37),(125,pv z0 256)] ?_
 refine ai (mP (k:=1) (v:=.slice a37 (((([]:List Bs)++([bytesOf ([10]:List Int)]:List Bs))++([bytesOf ([34]:List Int)]:List Bs))++([bytesOf ([92]:List Int)]:List Bs)).length c37) 6 (Lp (.slice a22 (intsOf ([92,10]:Bs)).length Qm) (.slice a30 (intsOf ([92,34]:Bs)).length QH) (.slice none 0 0) (.slice a37 (((([]:List Bs)++([bytesOf ([10]:List Int)]:List Bs))++([bytesOf ([34]:List Int)]:List Bs))++([bytesOf ([92]:List Int)]:List Bs)).length c37)).toArray rfl rfl rfl ?_)
 refine aa (aS (ag 2 [3,11,12] [(126,.int .u8 92),(127,sv ([92,92]:Bs))] ?_))
 obtain ⟨amX,hF⟩:=hF
 refine ai (oG (s:=([92,92]:Bs)) kr underlying9 underlying26 underlying5 amX rfl fun g38 a38 c38 k0 i0=>?_)
 replace s0:=s0.mono k0.1
 replace e0:=e0.mono k0.1
 replace X0:=X0.mono k0.1
 refine ag 2 [3,11,12] [(128,.slice a38 (intsOf ([92,92]:Bs)).length c38),(130,pv z0 92)] ?_
 refine ai (mP (k:=1) (v:=.slice a38 (intsOf ([92,92]:Bs)).length c38) 6 (Lp (.slice a22 (intsOf ([92,10]:Bs)).length Qm) (.slice a30 (intsOf ([92,34]:Bs)).length QH) (.slice a38 (intsOf ([92,92]:Bs)).length c38) (.slice a37 (((([]:List Bs)++([bytesOf ([10]:List Int)]:List Bs))++([bytesOf ([34]:List Int)]:List Bs))++([bytesOf ([92]:List Int)]:List Bs)).length c37)).toArray rfl rfl rfl ?_)
 refine bY (bJ (Ok.t (aS (ag 3 [3,11] [(12,iv (-2))] ?_))))
 refine aa (jY (aH (ae (av 2 [(3,.slice ao ([[92],[92,92],[34],[92,34],[10],[92,10]]:List Bs).length co),(11,pv z0 0),(12,iv (-2)),(100,.bool false)] kr (aa (Ok.c (b:=false) rfl (fun h=>by cases h) (fun _=>?_)))))))
 refine fU (aA (aA (aO (Ok.t (ae (av 2 [(2,.iface 238 (pv z0 0))] kr (aa (Ok.ret (bu (vs:=[.iface 238 (pv z0 0)]) (.inl rfl) rfl (.cons (.tmp rfl) .nil) rfl (av 2 [(0,pv b 0),(4,.iface 238 (pv z0 0)),(6,pv b 3)] kr (ai (dz 8 ?_))))))))))))
 refine aa (aS (av 3 [(9,pv b 4)] kr (ai (dz 8 ?_))))
 refine bY (sM 7 rfl X0 fun g39 x0 Z0=>?_)
 replace s0:=s0.mono x0.1
 replace e0:=e0.mono x0.1
 replace i0:=i0.mono x0.1
 refine Qw (H':=[.own (.slice (some ⟨b36,0,none⟩) ([bytesOf ([92]:List Int)]:List Bs).length 1) 9 1 ([bytesOf ([92]:List Int)]:List Bs).length ([sv (bytesOf ([92]:List Int))]:List Value),.own (.slice (some ⟨b35,0,none⟩) ([92]:List Int).length 1) 5 1 ([92]:List Int).length ([.int .u8 92]:List Value),.own (.slice (some ⟨b28,0,none⟩) ([bytesOf ([34]:List Int)]:List Bs).length 1) 9 1 ([bytesOf ([34]:List Int)]:List Bs).length ([sv (bytesOf ([34]:List Int))]:List Value),.own (.slice (some ⟨b27,0,none⟩) ([34]:List Int).length 1) 5 1 ([34]:List Int).length ([.int .u8 34]:List Value),.own (.slice (some ⟨b20,0,none⟩) ([bytesOf ([10]:List Int)]:List Bs).length 1) 9 1 ([bytesOf ([10]:List Int)]:List Bs).length ([sv (bytesOf ([10]:List Int))]:List Value),.own (.slice (some ⟨b19,0,none⟩) ([10]:List Int).length 1) 5 1 ([10]:List Int).length ([.int .u8 10]:List Value),.blk b (.cells #[.int .u32 0,.int .i32 1,.int .u32 0,.iface 238 (pv z0 0),.slice none 0 0] 195)]) 6 rfl rfl fun g40 y0 anI=>?_
 replace s0:=s0.mono y0.1
 replace e0:=e0.mono y0.1
 replace i0:=i0.mono y0.1
 replace Z0:=Z0.mono y0.1
 exact KY (vs:=[]) [6] [.blk b (.cells #[.int .u32 0,.int .i32 1,.int .u32 0,.iface 238 (pv z0 0),.slice none 0 0] 195)] dc rfl (.inr rfl) rfl .nil ((((n0.trans b0).trans k0).trans x0).trans y0) ⟨z0,rfl,rfl,oF.mk anI s0 e0 i0 Z0⟩
end Go.Proofs.YtdapgmigogpdcaaGreatDoor.Rp
namespace Go.Proofs.YtdapgmigogpdcaaGreatDoor.Rp
open Go Go.iQ Go.RowKit
set_option linter.unusedVariables false
def oI:List (List Int):=List.replicate 10 []++([92,10]::(List.replicate 23 []++([92,34]::(List.replicate 57 []++([92,92]::List.replicate 163 [])))))
theorem Ry (a b c d:Value):Lp a b c d=(List.replicate 10 (.slice none 0 0)++(a::(List.replicate 23 (.slice none 0 0)++(b::(List.replicate 57 (.slice none 0 0)++(c::List.replicate 163 (.slice none 0 0)))))))++[d]:=by kernel_rfl
theorem qP {g:ak} {e:Ty}:∀ k:Nat,aW g (.slice e) (List.replicate k (.slice none 0 0)) (List.replicate k [])
 | 0=>rfl
 | k+1=>⟨[.slice none 0 0],_,rfl,bG.nil,qP k⟩
theorem oF.opened {g:ak} {b:Nat} (h:oF g b):∃ (cs:List Value) (t:Option Addr) (ct:Nat),At g b 0 cs∧aW g (.slice (.int .u8)) cs oI∧At g b 256 [.slice t 3 ct]∧bG g (.slice .str) [.slice t 3 ct] [[10],[34],[92]] ∧
  (∀ (q:Int) (a:Option Addr) (k c:Nat),At g b (0+Int.toNat q * 1) [.slice a k c]→k=0→a=none):=by
 obtain ⟨Ve,a34,Vd,t,c10,c34,Vb,ct,hb,h1,h2,h3,h4⟩:=h
 have hc:∀ o v,lJ g ⟨b,o,none⟩=some v→(Lp (.slice Ve 2 c10) (.slice a34 2 c34) (.slice Vd 2 Vb) (.slice t 3 ct))[o]? = some v:=fun o v hv=>by
  unfold lJ at hv
  rw [show g (⟨b,o,none⟩:Addr).block=_ from hb] at hv
  simpa using hv
 have hc':∀ o v,(Lp (.slice Ve 2 c10) (.slice a34 2 c34) (.slice Vd 2 Vb) (.slice t 3 ct))[o]? = some v→lJ g ⟨b,o,none⟩=some v:=fun o v hv=>by
  unfold lJ
  rw [show g (⟨b,o,none⟩:Addr).block=_ from hb]
  simpa using hv
 refine ⟨List.replicate 10 (.slice none 0 0)++((.slice Ve 2 c10)::(List.replicate 23 (.slice none 0 0)++((.slice a34 2 c34)::(List.replicate 57 (.slice none 0 0)++((.slice Vd 2 Vb)::List.replicate 163 (.slice none 0 0)))))),t,ct,?_,?_,?_,h4,?_⟩
 rotate_left
 ·exact (qP 10).append (dB h1 ((qP 23).append (dB h2 ((qP 57).append (dB h3 (qP 163))))))
 ·intro j v hj
  cases j with
  | zero =>
   simp only [List.getElem?_cons_zero,jy] at hj
   subst hj
   exact hc' _ _ kr
  | succ j=>simp at hj
 ·intro q a k c hq hk
  have h5:=hc _ _ (hq 0 _ rfl)
  have h6:=iq h5
  rw [Ry] at h6
  simp only [lh,eG,List.mem_replicate,Value.slice.injEq,List.not_mem_nil,or_false] at h6
  rcases h6 with (h6 | h6 | h6 | h6 | h6 | h6 | h6) | h6 <;> first | exact h6.2.1 | (obtain ⟨-,rfl,-⟩:=h6; cases hk)
 intro j v hj
 rw [su]
 refine hc' j v ?_
 rw [Ry,List.getElem?_append_left (je.1 hj).1]
 exact hj
end Go.Proofs.YtdapgmigogpdcaaGreatDoor.Rp
namespace Go.iQ
open Go.RowKit (Below)
section
variable {P:Program} {pos:String} {after:Array Edge} {gd:Option (Nat×Bool)} {n:nP} {w0:Base} {m:Env} {H:List b_} {g:ak}
theorem wh {dst:Option Nat} {T E T2 ty:TypeId} {x y:Operand} {e:Ty} {a:Option Addr} {c:Nat} {l:List e.den}
  (hx:val m x=some (.slice a l.length c)) (hy:val m y=some (.slice none 0 0)) (hu:P.underlying T=some (.slice E)) (hR:bG g (.slice e) [.slice a l.length c] l) (hn:l.length=0→a=none) :
  Yields P n w0 m H g ⟨dst,.binOp .neq T x y T2,ty,pos,after,gd⟩ (.bool (!((l.length:Int)==0))):=fun ac W hA hW=>by
 have hb:a.isNone=((l.length:Int)==0):=by
  obtain ⟨a1,c1,hcs,-,hel⟩:=hR
  simp only [uQ,Value.slice.injEq,ny] at hcs
  obtain ⟨rfl,-,rfl⟩:=hcs
  cases l with
  | nil=>rw [hn rfl]; rfl
  | cons z r =>
   obtain ⟨b,off,rfl,-⟩:=hel 0 z rfl
   simp only [Option.isNone_some,cK]
   rw [eq_comm,dR]
   omega
 simp only [execOp,hA.eval hx,hA.eval hy]
 have h:=Lib.run_equalIn_slice_nil (P:=P) W 9999 T E a l.length c 0 0 hu
 simp [eqGuard,binOp,Op.equal,Op.maxDepth,h,hb]
theorem KV {Q:Exit→Act→World→Prop} {K:Act→World→Prop} {d:Nat} {T E ty:TypeId} {s x:Operand} {e:Ty} {a a2:Option Addr} {l l2 L:List e.den} {c c2 p r1:Nat} {xs:List Value}
  (i:Nat) (hs:val m s=some (vw a e.size c p r1)) (hx:val m x=some (.slice a2 l2.length c2)) (hi:H[i]? = some (.own (.slice a l.length c) E e.size l.length xs)) (hR:aW g e xs l) (hR2:bG g (.slice e) [.slice a2 l2.length c2] l2) (hu:P.underlying T=some (.slice E))
  (gQ:(P.info? E).map (·.size)=some e.size) (hr1:r1=l.length) (hfit:p+l2.length≤l.length) (hL:L=l.take p++l2++l.drop (p+l2.length)) (hn:Nat.ble (d+1) n=true)
  (hk:∀ xs3,aW g e xs3 L→Ok n w0 ((d,.int .i64 (l2.length:Int))::m) (H.set i (.own (.slice a L.length c) E e.size L.length xs3)) g K) :
  af P K Q ⟨some d,.call { callee:=.builtin .copy,args:=#[s,x],argTypes:=#[T,T] },ty,pos,after,gd⟩ n w0 m H g:=fun ac W hA hW=>by
 subst hr1
 subst hL
 obtain ⟨inf,h1,h2⟩:=gM.1 gQ
 have hok:W.ownsRow 0 E e.size (.slice a l.length c) l.length xs:=hW.fT _ (iq hi)
 have hlen:(l.take p++l2++l.drop (p+l2.length)).length=l.length:=by simp; omega
 show Oper.upon P _ ac _ Q (Sem.run P (execOp ac.eval _) W)
 have hmin:Nat.min l2.length (l.length - p)=l2.length:=by simp only [Nat.min_def]; split <;> omega
 by_cases h0:l2.length=0
 ·have hy0:l2=[]:=iL h0
  subst hy0
  have e1:(execOp ac.eval ⟨some d,.call { callee:=.builtin .copy,args:=#[s,x],argTypes:=#[T,T] },ty,pos,after,gd⟩).run P W=.ok (.value (.int .i64 0)) W:=by
   have:=PD (P:=P) (W:=W) (ty:=ty) hu h1 (a:=vwA a e.size p c) (a':=a2) (c1:=c - p) (c2:=c2) hmin
   simp only [execOp,resolve,invoke,builtin,uM,jJ,qF,hA.eval hs,hA.eval hx,vw,Sem.run_bind,Sem.run_pure,Result.andThen_ok,this]; rfl
  rw [e1,Oper.upon_value]
  have hk:=hk xs (by rw [gK,jT,nz,uL]; exact hR)
  rw [hlen] at hk
  have hset:H.set i (.own (.slice a l.length c) E e.size l.length xs)=H:=by
   obtain ⟨hil,he⟩:=je.1 hi
   rw [← he,List.set_getElem_self]
  rw [hset] at hk
  exact hk _ W (hA.put (gm hn) _) hW
 rcases tY hok with ⟨rfl,h3,h4⟩ | ⟨b,cur,rfl,hh,hc,hmax,hsz,htake⟩
 ·omega
 have hys:∃ b2 o2 ys,a2=some ⟨b2,o2,none⟩∧aW g e ys l2∧∀ j v,ys[j]? = some v→lJ g ⟨b2,o2+j,none⟩=some v:=by
  obtain ⟨a1,c1,hcs,-,hel⟩:=hR2
  simp only [uQ,Value.slice.injEq,ny] at hcs
  obtain ⟨rfl,-,rfl⟩:=hcs
  cases l2 with
  | nil=>exact absurd rfl h0
  | cons y l' =>
   obtain ⟨b2,off,hb,_⟩:=hel 0 y rfl
   subst hb
   obtain ⟨ys,h1,h2⟩:=u6 (g:=g) (b:=b2) (off:=off) (y::l') 0 fun i x hx=>by
    obtain ⟨b',off',hb',jA,hl,hat,hr⟩:=hel i x hx
    injection hb' with hb'
    simp only [Addr.mk.injEq,ny] at hb'
    obtain ⟨rfl,rfl⟩:=hb'
    exact ⟨jA,hl,by rw [su]; exact hat,hr⟩
   exact ⟨b2,off,ys,rfl,h1,fun j v hj=>by
    have:=h2 j v hj
    rwa [wZ,nz] at this⟩
 obtain ⟨b2,o2,ys,rfl,hRy,hcell⟩:=hys
 obtain ⟨o,ho,ho1⟩:=BL (b:=b) (size:=e.size) (lo:=p) (c:=c)
 have:=ho1 om
 subst this
 have hyl:ys.length=l2.length * e.size:=hRy.len
 have hload:(loadCells ⟨b2,o2,none⟩ (l2.length * e.size)).run P W=.ok ys.toArray W:=by
  rw [← hyl]
  exact run_loadCells_list W _ ys fun j u hj=>by
   rw [Addr.add_plain]
   exact lY hW.ghost (hcell j u hj)
 have hxl:xs.length=l.length * e.size:=hR.len
 have hm1:p * e.size+l2.length * e.size=(p+l2.length) * e.size:=(Nat.add_mul ..).symm
 have hm2:(p+l2.length) * e.size≤l.length * e.size:=qE _ hfit
 have hm3:l.length * e.size≤c * e.size:=qE _ hc
 have hcl:cur.toList.length=c * e.size:=by rw [uU]; exact hsz
 have hrun:=run_storeCells_at (P:=P) b (p * e.size) E ys 0 cur W hh (by rw [hyl,hsz]; omega) (fun u hu=>hRy.ones u hu)
 simp only [nz] at hrun
 have hcp:=Pz (P:=P) (ty:=ty) hu h1 h2 (a:=⟨b,p * e.size,none⟩) (a':=⟨b2,o2,none⟩) (c1:=c - p) (c2:=c2) (W:=W) hmin hload (fun _=>hrun) (fun h=>absurd h h0)
 have e1:(execOp ac.eval ⟨some d,.call { callee:=.builtin .copy,args:=#[s,x],argTypes:=#[T,T] },ty,pos,after,gd⟩).run P W=.ok (.value (.int .i64 (l2.length:Int))) (W.setRow b (cur.toList.take (p * e.size)++ys++cur.toList.drop (p * e.size+ys.length)).toArray):=by
  simp only [execOp,resolve,invoke,builtin,uM,jJ,qF,hA.eval hs,hA.eval hx,vw,ho,Sem.run_bind,Sem.run_pure,Result.andThen_ok,hcp]; rfl
 rw [e1,Oper.upon_value]
 rw [hlen] at hk
 refine hk _ ?_ _ _ (hA.put (gm hn) _) (hW.age (k':=l.length) hi hh hmax _ (by simp only [bC,gz,hcl,hyl]; rw [gJ,hcl]; omega) hc)
 rw [JK _ _ _ _ (by rw [hyl]; omega) (by rw [hcl]; exact hm3),htake,hyl,hm1]
 exact aW.app (aW.app (aW.take _ hR) hRy) (aW.drop _ hR)
end
end Go.iQ
namespace Go.Proofs.YtdapgmigogpdcaaGreatDoor.Rp
open _root_.Go.Proofs.Tryz Go Go.iQ Go.RowKit
set_option linter.unusedVariables false
set_option linter.unusedSimpArgs false
set_option maxHeartbeats 4000000
set_option maxRecDepth 100000
def cntS (s x:Bs):Int:=(Lib.countByte s (x.headD 0):Int)
def DZ (s x:Bs):Prop:=x.length=1
theorem FC {g:ak} (s x:Bs) (hp:DZ s x):bE prog 297 #[sv s,sv x] g (iv (cntS s x)):=fun W hW=>by
 match x,hp with
 | [c],_=>exact (Tryz.strings_Count_one ⟨⟨s⟩⟩ c W).mono fun e W' ⟨he,hw⟩=>⟨he,by subst hw; exact Below.refl _ _⟩
def tT (xs:Bs):Int :=
 (if ((cntS xs ([10]:Bs)) != 0)=true then w6 ((xs.length:Int)+(w6 ((cntS xs ([10]:Bs)) * (w6 (((oI.getD (Int.toNat 10) default).length:Int) - 1))))) else (xs.length:Int))
def sS (xs:Bs):Int :=
 (if ((cntS xs ([34]:Bs)) != 0)=true then w6 ((tT xs)+(w6 ((cntS xs ([34]:Bs)) * (w6 (((oI.getD (Int.toNat 34) default).length:Int) - 1))))) else (tT xs))
def vR (xs:Bs):Bool :=
 (((cntS xs ([34]:Bs)) != 0)||((cntS xs ([10]:Bs)) != 0))
def zZ (xs:Bs):Int :=
 (if ((cntS xs ([92]:Bs)) != 0)=true then w6 ((sS xs)+(w6 ((cntS xs ([92]:Bs)) * (w6 (((oI.getD (Int.toNat 92) default).length:Int) - 1))))) else (sS xs))
def wL (xs:Bs) (q0:Int) (y0:Int):Int :=
 (if (!(((oI.getD (Int.toNat ((xs.getD y0.toNat 0).toNat:Int)) default).length:Int)==0))=true then w6 (q0+((oI.getD (Int.toNat ((xs.getD y0.toNat 0).toNat:Int)) default).length:Int)) else w6 (q0+1))
def wK (xs:Bs) (s0:Int) (k0:Int):Int :=
 (if (!(((oI.getD (Int.toNat ((xs.getD k0.toNat 0).toNat:Int)) default).length:Int)==0))=true then w6 (s0+(w6 (((oI.getD (Int.toNat ((xs.getD k0.toNat 0).toNat:Int)) default).length:Int) - 1))) else s0)
def wJ (xs:Bs) (b0:Bool) (k0:Int):Bool :=
 ((!(((oI.getD (Int.toNat ((xs.getD k0.toNat 0).toNat:Int)) default).length:Int)==0))||b0)
def Lj (xs:Bs) (x0:List Int) (q0:Int) (y0:Int) (C73:Int→Int→List Int→Prop):Prop :=
 C73 (wL xs q0 y0) (w6 (y0+1)) x0
def VP (xs:Bs) (K:Bs→Prop) (q0:Int) (y0:Int) (z0:List Int) (C73:Int→Int→List Int→Prop):Prop :=
 ((decide (y0<(xs.length:Int)))=true→0≤y0∧y0.toNat<xs.length∧0≤((xs.getD y0.toNat 0).toNat:Int)∧Int.toNat ((xs.getD y0.toNat 0).toNat:Int)<oI.length∧((!(((oI.getD (Int.toNat ((xs.getD y0.toNat 0).toNat:Int)) default).length:Int)==0))=true→0≤q0∧(q0:Int)≤(z0.length:Int)∧(z0.length:Int)≤(z0.length:Int)∧q0.toNat+(oI.getD (Int.toNat ((xs.getD y0.toNat 0).toNat:Int)) default).length≤z0.length∧∀ Za:List Int,Za=z0.take q0.toNat++(oI.getD (Int.toNat ((xs.getD y0.toNat 0).toNat:Int)) default)++z0.drop (q0.toNat+(oI.getD (Int.toNat ((xs.getD y0.toNat 0).toNat:Int)) default).length)→z0.length=Za.length∧Lj xs Za q0 y0 C73)∧((!(((oI.getD (Int.toNat ((xs.getD y0.toNat 0).toNat:Int)) default).length:Int)==0))=false→0≤q0∧q0.toNat<z0.length∧Lj xs (z0.set q0.toNat ((xs.getD y0.toNat 0).toNat:Int)) q0 y0 C73))∧((decide (y0<(xs.length:Int)))=false→K (bytesOf z0))
def y9 (xs:Bs) (K:Bs→Prop):Nat→Int→Int→List Int→Prop
 | 0,_,_,_=>False
 | k+1,q0,y0,z0=>VP xs K q0 y0 z0 (y9 xs K k)
def NY (xs:Bs) (K:Bs→Prop) (a0:Int) (Y0:Bool):Prop :=
 ((!Y0)=true→K xs)∧((!Y0)=false→0≤a0∧a0≤140737488355328∧∃ k,y9 xs K k 0 0 (List.replicate a0.toNat (0:Int)))
def F7 (xs:Bs) (K:Bs→Prop):Prop :=
 NY xs K (zZ xs) (((cntS xs ([92]:Bs)) != 0)||vR xs)
def AY (xs:Bs) (K:Bs→Prop):Prop :=
 (0:Int)≤2∧Int.toNat 2<([[10],[34],[92]]:List Bs).length∧DZ xs ([92]:Bs)∧(((cntS xs ([92]:Bs)) != 0)=true→(0:Int)≤92∧Int.toNat 92<oI.length∧F7 xs K)∧(((cntS xs ([92]:Bs)) != 0)=false→F7 xs K)
def AX (xs:Bs) (K:Bs→Prop):Prop :=
 (0:Int)≤1∧Int.toNat 1<([[10],[34],[92]]:List Bs).length∧DZ xs ([34]:Bs)∧(((cntS xs ([34]:Bs)) != 0)=true→(0:Int)≤34∧Int.toNat 34<oI.length∧AY xs K)∧(((cntS xs ([34]:Bs)) != 0)=false→AY xs K)
def Ct (xs:Bs) (s0:Int) (b0:Bool) (k0:Int) (C38:Int→Bool→Int→Prop):Prop :=
 C38 (wK xs s0 k0) (wJ xs b0 k0) (w6 (k0+1))
def VQ (xs:Bs) (K:Bs→Prop) (s0:Int) (b0:Bool) (k0:Int) (C38:Int→Bool→Int→Prop):Prop :=
 ((decide (k0<(xs.length:Int)))=true→0≤k0∧k0.toNat<xs.length∧0≤((xs.getD k0.toNat 0).toNat:Int)∧Int.toNat ((xs.getD k0.toNat 0).toNat:Int)<oI.length∧((!(((oI.getD (Int.toNat ((xs.getD k0.toNat 0).toNat:Int)) default).length:Int)==0))=true→Ct xs s0 b0 k0 C38)∧((!(((oI.getD (Int.toNat ((xs.getD k0.toNat 0).toNat:Int)) default).length:Int)==0))=false→Ct xs s0 b0 k0 C38))∧((decide (k0<(xs.length:Int)))=false→NY xs K s0 b0)
def y_ (xs:Bs) (K:Bs→Prop):Nat→Int→Bool→Int→Prop
 | 0,_,_,_=>False
 | k+1,s0,b0,k0=>VQ xs K s0 b0 k0 (y_ xs K k)
def af5 (xs:Bs) (K:Bs→Prop):Prop :=
 ((decide (24≤(xs.length:Int)))=true→(0:Int)≤0∧Int.toNat 0<([[10],[34],[92]]:List Bs).length∧DZ xs ([10]:Bs)∧(((cntS xs ([10]:Bs)) != 0)=true→(0:Int)≤10∧Int.toNat 10<oI.length∧AX xs K)∧(((cntS xs ([10]:Bs)) != 0)=false→AX xs K))∧((decide (24≤(xs.length:Int)))=false→∃ k,y_ xs K k (xs.length:Int) false 0)
theorem Z4 {g:ak} {bF:Nat} (xs:Bs) (hT:oF g bF) (K:Bs→Prop)
  (hF:af5 xs K):az prog 295 #[pv bF 0,sv xs] g [] (fun g' H' v=>∃ (r0:Bs),v=sv r0∧H'=[]∧K r0):=by
 refine aP 122 func295 rfl fun w0=>?_
 refine ae (av 1 [(0,pv bF 0),(1,sv xs)] kr (aa (ae (ag 3 [0,1] [(5,iv (xs.length:Int))] ?_))))
 refine aa (ae (ag 1 [0,1,5] [(6,.bool false)] ?_))
 refine aa (Ok.cut (fun a W=>∃ gj7:ak,aY w0 g gj7∧∃ (a0:Int) (Y0:Bool),fJ 122 [(0,pv bF 0),(1,sv xs),(5,iv a0),(6,.bool Y0)] a∧dh w0 [] gj7 W∧NY xs K a0 Y0) ?_ ?_)
 ·
  refine ae (ag 3 [0,1,5,6] [(20,pv bF 256)] ?_)
  obtain ⟨_,asP,arM,-,-,abU,arv,-⟩:=oF.opened hT
  refine aj 6 [.a 0 abU] [0,1,5,6] [(26,.bool (decide (24≤(xs.length:Int))))] ?_
  refine aa (aM hF (fun hc16 hF=>?_) (fun hc16 hF=>?_))
  ·refine ae (ag 3 [0,1,5,6] [(29,pv bF 256)] ?_)
   obtain ⟨_,K0,t0,-,-,abT,n0,-⟩:=oF.opened hT
   refine aj 3 [.a 0 abT] [0,1,5,6] [(30,.slice K0 ([[10],[34],[92]]:List Bs).length t0),(31,iv 3),(32,iv 0)] ?_
   refine aa (Ok.block (Ok.rounds 4 (jY (ae (av 1 [(0,pv bF 0),(1,sv xs),(5,iv (xs.length:Int)),(6,.bool false),(30,.slice K0 ([[10],[34],[92]]:List Bs).length t0),(31,iv 3),(32,iv 0),(33,.bool true)] kr (aa (aH (Ok.c (b:=true) rfl (fun _=>?_) (fun h=>by cases h)))))))))
   refine Ok.k (Ok.t (iO g [(0,pv bF 0),(1,sv xs),(5,iv (tT xs)),(6,.bool ((cntS xs ([10]:Bs)) != 0)),(30,.slice K0 ([[10],[34],[92]]:List Bs).length t0),(31,iv 3),(32,iv 0)] [] (AX xs K) ?_ (fun J0 W0 hF=>?_)))
   ·
    refine Ok.block (aH (aS ?_))
    obtain ⟨adf,ac3,hF⟩:=hF
    have anj:([[10],[34],[92]]:List Bs)[Int.toNat 0]? = some ([10]:Bs):=aV (l:=([[10],[34],[92]]:List Bs)) (default:Bs) ac3
    refine ai (af.bf (e:=.str) rfl rfl underlying84 kr n0 adf anj rfl fun q30 o30 ap2 _ X0 abf=>?_)
    obtain rfl:=abf
    replace X0:At g q30 o30 [sv ([10]:Bs)]:=X0
    refine aj 2 [.a 0 X0] [0,1,5,6,30,31,32] [(8,sv ([10]:Bs))] ?_
    refine aa (aH (aS ?_))
    obtain ⟨abx,hF⟩:=hF
    refine aj 4 [.k (FC xs ([10]:Bs) abx)] [0,1,5,6,8,30,31,32] [(9,iv (cntS xs ([10]:Bs)))] ?_
    refine aa (ae (ag 2 [0,1,5,6,8,9,30,31,32] [(40,.bool ((cntS xs ([10]:Bs)) != 0))] ?_))
    refine aa (aM hF (fun S0 hF=>?_) (fun S0 hF=>?_))
    ·refine aH (gu kr kr (fe 7 [0,1,30,31,32] [(41,iv (xs.length:Int)),(42,iv (cntS xs ([10]:Bs))),(45,.int .u8 10),(47,pv bF 0)] ?_))
     obtain ⟨TZ,TW,hF⟩:=hF
     have y1:=aV (l:=oI) default TW
     generalize WZ:(oI.getD (Int.toNat 10) default)=e35 at y1 hF ⊢
     obtain ⟨_,_,_,abX,aiT,-,-,WV⟩:=oF.opened hT
     refine dX.op rfl (fM.p9 (e:=.slice yb) (o:=0) (L:=oI) (q:=10) (el:=e35) abX aiT rfl rfl underlying235 kr rfl TZ y1 rfl fun ajw _ M0 Tc=>?_)
     obtain ⟨akA,ajW,rfl,aov⟩:=oS Tc
     have ari:=fun h=>WV 10 _ _ _ M0 h
     refine dX.op rfl (fM.s (v:=.slice akA e35.length ajW) (eX 0 M0 kr underlying26 rfl kr) rfl rfl (fe 5 [0,1,30,31,32] [(5,iv (w6 ((xs.length:Int)+(w6 ((cntS xs ([10]:Bs)) * (w6 ((e35.length:Int) - 1)))))))] ?_))
     refine kU (Ok.t (aS (ag 1 [0,1,5,30,31,32] [(6,.bool true)] ?_)))
     refine bY (bJ (Ok.t ?_))
     subst WZ
     refine gW 5 rfl (show (iv (w6 ((xs.length:Int)+(w6 ((cntS xs ([10]:Bs)) * (w6 (((oI.getD (Int.toNat 10) default).length:Int) - 1)))))):Value)=iv (tT xs) from ay (Value.int .i64) ((aT S0).symm)) (aB 6 ((cntS xs ([10]:Bs)) != 0) (S0.symm) ?_)
     exact fg hF
    refine Ok.k (bJ (Ok.t (gW 5 rfl (show (iv (xs.length:Int):Value)=iv (tT xs) from ay (Value.int .i64) ((aF S0).symm)) (aB 6 ((cntS xs ([10]:Bs)) != 0) (S0.symm) ?_))))
    exact fg hF
   replace n0:=n0.mono W0.1
   replace hT:=hT.mono W0.1
   refine aS (ag 2 [0,1,5,6,30,31] [(32,iv 1)] ?_)
   refine aa (jY (ae (av 1 [(0,pv bF 0),(1,sv xs),(5,iv (tT xs)),(6,.bool ((cntS xs ([10]:Bs)) != 0)),(30,.slice K0 ([[10],[34],[92]]:List Bs).length t0),(31,iv 3),(32,iv 1),(33,.bool true)] kr (aa (aH (Ok.c (b:=true) rfl (fun _=>?_) (fun h=>by cases h)))))))
   refine Ok.k (Ok.t (iO J0 [(0,pv bF 0),(1,sv xs),(5,iv (sS xs)),(6,.bool (vR xs)),(30,.slice K0 ([[10],[34],[92]]:List Bs).length t0),(31,iv 3),(32,iv 1)] [] (AY xs K) ?_ (fun o0 i0 hF=>?_)))
   ·
    refine Ok.block (aH (aS ?_))
    obtain ⟨DD,Ia,hF⟩:=hF
    have anl:([[10],[34],[92]]:List Bs)[Int.toNat 1]? = some ([34]:Bs):=aV (l:=([[10],[34],[92]]:List Bs)) (default:Bs) Ia
    refine ai (af.bf (e:=.str) rfl rfl underlying84 kr n0 DD anl rfl fun q24 o24 ajy _ B0 Te=>?_)
    obtain rfl:=Te
    replace B0:At J0 q24 o24 [sv ([34]:Bs)]:=B0
    refine aj 2 [.a 0 B0] [0,1,5,6,30,31,32] [(8,sv ([34]:Bs))] ?_
    refine aa (aH (aS ?_))
    obtain ⟨amR,hF⟩:=hF
    refine aj 4 [.k (FC xs ([34]:Bs) amR)] [0,1,5,6,8,30,31,32] [(9,iv (cntS xs ([34]:Bs)))] ?_
    refine aa (ae (ag 2 [0,1,5,6,8,9,30,31,32] [(40,.bool ((cntS xs ([34]:Bs)) != 0))] ?_))
    refine aa (aM hF (fun C0 hF=>?_) (fun C0 hF=>?_))
    ·refine aH (gu kr kr (fe 7 [0,1,30,31,32] [(41,iv (tT xs)),(42,iv (cntS xs ([34]:Bs))),(45,.int .u8 34),(47,pv bF 0)] ?_))
     obtain ⟨MH,MB,hF⟩:=hF
     have u1:=aV (l:=oI) default MB
     generalize TC:(oI.getD (Int.toNat 34) default)=e29 at u1 hF ⊢
     obtain ⟨_,_,_,abY,aiU,-,-,WW⟩:=oF.opened hT
     refine dX.op rfl (fM.p9 (e:=.slice yb) (o:=0) (L:=oI) (q:=34) (el:=e29) abY aiU rfl rfl underlying235 kr rfl MH u1 rfl fun ajx _ N0 Td=>?_)
     obtain ⟨akD,ajZ,rfl,aoy⟩:=oS Td
     have arj:=fun h=>WW 34 _ _ _ N0 h
     refine dX.op rfl (fM.s (v:=.slice akD e29.length ajZ) (eX 0 N0 kr underlying26 rfl kr) rfl rfl (fe 5 [0,1,30,31,32] [(5,iv (w6 ((tT xs)+(w6 ((cntS xs ([34]:Bs)) * (w6 ((e29.length:Int) - 1)))))))] ?_))
     refine kU (Ok.t (aS (ag 1 [0,1,5,30,31,32] [(6,.bool true)] ?_)))
     refine bY (bJ (Ok.t ?_))
     subst TC
     refine gW 5 rfl (show (iv (w6 ((tT xs)+(w6 ((cntS xs ([34]:Bs)) * (w6 (((oI.getD (Int.toNat 34) default).length:Int) - 1)))))):Value)=iv (sS xs) from ay (Value.int .i64) ((aT C0).symm)) (aB 6 (vR xs) (df C0) ?_)
     exact fg hF
    refine Ok.k (bJ (Ok.t (gW 5 rfl (show (iv (tT xs):Value)=iv (sS xs) from ay (Value.int .i64) ((aF C0).symm)) (aB 6 (vR xs) (bR C0) ?_))))
    exact fg hF
   replace n0:=n0.mono i0.1
   replace hT:=hT.mono i0.1
   refine aS (ag 2 [0,1,5,6,30,31] [(32,iv 2)] ?_)
   refine aa (jY (ae (av 1 [(0,pv bF 0),(1,sv xs),(5,iv (sS xs)),(6,.bool (vR xs)),(30,.slice K0 ([[10],[34],[92]]:List Bs).length t0),(31,iv 3),(32,iv 2),(33,.bool true)] kr (aa (aH (Ok.c (b:=true) rfl (fun _=>?_) (fun h=>by cases h)))))))
   refine Ok.k (Ok.t (iO o0 [(0,pv bF 0),(1,sv xs),(5,iv (zZ xs)),(6,.bool (((cntS xs ([92]:Bs)) != 0)||vR xs)),(30,.slice K0 ([[10],[34],[92]]:List Bs).length t0),(31,iv 3),(32,iv 2)] [] (F7 xs K) ?_ (fun adl Z0 hF=>?_)))
   ·
    refine Ok.block (aH (aS ?_))
    obtain ⟨adj,h119,hF⟩:=hF
    have ann:([[10],[34],[92]]:List Bs)[Int.toNat 2]? = some ([92]:Bs):=aV (l:=([[10],[34],[92]]:List Bs)) (default:Bs) h119
    refine ai (af.bf (e:=.str) rfl rfl underlying84 kr n0 adj ann rfl fun q18 o18 ap8 _ D0 abm=>?_)
    obtain rfl:=abm
    replace D0:At o0 q18 o18 [sv ([92]:Bs)]:=D0
    refine aj 2 [.a 0 D0] [0,1,5,6,30,31,32] [(8,sv ([92]:Bs))] ?_
    refine aa (aH (aS ?_))
    obtain ⟨abA,hF⟩:=hF
    refine aj 4 [.k (FC xs ([92]:Bs) abA)] [0,1,5,6,8,30,31,32] [(9,iv (cntS xs ([92]:Bs)))] ?_
    refine aa (ae (ag 2 [0,1,5,6,8,9,30,31,32] [(40,.bool ((cntS xs ([92]:Bs)) != 0))] ?_))
    refine aa (aM hF (fun E0 hF=>?_) (fun E0 hF=>?_))
    ·refine aH (gu kr kr (fe 7 [0,1,30,31,32] [(41,iv (sS xs)),(42,iv (cntS xs ([92]:Bs))),(45,.int .u8 92),(47,pv bF 0)] ?_))
     obtain ⟨MI,Ib,hF⟩:=hF
     have j1:=aV (l:=oI) default Ib
     generalize abK:(oI.getD (Int.toNat 92) default)=e23 at j1 hF ⊢
     obtain ⟨_,_,_,abZ,aiV,-,-,WX⟩:=oF.opened hT
     refine dX.op rfl (fM.p9 (e:=.slice yb) (o:=0) (L:=oI) (q:=92) (el:=e23) abZ aiV rfl rfl underlying235 kr rfl MI j1 rfl fun ajz _ O0 Tf=>?_)
     obtain ⟨akH,aj3,rfl,aoG⟩:=oS Tf
     have ark:=fun h=>WX 92 _ _ _ O0 h
     refine dX.op rfl (fM.s (v:=.slice akH e23.length aj3) (eX 0 O0 kr underlying26 rfl kr) rfl rfl (fe 5 [0,1,30,31,32] [(5,iv (w6 ((sS xs)+(w6 ((cntS xs ([92]:Bs)) * (w6 ((e23.length:Int) - 1)))))))] ?_))
     refine kU (Ok.t (aS (ag 1 [0,1,5,30,31,32] [(6,.bool true)] ?_)))
     refine bY (bJ (Ok.t ?_))
     subst abK
     refine gW 5 rfl (show (iv (w6 ((sS xs)+(w6 ((cntS xs ([92]:Bs)) * (w6 (((oI.getD (Int.toNat 92) default).length:Int) - 1)))))):Value)=iv (zZ xs) from ay (Value.int .i64) ((aT E0).symm)) (aB 6 (((cntS xs ([92]:Bs)) != 0)||vR xs) (df E0) ?_)
     exact fg hF
    refine Ok.k (bJ (Ok.t (gW 5 rfl (show (iv (sS xs):Value)=iv (zZ xs) from ay (Value.int .i64) ((aF E0).symm)) (aB 6 (((cntS xs ([92]:Bs)) != 0)||vR xs) (bR E0) ?_))))
    exact fg hF
   replace hT:=hT.mono Z0.1
   refine aS (ag 2 [0,1,5,6,30,31] [(32,iv 3)] ?_)
   refine aa (jY (ae (av 1 [(0,pv bF 0),(1,sv xs),(5,iv (zZ xs)),(6,.bool (((cntS xs ([92]:Bs)) != 0)||vR xs)),(30,.slice K0 ([[10],[34],[92]]:List Bs).length t0),(31,iv 3),(32,iv 3),(33,.bool false)] kr (aa (aH (Ok.c (b:=false) rfl (fun h=>by cases h) (fun _=>?_)))))))
   refine fU (aA (aA (aO (Ok.t ?_))))
   exact fun _ _ u v=>⟨adl,((W0.trans i0).trans Z0),zZ xs,(((cntS xs ([92]:Bs)) != 0)||vR xs),fA u v hF⟩
  refine ae (ag 1 [0,1,5,6] [(10,iv 0)] ?_)
  refine aa (Ok.block ?_)
  obtain ⟨k,hF⟩:=hF
  refine gF (fun k a W=>∃ V0:ak,aY w0 g V0∧∃ (s0:Int) (b0:Bool) (k0:Int),fJ 122 [(0,pv bF 0),(1,sv xs),(5,iv s0),(6,.bool b0),(10,iv k0)] a∧dh w0 [] V0 W∧y_ xs K k s0 b0 k0) k ?_ ?_
  ·
   exact fun _ _ u v=>⟨g,bq w0 g,(xs.length:Int),false,0,fA u v hF⟩
  clear hF
  rintro (_ | k38) _ _ ⟨V0,F0,s0,b0,k0,q⟩
  exact (q.2.2:False).elim
  refine jn (fun hF=>?_) _ _ q
  replace hT:=hT.mono F0.1
  refine aH (ae (ag 4 [0,1,5,6,10] [(58,.bool (decide (k0<(xs.length:Int))))] ?_))
  refine aa (aM hF (fun TF hF=>?_) (fun TF hF=>?_))
  ·refine Ok.k (Ok.t (iO V0 [(0,pv bF 0),(1,sv xs),(5,iv (wK xs s0 k0)),(6,.bool (wJ xs b0 k0)),(10,iv k0)] [] (Ct xs s0 b0 k0 (y_ xs K k38)) ?_ (fun apU P0 hF=>?_)))
   ·
    refine Ok.block (ae (ag 2 [0,1,5,6,10] [(61,sv xs),(62,iv k0)] ?_))
    obtain ⟨ada,ac0,hF⟩:=hF
    have x1:=aV (l:=xs) (0:UInt8) ac0
    generalize b1:(xs.getD k0.toNat 0)=e37 at x1 hF ⊢
    refine ai (af.s (v:=.int .u8 (e37.toNat:Int)) (dO (k:=.i64) (i:=k0) (s:=xs) (b:=e37) kr kr underlying9 ada x1) rfl rfl (ag 1 [0,1,5,6,10] [(11,.int .u8 (e37.toNat:Int))] ?_))
    refine aa (ae (ag 4 [0,1,5,6,10,11] [(65,.int .u8 (e37.toNat:Int)),(67,pv bF 0)] ?_))
    obtain ⟨d1,apx,hF⟩:=hF
    have z1:=aV (l:=oI) default apx
    generalize e1:(oI.getD (Int.toNat (e37.toNat:Int)) default)=e39 at z1 hF ⊢
    obtain ⟨_,_,_,abW,aiS,-,-,WU⟩:=oF.opened hT
    refine ai (af.p9 (e:=.slice yb) (o:=0) (L:=oI) (q:=(e37.toNat:Int)) (el:=e39) abW aiS rfl rfl underlying235 kr rfl d1 z1 rfl fun aul _ R0 amv=>?_)
    obtain ⟨aky,ajT,rfl,acn⟩:=oS amv
    have aie:=fun h=>WU (e37.toNat:Int) _ _ _ R0 h
    refine ai (af.s (v:=.slice aky e39.length ajT) (eX 0 R0 kr underlying26 rfl kr) rfl rfl (ai (af.s (v:=.bool (!((e39.length:Int)==0))) (wh (e:=.int .u8) rfl rfl underlying26 acn aie) rfl rfl (aa (ed hF rfl (fun U0=>?_) (fun U0=>?_))))))
    ·replace hF:=hF.1 U0
     refine ae (ag 5 [0,1,10] [(71,iv s0),(73,.int .u8 (e37.toNat:Int)),(75,pv bF 0)] ?_)
     obtain ⟨_,_,_,abV,aiR,-,-,WT⟩:=oF.opened hT
     refine ai (af.p9 (e:=.slice yb) (o:=0) (L:=oI) (q:=(e37.toNat:Int)) (el:=e39) abV aiR rfl rfl underlying235 kr rfl d1 z1 rfl fun auj _ T0 amt=>?_)
     obtain ⟨ash,arO,rfl,aor⟩:=oS amt
     have arh:=fun h=>WT (e37.toNat:Int) _ _ _ T0 h
     refine aj 5 [.a 0 T0] [0,1,10] [(5,iv (w6 (s0+(w6 ((e39.length:Int) - 1)))))] ?_
     refine aa (aS (ag 1 [0,1,5,10] [(6,.bool true)] ?_))
     refine bY (bJ (Ok.t ?_))
     subst e1
     subst b1
     refine gW 5 rfl (show (iv (w6 (s0+(w6 (((oI.getD (Int.toNat ((xs.getD k0.toNat 0).toNat:Int)) default).length:Int) - 1)))):Value)=iv (wK xs s0 k0) from ay (Value.int .i64) ((aT U0).symm)) (aB 6 (wJ xs b0 k0) (df U0) ?_)
     exact fg hF
    replace hF:=hF.2 U0
    refine Ok.k (bJ (Ok.t ?_))
    subst e1
    subst b1
    refine gW 5 rfl (show (iv s0:Value)=iv (wK xs s0 k0) from ay (Value.int .i64) ((aF U0).symm)) (aB 6 (wJ xs b0 k0) (bR U0) ?_)
    exact fg hF
   replace hT:=hT.mono P0.1
   refine aS (ag 3 [0,1,5,6] [(10,iv (w6 (k0+1)))] ?_)
   refine bY (Ok.t ?_)
   exact fun _ _ u v=>⟨k38,nl,apU,F0.trans P0,wK xs s0 k0,wJ xs b0 k0,w6 (k0+1),fA u v hF⟩
  refine fU (aA (aA (aO (Ok.t ?_))))
  exact fun _ _ u v=>⟨V0,F0,s0,b0,fA u v hF⟩
 clear hF
 rintro _ _ ⟨gj7,q1,a0,Y0,q⟩
 refine jn (fun hF=>?_) _ _ q
 replace hT:=hT.mono q1.1
 refine aH (ae (ag 2 [0,1,5] [(82,.bool (!Y0))] ?_))
 refine aa (aM hF (fun hc1 hF=>?_) (fun hc1 hF=>?_))
 ·refine ae (av 2 [(4,sv xs)] kr (aa (Ok.ret (aC ?_))))
  exact qd (sv xs) q1 ⟨xs,rfl,rfl,hF⟩
 refine Ok.k (Ok.t (ae (ag 1 [0,1] [(84,iv a0)] ?_)))
 obtain ⟨h02,h12,hF⟩:=hF
 refine ai (wo (e:=.int .u8) (E:=5) (nn:=a0) (y:=0) (z:=.int .u8 0) 1 140737488355328 rfl rfl underlying26 kr kr kr rfl h02 h12 rfl fun a2 c2 yT hL2=>?_)
 refine ag 1 [0,1] [(12,.slice a2 (List.replicate a0.toNat (0:Int)).length c2)] ?_
 refine aa (ae (ag 1 [0,1,12] [(13,iv 0)] ?_))
 refine aa (aH (ae (ag 1 [0,1,12,13] [(14,iv 0)] ?_)))
 refine aa (Ok.block ?_)
 obtain ⟨k,hF⟩:=hF
 refine gF (fun k a W=>∃ Q0:ak,aY w0 gj7 Q0∧∃ (q0:Int) (y0:Int) (u0:Option Addr) (j0:Nat) (z0:List Int) (c0:List Value),aW Q0 yb c0 z0∧fJ 122 [(0,pv bF 0),(1,sv xs),(12,.slice u0 z0.length j0),(13,iv q0),(14,iv y0)] a∧dh w0 [.own (.slice u0 z0.length j0) 5 1 z0.length c0] Q0 W∧y9 xs K k q0 y0 z0) k ?_ ?_
 ·
  exact fun _ _ u v=>⟨gj7,bq w0 gj7,0,0,a2,c2,List.replicate a0.toNat (0:Int),yT,hL2,fA u v hF⟩
 clear hF
 rintro (_ | k73) _ _ ⟨Q0,G0,q0,y0,u0,j0,z0,c0,d0,q⟩
 exact (q.2.2:False).elim
 refine jn (fun hF=>?_) _ _ q
 replace hT:=hT.mono G0.1
 refine aH (ae (ag 4 [0,1,12,13,14] [(89,.bool (decide (y0<(xs.length:Int))))] ?_))
 refine aa (aM hF (fun hc3 hF=>?_) (fun hc3 hF=>?_))
 ·refine Ok.k (Ok.t (Ok.cut (fun a W=>∃ H0:ak,aY w0 Q0 H0∧∃ (g0:Option Addr) (m0:Nat) (x0:List Int) (f0:List Value),aW H0 yb f0 x0∧fJ 122 [(0,pv bF 0),(1,sv xs),(12,.slice g0 x0.length m0),(13,iv (wL xs q0 y0)),(14,iv y0)] a∧dh w0 [.own (.slice g0 x0.length m0) 5 1 x0.length f0] H0 W∧Lj xs x0 q0 y0 (y9 xs K k73)) ?_ ?_))
  ·
   refine Ok.block (ae (ag 2 [0,1,12,13,14] [(92,sv xs),(93,iv y0)] ?_))
   obtain ⟨qA,ru,hF⟩:=hF
   have pR:=aV (l:=xs) (0:UInt8) ru
   generalize hg4:(xs.getD y0.toNat 0)=e4 at pR hF ⊢
   refine ai (af.s (v:=.int .u8 (e4.toNat:Int)) (dO (k:=.i64) (i:=y0) (s:=xs) (b:=e4) kr kr underlying9 qA pR) rfl rfl (ag 1 [0,1,12,13,14] [(15,.int .u8 (e4.toNat:Int))] ?_))
   refine aa (ae (ag 4 [0,1,12,13,14,15] [(96,.int .u8 (e4.toNat:Int)),(98,pv bF 0)] ?_))
   obtain ⟨vY,h16,hF⟩:=hF
   have wW:=aV (l:=oI) default h16
   generalize Bi:(oI.getD (Int.toNat (e4.toNat:Int)) default)=e6 at wW hF ⊢
   obtain ⟨_,_,_,aiy,aon,-,-,abE⟩:=oF.opened hT
   refine ai (af.p9 (e:=.slice yb) (o:=0) (L:=oI) (q:=(e4.toNat:Int)) (el:=e6) aiy aon rfl rfl underlying235 kr rfl vY wW rfl fun cs5 _ f1 P8=>?_)
   obtain ⟨aeI,aed,rfl,Km⟩:=oS P8
   have amW:=fun h=>abE (e4.toNat:Int) _ _ _ f1 h
   refine ai (af.s (v:=.slice aeI e6.length aed) (eX 0 f1 kr underlying26 rfl kr) rfl rfl (ai (af.s (v:=.bool (!((e6.length:Int)==0))) (wh (e:=.int .u8) rfl rfl underlying26 Km amW) rfl rfl (aa (ed hF rfl (fun iC=>?_) (fun iC=>?_))))))
   ·replace hF:=hF.1 iC
    refine zT 0 rfl fun anu atz=>?_
    refine wz [] [] [0] [(0,true),(1,true),(2,true),(3,true),(4,true),(5,true),(6,true),(7,true),(8,true),(9,true),(10,false),(11,true),(12,true)] ?_
    refine Pf 3 [(0,pv bF 0),(1,sv xs),(12,.slice u0 z0.length j0),(14,iv y0),(15,.int .u8 (e4.toNat:Int)),(102,iv q0),(103,.slice u0 z0.length j0),(104,iv q0)] kr ?_
    obtain ⟨Eh,h19,P_,hF⟩:=hF
    refine eF.hd (fM.s (v:=vw u0 1 j0 q0.toNat (Int.toNat (z0.length:Int))) (yZ (size:=1) (l:=q0) (h:=(z0.length:Int)) rfl underlying26 kr (.inl ⟨_,_,rfl,rfl⟩) (.inr ⟨rfl,rfl⟩) Eh h19 (Int.le_trans P_ (Int.ofNat_le.2 anu))) rfl rfl ?_)
    refine iI 4 [0,1,12,14,102] [(105,vw u0 1 j0 q0.toNat (Int.toNat (z0.length:Int))),(107,.int .u8 (e4.toNat:Int)),(109,pv bF 0)] ?_
    obtain ⟨_,_,_,ab0,aiW,-,-,WY⟩:=oF.opened hT
    refine eF.hd (fM.p9 (e:=.slice yb) (o:=0) (L:=oI) (q:=(e4.toNat:Int)) (el:=e6) ab0 aiW rfl rfl underlying235 kr rfl vY wW rfl fun Qj _ L0 Hu=>?_)
    obtain ⟨akQ,akc,rfl,Mv⟩:=oS Hu
    have arl:=fun h=>WY (e4.toNat:Int) _ _ _ L0 h
    refine eF.hd (fM.s (v:=.slice akQ e6.length akc) (eX 0 L0 kr underlying26 rfl kr) rfl rfl ?_)
    obtain ⟨Dz,hF⟩:=hF
    obtain ⟨Za,A0⟩:∃ y:List Int,y=z0.take q0.toNat++e6++z0.drop (q0.toNat+e6.length):=⟨_,rfl⟩
    replace hF:=hF Za A0
    obtain ⟨acW,hF⟩:=hF
    refine eF.t rfl rfl (KV (e:=.int .u8) (l:=z0) (l2:=e6) (p:=q0.toNat) 0 rfl rfl rfl d0 Mv underlying26 kr (eB _) Dz A0 rfl fun alC ao7=>?_)
    rw [show z0.length=Za.length from acW]
    refine g_ (lC.refl _) (iI 2 [0,1,14] [(12,.slice u0 Za.length j0),(13,iv (w6 (q0+(e6.length:Int))))] ?_)
    refine eF.nil (bJ (Ok.t ?_))
    subst Bi
    subst hg4
    refine gW 13 rfl (show (iv (w6 (q0+((oI.getD (Int.toNat ((xs.getD y0.toNat 0).toNat:Int)) default).length:Int))):Value)=iv (wL xs q0 y0) from ay (Value.int .i64) ((aT iC).symm)) ?_
    exact fun _ _ u v=>⟨Q0,bq w0 Q0,u0,j0,Za,alC,ao7,fA u v hF⟩
   replace hF:=hF.2 iC
   refine ae (ag 3 [0,1,12,13,14] [(114,.slice u0 z0.length j0),(115,iv q0),(116,.int .u8 (e4.toNat:Int))] ?_)
   obtain ⟨ML,Ic,hF⟩:=hF
   have g1:=aV (l:=z0) default Ic
   generalize TD:(z0.getD q0.toNat default)=e13 at g1 hF ⊢
   refine ai (af.fQ (e:=.int .u8) 0 rfl d0 rfl rfl underlying26 kr kr ML g1 rfl fun ajB _ Tj k1=>?_)
   obtain rfl:=Tj
   replace k1:∀ j v,([.int .u8 e13]:List Value)[j]? = some v→c0[q0.toNat * 1+j]? = some v:=k1
   refine ai (j_ (e:=.int .u8) (q:=q0.toNat) (cells:=[.int .u8 e13]) (vs:=[.int .u8 (e4.toNat:Int)]) (xy:=(e4.toNat:Int)) 0 0 1 rfl d0 k1 kr rfl rfl rfl kr kr kr kr kr (show bG _ _ [.int .u8 (e4.toNat:Int)] _ from rfl) fun Ze TT=>?_)
   rw [show z0.length=(z0.set q0.toNat (e4.toNat:Int)).length from (kK ..).symm]
   refine aa (aS (ag 3 [0,1,14] [(12,.slice u0 (z0.set q0.toNat (e4.toNat:Int)).length j0),(13,iv (w6 (q0+1)))] ?_))
   refine bY (bJ (Ok.t ?_))
   subst TD
   subst Bi
   subst hg4
   refine gW 13 rfl (show (iv (w6 (q0+1)):Value)=iv (wL xs q0 y0) from ay (Value.int .i64) ((aF iC).symm)) ?_
   exact fun _ _ u v=>⟨Q0,bq w0 Q0,u0,j0,(z0.set q0.toNat ((xs.getD y0.toNat 0).toNat:Int)),Ze,TT,fA u v hF⟩
  clear hF
  rintro _ _ ⟨H0,I0,g0,m0,x0,f0,H8,q⟩
  refine jn (fun hF=>?_) _ _ q
  refine aS (ag 3 [0,1,12,13] [(14,iv (w6 (y0+1)))] ?_)
  refine bY (Ok.t ?_)
  exact fun _ _ u v=>⟨k73,nl,H0,G0.trans I0,wL xs q0 y0,w6 (y0+1),g0,m0,x0,f0,H8,fA u v hF⟩
 refine fU (aA (aA (aO (Ok.t (ae (av 1 [(120,.slice u0 z0.length j0)] kr (ai (af.s (v:=sv (bytesOf z0)) (jX 0 kr rfl rfl d0 underlying26 underlying9 underlying5) rfl rfl (av 1 [(4,sv (bytesOf z0))] kr (aa (Ok.ret ?_)))))))))))
 exact jd (sv (bytesOf z0)) (q1.trans G0) ⟨bytesOf z0,rfl,rfl,hF⟩
def Em (c:UInt8):Bool:=c==10||c==34||c==92
def rp1 (c:UInt8):Bs:=if Em c=true then [92,c] else [c]
def quoteS:Bs→Bs
 | []=>[]
 | c::s=>rp1 c++quoteS s
def mD (s:Bs):Prop:=s.length≤70368744177664
theorem uC {p:UInt8→Bool} (h:(List.range 256).all (fun n=>p (UInt8.ofNat n))=true) (c:UInt8):p c=true:=by
 have h1:=l5.1 h c.toNat (by simpa using c.toNat_lt)
 simpa using h1
theorem Rt (c:UInt8):oI.getD (Int.toNat (c.toNat:Int)) default=if Em c=true then [92,(c.toNat:Int)] else []:=by
 have:=uC (p:=fun c=>decide (oI.getD (Int.toNat (c.toNat:Int)) default=if Em c=true then [92,(c.toNat:Int)] else [])) dk c
 exact dn this
theorem xP:oI.length=256:=by kernel_rfl
theorem NZ (c:UInt8):1≤(rp1 c).length∧(rp1 c).length≤2:=by unfold rp1; split <;> simp
theorem qm (s t:Bs):quoteS (s++t)=quoteS s++quoteS t:=by
 induction s with
 | nil=>rfl
 | cons c s ih=>rw [iM,quoteS,quoteS,ih,dL]
theorem oJ (s:Bs):s.length≤(quoteS s).length∧(quoteS s).length≤2 * s.length:=by
 induction s with
 | nil=>simp [quoteS]
 | cons c s ih =>
  have:=NZ c
  rw [quoteS,bC,cK]
  omega
theorem Jv (s:Bs) (h:s.any Em=false):quoteS s=s:=by
 induction s with
 | nil=>rfl
 | cons c s ih =>
  rw [jK,dC] at h
  rw [quoteS,ih h.2,rp1,h.1]
  rfl
theorem iA (s:Bs) {i:Nat} (h:i<s.length):s.take (i+1)=s.take i++[s.getD i 0]:=by
 rw [List.take_add_one,gN,gB h]; rfl
theorem Ju (s:Bs) {i:Nat} (h:i<s.length):quoteS s=quoteS (s.take i)++(rp1 (s.getD i 0)++quoteS (s.drop (i+1))):=by
 have e:s=s.take i++(s.getD i 0::s.drop (i+1)):=by
  rw [gN,gB h]
  simp
 conv=>lhs; rw [e]
 rw [qm,quoteS]
theorem af6 (xs:Bs) (hp:mD xs):∀ (m i:Nat),i+m=xs.length→y9 xs (fun r=>r=quoteS xs) (m+1) ((quoteS (xs.take i)).length:Int) (i:Int) (intsOf (quoteS (xs.take i))++List.replicate ((quoteS xs).length - (quoteS (xs.take i)).length) 0):=by
 unfold mD at hp
 have hq:=oJ xs
 intro m
 induction m with
 | zero =>
  intro i hi
  have:xs.take i=xs:=jR om
  refine ⟨fun hc=>absurd (dn hc) om,fun _=>?_⟩
  show bytesOf _=_
  rw [this,Nat.sub_self,List.replicate_zero,gK,kJ]
 | succ m ih =>
  intro i hi
  have hi':i<xs.length:=om
  have hs:=Ju xs hi'
  have h1:=ay List.length hs
  rw [bC,bC] at h1
  have hr:=NZ (xs.getD i 0)
  have ht:quoteS (xs.take (i+1))=quoteS (xs.take i)++rp1 (xs.getD i 0):=by
   rw [iA xs hi',qm,quoteS,quoteS,gK]
  have hn:=oJ (xs.take i)
  rw [gz,og om] at hn
  have hI:(intsOf (quoteS (xs.take i))).length=(quoteS (xs.take i)).length:=iW ..
  have hL:(intsOf (quoteS (xs.take i))++List.replicate ((quoteS xs).length - (quoteS (xs.take i)).length) (0:Int)).length=(quoteS xs).length:=by rw [bC,hI,List.length_replicate]; omega
  have step:∀ (Y:List Int) (j:Int),j=((quoteS (xs.take (i+1))).length:Int)→Y=intsOf (quoteS (xs.take (i+1)))++List.replicate ((quoteS xs).length - (quoteS (xs.take (i+1))).length) 0 →
    y9 xs (fun r=>r=quoteS xs) (m+1) j (w6 ((i:Int)+1)) Y:=by
   intro Y j hj hY
   rw [hj,hY,gp om,show (i:Int)+1=((i+1:Nat):Int) by omega]
   exact ih (i+1) om
  have e0:oI.getD (Int.toNat ((xs.getD (Int.toNat (i:Int)) 0).toNat:Int)) default=if Em (xs.getD i 0)=true then [92,((xs.getD i 0).toNat:Int)] else []:=by rw [eB i]; exact Rt _
  have hb:(xs.getD (Int.toNat (i:Int)) 0).toNat<256:=UInt8.toNat_lt _
  have hV:wL xs ((quoteS (xs.take i)).length:Int) (i:Int)=((quoteS (xs.take (i+1))).length:Int):=by
   unfold wL
   rw [e0,ht,bC,rp1]
   by_cases hc:Em (xs.getD i 0)=true
   ·rw [bn hc,bn hc]
    rw [show (!((([92,((xs.getD i 0).toNat:Int)].length:Nat):Int)==0))=true from rfl,bn rfl,gp (by simp; omega)]
    simp
   rw [aQ hc,aQ hc]
   rw [show (!((([]:List Int).length:Int)==0))=false from rfl,aQ (by simp),gp om]
   simp
  refine ⟨fun _=>⟨om,by rw [eB]; exact hi',om,by rw [xP,eB]; omega,fun hc=>?_,fun hc=>?_⟩,fun hc=>absurd (fZ hc) om⟩
  ·rw [e0] at hc ⊢
   by_cases hsp:Em (xs.getD i 0)=true
   ·rw [bn hsp] at hc ⊢
    have hrl:(rp1 (xs.getD i 0))=[92,xs.getD i 0]:=by rw [rp1,bn hsp]
    rw [hrl] at h1 ht
    simp only [cK,jT] at h1
    refine ⟨om,om,om,by rw [hL,eB]; simp; omega,fun Y hY=>⟨?_,?_⟩⟩
    ·rw [hY,eB]; simp; omega
    refine step Y _ hV ?_
    rw [hY,eB,ht,List.take_append_of_le_length om,jR om,List.drop_append,hI,fF om,jS,List.drop_replicate]
    show intsOf (quoteS (xs.take i))++[92,((xs.getD i 0).toNat:Int)]++_=_
    rw [intsOf,intsOf,uN,dL,dL]
    congr 2
    congr 1
    simp only [bC,cK,jT]
    omega
   rw [aQ hsp] at hc
   exact absurd hc (by simp)
  rw [e0] at hc
  by_cases hsp:Em (xs.getD i 0)=true
  ·rw [bn hsp] at hc
   exact absurd hc (by simp)
  have hrl:(rp1 (xs.getD i 0))=[xs.getD i 0]:=by rw [rp1,aQ hsp]
  rw [hrl] at h1 ht
  simp only [cK,jT] at h1
  refine ⟨om,by rw [hL,eB]; omega,?_⟩
  refine step _ _ hV ?_
  rw [eB,eB,ht,List.set_append,aQ om,hI,Nat.sub_self]
  obtain ⟨q,hq2⟩:∃ q,(quoteS xs).length - (quoteS (xs.take i)).length=q+1:=⟨_,(by omega:_=((quoteS xs).length - (quoteS (xs.take i)).length - 1)+1)⟩
  rw [hq2,zJ,List.set_cons_zero,intsOf,intsOf,uN,dL]
  congr 1
  show _::_=_::_
  congr 1
  congr 1
  simp only [bC,cK,jT]
  omega
theorem af7 (xs:Bs) (hp:mD xs) (n:Int) (b:Bool) (hb:b=xs.any Em) (hn:n=((quoteS xs).length:Int)):NY xs (fun r=>r=quoteS xs) n b:=by
 have hq:=oJ xs
 refine ⟨fun h=>?_,fun _=>⟨om,by unfold mD at hp; omega,xs.length+1,?_⟩⟩
 ·have h:b=false:=by simpa using h
  show xs=quoteS xs
  rw [Jv xs (by rw [← hb,h])]
 have:=af6 xs hp xs.length 0 om
 rw [List.take_zero] at this
 rw [hn,eB]
 simpa [quoteS,intsOf] using this
theorem af8 (xs:Bs) (hp:mD xs):∀ (m i:Nat),i+m=xs.length→y_ xs (fun r=>r=quoteS xs) (m+1) (((quoteS (xs.take i)).length+m:Nat):Int) ((xs.take i).any Em) (i:Int):=by
 have hp':xs.length≤70368744177664:=hp
 intro m
 induction m with
 | zero =>
  intro i hi
  have:xs.take i=xs:=jR om
  refine ⟨fun hc=>absurd (dn hc) om,fun _=>?_⟩
  rw [this]
  exact af7 xs hp _ _ rfl rfl
 | succ m ih =>
  intro i hi
  have hi':i<xs.length:=om
  have hb:(xs.getD (Int.toNat (i:Int)) 0).toNat<256:=UInt8.toNat_lt _
  have ht:quoteS (xs.take (i+1))=quoteS (xs.take i)++rp1 (xs.getD i 0):=by
   rw [iA xs hi',qm,quoteS,quoteS,gK]
  have hn:=oJ (xs.take i)
  rw [gz,og om] at hn
  have e0:oI.getD (Int.toNat ((xs.getD (Int.toNat (i:Int)) 0).toNat:Int)) default=if Em (xs.getD i 0)=true then [92,((xs.getD i 0).toNat:Int)] else []:=by rw [eB i]; exact Rt _
  have hV:wK xs (((quoteS (xs.take i)).length+(m+1):Nat):Int) (i:Int)=(((quoteS (xs.take (i+1))).length+m:Nat):Int):=by
   unfold wK
   rw [e0,ht,bC,rp1]
   by_cases hc:Em (xs.getD i 0)=true
   ·rw [bn hc,bn hc]
    rw [show (!((([92,((xs.getD i 0).toNat:Int)].length:Nat):Int)==0))=true from rfl,bn rfl,show w6 ((([92,((xs.getD i 0).toNat:Int)].length:Nat):Int) - 1)=1 from rfl,gp om]
    simp; omega
   rw [aQ hc,aQ hc]
   rw [show (!((([]:List Int).length:Int)==0))=false from rfl,aQ (by simp)]
   simp; omega
  have hW:wJ xs ((xs.take i).any Em) (i:Int)=(xs.take (i+1)).any Em:=by
   unfold wJ
   rw [e0,iA xs hi',List.any_append,jK,xk,oo,Bool.or_comm]
   congr 1
   by_cases hc:Em (xs.getD i 0)=true
   ·rw [bn hc,hc]; rfl
   rw [aQ hc]; simp only [Bool.not_eq_true] at hc; rw [hc]; rfl
  have j:Ct xs (((quoteS (xs.take i)).length+(m+1):Nat):Int) ((xs.take i).any Em) (i:Int) (y_ xs (fun r=>r=quoteS xs) (m+1)):=by
   unfold Ct
   rw [hV,hW,gp om,show (i:Int)+1=((i+1:Nat):Int) by omega]
   exact ih (i+1) om
  exact ⟨fun _=>⟨om,by rw [eB]; exact hi',om,by rw [xP,eB]; omega,fun _=>j,fun _=>j⟩,fun hc=>absurd (fZ hc) om⟩
theorem KC (xs:Bs):(quoteS xs).length=xs.length+xs.count 10+xs.count 34+xs.count 92:=by
 induction xs with
 | nil=>rfl
 | cons c s ih =>
  rw [quoteS,bC,ih,List.count_cons,List.count_cons,List.count_cons,cK]
  have:(rp1 c).length=1+(if (c==10)=true then 1 else 0)+(if (c==34)=true then 1 else 0)+(if (c==92)=true then 1 else 0):=by
   have:=uC (p:=fun c=>decide ((rp1 c).length=1+(if (c==10)=true then 1 else 0)+(if (c==34)=true then 1 else 0)+(if (c==92)=true then 1 else 0))) dk c
   exact dn this
  omega
theorem Qk (xs:Bs):xs.any Em=(((cntS xs [92]) != 0)||(((cntS xs [34]) != 0)||((cntS xs [10]) != 0))):=by
 have k:∀ c:UInt8,((cntS xs [c]) != 0)=xs.any (·==c):=fun c=>by
  show (((Lib.countByte xs c:Nat):Int) != 0)=_
  rw [show Lib.countByte xs c=xs.count c from rfl]
  cases h:xs.any (·==c) with
  | true =>
   obtain ⟨y,hy,he⟩:=xm.1 h
   have:=eq_of_beq he; subst this
   have:=List.count_pos_iff.2 hy
   rw [bne_iff_ne]; omega
  | false =>
   have:xs.count c=0:=List.count_eq_zero.2 fun hm=>by
    rw [List.any_eq_false] at h
    exact h c hm (by simp)
   rw [this]; rfl
 rw [k,k,k]
 induction xs with
 | nil=>rfl
 | cons c s ih =>
  simp only [jK]
  rw [ih (fun c=>by
   show (((Lib.countByte s c:Nat):Int) != 0)=_
   rw [show Lib.countByte s c=s.count c from rfl]
   cases h:s.any (·==c) with
   | true =>
    obtain ⟨y,hy,he⟩:=xm.1 h
    have:=eq_of_beq he; subst this
    have:=List.count_pos_iff.2 hy
    rw [bne_iff_ne]; omega
   | false =>
    have:s.count c=0:=List.count_eq_zero.2 fun hm=>by
     rw [List.any_eq_false] at h
     exact h c hm (by simp)
    rw [this]; rfl)]
  unfold Em
  cases (c==10) <;> cases (c==34) <;> cases (c==92) <;> simp
theorem Rq (n cN:Int) (hn:0≤n∧n≤4611686018427387903) (hc:0≤cN∧cN≤4611686018427387903) (k:Int) (hk:k=2):(if (cN != 0)=true then w6 (n+(w6 (cN * (w6 (k - 1))))) else n)=n+cN:=by
 subst hk
 rw [show w6 ((2:Int) - 1)=1 from rfl,Int.mul_one,gp (x:=cN) om]
 split
 ·exact gp om
 rename_i h
 simp at h; omega
theorem af4 (xs:Bs) (hp:mD xs):af5 xs (fun r=>r=quoteS xs):=by
 have hp':xs.length≤70368744177664:=hp
 have c1:=List.count_le_length (a:=(10:UInt8)) (l:=xs)
 have c2:=List.count_le_length (a:=(34:UInt8)) (l:=xs)
 have c3:=List.count_le_length (a:=(92:UInt8)) (l:=xs)
 have q10:cntS xs [10]=((xs.count 10:Nat):Int):=rfl
 have q34:cntS xs [34]=((xs.count 34:Nat):Int):=rfl
 have q92:cntS xs [92]=((xs.count 92:Nat):Int):=rfl
 have v0:tT xs=(xs.length:Int)+cntS xs [10]:=Rq _ _ om om _ rfl
 have v1:sS xs=(xs.length:Int)+cntS xs [10]+cntS xs [34]:=by
  unfold sS
  rw [v0]
  exact Rq _ _ om om _ rfl
 have v3:zZ xs=(xs.length:Int)+cntS xs [10]+cntS xs [34]+cntS xs [92]:=by
  unfold zZ
  rw [v1]
  exact Rq _ _ om om _ rfl
 have j21:F7 xs (fun r=>r=quoteS xs):=by
  refine af7 xs hp _ _ ?_ ?_
  ·rw [Qk]; rfl
  rw [v3,KC]; omega
 have ja:AY xs (fun r=>r=quoteS xs):=⟨by decide,by decide,rfl,fun _=>⟨by decide,by rw [xP]; decide,j21⟩,fun _=>j21⟩
 have jb:AX xs (fun r=>r=quoteS xs):=⟨by decide,by decide,rfl,fun _=>⟨by decide,by rw [xP]; decide,ja⟩,fun _=>ja⟩
 refine ⟨fun _=>⟨by decide,by decide,rfl,fun _=>⟨by decide,by rw [xP]; decide,jb⟩,fun _=>jb⟩,fun _=>⟨xs.length+1,?_⟩⟩
 have:=af8 xs hp xs.length 0 om
 simpa [quoteS] using this
theorem af1 {g:ak} {b:Nat} (xs:Bs) (hT:oF g b) (hp:mD xs):bE prog 295 #[pv b 0,sv xs] g (sv (quoteS xs)) :=
 (Z4 xs hT _ (af4 xs hp)).gives fun g' H' u _ ⟨r,hu,_,hr⟩=>by rw [hu,hr]
end Go.Proofs.YtdapgmigogpdcaaGreatDoor.Rp
