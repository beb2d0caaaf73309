/- strings.NewReplacer: what its table is. -/
import Derived.Test.YtdapgmigogpdcaaGreatDoorRnd
import Derived.Test.YtdapgmigogpdcaaGreatDoorExi
import Derived.Test.YtdapgmigogpdcaaGreatDoorProg
import Derived.Test.YtdapgmigogpdcaaGreatDoorLaid
import Derived.Lib.SliceRun
import Derived.Test.YtdapgmigogpdcaaGreatDoorSha
set_option linter.unusedSimpArgs false
set_option linter.unusedVariables false
namespace Go.Proofs.YtdapgmigogpdcaaGreatDoor.Rp
open _root_.Go.Proofs.Tryz Go Go.iT Go.RowKit
set_option maxHeartbeats 4000000
set_option maxRecDepth 100000
def Mj (a b c d:Value):List Value:=let n (k:Nat):List Value:=List.replicate k (.slice none 0 0); n 10++a::(n 23++b::(n 57++c::(n 163++[d])))
def oG (g:ak) (b:Nat):Prop:=∃ (V7 a34 V6 t:Option Addr) (c10 c34 V5 ct:Nat),g b=some (.cells (Mj (.slice V7 2 c10) (.slice a34 2 c34) (.slice V6 2 V5) (.slice t 3 ct)).toArray 237) ∧
 bE g (.slice yb) [.slice V7 2 c10] [92,10]∧bE g (.slice yb) [.slice a34 2 c34] [92,34]∧bE g (.slice yb) [.slice V6 2 V5] [92,92]∧bE g (.slice .str) [.slice t 3 ct] [[10],[34],[92]]
theorem oG.mk {g:ak} {b:Nat} {V7 a34 V6 t:Option Addr} {c10 c34 V5 ct:Nat} (h:g b=some (.cells (Mj (.slice V7 2 c10) (.slice a34 2 c34) (.slice V6 2 V5) (.slice t 3 ct)).toArray 237))
  (h1:bE g (.slice yb) [.slice V7 2 c10] [92,10]) (h2:bE g (.slice yb) [.slice a34 2 c34] [92,34]) (h3:bE g (.slice yb) [.slice V6 2 V5] [92,92]) (h4:bE g (.slice .str) [.slice t 3 ct] [[10],[34],[92]]):oG g b :=
 ⟨_,_,_,_,_,_,_,_,h,h1,h2,h3,h4⟩
theorem oG.mono {g g':ak} {b:Nat} (h:oG g b) (hg:lG g g'):oG g' b:=by
 obtain ⟨V7,a34,V6,t,c10,c34,V5,ct,hb,h1,h2,h3,h4⟩:=h;exact ⟨_,_,_,_,_,_,_,_,hg _ _ hb,h1.mono hg,h2.mono hg,h3.mono hg,h4.mono hg⟩
def afF (K:Prop):Prop :=
 (0:Int)≤0∧Int.toNat 0<([[92],[92,92],[34],[92,34],[10],[92,10]]:List Bs).length∧(0:Int)≤1∧Int.toNat 1<([[92],[92,92],[34],[92,34],[10],[92,10]]:List Bs).length∧(0:Int)≤2∧Int.toNat 2<([[92],[92,92],[34],[92,34],[10],[92,10]]:List Bs).length∧(0:Int)≤3∧Int.toNat 3<([[92],[92,92],[34],[92,34],[10],[92,10]]:List Bs).length∧(0:Int)≤4∧Int.toNat 4<([[92],[92,92],[34],[92,34],[10],[92,10]]:List Bs).length∧(0:Int)≤5∧Int.toNat 5<([[92],[92,92],[34],[92,34],[10],[92,10]]:List Bs).length∧(0:Int)≤4∧Int.toNat 4<([[92],[92,92],[34],[92,34],[10],[92,10]]:List Bs).length∧(0:Int)≤5∧Int.toNat 5<([[92],[92,92],[34],[92,34],[10],[92,10]]:List Bs).length∧(([]:List Bs)++([bytesOf ([10]:List Int)]:List Bs)).length≤8796093022208∧([92,10]:Bs).length≤maxLen∧(0:Int)≤2∧Int.toNat 2<([[92],[92,92],[34],[92,34],[10],[92,10]]:List Bs).length∧(0:Int)≤3∧Int.toNat 3<([[92],[92,92],[34],[92,34],[10],[92,10]]:List Bs).length∧((([]:List Bs)++([bytesOf ([10]:List Int)]:List Bs))++([bytesOf ([34]:List Int)]:List Bs)).length≤8796093022208∧([92,34]:Bs).length≤maxLen∧(0:Int)≤0∧Int.toNat 0<([[92],[92,92],[34],[92,34],[10],[92,10]]:List Bs).length∧(0:Int)≤1∧Int.toNat 1<([[92],[92,92],[34],[92,34],[10],[92,10]]:List Bs).length∧(((([]:List Bs)++([bytesOf ([10]:List Int)]:List Bs))++([bytesOf ([34]:List Int)]:List Bs))++([bytesOf ([92]:List Int)]:List Bs)).length≤8796093022208∧([92,92]:Bs).length≤maxLen∧K
theorem afE {g:ak} {b:Nat} {ao:Option Addr} {co:Nat} (Bo:bE g (.slice (.str)) [.slice ao ([[92],[92,92],[34],[92,34],[10],[92,10]]:List Bs).length co] ([[92],[92,92],[34],[92,34],[10],[92,10]]:List Bs)) (K:Prop)
  (hF:afF K):az prog 174 #[pv b 0] g [.blk b (.cells #[.int .u32 0,.int .i32 1,.int .u32 0,.nilIface,.slice ao ([[92],[92,92],[34],[92,34],[10],[92,10]]:List Bs).length co] 195)] (fun g' H' v=>∃ b2,v=.tuple #[]∧H'=[.blk b (.cells #[.int .u32 0,.int .i32 1,.int .u32 0,.iface 238 (pv b2 0),.slice none 0 0] 195)]∧oG g' b2):=by
 refine aP 10 func174 rfl fun w0=>?_;refine ae (av 2 [(0,pv b 0),(2,pv b 0),(3,pv b 0)] kr (ai (bO (args:=#[pv b 0]) 132 [(0,pv b 0)] gU func205 rfl rfl rfl rfl (ae (ag 1 [0] [] ?_)))));refine aa (ae (aj 5 [.e 0] [] [(3,.slice ao ([[92],[92,92],[34],[92,34],[10],[92,10]]:List Bs).length co)] ?_));refine aa (aF (ae (ag 10 [3] [(28,.bool false)] ?_)));refine aa (Ok.c (b:=false) rfl (fun h=>by cases h) (fun _=>?_));refine Ok.k (Ok.t (ae (ag 1 [3] [(4,.bool true)] ?_)));refine aa (aF (ae (ag 1 [3,4] [(5,iv 0)] ?_)));refine aa (Ok.block (Ok.rounds 5 (j_ (aF (ae (av 4 [(3,.slice ao ([[92],[92,92],[34],[92,34],[10],[92,10]]:List Bs).length co),(4,.bool true),(5,iv 0),(40,.bool true)] kr (aa (Ok.c (b:=true) rfl (fun _=>?_) (fun h=>by cases h)))))))));refine Ok.k (Ok.t (aF (Ok.block (aF (ae (ag 2 [3,4,5] [(43,.slice ao ([[92],[92,92],[34],[92,34],[10],[92,10]]:List Bs).length co),(44,iv 0)] ?_))))));obtain ⟨h02,h12,hF⟩:=hF;have he2:([[92],[92,92],[34],[92,34],[10],[92,10]]:List Bs)[Int.toNat 0]? = some ([92]:Bs):=aT (l:=([[92],[92,92],[34],[92,34],[10],[92,10]]:List Bs)) (default:Bs) h12;refine ai (af.aX (e:=.str) rfl rfl underlying84 kr Bo h02 he2 rfl fun q1 o1 cs1 _ V0 hr1=>?_);obtain rfl:=hr1;replace V0:At g q1 o1 [sv ([92]:Bs)]:=V0;refine aj 3 [.a 0 V0] [3,4,5] [(48,.bool false)] ?_;refine aa (Ok.c (b:=false) rfl (fun h=>by cases h) (fun _=>?_));refine Ok.k (Ok.t (ae (ag 3 [3,4,5] [(52,.slice ao ([[92],[92,92],[34],[92,34],[10],[92,10]]:List Bs).length co),(54,iv 1)] ?_)));obtain ⟨oo,pg,hF⟩:=hF;have ny:([[92],[92,92],[34],[92,34],[10],[92,10]]:List Bs)[Int.toNat 1]? = some ([92,92]:Bs):=aT (l:=([[92],[92,92],[34],[92,34],[10],[92,10]]:List Bs)) (default:Bs) pg;refine ai (af.aX (e:=.str) rfl rfl underlying84 kr Bo oo ny rfl fun q3 o3 Rz _ Q0 hr3=>?_);obtain rfl:=hr3;replace Q0:At g q3 o3 [sv ([92,92]:Bs)]:=Q0;refine aj 3 [.a 0 Q0] [3,4,5] [(58,.bool true)] ?_;refine aa (Ok.c (b:=true) rfl (fun _=>?_) (fun h=>by cases h));refine aR (ag 1 [3,5] [(4,.bool false)] ?_);refine bV (bG (Ok.t (aR (ag 3 [3,4] [(5,iv 2)] ?_))));refine aa (j_ (aF (ae (av 4 [(3,.slice ao ([[92],[92,92],[34],[92,34],[10],[92,10]]:List Bs).length co),(4,.bool false),(5,iv 2),(40,.bool true)] kr (aa (Ok.c (b:=true) rfl (fun _=>?_) (fun h=>by cases h)))))));refine Ok.k (Ok.t (aF (Ok.block (aF (ae (ag 2 [3,4,5] [(43,.slice ao ([[92],[92,92],[34],[92,34],[10],[92,10]]:List Bs).length co),(44,iv 2)] ?_))))));obtain ⟨uA,h16,hF⟩:=hF;have uz:([[92],[92,92],[34],[92,34],[10],[92,10]]:List Bs)[Int.toNat 2]? = some ([34]:Bs):=aT (l:=([[92],[92,92],[34],[92,34],[10],[92,10]]:List Bs)) (default:Bs) h16;refine ai (af.aX (e:=.str) rfl rfl underlying84 kr Bo uA uz rfl fun q5 o5 cs5 _ K0 MZ=>?_);obtain rfl:=MZ;replace K0:At g q5 o5 [sv ([34]:Bs)]:=K0;refine aj 3 [.a 0 K0] [3,4,5] [(48,.bool false)] ?_;refine aa (Ok.c (b:=false) rfl (fun h=>by cases h) (fun _=>?_));refine Ok.k (Ok.t (ae (ag 3 [3,4,5] [(52,.slice ao ([[92],[92,92],[34],[92,34],[10],[92,10]]:List Bs).length co),(54,iv 3)] ?_)));obtain ⟨IK,h18,hF⟩:=hF;have EA:([[92],[92,92],[34],[92,34],[10],[92,10]]:List Bs)[Int.toNat 3]? = some ([92,34]:Bs):=aT (l:=([[92],[92,92],[34],[92,34],[10],[92,10]]:List Bs)) (default:Bs) h18;refine ai (af.aX (e:=.str) rfl rfl underlying84 kr Bo IK EA rfl fun q7 o7 cs7 _ Y0 MX=>?_);obtain rfl:=MX;replace Y0:At g q7 o7 [sv ([92,34]:Bs)]:=Y0;refine aj 3 [.a 0 Y0] [3,4,5] [(58,.bool true)] ?_;refine aa (Ok.c (b:=true) rfl (fun _=>?_) (fun h=>by cases h));refine aR (ag 1 [3,4,5] [] ?_);refine bV (bG (Ok.t (aR (ag 3 [3,4] [(5,iv 4)] ?_))));refine aa (j_ (aF (ae (av 4 [(3,.slice ao ([[92],[92,92],[34],[92,34],[10],[92,10]]:List Bs).length co),(4,.bool false),(5,iv 4),(40,.bool true)] kr (aa (Ok.c (b:=true) rfl (fun _=>?_) (fun h=>by cases h)))))));refine Ok.k (Ok.t (aF (Ok.block (aF (ae (ag 2 [3,4,5] [(43,.slice ao ([[92],[92,92],[34],[92,34],[10],[92,10]]:List Bs).length co),(44,iv 4)] ?_))))));obtain ⟨U_,Nn,hF⟩:=hF
 have ao2:([[92],[92,92],[34],[92,34],[10],[92,10]]:List Bs)[Int.toNat 4]? = some ([10]:Bs):=aT (l:=([[92],[92,92],[34],[92,34],[10],[92,10]]:List Bs)) (default:Bs) Nn;refine ai (af.aX (e:=.str) rfl rfl underlying84 kr Bo U_ ao2 rfl fun q9 o9 cs9 _ U0 Um=>?_);obtain rfl:=Um;replace U0:At g q9 o9 [sv ([10]:Bs)]:=U0;refine aj 3 [.a 0 U0] [3,4,5] [(48,.bool false)] ?_;refine aa (Ok.c (b:=false) rfl (fun h=>by cases h) (fun _=>?_));refine Ok.k (Ok.t (ae (ag 3 [3,4,5] [(52,.slice ao ([[92],[92,92],[34],[92,34],[10],[92,10]]:List Bs).length co),(54,iv 5)] ?_)));obtain ⟨U9,h112,hF⟩:=hF;have ao1:([[92],[92,92],[34],[92,34],[10],[92,10]]:List Bs)[Int.toNat 5]? = some ([92,10]:Bs):=aT (l:=([[92],[92,92],[34],[92,34],[10],[92,10]]:List Bs)) (default:Bs) h112;refine ai (af.aX (e:=.str) rfl rfl underlying84 kr Bo U9 ao1 rfl fun q11 o11 ae8 _ f0 acv=>?_);obtain rfl:=acv;replace f0:At g q11 o11 [sv ([92,10]:Bs)]:=f0;refine aj 3 [.a 0 f0] [3,4,5] [(58,.bool true)] ?_;refine aa (Ok.c (b:=true) rfl (fun _=>?_) (fun h=>by cases h));refine aR (ag 1 [3,4,5] [] ?_);refine bV (bG (Ok.t (aR (ag 3 [3,4] [(5,iv 6)] ?_))));refine aa (j_ (aF (ae (av 4 [(3,.slice ao ([[92],[92,92],[34],[92,34],[10],[92,10]]:List Bs).length co),(4,.bool false),(5,iv 6),(40,.bool false)] kr (aa (Ok.c (b:=false) rfl (fun h=>by cases h) (fun _=>?_)))))));refine fw (ay (ay (aM (Ok.t (aF (ae (ag 1 [3] [(59,.bool false)] ?_)))))));refine aa (Ok.c (b:=false) rfl (fun h=>by cases h) (fun _=>?_));refine Ok.k (Ok.t (ae (ag 3 [3] [(93,iv 3)] ?_)));refine ai (Jk (e:=.str) (E:=9) 16 3 rfl rfl underlying84 kr kr rfl fun b13=>?_);have aqH:aW g (.str) [] ([]:List Bs):=rfl;refine ag 1 [3] [(95,.agg (Mj (.slice none 0 0) (.slice none 0 0) (.slice none 0 0) (.slice (some ⟨b13,0,none⟩) ([]:List Bs).length 3)).toArray)] ?_;refine ai (af.a (z:=.agg (Mj (.slice none 0 0) (.slice none 0 0) (.slice none 0 0) (.slice none 0 0)).toArray) (cs:=(List.toArray <| Mj (.slice none 0 0) (.slice none 0 0) (.slice none 0 0) (.slice none 0 0))) kr kr rfl fun z0=>?_);refine ai (Y4 0 (Mj (.slice none 0 0) (.slice none 0 0) (.slice none 0 0) (.slice (some ⟨b13,0,none⟩) ([]:List Bs).length 3)).toArray rfl rfl rfl ?_);refine aa (aF (ae (ag 4 [3] [(11,pv z0 0),(12,iv 4)] ?_)));refine aa (Ok.block (Ok.rounds 5 (j_ (aF (ae (av 2 [(3,.slice ao ([[92],[92,92],[34],[92,34],[10],[92,10]]:List Bs).length co),(11,pv z0 0),(12,iv 4),(100,.bool true)] kr (aa (Ok.c (b:=true) rfl (fun _=>?_) (fun h=>by cases h)))))))));refine Ok.k (Ok.t (aF (Ok.block (ae (ag 2 [3,11,12] [(103,.slice ao ([[92],[92,92],[34],[92,34],[10],[92,10]]:List Bs).length co),(104,iv 4)] ?_)))));obtain ⟨Ns,h116,hF⟩:=hF;have ao0:([[92],[92,92],[34],[92,34],[10],[92,10]]:List Bs)[Int.toNat 4]? = some ([10]:Bs):=aT (l:=([[92],[92,92],[34],[92,34],[10],[92,10]]:List Bs)) (default:Bs) h116;refine ai (af.aX (e:=.str) rfl rfl underlying84 kr Bo Ns ao0 rfl fun q15 o15 arP _ g0 acr=>?_);obtain rfl:=acr;replace g0:At g q15 o15 [sv ([10]:Bs)]:=g0;refine aj 3 [.a 0 g0] [3,11,12] [(13,.int .u8 10)] ?_;refine aa (ae (ag 3 [3,11,12,13] [(108,.slice ao ([[92],[92,92],[34],[92,34],[10],[92,10]]:List Bs).length co),(110,iv 5)] ?_));obtain ⟨Nr,Nk,hF⟩:=hF;have aoZ:([[92],[92,92],[34],[92,34],[10],[92,10]]:List Bs)[Int.toNat 5]? = some ([92,10]:Bs):=aT (l:=([[92],[92,92],[34],[92,34],[10],[92,10]]:List Bs)) (default:Bs) Nk;refine ai (af.aX (e:=.str) rfl rfl underlying84 kr Bo Nr aoZ rfl fun q17 o17 alb _ m0 Uu=>?_);obtain rfl:=Uu;replace m0:At g q17 o17 [sv ([92,10]:Bs)]:=m0;refine aj 2 [.a 0 m0] [3,11,12,13] [(14,sv ([92,10]:Bs))] ?_;refine aa (aF (ae (aj 5 [.e 0] [3,11,12,13,14] [(117,.bool true)] ?_)));refine aa (Ok.c (b:=true) rfl (fun _=>?_) (fun h=>by cases h));refine aR (aj 3 [.e 0] [3,11,12,13,14] [(119,.slice (some ⟨b13,0,none⟩) ([]:List Bs).length 3),(120,.int .u8 10)] ?_);have v0:aW g yb ([.int .u8 10]:List Value) ([10]:List Int):=(dx (c:=[.int .u8 10]) rfl rfl);refine ai (gz v0 fun b19=>?_)
 refine ai (af.s (v:=sv (bytesOf ([10]:List Int))) (j4 0 kr rfl rfl v0 underlying26 underlying9 underlying5) rfl rfl ?_);have q0:aW g (.str) ([sv (bytesOf ([10]:List Int))]:List Value) ([bytesOf ([10]:List Int)]:List Bs):=(dx (c:=[sv (bytesOf ([10]:List Int))]) rfl rfl);refine ai (gz q0 fun b20=>?_);obtain ⟨apo,hF⟩:=hF;refine ai (fu (e:=.str) 16 8796093022208 3 0 rfl rfl rfl rfl aqH q0 underlying84 kr kr kr apo rfl fun a21 c21 auw J0=>?_);refine ag 1 [3,11,12,13,14] [(124,.slice a21 (([]:List Bs)++([bytesOf ([10]:List Int)]:List Bs)).length c21),(125,pv z0 256)] ?_;refine ai (mU (k:=1) (v:=.slice a21 (([]:List Bs)++([bytesOf ([10]:List Int)]:List Bs)).length c21) 2 (Mj (.slice none 0 0) (.slice none 0 0) (.slice none 0 0) (.slice a21 (([]:List Bs)++([bytesOf ([10]:List Int)]:List Bs)).length c21)).toArray rfl rfl rfl ?_);refine aa (aR (ag 2 [3,11,12] [(126,.int .u8 10),(127,sv ([92,10]:Bs))] ?_));obtain ⟨aoB,hF⟩:=hF;refine ai (oH (s:=([92,10]:Bs)) kr underlying9 underlying26 underlying5 aoB rfl fun g22 a22 Rf n0 s0=>?_);replace Bo:=Bo.mono n0.1;replace J0:=J0.mono n0.1;refine ag 2 [3,11,12] [(128,.slice a22 (intsOf ([92,10]:Bs)).length Rf),(130,pv z0 10)] ?_;refine ai (mU (k:=1) (v:=.slice a22 (intsOf ([92,10]:Bs)).length Rf) 2 (Mj (.slice a22 (intsOf ([92,10]:Bs)).length Rf) (.slice none 0 0) (.slice none 0 0) (.slice a21 (([]:List Bs)++([bytesOf ([10]:List Int)]:List Bs)).length c21)).toArray rfl rfl rfl ?_);refine bV (bG (Ok.t (aR (ag 3 [3,11] [(12,iv 2)] ?_))));refine aa (j_ (aF (ae (av 2 [(3,.slice ao ([[92],[92,92],[34],[92,34],[10],[92,10]]:List Bs).length co),(11,pv z0 0),(12,iv 2),(100,.bool true)] kr (aa (Ok.c (b:=true) rfl (fun _=>?_) (fun h=>by cases h)))))));refine Ok.k (Ok.t (aF (Ok.block (ae (ag 2 [3,11,12] [(103,.slice ao ([[92],[92,92],[34],[92,34],[10],[92,10]]:List Bs).length co),(104,iv 2)] ?_)))));obtain ⟨aej,ad8,hF⟩:=hF;have aoX:([[92],[92,92],[34],[92,34],[10],[92,10]]:List Bs)[Int.toNat 2]? = some ([34]:Bs):=aT (l:=([[92],[92,92],[34],[92,34],[10],[92,10]]:List Bs)) (default:Bs) ad8;refine ai (af.aX (e:=.str) rfl rfl underlying84 kr Bo aej aoX rfl fun q23 o23 arK _ o0 ack=>?_);obtain rfl:=ack;replace o0:At g22 q23 o23 [sv ([34]:Bs)]:=o0;refine aj 3 [.a 0 o0] [3,11,12] [(13,.int .u8 34)] ?_;refine aa (ae (ag 3 [3,11,12,13] [(108,.slice ao ([[92],[92,92],[34],[92,34],[10],[92,10]]:List Bs).length co),(110,iv 3)] ?_));obtain ⟨art,arb,hF⟩:=hF;have aoV:([[92],[92,92],[34],[92,34],[10],[92,10]]:List Bs)[Int.toNat 3]? = some ([92,34]:Bs):=aT (l:=([[92],[92,92],[34],[92,34],[10],[92,10]]:List Bs)) (default:Bs) arb;refine ai (af.aX (e:=.str) rfl rfl underlying84 kr Bo art aoV rfl fun q25 o25 arJ _ r0 acj=>?_);obtain rfl:=acj;replace r0:At g22 q25 o25 [sv ([92,34]:Bs)]:=r0;refine aj 2 [.a 0 r0] [3,11,12,13] [(14,sv ([92,34]:Bs))] ?_;refine aa (aF (ae (aj 5 [.e 2] [3,11,12,13,14] [(117,.bool true)] ?_)));refine aa (Ok.c (b:=true) rfl (fun _=>?_) (fun h=>by cases h));refine aR (aj 3 [.e 2] [3,11,12,13,14] [(119,.slice a21 (([]:List Bs)++([bytesOf ([10]:List Int)]:List Bs)).length c21),(120,.int .u8 34)] ?_);have u0:aW g22 yb ([.int .u8 34]:List Value) ([34]:List Int):=(dx (c:=[.int .u8 34]) rfl rfl);refine ai (gz u0 fun b27=>?_);refine ai (af.s (v:=sv (bytesOf ([34]:List Int))) (j4 0 kr rfl rfl u0 underlying26 underlying9 underlying5) rfl rfl ?_);have j0:aW g22 (.str) ([sv (bytesOf ([34]:List Int))]:List Value) ([bytesOf ([34]:List Int)]:List Bs):=(dx (c:=[sv (bytesOf ([34]:List Int))]) rfl rfl);refine ai (gz j0 fun b28=>?_);obtain ⟨apl,hF⟩:=hF;refine ai (fu (e:=.str) 16 8796093022208 5 0 rfl rfl rfl rfl J0 j0 underlying84 kr kr kr apl rfl fun a29 ZX auu W0=>?_);refine ag 1 [3,11,12,13,14] [(124,.slice a29 ((([]:List Bs)++([bytesOf ([10]:List Int)]:List Bs))++([bytesOf ([34]:List Int)]:List Bs)).length ZX),(125,pv z0 256)] ?_
 refine ai (mU (k:=1) (v:=.slice a29 ((([]:List Bs)++([bytesOf ([10]:List Int)]:List Bs))++([bytesOf ([34]:List Int)]:List Bs)).length ZX) 4 (Mj (.slice a22 (intsOf ([92,10]:Bs)).length Rf) (.slice none 0 0) (.slice none 0 0) (.slice a29 ((([]:List Bs)++([bytesOf ([10]:List Int)]:List Bs))++([bytesOf ([34]:List Int)]:List Bs)).length ZX)).toArray rfl rfl rfl ?_);refine aa (aR (ag 2 [3,11,12] [(126,.int .u8 34),(127,sv ([92,34]:Bs))] ?_));obtain ⟨aoA,hF⟩:=hF;refine ai (oH (s:=([92,34]:Bs)) kr underlying9 underlying26 underlying5 aoA rfl fun g30 a30 RA b0 e0=>?_);replace Bo:=Bo.mono b0.1;replace s0:=s0.mono b0.1;replace W0:=W0.mono b0.1;refine ag 2 [3,11,12] [(128,.slice a30 (intsOf ([92,34]:Bs)).length RA),(130,pv z0 34)] ?_;refine ai (mU (k:=1) (v:=.slice a30 (intsOf ([92,34]:Bs)).length RA) 4 (Mj (.slice a22 (intsOf ([92,10]:Bs)).length Rf) (.slice a30 (intsOf ([92,34]:Bs)).length RA) (.slice none 0 0) (.slice a29 ((([]:List Bs)++([bytesOf ([10]:List Int)]:List Bs))++([bytesOf ([34]:List Int)]:List Bs)).length ZX)).toArray rfl rfl rfl ?_);refine bV (bG (Ok.t (aR (ag 3 [3,11] [(12,iv 0)] ?_))));refine aa (j_ (aF (ae (av 2 [(3,.slice ao ([[92],[92,92],[34],[92,34],[10],[92,10]]:List Bs).length co),(11,pv z0 0),(12,iv 0),(100,.bool true)] kr (aa (Ok.c (b:=true) rfl (fun _=>?_) (fun h=>by cases h)))))));refine Ok.k (Ok.t (aF (Ok.block (ae (ag 2 [3,11,12] [(103,.slice ao ([[92],[92,92],[34],[92,34],[10],[92,10]]:List Bs).length co),(104,iv 0)] ?_)))));obtain ⟨arq,aq9,hF⟩:=hF;have aoT:([[92],[92,92],[34],[92,34],[10],[92,10]]:List Bs)[Int.toNat 0]? = some ([92]:Bs):=aT (l:=([[92],[92,92],[34],[92,34],[10],[92,10]]:List Bs)) (default:Bs) aq9;refine ai (af.aX (e:=.str) rfl rfl underlying84 kr Bo arq aoT rfl fun q31 o31 avZ _ t0 aob=>?_);obtain rfl:=aob;replace t0:At g30 q31 o31 [sv ([92]:Bs)]:=t0;refine aj 3 [.a 0 t0] [3,11,12] [(13,.int .u8 92)] ?_;refine aa (ae (ag 3 [3,11,12,13] [(108,.slice ao ([[92],[92,92],[34],[92,34],[10],[92,10]]:List Bs).length co),(110,iv 1)] ?_));obtain ⟨aef,ad4,hF⟩:=hF;have aoS:([[92],[92,92],[34],[92,34],[10],[92,10]]:List Bs)[Int.toNat 1]? = some ([92,92]:Bs):=aT (l:=([[92],[92,92],[34],[92,34],[10],[92,10]]:List Bs)) (default:Bs) ad4;refine ai (af.aX (e:=.str) rfl rfl underlying84 kr Bo aef aoS rfl fun q33 o33 arG _ a0 acg=>?_);obtain rfl:=acg;replace a0:At g30 q33 o33 [sv ([92,92]:Bs)]:=a0;refine aj 2 [.a 0 a0] [3,11,12,13] [(14,sv ([92,92]:Bs))] ?_;refine aa (aF (ae (aj 5 [.e 4] [3,11,12,13,14] [(117,.bool true)] ?_)));refine aa (Ok.c (b:=true) rfl (fun _=>?_) (fun h=>by cases h));refine aR (aj 3 [.e 4] [3,11,12,13,14] [(119,.slice a29 ((([]:List Bs)++([bytesOf ([10]:List Int)]:List Bs))++([bytesOf ([34]:List Int)]:List Bs)).length ZX),(120,.int .u8 92)] ?_);have c0:aW g30 yb ([.int .u8 92]:List Value) ([92]:List Int):=(dx (c:=[.int .u8 92]) rfl rfl);refine ai (gz c0 fun b35=>?_);refine ai (af.s (v:=sv (bytesOf ([92]:List Int))) (j4 0 kr rfl rfl c0 underlying26 underlying9 underlying5) rfl rfl ?_);have d0:aW g30 (.str) ([sv (bytesOf ([92]:List Int))]:List Value) ([bytesOf ([92]:List Int)]:List Bs):=(dx (c:=[sv (bytesOf ([92]:List Int))]) rfl rfl);refine ai (gz d0 fun b36=>?_);obtain ⟨api,hF⟩:=hF;refine ai (fu (e:=.str) 16 8796093022208 7 0 rfl rfl rfl rfl W0 d0 underlying84 kr kr kr api rfl fun a37 c37 aut X0=>?_);refine ag 1 [3,11,12,13,14] [(124,.slice a37 (((([]:List Bs)++([bytesOf ([10]:List Int)]:List Bs))++([bytesOf ([34]:List Int)]:List Bs))++([bytesOf ([92]:List Int)]:List Bs)).length c37),(125,pv z0 256)] ?_;refine ai (mU (k:=1) (v:=.slice a37 (((([]:List Bs)++([bytesOf ([10]:List Int)]:List Bs))++([bytesOf ([34]:List Int)]:List Bs))++([bytesOf ([92]:List Int)]:List Bs)).length c37) 6 (Mj (.slice a22 (intsOf ([92,10]:Bs)).length Rf) (.slice a30 (intsOf ([92,34]:Bs)).length RA) (.slice none 0 0) (.slice a37 (((([]:List Bs)++([bytesOf ([10]:List Int)]:List Bs))++([bytesOf ([34]:List Int)]:List Bs))++([bytesOf ([92]:List Int)]:List Bs)).length c37)).toArray rfl rfl rfl ?_)
 refine aa (aR (ag 2 [3,11,12] [(126,.int .u8 92),(127,sv ([92,92]:Bs))] ?_));obtain ⟨aoz,hF⟩:=hF;refine ai (oH (s:=([92,92]:Bs)) kr underlying9 underlying26 underlying5 aoz rfl fun g38 a38 c38 k0 i0=>?_);replace s0:=s0.mono k0.1;replace e0:=e0.mono k0.1;replace X0:=X0.mono k0.1;refine ag 2 [3,11,12] [(128,.slice a38 (intsOf ([92,92]:Bs)).length c38),(130,pv z0 92)] ?_;refine ai (mU (k:=1) (v:=.slice a38 (intsOf ([92,92]:Bs)).length c38) 6 (Mj (.slice a22 (intsOf ([92,10]:Bs)).length Rf) (.slice a30 (intsOf ([92,34]:Bs)).length RA) (.slice a38 (intsOf ([92,92]:Bs)).length c38) (.slice a37 (((([]:List Bs)++([bytesOf ([10]:List Int)]:List Bs))++([bytesOf ([34]:List Int)]:List Bs))++([bytesOf ([92]:List Int)]:List Bs)).length c37)).toArray rfl rfl rfl ?_);refine bV (bG (Ok.t (aR (ag 3 [3,11] [(12,iv (-2))] ?_))));refine aa (j_ (aF (ae (av 2 [(3,.slice ao ([[92],[92,92],[34],[92,34],[10],[92,10]]:List Bs).length co),(11,pv z0 0),(12,iv (-2)),(100,.bool false)] kr (aa (Ok.c (b:=false) rfl (fun h=>by cases h) (fun _=>?_)))))));refine fw (ay (ay (aM (Ok.t (ae (av 2 [(2,.iface 238 (pv z0 0))] kr (aa (Ok.ret (bA (vs:=[.iface 238 (pv z0 0)]) (.inl rfl) rfl (.cons (.tmp rfl) .nil) rfl (av 2 [(0,pv b 0),(4,.iface 238 (pv z0 0)),(6,pv b 3)] kr (ai (dA 8 ?_))))))))))));refine aa (aR (av 3 [(9,pv b 4)] kr (ai (dA 8 ?_))));refine bV (sQ 7 rfl X0 fun g39 x0 Z0=>?_);replace s0:=s0.mono x0.1;replace e0:=e0.mono x0.1;replace i0:=i0.mono x0.1;refine Rm (H':=[.own (.slice (some ⟨b36,0,none⟩) ([bytesOf ([92]:List Int)]:List Bs).length 1) 9 1 ([bytesOf ([92]:List Int)]:List Bs).length ([sv (bytesOf ([92]:List Int))]:List Value),.own (.slice (some ⟨b35,0,none⟩) ([92]:List Int).length 1) 5 1 ([92]:List Int).length ([.int .u8 92]:List Value),.own (.slice (some ⟨b28,0,none⟩) ([bytesOf ([34]:List Int)]:List Bs).length 1) 9 1 ([bytesOf ([34]:List Int)]:List Bs).length ([sv (bytesOf ([34]:List Int))]:List Value),.own (.slice (some ⟨b27,0,none⟩) ([34]:List Int).length 1) 5 1 ([34]:List Int).length ([.int .u8 34]:List Value),.own (.slice (some ⟨b20,0,none⟩) ([bytesOf ([10]:List Int)]:List Bs).length 1) 9 1 ([bytesOf ([10]:List Int)]:List Bs).length ([sv (bytesOf ([10]:List Int))]:List Value),.own (.slice (some ⟨b19,0,none⟩) ([10]:List Int).length 1) 5 1 ([10]:List Int).length ([.int .u8 10]:List Value),.blk b (.cells #[.int .u32 0,.int .i32 1,.int .u32 0,.iface 238 (pv z0 0),.slice none 0 0] 195)]) 6 rfl rfl fun g40 y0 aph=>?_;replace s0:=s0.mono y0.1;replace e0:=e0.mono y0.1;replace i0:=i0.mono y0.1;replace Z0:=Z0.mono y0.1;exact AR (vs:=[]) [6] [.blk b (.cells #[.int .u32 0,.int .i32 1,.int .u32 0,.iface 238 (pv z0 0),.slice none 0 0] 195)] dc rfl (.inr rfl) rfl .nil ((((n0.trans b0).trans k0).trans x0).trans y0) ⟨z0,rfl,rfl,oG.mk aph s0 e0 i0 Z0⟩
end Go.Proofs.YtdapgmigogpdcaaGreatDoor.Rp
namespace Go.Proofs.YtdapgmigogpdcaaGreatDoor.Rp
open Go Go.iT Go.RowKit
def oJ:List (List Int):=List.replicate 10 []++([92,10]::(List.replicate 23 []++([92,34]::(List.replicate 57 []++([92,92]::List.replicate 163 [])))))
theorem SL (a b c d:Value):Mj a b c d=(List.replicate 10 (.slice none 0 0)++(a::(List.replicate 23 (.slice none 0 0)++(b::(List.replicate 57 (.slice none 0 0)++(c::List.replicate 163 (.slice none 0 0)))))))++[d]:=by kernel_rfl
theorem qU {g:ak} {e:Ty}:∀ k:Nat,aW g (.slice e) (List.replicate k (.slice none 0 0)) (List.replicate k [])
 | 0=>rfl
 | k+1=>⟨[.slice none 0 0],_,rfl,bE.nil,qU k⟩
theorem oG.opened {g:ak} {b:Nat} (h:oG g b):∃ (cs:List Value) (t:Option Addr) (ct:Nat),At g b 0 cs∧aW g (.slice (.int .u8)) cs oJ∧At g b 256 [.slice t 3 ct]∧bE g (.slice .str) [.slice t 3 ct] [[10],[34],[92]] ∧
  (∀ (q:Int) (a:Option Addr) (k c:Nat),At g b (0+Int.toNat q * 1) [.slice a k c]→k=0→a=none):=by
 obtain ⟨V7,a34,V6,t,c10,c34,V5,ct,hb,h1,h2,h3,h4⟩:=h
 have hc:∀ o v,lM g ⟨b,o,none⟩=some v→(Mj (.slice V7 2 c10) (.slice a34 2 c34) (.slice V6 2 V5) (.slice t 3 ct))[o]? = some v:=fun o v hv=>by
  unfold lM at hv;rw [show g (⟨b,o,none⟩:Addr).block=_ from hb] at hv;simpa using hv
 have hc':∀ o v,(Mj (.slice V7 2 c10) (.slice a34 2 c34) (.slice V6 2 V5) (.slice t 3 ct))[o]? = some v→lM g ⟨b,o,none⟩=some v:=fun o v hv=>by
  unfold lM;rw [show g (⟨b,o,none⟩:Addr).block=_ from hb];simpa using hv
 refine ⟨List.replicate 10 (.slice none 0 0)++((.slice V7 2 c10)::(List.replicate 23 (.slice none 0 0)++((.slice a34 2 c34)::(List.replicate 57 (.slice none 0 0)++((.slice V6 2 V5)::List.replicate 163 (.slice none 0 0)))))),t,ct,?_,?_,?_,h4,?_⟩
 rotate_left
 ·exact (qU 10).append (dx h1 ((qU 23).append (dx h2 ((qU 57).append (dx h3 (qU 163))))))
 ·intro j v hj
  cases j with
  | zero =>
   simp only [List.getElem?_cons_zero,jB] at hj;subst hj;exact hc' _ _ kr
  | succ j=>simp at hj
 ·intro q a k c hq hk;have h5:=hc _ _ (hq 0 _ rfl);have h6:=iq h5;rw [SL] at h6;simp only [lu,eO,List.mem_replicate,Value.slice.injEq,List.not_mem_nil,or_false] at h6
  rcases h6 with (h6 | h6 | h6 | h6 | h6 | h6 | h6) | h6 <;> first | exact h6.2.1 | (obtain ⟨-,rfl,-⟩:=h6; cases hk)
 intro j v hj;rw [sH];refine hc' j v ?_;rw [SL,List.getElem?_append_left (jh.1 hj).1];exact hj
end Go.Proofs.YtdapgmigogpdcaaGreatDoor.Rp
namespace Go.iT
open Go.RowKit (Below)
section
variable {P:Program} {pos:String} {after:Array Edge} {gd:Option (Nat×Bool)} {n:nQ} {w0:Base} {m:Env} {H:List cu} {g:ak}
theorem wC {dst:Option Nat} {T E T2 ty:TypeId} {x y:Operand} {e:Ty} {a:Option Addr} {c:Nat} {l:List e.den}
  (hx:val m x=some (.slice a l.length c)) (hy:val m y=some (.slice none 0 0)) (hu:P.underlying T=some (.slice E)) (hR:bE g (.slice e) [.slice a l.length c] l) (hn:l.length=0→a=none) :
  Yields P n w0 m H g ⟨dst,.binOp .neq T x y T2,ty,pos,after,gd⟩ (.bool (!((l.length:Int)==0))):=fun ac W hA hW=>by
 have hb:a.isNone=((l.length:Int)==0):=by
  obtain ⟨a1,c1,hcs,-,hel⟩:=hR;simp only [uW,Value.slice.injEq,nA] at hcs;obtain ⟨rfl,-,rfl⟩:=hcs
  cases l with
  | nil=>rw [hn rfl]; rfl
  | cons z r =>
   obtain ⟨b,off,rfl,-⟩:=hel 0 z rfl;simp only [Option.isNone_some,di];rw [eq_comm,dX];omega
 simp only [execOp,hA.eval hx,hA.eval hy];have h:=Lib.run_equalIn_slice_nil (P:=P) W 9999 T E a l.length c 0 0 hu;simp [eqGuard,binOp,Op.equal,Op.maxDepth,h,hb]
theorem LD {Q:Exit→Act→World→Prop} {K:Act→World→Prop} {d:Nat} {T E ty:TypeId} {s x:Operand} {e:Ty} {a a2:Option Addr} {l l2 L:List e.den} {c c2 p r1:Nat} {xs:List Value}
  (i:Nat) (hs:val m s=some (vw a e.size c p r1)) (hx:val m x=some (.slice a2 l2.length c2)) (hi:H[i]? = some (.own (.slice a l.length c) E e.size l.length xs)) (hR:aW g e xs l) (hR2:bE g (.slice e) [.slice a2 l2.length c2] l2) (hu:P.underlying T=some (.slice E))
  (gW:(P.info? E).map (·.size)=some e.size) (hr1:r1=l.length) (hfit:p+l2.length≤l.length) (hL:L=l.take p++l2++l.drop (p+l2.length)) (hn:Nat.ble (d+1) n=true)
  (hk:∀ xs3,aW g e xs3 L→Ok n w0 ((d,.int .i64 (l2.length:Int))::m) (H.set i (.own (.slice a L.length c) E e.size L.length xs3)) g K) :
  af P K Q ⟨some d,.call { callee:=.builtin .copy,args:=#[s,x],argTypes:=#[T,T] },ty,pos,after,gd⟩ n w0 m H g:=fun ac W hA hW=>by
 subst hr1;subst hL;obtain ⟨inf,h1,h2⟩:=gP.1 gW;have hok:W.ownsRow 0 E e.size (.slice a l.length c) l.length xs:=hW.f_ _ (iq hi)
 have hlen:(l.take p++l2++l.drop (p+l2.length)).length=l.length:=by simp; omega
 show Oper.upon P _ ac _ Q (Sem.run P (execOp ac.eval _) W)
 have hmin:Nat.min l2.length (l.length - p)=l2.length:=by simp only [Nat.min_def]; split <;> omega
 by_cases h0:l2.length=0
 ·have hy0:l2=[]:=iO h0;subst hy0
  have e1:(execOp ac.eval ⟨some d,.call { callee:=.builtin .copy,args:=#[s,x],argTypes:=#[T,T] },ty,pos,after,gd⟩).run P W=.ok (.value (.int .i64 0)) W:=by
   have:=Qw (P:=P) (W:=W) (ty:=ty) hu h1 (a:=vwA a e.size p c) (a':=a2) (c1:=c - p) (c2:=c2) hmin;simp only [execOp,resolve,invoke,builtin,uS,jL,qH,hA.eval hs,hA.eval hx,vw,Sem.run_bind,Sem.run_pure,Result.andThen_ok,this]; rfl
  rw [e1,Oper.upon_value];have hk:=hk xs (by rw [gK,jW,nC,uR]; exact hR);rw [hlen] at hk
  have hset:H.set i (.own (.slice a l.length c) E e.size l.length xs)=H:=by
   obtain ⟨hil,he⟩:=jh.1 hi;rw [← he,List.set_getElem_self]
  rw [hset] at hk;exact hk _ W (hA.put (gy hn) _) hW
 rcases uj hok with ⟨rfl,h3,h4⟩ | ⟨b,cur,rfl,hh,hc,hmax,hsz,htake⟩
 ·omega
 have hys:∃ b2 o2 ys,a2=some ⟨b2,o2,none⟩∧aW g e ys l2∧∀ j v,ys[j]? = some v→lM g ⟨b2,o2+j,none⟩=some v:=by
  obtain ⟨a1,c1,hcs,-,hel⟩:=hR2;simp only [uW,Value.slice.injEq,nA] at hcs;obtain ⟨rfl,-,rfl⟩:=hcs
  cases l2 with
  | nil=>exact absurd rfl h0
  | cons y l' =>
   obtain ⟨b2,off,hb,_⟩:=hel 0 y rfl;subst hb
   obtain ⟨ys,h1,h2⟩:=vo (g:=g) (b:=b2) (off:=off) (y::l') 0 fun i x hx=>by
    obtain ⟨b',off',hb',jC,hl,hat,hr⟩:=hel i x hx
    injection hb' with hb'
    simp only [Addr.mk.injEq,nA] at hb';obtain ⟨rfl,rfl⟩:=hb';exact ⟨jC,hl,by rw [sH]; exact hat,hr⟩
   exact ⟨b2,off,ys,rfl,h1,fun j v hj=>by
    have:=h2 j v hj
    rwa [xm,nC] at this⟩
 obtain ⟨b2,o2,ys,rfl,hRy,hcell⟩:=hys;obtain ⟨o,ho,ho1⟩:=BQ (b:=b) (size:=e.size) (lo:=p) (c:=c);have:=ho1 om;subst this;have hyl:ys.length=l2.length * e.size:=hRy.len
 have hload:(loadCells ⟨b2,o2,none⟩ (l2.length * e.size)).run P W=.ok ys.toArray W:=by
  rw [← hyl]
  exact run_loadCells_list W _ ys fun j u hj=>by
   rw [Addr.add_plain];exact l5 hW.ghost (hcell j u hj)
 have hxl:xs.length=l.length * e.size:=hR.len;have hm1:p * e.size+l2.length * e.size=(p+l2.length) * e.size:=(Nat.add_mul ..).symm;have hm2:(p+l2.length) * e.size≤l.length * e.size:=qG _ hfit;have hm3:l.length * e.size≤c * e.size:=qG _ hc
 have hcl:cur.toList.length=c * e.size:=by rw [u6]; exact hsz
 have hrun:=run_storeCells_at (P:=P) b (p * e.size) E ys 0 cur W hh (by rw [hyl,hsz]; omega) (fun u hu=>hRy.ones u hu);simp only [nC] at hrun;have hcp:=Qv (P:=P) (ty:=ty) hu h1 h2 (a:=⟨b,p * e.size,none⟩) (a':=⟨b2,o2,none⟩) (c1:=c - p) (c2:=c2) (W:=W) hmin hload (fun _=>hrun) (fun h=>absurd h h0)
 have e1:(execOp ac.eval ⟨some d,.call { callee:=.builtin .copy,args:=#[s,x],argTypes:=#[T,T] },ty,pos,after,gd⟩).run P W=.ok (.value (.int .i64 (l2.length:Int))) (W.setRow b (cur.toList.take (p * e.size)++ys++cur.toList.drop (p * e.size+ys.length)).toArray):=by
  simp only [execOp,resolve,invoke,builtin,uS,jL,qH,hA.eval hs,hA.eval hx,vw,ho,Sem.run_bind,Sem.run_pure,Result.andThen_ok,hcp]; rfl
 rw [e1,Oper.upon_value];rw [hlen] at hk;refine hk _ ?_ _ _ (hA.put (gy hn) _) (hW.ahN (k':=l.length) hi hh hmax _ (by simp only [bD,gG,hcl,hyl]; rw [gJ,hcl]; omega) hc);rw [Ki _ _ _ _ (by rw [hyl]; omega) (by rw [hcl]; exact hm3),htake,hyl,hm1];exact aW.app (aW.app (aW.take _ hR) hRy) (aW.drop _ hR)
end
end Go.iT
namespace Go.Proofs.YtdapgmigogpdcaaGreatDoor.Rp
open _root_.Go.Proofs.Tryz Go Go.iT Go.RowKit
set_option maxHeartbeats 4000000
set_option maxRecDepth 100000
def cntS (s x:Bs):Int:=(Lib.countByte s (x.headD 0):Int)
def D_ (s x:Bs):Prop:=x.length=1
theorem FT {g:ak} (s x:Bs) (hp:D_ s x):bC prog 297 #[sv s,sv x] g (iv (cntS s x)):=fun W hW=>by
 match x,hp with
 | [c],_=>exact (Tryz.strings_Count_one ⟨⟨s⟩⟩ c W).mono fun e W' ⟨he,hw⟩=>⟨he,by subst hw; exact Below.refl _ _⟩
def ug (xs:Bs):Int :=
 (if ((cntS xs ([10]:Bs)) != 0)=true then w6 ((xs.length:Int)+(w6 ((cntS xs ([10]:Bs)) * (w6 (((oJ.getD (Int.toNat 10) default).length:Int) - 1))))) else (xs.length:Int))
def tq (xs:Bs):Int :=
 (if ((cntS xs ([34]:Bs)) != 0)=true then w6 ((ug xs)+(w6 ((cntS xs ([34]:Bs)) * (w6 (((oJ.getD (Int.toNat 34) default).length:Int) - 1))))) else (ug xs))
def vX (xs:Bs):Bool :=
 (((cntS xs ([34]:Bs)) != 0)||((cntS xs ([10]:Bs)) != 0))
def Ac (xs:Bs):Int :=
 (if ((cntS xs ([92]:Bs)) != 0)=true then w6 ((tq xs)+(w6 ((cntS xs ([92]:Bs)) * (w6 (((oJ.getD (Int.toNat 92) default).length:Int) - 1))))) else (tq xs))
def wQ (xs:Bs) (q0:Int) (y0:Int):Int :=
 (if (!(((oJ.getD (Int.toNat ((xs.getD y0.toNat 0).toNat:Int)) default).length:Int)==0))=true then w6 (q0+((oJ.getD (Int.toNat ((xs.getD y0.toNat 0).toNat:Int)) default).length:Int)) else w6 (q0+1))
def wP (xs:Bs) (s0:Int) (k0:Int):Int :=
 (if (!(((oJ.getD (Int.toNat ((xs.getD k0.toNat 0).toNat:Int)) default).length:Int)==0))=true then w6 (s0+(w6 (((oJ.getD (Int.toNat ((xs.getD k0.toNat 0).toNat:Int)) default).length:Int) - 1))) else s0)
def wO (xs:Bs) (b0:Bool) (k0:Int):Bool :=
 ((!(((oJ.getD (Int.toNat ((xs.getD k0.toNat 0).toNat:Int)) default).length:Int)==0))||b0)
def Mg (xs:Bs) (x0:List Int) (q0:Int) (y0:Int) (C73:Int→Int→List Int→Prop):Prop :=
 C73 (wQ xs q0 y0) (w6 (y0+1)) x0
def WV (xs:Bs) (K:Bs→Prop) (q0:Int) (y0:Int) (z0:List Int) (C73:Int→Int→List Int→Prop):Prop :=
 ((decide (y0<(xs.length:Int)))=true→0≤y0∧y0.toNat<xs.length∧0≤((xs.getD y0.toNat 0).toNat:Int)∧Int.toNat ((xs.getD y0.toNat 0).toNat:Int)<oJ.length∧((!(((oJ.getD (Int.toNat ((xs.getD y0.toNat 0).toNat:Int)) default).length:Int)==0))=true→0≤q0∧(q0:Int)≤(z0.length:Int)∧(z0.length:Int)≤(z0.length:Int)∧q0.toNat+(oJ.getD (Int.toNat ((xs.getD y0.toNat 0).toNat:Int)) default).length≤z0.length∧∀ Z6:List Int,Z6=z0.take q0.toNat++(oJ.getD (Int.toNat ((xs.getD y0.toNat 0).toNat:Int)) default)++z0.drop (q0.toNat+(oJ.getD (Int.toNat ((xs.getD y0.toNat 0).toNat:Int)) default).length)→z0.length=Z6.length∧Mg xs Z6 q0 y0 C73)∧((!(((oJ.getD (Int.toNat ((xs.getD y0.toNat 0).toNat:Int)) default).length:Int)==0))=false→0≤q0∧q0.toNat<z0.length∧Mg xs (z0.set q0.toNat ((xs.getD y0.toNat 0).toNat:Int)) q0 y0 C73))∧((decide (y0<(xs.length:Int)))=false→K (bytesOf z0))
def zf (xs:Bs) (K:Bs→Prop):Nat→Int→Int→List Int→Prop
 | 0,_,_,_=>False
 | k+1,q0,y0,z0=>WV xs K q0 y0 z0 (zf xs K k)
def OT (xs:Bs) (K:Bs→Prop) (a0:Int) (Y0:Bool):Prop :=
 ((!Y0)=true→K xs)∧((!Y0)=false→0≤a0∧a0≤140737488355328∧∃ k,zf xs K k 0 0 (List.replicate a0.toNat (0:Int)))
def Gv (xs:Bs) (K:Bs→Prop):Prop :=
 OT xs K (Ac xs) (((cntS xs ([92]:Bs)) != 0)||vX xs)
def A9 (xs:Bs) (K:Bs→Prop):Prop :=
 (0:Int)≤2∧Int.toNat 2<([[10],[34],[92]]:List Bs).length∧D_ xs ([92]:Bs)∧(((cntS xs ([92]:Bs)) != 0)=true→(0:Int)≤92∧Int.toNat 92<oJ.length∧Gv xs K)∧(((cntS xs ([92]:Bs)) != 0)=false→Gv xs K)
def A8 (xs:Bs) (K:Bs→Prop):Prop :=
 (0:Int)≤1∧Int.toNat 1<([[10],[34],[92]]:List Bs).length∧D_ xs ([34]:Bs)∧(((cntS xs ([34]:Bs)) != 0)=true→(0:Int)≤34∧Int.toNat 34<oJ.length∧A9 xs K)∧(((cntS xs ([34]:Bs)) != 0)=false→A9 xs K)
def Cy (xs:Bs) (s0:Int) (b0:Bool) (k0:Int) (C38:Int→Bool→Int→Prop):Prop :=
 C38 (wP xs s0 k0) (wO xs b0 k0) (w6 (k0+1))
def WW (xs:Bs) (K:Bs→Prop) (s0:Int) (b0:Bool) (k0:Int) (C38:Int→Bool→Int→Prop):Prop :=
 ((decide (k0<(xs.length:Int)))=true→0≤k0∧k0.toNat<xs.length∧0≤((xs.getD k0.toNat 0).toNat:Int)∧Int.toNat ((xs.getD k0.toNat 0).toNat:Int)<oJ.length∧((!(((oJ.getD (Int.toNat ((xs.getD k0.toNat 0).toNat:Int)) default).length:Int)==0))=true→Cy xs s0 b0 k0 C38)∧((!(((oJ.getD (Int.toNat ((xs.getD k0.toNat 0).toNat:Int)) default).length:Int)==0))=false→Cy xs s0 b0 k0 C38))∧((decide (k0<(xs.length:Int)))=false→OT xs K s0 b0)
def zg (xs:Bs) (K:Bs→Prop):Nat→Int→Bool→Int→Prop
 | 0,_,_,_=>False
 | k+1,s0,b0,k0=>WW xs K s0 b0 k0 (zg xs K k)
def ahz (xs:Bs) (K:Bs→Prop):Prop :=
 ((decide (24≤(xs.length:Int)))=true→(0:Int)≤0∧Int.toNat 0<([[10],[34],[92]]:List Bs).length∧D_ xs ([10]:Bs)∧(((cntS xs ([10]:Bs)) != 0)=true→(0:Int)≤10∧Int.toNat 10<oJ.length∧A8 xs K)∧(((cntS xs ([10]:Bs)) != 0)=false→A8 xs K))∧((decide (24≤(xs.length:Int)))=false→∃ k,zg xs K k (xs.length:Int) false 0)
theorem aa1 {g:ak} {bH:Nat} (xs:Bs) (hT:oG g bH) (K:Bs→Prop)
  (hF:ahz xs K):az prog 295 #[pv bH 0,sv xs] g [] (fun g' H' v=>∃ (r0:Bs),v=sv r0∧H'=[]∧K r0):=by
 refine aP 122 func295 rfl fun w0=>?_;refine ae (av 1 [(0,pv bH 0),(1,sv xs)] kr (aa (ae (ag 3 [0,1] [(5,iv (xs.length:Int))] ?_))));refine aa (ae (ag 1 [0,1,5] [(6,.bool false)] ?_));refine aa (Ok.cut (fun a W=>∃ gj7:ak,bf w0 g gj7∧∃ (a0:Int) (Y0:Bool),fC 122 [(0,pv bH 0),(1,sv xs),(5,iv a0),(6,.bool Y0)] a∧dm w0 [] gj7 W∧OT xs K a0 Y0) ?_ ?_)
 ·
  refine ae (ag 3 [0,1,5,6] [(20,pv bH 256)] ?_);obtain ⟨_,auA,atu,-,-,acY,ata,-⟩:=oG.opened hT;refine aj 6 [.a 0 acY] [0,1,5,6] [(26,.bool (decide (24≤(xs.length:Int))))] ?_;refine aa (aJ hF (fun hc16 hF=>?_) (fun hc16 hF=>?_))
  ·refine ae (ag 3 [0,1,5,6] [(29,pv bH 256)] ?_);obtain ⟨_,K0,t0,-,-,acX,n0,-⟩:=oG.opened hT;refine aj 3 [.a 0 acX] [0,1,5,6] [(30,.slice K0 ([[10],[34],[92]]:List Bs).length t0),(31,iv 3),(32,iv 0)] ?_;refine aa (Ok.block (Ok.rounds 4 (j_ (ae (av 1 [(0,pv bH 0),(1,sv xs),(5,iv (xs.length:Int)),(6,.bool false),(30,.slice K0 ([[10],[34],[92]]:List Bs).length t0),(31,iv 3),(32,iv 0),(33,.bool true)] kr (aa (aF (Ok.c (b:=true) rfl (fun _=>?_) (fun h=>by cases h)))))))));refine Ok.k (Ok.t (iK g [(0,pv bH 0),(1,sv xs),(5,iv (ug xs)),(6,.bool ((cntS xs ([10]:Bs)) != 0)),(30,.slice K0 ([[10],[34],[92]]:List Bs).length t0),(31,iv 3),(32,iv 0)] [] (A8 xs K) ?_ (fun J0 W0 hF=>?_)))
   ·
    refine Ok.block (aF (aR ?_));obtain ⟨aeh,ad7,hF⟩:=hF;have aoU:([[10],[34],[92]]:List Bs)[Int.toNat 0]? = some ([10]:Bs):=aT (l:=([[10],[34],[92]]:List Bs)) (default:Bs) ad7;refine ai (af.aX (e:=.str) rfl rfl underlying84 kr n0 aeh aoU rfl fun q30 o30 arH _ X0 ach=>?_);obtain rfl:=ach;replace X0:At g q30 o30 [sv ([10]:Bs)]:=X0;refine aj 2 [.a 0 X0] [0,1,5,6,30,31,32] [(8,sv ([10]:Bs))] ?_;refine aa (aF (aR ?_));obtain ⟨acA,hF⟩:=hF;refine aj 4 [.k (FT xs ([10]:Bs) acA)] [0,1,5,6,8,30,31,32] [(9,iv (cntS xs ([10]:Bs)))] ?_;refine aa (ae (ag 2 [0,1,5,6,8,9,30,31,32] [(40,.bool ((cntS xs ([10]:Bs)) != 0))] ?_));refine aa (aJ hF (fun S0 hF=>?_) (fun S0 hF=>?_))
    ·refine aF (gq kr kr (eZ 7 [0,1,30,31,32] [(41,iv (xs.length:Int)),(42,iv (cntS xs ([10]:Bs))),(45,.int .u8 10),(47,pv bH 0)] ?_));obtain ⟨U6,U4,hF⟩:=hF;have y1:=aT (l:=oJ) default U4;generalize X4:(oJ.getD (Int.toNat 10) default)=e35 at y1 hF ⊢;obtain ⟨_,_,_,ac1,akq,-,-,XW⟩:=oG.opened hT;refine dS.op rfl (fK.qa (e:=.slice yb) (o:=0) (L:=oJ) (q:=10) (el:=e35) ac1 akq rfl rfl underlying235 kr rfl U6 y1 rfl fun ak7 _ M0 Un=>?_);obtain ⟨amf,alA,rfl,ap5⟩:=oS Un;have asZ:=fun h=>XW 10 _ _ _ M0 h;refine dS.op rfl (fK.s (v:=.slice amf e35.length alA) (fe 0 M0 kr underlying26 rfl kr) rfl rfl (eZ 5 [0,1,30,31,32] [(5,iv (w6 ((xs.length:Int)+(w6 ((cntS xs ([10]:Bs)) * (w6 ((e35.length:Int) - 1)))))))] ?_));refine kQ (Ok.t (aR (ag 1 [0,1,5,30,31,32] [(6,.bool true)] ?_)));refine bV (bG (Ok.t ?_));subst X4;refine gX 5 rfl (show (iv (w6 ((xs.length:Int)+(w6 ((cntS xs ([10]:Bs)) * (w6 (((oJ.getD (Int.toNat 10) default).length:Int) - 1)))))):Value)=iv (ug xs) from aA (Value.int .i64) ((aU S0).symm)) (aB 6 ((cntS xs ([10]:Bs)) != 0) (S0.symm) ?_);exact fg hF
    refine Ok.k (bG (Ok.t (gX 5 rfl (show (iv (xs.length:Int):Value)=iv (ug xs) from aA (Value.int .i64) ((aG S0).symm)) (aB 6 ((cntS xs ([10]:Bs)) != 0) (S0.symm) ?_))));exact fg hF
   replace n0:=n0.mono W0.1;replace hT:=hT.mono W0.1;refine aR (ag 2 [0,1,5,6,30,31] [(32,iv 1)] ?_);refine aa (j_ (ae (av 1 [(0,pv bH 0),(1,sv xs),(5,iv (ug xs)),(6,.bool ((cntS xs ([10]:Bs)) != 0)),(30,.slice K0 ([[10],[34],[92]]:List Bs).length t0),(31,iv 3),(32,iv 1),(33,.bool true)] kr (aa (aF (Ok.c (b:=true) rfl (fun _=>?_) (fun h=>by cases h)))))));refine Ok.k (Ok.t (iK J0 [(0,pv bH 0),(1,sv xs),(5,iv (tq xs)),(6,.bool (vX xs)),(30,.slice K0 ([[10],[34],[92]]:List Bs).length t0),(31,iv 3),(32,iv 1)] [] (A9 xs K) ?_ (fun o0 i0 hF=>?_)))
   ·
    refine Ok.block (aF (aR ?_));obtain ⟨DN,IG,hF⟩:=hF;have aoW:([[10],[34],[92]]:List Bs)[Int.toNat 1]? = some ([34]:Bs):=aT (l:=([[10],[34],[92]]:List Bs)) (default:Bs) IG;refine ai (af.aX (e:=.str) rfl rfl underlying84 kr n0 DN aoW rfl fun q24 o24 ak9 _ B0 Us=>?_);obtain rfl:=Us;replace B0:At J0 q24 o24 [sv ([34]:Bs)]:=B0;refine aj 2 [.a 0 B0] [0,1,5,6,30,31,32] [(8,sv ([34]:Bs))] ?_;refine aa (aF (aR ?_));obtain ⟨aot,hF⟩:=hF;refine aj 4 [.k (FT xs ([34]:Bs) aot)] [0,1,5,6,8,30,31,32] [(9,iv (cntS xs ([34]:Bs)))] ?_;refine aa (ae (ag 2 [0,1,5,6,8,9,30,31,32] [(40,.bool ((cntS xs ([34]:Bs)) != 0))] ?_));refine aa (aJ hF (fun C0 hF=>?_) (fun C0 hF=>?_))
    ·refine aF (gq kr kr (eZ 7 [0,1,30,31,32] [(41,iv (ug xs)),(42,iv (cntS xs ([34]:Bs))),(45,.int .u8 34),(47,pv bH 0)] ?_));obtain ⟨Np,Nj,hF⟩:=hF;have u1:=aT (l:=oJ) default Nj;generalize UG:(oJ.getD (Int.toNat 34) default)=e29 at u1 hF ⊢;obtain ⟨_,_,_,ac2,akr,-,-,XX⟩:=oG.opened hT;refine dS.op rfl (fK.qa (e:=.slice yb) (o:=0) (L:=oJ) (q:=34) (el:=e29) ac2 akr rfl rfl underlying235 kr rfl Np u1 rfl fun ak8 _ N0 Ur=>?_);obtain ⟨ami,alD,rfl,ap8⟩:=oS Ur;have as0:=fun h=>XX 34 _ _ _ N0 h;refine dS.op rfl (fK.s (v:=.slice ami e29.length alD) (fe 0 N0 kr underlying26 rfl kr) rfl rfl (eZ 5 [0,1,30,31,32] [(5,iv (w6 ((ug xs)+(w6 ((cntS xs ([34]:Bs)) * (w6 ((e29.length:Int) - 1)))))))] ?_));refine kQ (Ok.t (aR (ag 1 [0,1,5,30,31,32] [(6,.bool true)] ?_)));refine bV (bG (Ok.t ?_));subst UG;refine gX 5 rfl (show (iv (w6 ((ug xs)+(w6 ((cntS xs ([34]:Bs)) * (w6 (((oJ.getD (Int.toNat 34) default).length:Int) - 1)))))):Value)=iv (tq xs) from aA (Value.int .i64) ((aU C0).symm)) (aB 6 (vX xs) (cK C0) ?_);exact fg hF
    refine Ok.k (bG (Ok.t (gX 5 rfl (show (iv (ug xs):Value)=iv (tq xs) from aA (Value.int .i64) ((aG C0).symm)) (aB 6 (vX xs) (bN C0) ?_))));exact fg hF
   replace n0:=n0.mono i0.1;replace hT:=hT.mono i0.1;refine aR (ag 2 [0,1,5,6,30,31] [(32,iv 2)] ?_);refine aa (j_ (ae (av 1 [(0,pv bH 0),(1,sv xs),(5,iv (tq xs)),(6,.bool (vX xs)),(30,.slice K0 ([[10],[34],[92]]:List Bs).length t0),(31,iv 3),(32,iv 2),(33,.bool true)] kr (aa (aF (Ok.c (b:=true) rfl (fun _=>?_) (fun h=>by cases h)))))));refine Ok.k (Ok.t (iK o0 [(0,pv bH 0),(1,sv xs),(5,iv (Ac xs)),(6,.bool (((cntS xs ([92]:Bs)) != 0)||vX xs)),(30,.slice K0 ([[10],[34],[92]]:List Bs).length t0),(31,iv 3),(32,iv 2)] [] (Gv xs K) ?_ (fun aen Z0 hF=>?_)))
   ·
    refine Ok.block (aF (aR ?_));obtain ⟨ael,h119,hF⟩:=hF;have aoY:([[10],[34],[92]]:List Bs)[Int.toNat 2]? = some ([92]:Bs):=aT (l:=([[10],[34],[92]]:List Bs)) (default:Bs) h119;refine ai (af.aX (e:=.str) rfl rfl underlying84 kr n0 ael aoY rfl fun q18 o18 arN _ D0 aco=>?_);obtain rfl:=aco;replace D0:At o0 q18 o18 [sv ([92]:Bs)]:=D0;refine aj 2 [.a 0 D0] [0,1,5,6,30,31,32] [(8,sv ([92]:Bs))] ?_;refine aa (aF (aR ?_));obtain ⟨acD,hF⟩:=hF;refine aj 4 [.k (FT xs ([92]:Bs) acD)] [0,1,5,6,8,30,31,32] [(9,iv (cntS xs ([92]:Bs)))] ?_;refine aa (ae (ag 2 [0,1,5,6,8,9,30,31,32] [(40,.bool ((cntS xs ([92]:Bs)) != 0))] ?_));refine aa (aJ hF (fun E0 hF=>?_) (fun E0 hF=>?_))
    ·refine aF (gq kr kr (eZ 7 [0,1,30,31,32] [(41,iv (tq xs)),(42,iv (cntS xs ([92]:Bs))),(45,.int .u8 92),(47,pv bH 0)] ?_));obtain ⟨Nq,II,hF⟩:=hF;have j1:=aT (l:=oJ) default II;generalize acO:(oJ.getD (Int.toNat 92) default)=e23 at j1 hF ⊢;obtain ⟨_,_,_,ac3,aks,-,-,XY⟩:=oG.opened hT;refine dS.op rfl (fK.qa (e:=.slice yb) (o:=0) (L:=oJ) (q:=92) (el:=e23) ac3 aks rfl rfl underlying235 kr rfl Nq j1 rfl fun ala _ O0 Ut=>?_);obtain ⟨amm,alH,rfl,aqg⟩:=oS Ut;have as1:=fun h=>XY 92 _ _ _ O0 h;refine dS.op rfl (fK.s (v:=.slice amm e23.length alH) (fe 0 O0 kr underlying26 rfl kr) rfl rfl (eZ 5 [0,1,30,31,32] [(5,iv (w6 ((tq xs)+(w6 ((cntS xs ([92]:Bs)) * (w6 ((e23.length:Int) - 1)))))))] ?_));refine kQ (Ok.t (aR (ag 1 [0,1,5,30,31,32] [(6,.bool true)] ?_)));refine bV (bG (Ok.t ?_));subst acO;refine gX 5 rfl (show (iv (w6 ((tq xs)+(w6 ((cntS xs ([92]:Bs)) * (w6 (((oJ.getD (Int.toNat 92) default).length:Int) - 1)))))):Value)=iv (Ac xs) from aA (Value.int .i64) ((aU E0).symm)) (aB 6 (((cntS xs ([92]:Bs)) != 0)||vX xs) (cK E0) ?_);exact fg hF
    refine Ok.k (bG (Ok.t (gX 5 rfl (show (iv (tq xs):Value)=iv (Ac xs) from aA (Value.int .i64) ((aG E0).symm)) (aB 6 (((cntS xs ([92]:Bs)) != 0)||vX xs) (bN E0) ?_))));exact fg hF
   replace hT:=hT.mono Z0.1;refine aR (ag 2 [0,1,5,6,30,31] [(32,iv 3)] ?_);refine aa (j_ (ae (av 1 [(0,pv bH 0),(1,sv xs),(5,iv (Ac xs)),(6,.bool (((cntS xs ([92]:Bs)) != 0)||vX xs)),(30,.slice K0 ([[10],[34],[92]]:List Bs).length t0),(31,iv 3),(32,iv 3),(33,.bool false)] kr (aa (aF (Ok.c (b:=false) rfl (fun h=>by cases h) (fun _=>?_)))))));refine fw (ay (ay (aM (Ok.t ?_))));exact fun _ _ u v=>⟨aen,((W0.trans i0).trans Z0),Ac xs,(((cntS xs ([92]:Bs)) != 0)||vX xs),fA u v hF⟩
  refine ae (ag 1 [0,1,5,6] [(10,iv 0)] ?_);refine aa (Ok.block ?_);obtain ⟨k,hF⟩:=hF;refine fQ (fun k a W=>∃ V0:ak,bf w0 g V0∧∃ (s0:Int) (b0:Bool) (k0:Int),fC 122 [(0,pv bH 0),(1,sv xs),(5,iv s0),(6,.bool b0),(10,iv k0)] a∧dm w0 [] V0 W∧zg xs K k s0 b0 k0) k ?_ ?_
  ·
   exact fun _ _ u v=>⟨g,bu w0 g,(xs.length:Int),false,0,fA u v hF⟩
  clear hF;rintro (_ | k38) _ _ ⟨V0,F0,s0,b0,k0,q⟩;exact (q.2.2:False).elim;refine jn (fun hF=>?_) _ _ q;replace hT:=hT.mono F0.1;refine aF (ae (ag 4 [0,1,5,6,10] [(58,.bool (decide (k0<(xs.length:Int))))] ?_));refine aa (aJ hF (fun UJ hF=>?_) (fun UJ hF=>?_))
  ·refine Ok.k (Ok.t (iK V0 [(0,pv bH 0),(1,sv xs),(5,iv (wP xs s0 k0)),(6,.bool (wO xs b0 k0)),(10,iv k0)] [] (Cy xs s0 b0 k0 (zg xs K k38)) ?_ (fun ary P0 hF=>?_)))
   ·
    refine Ok.block (ae (ag 2 [0,1,5,6,10] [(61,sv xs),(62,iv k0)] ?_));obtain ⟨aee,ad3,hF⟩:=hF;have x1:=aT (l:=xs) (0:UInt8) ad3;generalize b1:(xs.getD k0.toNat 0)=e37 at x1 hF ⊢;refine ai (af.s (v:=.int .u8 (e37.toNat:Int)) (dQ (k:=.i64) (i:=k0) (s:=xs) (b:=e37) kr kr underlying9 aee x1) rfl rfl (ag 1 [0,1,5,6,10] [(11,.int .u8 (e37.toNat:Int))] ?_));refine aa (ae (ag 4 [0,1,5,6,10,11] [(65,.int .u8 (e37.toNat:Int)),(67,pv bH 0)] ?_));obtain ⟨d1,aq7,hF⟩:=hF;have z1:=aT (l:=oJ) default aq7;generalize e1:(oJ.getD (Int.toNat (e37.toNat:Int)) default)=e39 at z1 hF ⊢;obtain ⟨_,_,_,ac0,akp,-,-,XV⟩:=oG.opened hT;refine ai (af.qa (e:=.slice yb) (o:=0) (L:=oJ) (q:=(e37.toNat:Int)) (el:=e39) ac0 akp rfl rfl underlying235 kr rfl d1 z1 rfl fun avW _ R0 an8=>?_);obtain ⟨amd,alx,rfl,adr⟩:=oS an8;have ajK:=fun h=>XV (e37.toNat:Int) _ _ _ R0 h;refine ai (af.s (v:=.slice amd e39.length alx) (fe 0 R0 kr underlying26 rfl kr) rfl rfl (ai (af.s (v:=.bool (!((e39.length:Int)==0))) (wC (e:=.int .u8) rfl rfl underlying26 adr ajK) rfl rfl (aa (dW hF rfl (fun U0=>?_) (fun U0=>?_))))))
    ·replace hF:=hF.1 U0;refine ae (ag 5 [0,1,10] [(71,iv s0),(73,.int .u8 (e37.toNat:Int)),(75,pv bH 0)] ?_);obtain ⟨_,_,_,acZ,ako,-,-,XU⟩:=oG.opened hT;refine ai (af.qa (e:=.slice yb) (o:=0) (L:=oJ) (q:=(e37.toNat:Int)) (el:=e39) acZ ako rfl rfl underlying235 kr rfl d1 z1 rfl fun avU _ T0 an6=>?_);obtain ⟨atY,atw,rfl,ap1⟩:=oS an6;have asY:=fun h=>XU (e37.toNat:Int) _ _ _ T0 h;refine aj 5 [.a 0 T0] [0,1,10] [(5,iv (w6 (s0+(w6 ((e39.length:Int) - 1)))))] ?_;refine aa (aR (ag 1 [0,1,5,10] [(6,.bool true)] ?_));refine bV (bG (Ok.t ?_));subst e1;subst b1;refine gX 5 rfl (show (iv (w6 (s0+(w6 (((oJ.getD (Int.toNat ((xs.getD k0.toNat 0).toNat:Int)) default).length:Int) - 1)))):Value)=iv (wP xs s0 k0) from aA (Value.int .i64) ((aU U0).symm)) (aB 6 (wO xs b0 k0) (cK U0) ?_);exact fg hF
    replace hF:=hF.2 U0;refine Ok.k (bG (Ok.t ?_));subst e1;subst b1;refine gX 5 rfl (show (iv s0:Value)=iv (wP xs s0 k0) from aA (Value.int .i64) ((aG U0).symm)) (aB 6 (wO xs b0 k0) (bN U0) ?_);exact fg hF
   replace hT:=hT.mono P0.1;refine aR (ag 3 [0,1,5,6] [(10,iv (w6 (k0+1)))] ?_);refine bV (Ok.t ?_);exact fun _ _ u v=>⟨k38,nl,ary,F0.trans P0,wP xs s0 k0,wO xs b0 k0,w6 (k0+1),fA u v hF⟩
  refine fw (ay (ay (aM (Ok.t ?_))));exact fun _ _ u v=>⟨V0,F0,s0,b0,fA u v hF⟩
 clear hF;rintro _ _ ⟨gj7,q1,a0,Y0,q⟩;refine jn (fun hF=>?_) _ _ q;replace hT:=hT.mono q1.1;refine aF (ae (ag 2 [0,1,5] [(82,.bool (!Y0))] ?_));refine aa (aJ hF (fun hc1 hF=>?_) (fun hc1 hF=>?_))
 ·refine ae (av 2 [(4,sv xs)] kr (aa (Ok.ret (aC ?_))));exact qg (sv xs) q1 ⟨xs,rfl,rfl,hF⟩
 refine Ok.k (Ok.t (ae (ag 1 [0,1] [(84,iv a0)] ?_)));obtain ⟨h02,h12,hF⟩:=hF;refine ai (wE (e:=.int .u8) (E:=5) (nn:=a0) (y:=0) (z:=.int .u8 0) 1 140737488355328 rfl rfl underlying26 kr kr kr rfl h02 h12 rfl fun a2 c2 y5 hL2=>?_);refine ag 1 [0,1] [(12,.slice a2 (List.replicate a0.toNat (0:Int)).length c2)] ?_;refine aa (ae (ag 1 [0,1,12] [(13,iv 0)] ?_));refine aa (aF (ae (ag 1 [0,1,12,13] [(14,iv 0)] ?_)));refine aa (Ok.block ?_);obtain ⟨k,hF⟩:=hF;refine fQ (fun k a W=>∃ Q0:ak,bf w0 gj7 Q0∧∃ (q0:Int) (y0:Int) (u0:Option Addr) (j0:Nat) (z0:List Int) (c0:List Value),aW Q0 yb c0 z0∧fC 122 [(0,pv bH 0),(1,sv xs),(12,.slice u0 z0.length j0),(13,iv q0),(14,iv y0)] a∧dm w0 [.own (.slice u0 z0.length j0) 5 1 z0.length c0] Q0 W∧zf xs K k q0 y0 z0) k ?_ ?_
 ·
  exact fun _ _ u v=>⟨gj7,bu w0 gj7,0,0,a2,c2,List.replicate a0.toNat (0:Int),y5,hL2,fA u v hF⟩
 clear hF;rintro (_ | k73) _ _ ⟨Q0,G0,q0,y0,u0,j0,z0,c0,d0,q⟩;exact (q.2.2:False).elim;refine jn (fun hF=>?_) _ _ q;replace hT:=hT.mono G0.1;refine aF (ae (ag 4 [0,1,12,13,14] [(89,.bool (decide (y0<(xs.length:Int))))] ?_));refine aa (aJ hF (fun hc3 hF=>?_) (fun hc3 hF=>?_))
 ·refine Ok.k (Ok.t (Ok.cut (fun a W=>∃ H0:ak,bf w0 Q0 H0∧∃ (g0:Option Addr) (m0:Nat) (x0:List Int) (f0:List Value),aW H0 yb f0 x0∧fC 122 [(0,pv bH 0),(1,sv xs),(12,.slice g0 x0.length m0),(13,iv (wQ xs q0 y0)),(14,iv y0)] a∧dm w0 [.own (.slice g0 x0.length m0) 5 1 x0.length f0] H0 W∧Mg xs x0 q0 y0 (zf xs K k73)) ?_ ?_))
  ·
   refine Ok.block (ae (ag 2 [0,1,12,13,14] [(92,sv xs),(93,iv y0)] ?_));obtain ⟨oo,pg,hF⟩:=hF;have ny:=aT (l:=xs) (0:UInt8) pg;generalize hg4:(xs.getD y0.toNat 0)=e4 at ny hF ⊢;refine ai (af.s (v:=.int .u8 (e4.toNat:Int)) (dQ (k:=.i64) (i:=y0) (s:=xs) (b:=e4) kr kr underlying9 oo ny) rfl rfl (ag 1 [0,1,12,13,14] [(15,.int .u8 (e4.toNat:Int))] ?_));refine aa (ae (ag 4 [0,1,12,13,14,15] [(96,.int .u8 (e4.toNat:Int)),(98,pv bH 0)] ?_));obtain ⟨uA,h16,hF⟩:=hF;have uz:=aT (l:=oJ) default h16;generalize zH:(oJ.getD (Int.toNat (e4.toNat:Int)) default)=e6 at uz hF ⊢;obtain ⟨_,_,_,aj5,apX,-,-,acI⟩:=oG.opened hT;refine ai (af.qa (e:=.slice yb) (o:=0) (L:=oJ) (q:=(e4.toNat:Int)) (el:=e6) aj5 apX rfl rfl underlying235 kr rfl uA uz rfl fun cs5 _ f1 MZ=>?_);obtain ⟨afM,aff,rfl,DI⟩:=oS MZ;have aoy:=fun h=>acI (e4.toNat:Int) _ _ _ f1 h;refine ai (af.s (v:=.slice afM e6.length aff) (fe 0 f1 kr underlying26 rfl kr) rfl rfl (ai (af.s (v:=.bool (!((e6.length:Int)==0))) (wC (e:=.int .u8) rfl rfl underlying26 DI aoy) rfl rfl (aa (dW hF rfl (fun iB=>?_) (fun iB=>?_))))))
   ·replace hF:=hF.1 iB;refine zZ 0 rfl fun ao4 avh=>?_;refine wH [] [] [0] [(0,true),(1,true),(2,true),(3,true),(4,true),(5,true),(6,true),(7,true),(8,true),(9,true),(10,false),(11,true),(12,true)] ?_;refine Qb 3 [(0,pv bH 0),(1,sv xs),(12,.slice u0 z0.length j0),(14,iv y0),(15,.int .u8 (e4.toNat:Int)),(102,iv q0),(103,.slice u0 z0.length j0),(104,iv q0)] kr ?_;obtain ⟨Eo,h19,QX,hF⟩:=hF;refine eH.hd (fK.s (v:=vw u0 1 j0 q0.toNat (Int.toNat (z0.length:Int))) (y_ (size:=1) (l:=q0) (h:=(z0.length:Int)) rfl underlying26 kr (.inl ⟨_,_,rfl,rfl⟩) (.inr ⟨rfl,rfl⟩) Eo h19 (Int.le_trans QX (Int.ofNat_le.2 ao4))) rfl rfl ?_);refine iJ 4 [0,1,12,14,102] [(105,vw u0 1 j0 q0.toNat (Int.toNat (z0.length:Int))),(107,.int .u8 (e4.toNat:Int)),(109,pv bH 0)] ?_;obtain ⟨_,_,_,ac4,akt,-,-,XZ⟩:=oG.opened hT;refine eH.hd (fK.qa (e:=.slice yb) (o:=0) (L:=oJ) (q:=(e4.toNat:Int)) (el:=e6) ac4 akt rfl rfl underlying235 kr rfl uA uz rfl fun Rb _ L0 Ik=>?_);obtain ⟨amw,alQ,rfl,Ng⟩:=oS Ik;have as2:=fun h=>XZ (e4.toNat:Int) _ _ _ L0 h;refine eH.hd (fK.s (v:=.slice amw e6.length alQ) (fe 0 L0 kr underlying26 rfl kr) rfl rfl ?_);obtain ⟨DK,hF⟩:=hF;obtain ⟨Z6,A0⟩:∃ y:List Int,y=z0.take q0.toNat++e6++z0.drop (q0.toNat+e6.length):=⟨_,rfl⟩;replace hF:=hF Z6 A0;obtain ⟨adY,hF⟩:=hF;refine eH.t rfl rfl (LD (e:=.int .u8) (l:=z0) (l2:=e6) (p:=q0.toNat) 0 rfl rfl rfl d0 Ng underlying26 kr (dR _) DK A0 rfl fun anf aqI=>?_);rw [show z0.length=Z6.length from adY];refine h_ (lG.refl _) (iJ 2 [0,1,14] [(12,.slice u0 Z6.length j0),(13,iv (w6 (q0+(e6.length:Int))))] ?_);refine eH.nil (bG (Ok.t ?_));subst zH;subst hg4;refine gX 13 rfl (show (iv (w6 (q0+((oJ.getD (Int.toNat ((xs.getD y0.toNat 0).toNat:Int)) default).length:Int))):Value)=iv (wQ xs q0 y0) from aA (Value.int .i64) ((aU iB).symm)) ?_;exact fun _ _ u v=>⟨Q0,bu w0 Q0,u0,j0,Z6,anf,aqI,fA u v hF⟩
   replace hF:=hF.2 iB;refine ae (ag 3 [0,1,12,13,14] [(114,.slice u0 z0.length j0),(115,iv q0),(116,.int .u8 (e4.toNat:Int))] ?_);obtain ⟨Nt,IJ,hF⟩:=hF;have g1:=aT (l:=z0) default IJ;generalize UH:(z0.getD q0.toNat default)=e13 at g1 hF ⊢;refine ai (af.fZ (e:=.int .u8) 0 rfl d0 rfl rfl underlying26 kr kr Nt g1 rfl fun alc _ Uv k1=>?_);obtain rfl:=Uv;replace k1:∀ j v,([.int .u8 e13]:List Value)[j]? = some v→c0[q0.toNat * 1+j]? = some v:=k1;refine ai (ko (e:=.int .u8) (q:=q0.toNat) (cells:=[.int .u8 e13]) (vs:=[.int .u8 (e4.toNat:Int)]) (xG:=(e4.toNat:Int)) 0 0 1 rfl d0 k1 kr rfl rfl rfl kr kr kr kr kr (show bE _ _ [.int .u8 (e4.toNat:Int)] _ from rfl) fun Z_ UY=>?_);rw [show z0.length=(z0.set q0.toNat (e4.toNat:Int)).length from (kP ..).symm];refine aa (aR (ag 3 [0,1,14] [(12,.slice u0 (z0.set q0.toNat (e4.toNat:Int)).length j0),(13,iv (w6 (q0+1)))] ?_));refine bV (bG (Ok.t ?_));subst UH;subst zH;subst hg4;refine gX 13 rfl (show (iv (w6 (q0+1)):Value)=iv (wQ xs q0 y0) from aA (Value.int .i64) ((aG iB).symm)) ?_;exact fun _ _ u v=>⟨Q0,bu w0 Q0,u0,j0,(z0.set q0.toNat ((xs.getD y0.toNat 0).toNat:Int)),Z_,UY,fA u v hF⟩
  clear hF;rintro _ _ ⟨H0,I0,g0,m0,x0,f0,IB,q⟩;refine jn (fun hF=>?_) _ _ q;refine aR (ag 3 [0,1,12,13] [(14,iv (w6 (y0+1)))] ?_);refine bV (Ok.t ?_);exact fun _ _ u v=>⟨k73,nl,H0,G0.trans I0,wQ xs q0 y0,w6 (y0+1),g0,m0,x0,f0,IB,fA u v hF⟩
 refine fw (ay (ay (aM (Ok.t (ae (av 1 [(120,.slice u0 z0.length j0)] kr (ai (af.s (v:=sv (bytesOf z0)) (j4 0 kr rfl rfl d0 underlying26 underlying9 underlying5) rfl rfl (av 1 [(4,sv (bytesOf z0))] kr (aa (Ok.ret ?_)))))))))));exact jg (sv (bytesOf z0)) (q1.trans G0) ⟨bytesOf z0,rfl,rfl,hF⟩
def Eu (c:UInt8):Bool:=c==10||c==34||c==92
def rp1 (c:UInt8):Bs:=if Eu c=true then [92,c] else [c]
def quoteS:Bs→Bs
 | []=>[]
 | c::s=>rp1 c++quoteS s
def mG (s:Bs):Prop:=s.length≤70368744177664
theorem uJ {p:UInt8→Bool} (h:(List.range 256).all (fun n=>p (UInt8.ofNat n))=true) (c:UInt8):p c=true:=by
 have h1:=l7.1 h c.toNat (by simpa using c.toNat_lt);simpa using h1
theorem SE (c:UInt8):oJ.getD (Int.toNat (c.toNat:Int)) default=if Eu c=true then [92,(c.toNat:Int)] else []:=by
 have:=uJ (p:=fun c=>decide (oJ.getD (Int.toNat (c.toNat:Int)) default=if Eu c=true then [92,(c.toNat:Int)] else [])) dk c;exact df this
theorem xX:oJ.length=256:=by kernel_rfl
theorem OU (c:UInt8):1≤(rp1 c).length∧(rp1 c).length≤2:=by unfold rp1; split <;> simp
theorem qw (s t:Bs):quoteS (s++t)=quoteS s++quoteS t:=by
 induction s with
 | nil=>rfl
 | cons c s ih=>rw [iP,quoteS,quoteS,ih,dM]
theorem oK (s:Bs):s.length≤(quoteS s).length∧(quoteS s).length≤2 * s.length:=by
 induction s with
 | nil=>simp [quoteS]
 | cons c s ih =>
  have:=OU c;rw [quoteS,bD,di];omega
theorem JZ (s:Bs) (h:s.any Eu=false):quoteS s=s:=by
 induction s with
 | nil=>rfl
 | cons c s ih =>
  rw [jM,dB] at h;rw [quoteS,ih h.2,rp1,h.1];rfl
theorem iD (s:Bs) {i:Nat} (h:i<s.length):s.take (i+1)=s.take i++[s.getD i 0]:=by
 rw [List.take_add_one,gT,gH h]; rfl
theorem JY (s:Bs) {i:Nat} (h:i<s.length):quoteS s=quoteS (s.take i)++(rp1 (s.getD i 0)++quoteS (s.drop (i+1))):=by
 have e:s=s.take i++(s.getD i 0::s.drop (i+1)):=by
  rw [gT,gH h];simp
 conv=>lhs; rw [e]
 rw [qw,quoteS]
theorem ahA (xs:Bs) (hp:mG xs):∀ (m i:Nat),i+m=xs.length→zf xs (fun r=>r=quoteS xs) (m+1) ((quoteS (xs.take i)).length:Int) (i:Int) (intsOf (quoteS (xs.take i))++List.replicate ((quoteS xs).length - (quoteS (xs.take i)).length) 0):=by
 unfold mG at hp;have hq:=oK xs;intro m
 induction m with
 | zero =>
  intro i hi;have:xs.take i=xs:=jU om;refine ⟨fun hc=>absurd (df hc) om,fun _=>?_⟩;show bytesOf _=_;rw [this,Nat.sub_self,List.replicate_zero,gK,kN]
 | succ m ih =>
  intro i hi;have hi':i<xs.length:=om;have hs:=JY xs hi';have h1:=aA List.length hs;rw [bD,bD] at h1;have hr:=OU (xs.getD i 0)
  have ht:quoteS (xs.take (i+1))=quoteS (xs.take i)++rp1 (xs.getD i 0):=by
   rw [iD xs hi',qw,quoteS,quoteS,gK]
  have hn:=oK (xs.take i);rw [gG,og om] at hn;have hI:(intsOf (quoteS (xs.take i))).length=(quoteS (xs.take i)).length:=iY ..
  have hL:(intsOf (quoteS (xs.take i))++List.replicate ((quoteS xs).length - (quoteS (xs.take i)).length) (0:Int)).length=(quoteS xs).length:=by rw [bD,hI,List.length_replicate]; omega
  have step:∀ (Y:List Int) (j:Int),j=((quoteS (xs.take (i+1))).length:Int)→Y=intsOf (quoteS (xs.take (i+1)))++List.replicate ((quoteS xs).length - (quoteS (xs.take (i+1))).length) 0 →
    zf xs (fun r=>r=quoteS xs) (m+1) j (w6 ((i:Int)+1)) Y:=by
   intro Y j hj hY;rw [hj,hY,fU om,show (i:Int)+1=((i+1:Nat):Int) by omega];exact ih (i+1) om
  have e0:oJ.getD (Int.toNat ((xs.getD (Int.toNat (i:Int)) 0).toNat:Int)) default=if Eu (xs.getD i 0)=true then [92,((xs.getD i 0).toNat:Int)] else []:=by rw [dR i]; exact SE _
  have hb:(xs.getD (Int.toNat (i:Int)) 0).toNat<256:=UInt8.toNat_lt _
  have hV:wQ xs ((quoteS (xs.take i)).length:Int) (i:Int)=((quoteS (xs.take (i+1))).length:Int):=by
   unfold wQ;rw [e0,ht,bD,rp1]
   by_cases hc:Eu (xs.getD i 0)=true
   ·rw [bB hc,bB hc];rw [show (!((([92,((xs.getD i 0).toNat:Int)].length:Nat):Int)==0))=true from rfl,bB rfl,fU (by simp; omega)];simp
   rw [aQ hc,aQ hc];rw [show (!((([]:List Int).length:Int)==0))=false from rfl,aQ (by simp),fU om];simp
  refine ⟨fun _=>⟨om,by rw [dR]; exact hi',om,by rw [xX,dR]; omega,fun hc=>?_,fun hc=>?_⟩,fun hc=>absurd (fq hc) om⟩
  ·rw [e0] at hc ⊢
   by_cases hsp:Eu (xs.getD i 0)=true
   ·rw [bB hsp] at hc ⊢
    have hrl:(rp1 (xs.getD i 0))=[92,xs.getD i 0]:=by rw [rp1,bB hsp]
    rw [hrl] at h1 ht;simp only [di,jW] at h1;refine ⟨om,om,om,by rw [hL,dR]; simp; omega,fun Y hY=>⟨?_,?_⟩⟩
    ·rw [hY,dR]; simp; omega
    refine step Y _ hV ?_;rw [hY,dR,ht,List.take_append_of_le_length om,jU om,List.drop_append,hI,eD om,jV,List.drop_replicate];show intsOf (quoteS (xs.take i))++[92,((xs.getD i 0).toNat:Int)]++_=_;rw [intsOf,intsOf,uT,dM,dM];congr 2;congr 1;simp only [bD,di,jW];omega
   rw [aQ hsp] at hc;exact absurd hc (by simp)
  rw [e0] at hc
  by_cases hsp:Eu (xs.getD i 0)=true
  ·rw [bB hsp] at hc;exact absurd hc (by simp)
  have hrl:(rp1 (xs.getD i 0))=[xs.getD i 0]:=by rw [rp1,aQ hsp]
  rw [hrl] at h1 ht;simp only [di,jW] at h1;refine ⟨om,by rw [hL,dR]; omega,?_⟩;refine step _ _ hV ?_;rw [dR,dR,ht,List.set_append,aQ om,hI,Nat.sub_self];obtain ⟨q,hq2⟩:∃ q,(quoteS xs).length - (quoteS (xs.take i)).length=q+1:=⟨_,(by omega:_=((quoteS xs).length - (quoteS (xs.take i)).length - 1)+1)⟩;rw [hq2,zR,List.set_cons_zero,intsOf,intsOf,uT,dM];congr 1;show _::_=_::_;congr 1;congr 1;simp only [bD,di,jW];omega
theorem ahB (xs:Bs) (hp:mG xs) (n:Int) (b:Bool) (hb:b=xs.any Eu) (hn:n=((quoteS xs).length:Int)):OT xs (fun r=>r=quoteS xs) n b:=by
 have hq:=oK xs;refine ⟨fun h=>?_,fun _=>⟨om,by unfold mG at hp; omega,xs.length+1,?_⟩⟩
 ·have h:b=false:=by simpa using h
  show xs=quoteS xs;rw [JZ xs (by rw [← hb,h])]
 have:=ahA xs hp xs.length 0 om;rw [List.take_zero] at this;rw [hn,dR];simpa [quoteS,intsOf] using this
theorem ahC (xs:Bs) (hp:mG xs):∀ (m i:Nat),i+m=xs.length→zg xs (fun r=>r=quoteS xs) (m+1) (((quoteS (xs.take i)).length+m:Nat):Int) ((xs.take i).any Eu) (i:Int):=by
 have hp':xs.length≤70368744177664:=hp;intro m
 induction m with
 | zero =>
  intro i hi;have:xs.take i=xs:=jU om;refine ⟨fun hc=>absurd (df hc) om,fun _=>?_⟩;rw [this];exact ahB xs hp _ _ rfl rfl
 | succ m ih =>
  intro i hi;have hi':i<xs.length:=om;have hb:(xs.getD (Int.toNat (i:Int)) 0).toNat<256:=UInt8.toNat_lt _
  have ht:quoteS (xs.take (i+1))=quoteS (xs.take i)++rp1 (xs.getD i 0):=by
   rw [iD xs hi',qw,quoteS,quoteS,gK]
  have hn:=oK (xs.take i);rw [gG,og om] at hn
  have e0:oJ.getD (Int.toNat ((xs.getD (Int.toNat (i:Int)) 0).toNat:Int)) default=if Eu (xs.getD i 0)=true then [92,((xs.getD i 0).toNat:Int)] else []:=by rw [dR i]; exact SE _
  have hV:wP xs (((quoteS (xs.take i)).length+(m+1):Nat):Int) (i:Int)=(((quoteS (xs.take (i+1))).length+m:Nat):Int):=by
   unfold wP;rw [e0,ht,bD,rp1]
   by_cases hc:Eu (xs.getD i 0)=true
   ·rw [bB hc,bB hc];rw [show (!((([92,((xs.getD i 0).toNat:Int)].length:Nat):Int)==0))=true from rfl,bB rfl,show w6 ((([92,((xs.getD i 0).toNat:Int)].length:Nat):Int) - 1)=1 from rfl,fU om];simp; omega
   rw [aQ hc,aQ hc];rw [show (!((([]:List Int).length:Int)==0))=false from rfl,aQ (by simp)];simp; omega
  have hW:wO xs ((xs.take i).any Eu) (i:Int)=(xs.take (i+1)).any Eu:=by
   unfold wO;rw [e0,iD xs hi',List.any_append,jM,xB,nD,Bool.or_comm];congr 1
   by_cases hc:Eu (xs.getD i 0)=true
   ·rw [bB hc,hc]; rfl
   rw [aQ hc]; simp only [Bool.not_eq_true] at hc; rw [hc]; rfl
  have j:Cy xs (((quoteS (xs.take i)).length+(m+1):Nat):Int) ((xs.take i).any Eu) (i:Int) (zg xs (fun r=>r=quoteS xs) (m+1)):=by
   unfold Cy;rw [hV,hW,fU om,show (i:Int)+1=((i+1:Nat):Int) by omega];exact ih (i+1) om
  exact ⟨fun _=>⟨om,by rw [dR]; exact hi',om,by rw [xX,dR]; omega,fun _=>j,fun _=>j⟩,fun hc=>absurd (fq hc) om⟩
theorem Lg (xs:Bs):(quoteS xs).length=xs.length+xs.count 10+xs.count 34+xs.count 92:=by
 induction xs with
 | nil=>rfl
 | cons c s ih =>
  rw [quoteS,bD,ih,List.count_cons,List.count_cons,List.count_cons,di]
  have:(rp1 c).length=1+(if (c==10)=true then 1 else 0)+(if (c==34)=true then 1 else 0)+(if (c==92)=true then 1 else 0):=by
   have:=uJ (p:=fun c=>decide ((rp1 c).length=1+(if (c==10)=true then 1 else 0)+(if (c==34)=true then 1 else 0)+(if (c==92)=true then 1 else 0))) dk c;exact df this
  omega
theorem Rc (xs:Bs):xs.any Eu=(((cntS xs [92]) != 0)||(((cntS xs [34]) != 0)||((cntS xs [10]) != 0))):=by
 have k:∀ c:UInt8,((cntS xs [c]) != 0)=xs.any (·==c):=fun c=>by
  show (((Lib.countByte xs c:Nat):Int) != 0)=_;rw [show Lib.countByte xs c=xs.count c from rfl]
  cases h:xs.any (·==c) with
  | true =>
   obtain ⟨y,hy,he⟩:=xC.1 h;have:=eq_of_beq he; subst this;have:=List.count_pos_iff.2 hy;rw [bne_iff_ne]; omega
  | false =>
   have:xs.count c=0:=List.count_eq_zero.2 fun hm=>by
    rw [List.any_eq_false] at h;exact h c hm (by simp)
   rw [this]; rfl
 rw [k,k,k]
 induction xs with
 | nil=>rfl
 | cons c s ih =>
  simp only [jM]
  rw [ih (fun c=>by
   show (((Lib.countByte s c:Nat):Int) != 0)=_;rw [show Lib.countByte s c=s.count c from rfl]
   cases h:s.any (·==c) with
   | true =>
    obtain ⟨y,hy,he⟩:=xC.1 h;have:=eq_of_beq he; subst this;have:=List.count_pos_iff.2 hy;rw [bne_iff_ne]; omega
   | false =>
    have:s.count c=0:=List.count_eq_zero.2 fun hm=>by
     rw [List.any_eq_false] at h;exact h c hm (by simp)
    rw [this]; rfl)]
  unfold Eu
  cases (c==10) <;> cases (c==34) <;> cases (c==92) <;> simp
theorem SA (n cN:Int) (hn:0≤n∧n≤4611686018427387903) (hc:0≤cN∧cN≤4611686018427387903) (k:Int) (hk:k=2):(if (cN != 0)=true then w6 (n+(w6 (cN * (w6 (k - 1))))) else n)=n+cN:=by
 subst hk;rw [show w6 ((2:Int) - 1)=1 from rfl,Int.mul_one,fU (x:=cN) om]
 split
 ·exact fU om
 rename_i h
 simp at h; omega
theorem ahy (xs:Bs) (hp:mG xs):ahz xs (fun r=>r=quoteS xs):=by
 have hp':xs.length≤70368744177664:=hp;have c1:=List.count_le_length (a:=(10:UInt8)) (l:=xs);have c2:=List.count_le_length (a:=(34:UInt8)) (l:=xs);have c3:=List.count_le_length (a:=(92:UInt8)) (l:=xs);have q10:cntS xs [10]=((xs.count 10:Nat):Int):=rfl;have q34:cntS xs [34]=((xs.count 34:Nat):Int):=rfl;have q92:cntS xs [92]=((xs.count 92:Nat):Int):=rfl;have v0:ug xs=(xs.length:Int)+cntS xs [10]:=SA _ _ om om _ rfl
 have v1:tq xs=(xs.length:Int)+cntS xs [10]+cntS xs [34]:=by
  unfold tq;rw [v0];exact SA _ _ om om _ rfl
 have v3:Ac xs=(xs.length:Int)+cntS xs [10]+cntS xs [34]+cntS xs [92]:=by
  unfold Ac;rw [v1];exact SA _ _ om om _ rfl
 have j21:Gv xs (fun r=>r=quoteS xs):=by
  refine ahB xs hp _ _ ?_ ?_
  ·rw [Rc]; rfl
  rw [v3,Lg]; omega
 have ja:A9 xs (fun r=>r=quoteS xs):=⟨by decide,by decide,rfl,fun _=>⟨by decide,by rw [xX]; decide,j21⟩,fun _=>j21⟩;have jb:A8 xs (fun r=>r=quoteS xs):=⟨by decide,by decide,rfl,fun _=>⟨by decide,by rw [xX]; decide,ja⟩,fun _=>ja⟩;refine ⟨fun _=>⟨by decide,by decide,rfl,fun _=>⟨by decide,by rw [xX]; decide,jb⟩,fun _=>jb⟩,fun _=>⟨xs.length+1,?_⟩⟩;have:=ahC xs hp xs.length 0 om;simpa [quoteS] using this
theorem ahu {g:ak} {b:Nat} (xs:Bs) (hT:oG g b) (hp:mG xs):bC prog 295 #[pv b 0,sv xs] g (sv (quoteS xs)) :=
 (aa1 xs hT _ (ahy xs hp)).gives fun g' H' u _ ⟨r,hu,_,hr⟩=>by rw [hu,hr]
end Go.Proofs.YtdapgmigogpdcaaGreatDoor.Rp
