/- The reference's tokens: numbers and texts. -/
import Derived.Test.YtdapgmigogpdcaaGreatDoorTra
namespace Go.Proofs.YtdapgmigogpdcaaGreatDoor.Tk
open _root_.Go.Proofs.Tryz Go Go.Eng Bld Trm Css
set_option linter.unusedVariables false
set_option linter.unusedSimpArgs false
set_option maxHeartbeats 4000000
set_option maxRecDepth 100000
def rnumV0 (xs:Bs):Int :=
 (if ((ratM xs 0==43)||(ratM xs 0==45))=true then 1 else 0)
def rnumV2 (xs:Bs) (v0:Int):Bool :=
 ((decide (v0<(xs.length:Int)))&&(rdigM ((xs.getD v0.toNat 0).toNat:Int)))
def rnumV3 (xs:Bs) (v0:Int):Bool :=
 (((ratM xs v0==46)&&(decide (w6 (v0+1)<(xs.length:Int))))&&(rdigM ((xs.getD (Int.toNat (w6 (v0+1))) 0).toNat:Int)))
def rnumV5 (xs:Bs) (q0:Int):Bool :=
 ((decide (q0<(xs.length:Int)))&&(rdigM ((xs.getD q0.toNat 0).toNat:Int)))
def rnumV7 (xs:Bs) (u0:Int):Int :=
 (if (((xs.getD (Int.toNat 0) 0).toNat:Int)==45)=true then w6 (0 - u0) else u0)
def rnumj65 (xs:Bs) (K:Int→Int→Prop) (b0:Int) (u0:Int):Prop :=
 K (rnumV7 xs u0) b0
def rnumj32 (xs:Bs) (K:Int→Int→Prop) (b0:Int) (u0:Int) (c0:Int):Prop :=
 ((c0==0)=true→K 0 0)∧((c0==0)=false→(0:Int)≤0∧Int.toNat 0<xs.length∧((((xs.getD (Int.toNat 0) 0).toNat:Int)==45)=true→rnumj65 xs K b0 u0)∧((((xs.getD (Int.toNat 0) 0).toNat:Int)==45)=false→rnumj65 xs K b0 u0))
def rnumj43 (xs:Bs) (K:Int→Int→Prop) (q0:Int) (x0:Int) (s0:Int) (j0:Int) (C41:Int→Int→Int→Int→Prop):Prop :=
 (rnumV5 xs q0=true→0≤q0∧q0.toNat<xs.length∧C41 (w6 (q0+1)) (if 1000000000<(w6 (x0+(w6 (j0 * (w6 (IntKind.wrap .u8 (((xs.getD q0.toNat 0).toNat:Int) - 48))))))) then 1000000000 else (w6 (x0+(w6 (j0 * (w6 (IntKind.wrap .u8 (((xs.getD q0.toNat 0).toNat:Int) - 48)))))))) (w6 (s0+1)) (w6 (Int.tdiv j0 10)))∧(rnumV5 xs q0=false→rnumj32 xs K q0 x0 s0)
def rnuml41b (xs:Bs) (K:Int→Int→Prop) (q0:Int) (x0:Int) (s0:Int) (j0:Int) (C41:Int→Int→Int→Int→Prop):Prop :=
 ((decide (q0<(xs.length:Int)))=true→0≤q0∧q0.toNat<xs.length∧rnumj43 xs K q0 x0 s0 j0 C41)∧((decide (q0<(xs.length:Int)))=false→rnumj43 xs K q0 x0 s0 j0 C41)
def rnuml41 (xs:Bs) (K:Int→Int→Prop):Nat→Int→Int→Int→Int→Prop
 | 0,_,_,_,_=>False
 | k+1,q0,x0,s0,j0=>rnuml41b xs K q0 x0 s0 j0 (rnuml41 xs K k)
def rnumj33 (xs:Bs) (K:Int→Int→Prop) (v0:Int) (k0:Int):Prop :=
 (rnumV3 xs v0=true→∃ k,rnuml41 xs K k (w6 (v0+1)) (if 1000000000<(w6 (1000 * k0)) then 1000000000 else (w6 (1000 * k0))) (w6 (v0 - (rnumV0 xs))) 100)∧(rnumV3 xs v0=false→rnumj32 xs K v0 (if 1000000000<(w6 (1000 * k0)) then 1000000000 else (w6 (1000 * k0))) (w6 (v0 - (rnumV0 xs))))
def rnumj19 (xs:Bs) (K:Int→Int→Prop) (v0:Int) (k0:Int) (C17:Int→Int→Prop):Prop :=
 (rnumV2 xs v0=true→0≤v0∧v0.toNat<xs.length∧C17 (w6 (v0+1)) (if 1000000000<(w6 ((w6 (10 * k0))+(w6 (IntKind.wrap .u8 (((xs.getD v0.toNat 0).toNat:Int) - 48))))) then 1000000000 else (w6 ((w6 (10 * k0))+(w6 (IntKind.wrap .u8 (((xs.getD v0.toNat 0).toNat:Int) - 48)))))))∧(rnumV2 xs v0=false→rplP xs v0∧(((ratM xs v0==46)&&(decide (w6 (v0+1)<(xs.length:Int))))=true→0≤w6 (v0+1)∧Int.toNat (w6 (v0+1))<xs.length∧rnumj33 xs K v0 k0)∧(((ratM xs v0==46)&&(decide (w6 (v0+1)<(xs.length:Int))))=false→rnumj33 xs K v0 k0))
def rnuml17b (xs:Bs) (K:Int→Int→Prop) (v0:Int) (k0:Int) (C17:Int→Int→Prop):Prop :=
 ((decide (v0<(xs.length:Int)))=true→0≤v0∧v0.toNat<xs.length∧rnumj19 xs K v0 k0 C17)∧((decide (v0<(xs.length:Int)))=false→rnumj19 xs K v0 k0 C17)
def rnuml17 (xs:Bs) (K:Int→Int→Prop):Nat→Int→Int→Prop
 | 0,_,_=>False
 | k+1,v0,k0=>rnuml17b xs K v0 k0 (rnuml17 xs K k)
def rnumj5 (xs:Bs) (K:Int→Int→Prop):Prop :=
 ∃ k,rnuml17 xs K k (rnumV0 xs) 0
def rnumj6 (xs:Bs) (K:Int→Int→Prop):Prop :=
 (((ratM xs 0==43)||(ratM xs 0==45))=true→rnumj5 xs K)∧(((ratM xs 0==43)||(ratM xs 0==45))=false→rnumj5 xs K)
def rnumF (xs:Bs) (K:Int→Int→Prop):Prop :=
 rplP xs 0∧((ratM xs 0==43)=true→rnumj6 xs K)∧((ratM xs 0==43)=false→rplP xs 0∧rnumj6 xs K)
theorem rnum_ok {g:Ghost} (xs:Bs) (K:Int→Int→Prop)
  (hF:rnumF xs K):CallsH prog 189 #[sv xs] g [] (fun g' H' v=>∃ (r0:Int),∃ (r1:Int),v=.tuple #[iv r0,iv r1]∧H'=[]∧K r0 r1):=by
 refine CallsH.en 100 func189 rfl fun w0=>?_
 refine Ok.sr (Ok.B 2 [(0,sv xs)] kr (Ok.nt (Ok.sr (Ok.b 1 [0] [(4,iv 0)] ?_))))
 refine Ok.nt (Ok.cg g [(0,sv xs),(4,iv (rnumV0 xs))] [] (rnumj5 xs K) ?_ (fun gj5 N0 hF=>?_))
 ·
  refine Ok.cg g [(0,sv xs),(4,iv 0),(16,.bool ((ratM xs 0==43)||(ratM xs 0==45)))] [] (rnumj6 xs K) ?_ (fun gj6 O0 hF=>?_)
  ·
   refine Ok.r ?_
   obtain ⟨hp19,hF⟩:=hF
   refine Ok.rn 4 [.k (rat_c xs 0 hp19)] [0,4] [(12,.bool (ratM xs 0==43))] ?_
   refine Ok.bw 12 hF (fun S0 hF=>?_) (fun S0 hF=>?_)
   ·refine Ok.b 4 [0,4] [(16,.bool true)] ?_
    refine Ok.nt (Ok.rb 16 ((ratM xs 0==43)||(ratM xs 0==45)) (mor_t S0) ?_)
    exact fg hF
   obtain ⟨hp21,hF⟩:=hF
   refine Ok.rn 4 [.k (rat_c xs 0 hp21)] [0,4] [(16,.bool (ratM xs 0==45))] ?_
   refine Ok.nt (Ok.rb 16 ((ratM xs 0==43)||(ratM xs 0==45)) (mor_f S0) ?_)
   exact fg hF
  refine Ok.cw hF (fun B0 hF=>?_) (fun B0 hF=>?_)
  ·refine Ok.r (Ok.b 1 [0] [(4,iv 1)] ?_)
   refine Ok.nt (Ok.v 4 rfl (show (iv 1:Value)=iv (rnumV0 xs) from congrArg (Value.int .i64) ((if_t B0).symm)) ?_)
   exact fun _ _ u v=>⟨gj6,O0,fA u v hF⟩
  refine Ok.k (Ok.t (Ok.v 4 rfl (show (iv 0:Value)=iv (rnumV0 xs) from congrArg (Value.int .i64) ((if_f B0).symm)) ?_))
  exact fun _ _ u v=>⟨gj6,O0,fA u v hF⟩
 refine Ok.sr (Ok.b 2 [0,4] [(5,iv (rnumV0 xs))] ?_)
 refine Ok.nt (Ok.sr (Ok.b 1 [0,4,5] [(6,iv 0)] ?_))
 refine Ok.nt (Ok.q (Ok.block ?_))
 obtain ⟨k,hF⟩:=hF
 refine Ok.L (fun k a W=>∃ g0:Ghost,Gext w0 gj5 g0∧∃ (v0:Int) (k0:Int),StA 100 [(0,sv xs),(4,iv v0),(5,iv (rnumV0 xs)),(6,iv k0)] a∧StW w0 [] g0 W∧rnuml17 xs K k v0 k0) k ?_ ?_
 ·
  exact fun _ _ u v=>⟨gj5,Gext.r w0 gj5,rnumV0 xs,0,fA u v hF⟩
 clear hF
 rintro (_ | k17) _ _ ⟨g0,a0,v0,k0,q⟩
 exact (q.2.2:False).elim
 refine jn (fun hF=>?_) _ _ q
 refine Ok.q (Ok.cg g0 [(0,sv xs),(4,iv v0),(5,iv (rnumV0 xs)),(6,iv k0),(27,.bool (rnumV2 xs v0))] [] (rnumj19 xs K v0 k0 (rnuml17 xs K k17)) ?_ (fun o0 i0 hF=>?_))
 ·
  refine Ok.r (Ok.b 5 [0,4,5,6] [(22,.bool (decide (v0<(xs.length:Int))))] ?_)
  refine Ok.bw 22 hF (fun f0 hF=>?_) (fun f0 hF=>?_)
  ·refine Ok.b 2 [0,4,5,6] [(22,.bool true),(23,sv xs),(24,iv v0)] ?_
   obtain ⟨C0,D0,hF⟩:=hF
   have Z0:=get_of (l:=xs) (0:UInt8) D0
   generalize E0:(xs.getD v0.toNat 0)=e17 at Z0 hF ⊢
   refine Ok.oy (OpOk.s (v:=.int .u8 (e17.toNat:Int)) (Yields.ix (k:=.i64) (i:=v0) (s:=xs) (b:=e17) kr kr underlying9 C0 Z0) rfl rfl (Ok.rn 2 [.k (rdig_c (e17.toNat:Int))] [0,4,5,6] [(27,.bool (rdigM (e17.toNat:Int)))] ?_))
   refine Ok.j (Ok.t ?_)
   subst E0
   refine Ok.rb 27 (rnumV2 xs v0) (mand_t f0) ?_
   exact fg hF
  refine Ok.b 5 [0,4,5,6] [(27,.bool false)] ?_
  refine Ok.nt (Ok.rb 27 (rnumV2 xs v0) (mand_f f0) ?_)
  exact fg hF
 refine Ok.cw hF (fun hc1 hF=>?_) (fun hc1 hF=>?_)
 ·refine Ok.k (Ok.t (Ok.block (Ok.sr (Ok.b 4 [0,4,5] [(29,iv (w6 (10 * k0))),(30,sv xs),(31,iv v0)] ?_))))
  obtain ⟨h02,h12,hF⟩:=hF
  have he2:=get_of (l:=xs) (0:UInt8) h12
  generalize hg2:(xs.getD v0.toNat 0)=e2 at he2 hF ⊢
  refine Ok.o (OpOk.s (v:=.int .u8 (e2.toNat:Int)) (Yields.ix (k:=.i64) (i:=v0) (s:=xs) (b:=e2) kr kr underlying9 h02 he2) rfl rfl (Ok.b 5 [0,4,5] [(6,iv (if 1000000000<(w6 ((w6 (10 * k0))+(w6 (IntKind.wrap .u8 ((e2.toNat:Int) - 48))))) then 1000000000 else (w6 ((w6 (10 * k0))+(w6 (IntKind.wrap .u8 ((e2.toNat:Int) - 48)))))))] ?_))
  refine Ok.nt (Ok.r (Ok.b 3 [0,5,6] [(4,iv (w6 (v0+1)))] ?_))
  refine Ok.j (Ok.kn (Ok.t ?_))
  subst hg2
  exact fun _ _ u v=>⟨k17,nl,o0,a0.trans i0,w6 (v0+1),(if 1000000000<(w6 ((w6 (10 * k0))+(w6 (IntKind.wrap .u8 (((xs.getD v0.toNat 0).toNat:Int) - 48))))) then 1000000000 else (w6 ((w6 (10 * k0))+(w6 (IntKind.wrap .u8 (((xs.getD v0.toNat 0).toNat:Int) - 48)))))),fA u v hF⟩
 refine Ok.x (Ok.thenE (Ok.thenE (Ok.blockHit (Ok.t (Ok.sr (Ok.b 4 [0,4,6] [(7,iv (w6 (v0 - (rnumV0 xs))))] ?_))))))
 refine Ok.nt (Ok.sr (Ok.b 4 [0,4,7] [(6,iv (if 1000000000<(w6 (1000 * k0)) then 1000000000 else (w6 (1000 * k0))))] ?_))
 refine Ok.nt (Ok.cut (fun a W=>∃ m0:Ghost,Gext w0 o0 m0∧∃ (b0:Int) (u0:Int) (c0:Int),StA 100 [(0,sv xs),(4,iv b0),(6,iv u0),(7,iv c0)] a∧StW w0 [] m0 W∧rnumj32 xs K b0 u0 c0) ?_ ?_)
 ·
  refine Ok.cg o0 [(0,sv xs),(4,iv v0),(6,iv (if 1000000000<(w6 (1000 * k0)) then 1000000000 else (w6 (1000 * k0)))),(7,iv (w6 (v0 - (rnumV0 xs)))),(62,.bool (rnumV3 xs v0))] [] (rnumj33 xs K v0 k0) ?_ (fun Q0 U0 hF=>?_)
  ·
   refine Ok.r ?_
   obtain ⟨hp11,hF⟩:=hF
   refine Ok.rn 5 [.k (rat_c xs v0 hp11)] [0,4,6,7] [(49,.bool (ratM xs v0==46))] ?_
   refine Ok.w 6 [(0,sv xs),(4,iv v0),(6,iv (if 1000000000<(w6 (1000 * k0)) then 1000000000 else (w6 (1000 * k0)))),(7,iv (w6 (v0 - (rnumV0 xs)))),(55,.bool ((ratM xs v0==46)&&(decide (w6 (v0+1)<(xs.length:Int)))))] (fun P0=>?_) ?_
   ·refine Ok.a 49 (ratM xs v0==46) rfl (fun F0=>?_) (fun F0=>?_)
    ·skip
     refine Ok.b 6 [0,4,6,7] [(55,.bool (decide (w6 (v0+1)<(xs.length:Int))))] ?_
     refine Ok.rb 55 ((ratM xs v0==46)&&(decide (w6 (v0+1)<(xs.length:Int)))) (mand_t F0) (Ok.b 0 [0,4,6,7] [(55,.bool ((ratM xs v0==46)&&(decide (w6 (v0+1)<(xs.length:Int)))))] ?_)
     exact P0
    skip
    refine Ok.b 6 [0,4,6,7] [(55,.bool false)] ?_
    refine Ok.rb 55 ((ratM xs v0==46)&&(decide (w6 (v0+1)<(xs.length:Int)))) (mand_f F0) (Ok.b 0 [0,4,6,7] [(55,.bool ((ratM xs v0==46)&&(decide (w6 (v0+1)<(xs.length:Int)))))] ?_)
    exact P0
   refine Ok.b 1 [0,4,6,7] [(56,.bool ((ratM xs v0==46)&&(decide (w6 (v0+1)<(xs.length:Int)))))] ?_
   refine Ok.bw 56 hF (fun d0 hF=>?_) (fun d0 hF=>?_)
   ·refine Ok.b 3 [0,4,6,7] [(56,.bool true),(57,sv xs),(59,iv (w6 (v0+1)))] ?_
    obtain ⟨K0,G0,hF⟩:=hF
    have t0:=get_of (l:=xs) (0:UInt8) G0
    generalize Y0:(xs.getD (Int.toNat (w6 (v0+1))) 0)=e15 at t0 hF ⊢
    refine Ok.oy (OpOk.s (v:=.int .u8 (e15.toNat:Int)) (Yields.ix (k:=.i64) (i:=w6 (v0+1)) (s:=xs) (b:=e15) kr kr underlying9 K0 t0) rfl rfl (Ok.rn 2 [.k (rdig_c (e15.toNat:Int))] [0,4,6,7] [(62,.bool (rdigM (e15.toNat:Int)))] ?_))
    refine Ok.j (Ok.t ?_)
    subst Y0
    refine Ok.rb 62 (rnumV3 xs v0) (mand_t d0) ?_
    exact fg hF
   refine Ok.b 6 [0,4,6,7] [(62,.bool false)] ?_
   refine Ok.nt (Ok.rb 62 (rnumV3 xs v0) (mand_f d0) ?_)
   exact fg hF
  refine Ok.cw hF (fun hc6 hF=>?_) (fun hc6 hF=>?_)
  ·refine Ok.sr (Ok.b 3 [0,6,7] [(4,iv (w6 (v0+1)))] ?_)
   refine Ok.nt (Ok.sr (Ok.b 1 [0,4,6,7] [(8,iv 100)] ?_))
   refine Ok.nt (Ok.block ?_)
   obtain ⟨k,hF⟩:=hF
   refine Ok.L (fun k a W=>∃ n0:Ghost,Gext w0 Q0 n0∧∃ (q0:Int) (x0:Int) (s0:Int) (j0:Int),StA 100 [(0,sv xs),(4,iv q0),(6,iv x0),(7,iv s0),(8,iv j0)] a∧StW w0 [] n0 W∧rnuml41 xs K k q0 x0 s0 j0) k ?_ ?_
   ·
    exact fun _ _ u v=>⟨Q0,Gext.r w0 Q0,w6 (v0+1),(if 1000000000<(w6 (1000 * k0)) then 1000000000 else (w6 (1000 * k0))),w6 (v0 - (rnumV0 xs)),100,fA u v hF⟩
   clear hF
   rintro (_ | k41) _ _ ⟨n0,J0,q0,x0,s0,j0,q⟩
   exact (q.2.2:False).elim
   refine jn (fun hF=>?_) _ _ q
   refine Ok.q (Ok.cg n0 [(0,sv xs),(4,iv q0),(6,iv x0),(7,iv s0),(8,iv j0),(74,.bool (rnumV5 xs q0))] [] (rnumj43 xs K q0 x0 s0 j0 (rnuml41 xs K k41)) ?_ (fun T0 W0 hF=>?_))
   ·
    refine Ok.r (Ok.b 5 [0,4,6,7,8] [(69,.bool (decide (q0<(xs.length:Int))))] ?_)
    refine Ok.bw 69 hF (fun hc9 hF=>?_) (fun hc9 hF=>?_)
    ·refine Ok.b 2 [0,4,6,7,8] [(69,.bool true),(70,sv xs),(71,iv q0)] ?_
     obtain ⟨H0,M0,hF⟩:=hF
     have L0:=get_of (l:=xs) (0:UInt8) M0
     generalize hg10:(xs.getD q0.toNat 0)=e10 at L0 hF ⊢
     refine Ok.oy (OpOk.s (v:=.int .u8 (e10.toNat:Int)) (Yields.ix (k:=.i64) (i:=q0) (s:=xs) (b:=e10) kr kr underlying9 H0 L0) rfl rfl (Ok.rn 2 [.k (rdig_c (e10.toNat:Int))] [0,4,6,7,8] [(74,.bool (rdigM (e10.toNat:Int)))] ?_))
     refine Ok.j (Ok.t ?_)
     subst hg10
     refine Ok.rb 74 (rnumV5 xs q0) (mand_t hc9) ?_
     exact fg hF
    refine Ok.b 5 [0,4,6,7,8] [(74,.bool false)] ?_
    refine Ok.nt (Ok.rb 74 (rnumV5 xs q0) (mand_f hc9) ?_)
    exact fg hF
   refine Ok.cw hF (fun hc7 hF=>?_) (fun hc7 hF=>?_)
   ·refine Ok.k (Ok.t (Ok.block (Ok.sr (Ok.b 4 [0,4,7,8] [(75,iv x0),(76,iv j0),(77,sv xs),(78,iv q0)] ?_))))
    obtain ⟨h08,h18,hF⟩:=hF
    have he8:=get_of (l:=xs) (0:UInt8) h18
    generalize hg8:(xs.getD q0.toNat 0)=e8 at he8 hF ⊢
    refine Ok.o (OpOk.s (v:=.int .u8 (e8.toNat:Int)) (Yields.ix (k:=.i64) (i:=q0) (s:=xs) (b:=e8) kr kr underlying9 h08 he8) rfl rfl (Ok.b 6 [0,4,7,8] [(6,iv (if 1000000000<(w6 (x0+(w6 (j0 * (w6 (IntKind.wrap .u8 ((e8.toNat:Int) - 48))))))) then 1000000000 else (w6 (x0+(w6 (j0 * (w6 (IntKind.wrap .u8 ((e8.toNat:Int) - 48)))))))))] ?_))
    refine Ok.nt (Ok.sr (Ok.b 3 [0,4,6,7] [(8,iv (w6 (Int.tdiv j0 10)))] ?_))
    refine Ok.nt (Ok.sr (Ok.b 3 [0,4,6,8] [(7,iv (w6 (s0+1)))] ?_))
    refine Ok.nt (Ok.r (Ok.b 3 [0,6,7,8] [(4,iv (w6 (q0+1)))] ?_))
    refine Ok.j (Ok.kn (Ok.t ?_))
    subst hg8
    exact fun _ _ u v=>⟨k41,nl,T0,J0.trans W0,w6 (q0+1),(if 1000000000<(w6 (x0+(w6 (j0 * (w6 (IntKind.wrap .u8 (((xs.getD q0.toNat 0).toNat:Int) - 48))))))) then 1000000000 else (w6 (x0+(w6 (j0 * (w6 (IntKind.wrap .u8 (((xs.getD q0.toNat 0).toNat:Int) - 48)))))))),w6 (s0+1),w6 (Int.tdiv j0 10),fA u v hF⟩
   refine Ok.x (Ok.thenE (Ok.thenE (Ok.blockHit (Ok.t ?_))))
   exact fun _ _ u v=>⟨T0,((U0.trans J0).trans W0),q0,x0,s0,fA u v hF⟩
  refine Ok.k (Ok.t ?_)
  exact fun _ _ u v=>⟨Q0,U0,v0,(if 1000000000<(w6 (1000 * k0)) then 1000000000 else (w6 (1000 * k0))),w6 (v0 - (rnumV0 xs)),fA u v hF⟩
 clear hF
 rintro _ _ ⟨m0,X0,b0,u0,c0,q⟩
 refine jn (fun hF=>?_) _ _ q
 refine Ok.q (Ok.sr (Ok.b 2 [0,4,6] [(92,.bool (c0==0))] ?_))
 refine Ok.nt (Ok.cw hF (fun hc3 hF=>?_) (fun hc3 hF=>?_))
 ·refine Ok.sr (Ok.B 2 [(2,iv 0),(3,iv 0)] kr (Ok.nt (Ok.ret (Ok.tr ?_))))
  exact Ok.resH (vs:=[iv 0,iv 0]) (.inl rfl) rfl (.cons (.tmp rfl) (.cons (.tmp rfl) .nil)) (((N0.trans a0).trans i0).trans X0) ⟨0,0,rfl,rfl,hF⟩
 refine Ok.k (Ok.t (Ok.cg m0 [(4,iv b0),(6,iv (rnumV7 xs u0))] [] (rnumj65 xs K b0 u0) ?_ (fun gj65 hxj65 hF=>?_)))
 ·
  refine Ok.sr (Ok.b 1 [4,6] [(93,sv xs)] ?_)
  obtain ⟨h04,h14,hF⟩:=hF
  have he4:=get_of (l:=xs) (0:UInt8) h14
  generalize hg4:(xs.getD (Int.toNat 0) 0)=e4 at he4 hF ⊢
  refine Ok.o (OpOk.s (v:=.int .u8 (e4.toNat:Int)) (Yields.ix (k:=.i64) (i:=0) (s:=xs) (b:=e4) kr kr underlying9 h04 he4) rfl rfl (Ok.b 1 [4,6] [(95,.bool ((e4.toNat:Int)==45))] ?_))
  refine Ok.nt (Ok.cn hF rfl (fun hc5=>?_) (fun hc5=>?_))
  ·replace hF:=hF.1 hc5
   refine Ok.r (Ok.b 3 [4] [(6,iv (w6 (0 - u0)))] ?_)
   refine Ok.j (Ok.t ?_)
   subst hg4
   refine Ok.v 6 rfl (show (iv (w6 (0 - u0)):Value)=iv (rnumV7 xs u0) from congrArg (Value.int .i64) ((if_t hc5).symm)) ?_
   exact fg hF
  replace hF:=hF.2 hc5
  refine Ok.k (Ok.t ?_)
  subst hg4
  refine Ok.v 6 rfl (show (iv u0:Value)=iv (rnumV7 xs u0) from congrArg (Value.int .i64) ((if_f hc5).symm)) ?_
  exact fg hF
 refine Ok.sr (Ok.B 4 [(2,iv (rnumV7 xs u0)),(3,iv b0)] kr (Ok.nt (Ok.ret ?_)))
 exact Ok.resH (vs:=[iv (rnumV7 xs u0),iv b0]) (.inl rfl) rfl (.cons (.tmp rfl) (.cons (.tmp rfl) .nil)) ((((N0.trans a0).trans i0).trans X0).trans hxj65) ⟨rnumV7 xs u0,b0,rfl,rfl,hF⟩
theorem hp_single (s:Bs) (i:Nat) (c:UInt8):hpM (s.drop i) [c]=(decide (i<s.length)&&s.getD i 0==c):=by
 by_cases h:i<s.length
 ·rw [drop_get (0:UInt8) h,decide_eq_true h,Bool.true_and]
  unfold hpM slhpM slhpj3M
  rw [decide_eq_true (by simp; omega),Bool.true_and]
  show ([s.getD i 0]==[c])=_
  cases he:s.getD i 0==c <;> simp_all
 rw [List.drop_of_length_le om,decide_eq_false h]; rfl
theorem dig_in (c:UInt8):([48,49,50,51,52,53,54,55,56,57]:Bs).contains c=rdigM (c.toNat:Int):=by
 have:=byte_all (p:=fun c=>([48,49,50,51,52,53,54,55,56,57]:Bs).contains c==rdigM (c.toNat:Int)) dk c
 simpa using this
theorem digN_cons (c:UInt8) (r:Bs):digN (c::r)=if rdigM (c.toNat:Int)=true then digN r+1 else 0:=by
 have h:=tlS_len r [48,49,50,51,52,53,54,55,56,57]
 unfold digN
 have e:tlS (c::r) [48,49,50,51,52,53,54,55,56,57]=if rdigM (c.toNat:Int)=true then tlS r [48,49,50,51,52,53,54,55,56,57] else c::r:=by
  unfold tlS
  rw [List.dropWhile_cons,dig_in]
 rw [e]
 split
 ·simp only [List.length_cons]; omega
 omega
theorem digN_at (s:Bs) (i:Nat):digN (s.drop i)=if (decide (i<s.length)&&rdigM ((s.getD i 0).toNat:Int))=true then digN (s.drop (i+1))+1 else 0:=by
 by_cases h:i<s.length
 ·rw [drop_get (0:UInt8) h,digN_cons,decide_eq_true h,Bool.true_and]
 rw [List.drop_of_length_le om,if_f (by rw [decide_eq_false h]; rfl)]; rfl
def sgN (xs:Bs):Nat:=(numbV1 xs).toNat
def eN (xs:Bs):Nat:=sgN xs+digN (xs.drop (sgN xs))
def bN (xs:Bs):Nat:=if (decide (eN xs<xs.length)&&xs.getD (eN xs) 0==46)=true then digN (xs.drop (eN xs+1)) else 0
theorem v1_nat (xs:Bs):numbV1 xs=(sgN xs:Int):=by
 have:=v1_ok xs
 unfold sgN; omega
theorem sg_eq (xs:Bs):rnumV0 xs=(sgN xs:Int):=by
 rw [← v1_nat]
 unfold rnumV0 numbV1 numbV0
 cases xs with
 | nil=>rfl
 | cons c r =>
  have e:ratM (c::r) 0=(c.toNat:Int):=rat_nat (c::r) 0
  rw [e]; rfl
theorem e_eq {xs:Bs} (h:nameP xs):w6 ((numbV1 xs)+(digitsM (xs.drop (Int.toNat (numbV1 xs)))))=(eN xs:Int)∧eN xs≤xs.length:=by
 have h1:=v1_ok xs
 have h2:=digN_le (xs.drop (numbV1 xs).toNat)
 rw [digits_eq (nameP_drop h _)]
 rw [List.length_drop] at h2
 unfold nameP at h
 unfold eN sgN
 rw [w64 om]
 omega
theorem b_eq {xs:Bs} (h:nameP xs):numbV2 xs=(bN xs:Int)∧eN xs+bN xs≤xs.length∧(0<bN xs→eN xs+1+bN xs≤xs.length):=by
 have he:=e_eq h
 have h2:=digN_le (xs.drop (eN xs+1))
 rw [List.length_drop] at h2
 unfold numbV2 bN
 rw [he.1,tnc,hp_single,List.drop_drop,show eN xs+Int.toNat 1=eN xs+1 from rfl,digits_eq (nameP_drop h _)]
 split
 ·rename_i hc
  rw [Bool.and_eq_true] at hc
  have:=of_decide_eq_true hc.1
  omega
 omega
theorem sg_le (xs:Bs):sgN xs≤xs.length:=by
 have:=v1_ok xs
 unfold sgN; omega
theorem w8_dig {c:Int} (h:rdigM c=true):w6 (IntKind.wrap .u8 (c - 48))=c - 48∧0≤c - 48∧c - 48≤9:=by
 unfold rdigM at h
 simp at h
 rw [IntWalk.u8_in _ om,w64 om]
 omega
theorem step_dig {n c:Int} (hn:0≤n∧n≤1000000000) (h:rdigM c=true):stepN n c=min (10 * n+(c - 48)) 1000000000:=by
 have:=w8_dig h
 unfold stepN
 rw [this.1,w64 (x:=10 * n) om,w64 om]
 split <;> omega
/-- the digits of a number -/
theorem numB_eq {xs:Bs} (h:nameP xs):numB xs=intsOf ((xs.take (eN xs)).drop (sgN xs)):=by
 unfold numB
 rw [(e_eq h).1,v1_nat,tnc,tnc]
theorem num_l1 (xs:Bs) (hP:nameP xs) (K:Int→Int→Prop):∀ (k i:Nat) (n:Int),i+k=eN xs→sgN xs≤i→digN (xs.drop i)=k→0≤n∧n≤1000000000 →
  (∀ m,0≤m∧m≤1000000000→(intsOf ((xs.take (eN xs)).drop i)).foldl stepN n=m→rnumj33 xs K (eN xs:Int) m)→rnuml17 xs K (k+1) (i:Int) n:=by
 have he:=(e_eq hP).2
 have hP':=hP
 unfold nameP at hP
 intro k
 induction k with
 | zero =>
  intro i n h1 h2 h3 hn hK
  have h33:rnumj33 xs K (i:Int) n:=by
   have:=hK n hn (by rw [List.drop_of_length_le (by simp; omega)]; rfl)
   rwa [show eN xs=i by omega] at this
  have hv:rnumV2 xs (i:Int)=false:=by
   unfold rnumV2
   rw [tnc]
   rw [digN_at] at h3
   split at h3
   ·omega
   rename_i hc
   rw [Bool.not_eq_true] at hc
   rw [show decide ((i:Int)<(xs.length:Int))=decide (i<xs.length) from decide_eq_decide.2 om]
   exact hc
  have j19:rnumj19 xs K (i:Int) n (rnuml17 xs K 0):=by
   refine ⟨(fun h=>by rw [hv] at h; cases h),fun _=>⟨rpl_nat hP' om,fun h=>?_,fun _=>h33⟩⟩
   rw [Bool.and_eq_true] at h
   have:=of_decide_eq_true h.2
   rw [w64 om] at this ⊢
   exact ⟨by omega,by omega,h33⟩
  exact ⟨fun h=>⟨by omega,od h,j19⟩,fun _=>j19⟩
 | succ k ih =>
  intro i n h1 h2 h3 hn hK
  rw [digN_at] at h3
  split at h3
  ·rename_i hc
   have hc':=hc
   rw [Bool.and_eq_true] at hc
   have hi:=of_decide_eq_true hc.1
   have hv:rnumV2 xs (i:Int)=true:=by
    unfold rnumV2
    rw [tnc,show decide ((i:Int)<(xs.length:Int))=decide (i<xs.length) from decide_eq_decide.2 om]
    exact hc'
   have j19:rnumj19 xs K (i:Int) n (rnuml17 xs K (k+1)):=by
    refine ⟨fun _=>⟨by omega,by omega,?_⟩,(fun h=>by rw [hv] at h; cases h)⟩
    rw [w64 (x:=(i:Int)+1) om,tnc]
    refine ih (i+1) (stepN n ((xs.getD i 0).toNat:Int)) om om om ?_ fun m hm e=>hK m hm ?_
    ·rw [step_dig hn hc.2]
     have:=w8_dig hc.2
     omega
    have hd:(xs.take (eN xs)).drop i=xs.getD i 0::(xs.take (eN xs)).drop (i+1):=by
     rw [drop_get (l:=xs.take (eN xs)) (0:UInt8) (by simp; omega)]
     congr 1
     rw [List.getD_eq_getElem?_getD,List.getD_eq_getElem?_getD,List.getElem?_take_of_lt om]
    rw [hd]
    exact e
   exact ⟨fun h=>⟨by omega,by omega,j19⟩,fun _=>j19⟩
  omega
/-- digits behind the point -/
def fD (xs:Bs) (j:Nat):Int:=if j<bN xs then ((xs.getD (eN xs+1+j) 0).toNat:Int) - 48 else 0
def qN (xs:Bs) (n:Int):Nat→Int
 | 0=>min (1000 * n) 1000000000
 | 1=>min (min (1000 * n) 1000000000+100 * fD xs 0) 1000000000
 | 2=>min (min (min (1000 * n) 1000000000+100 * fD xs 0) 1000000000+10 * fD xs 1) 1000000000
 | _+3=>min (min (min (min (1000 * n) 1000000000+100 * fD xs 0) 1000000000+10 * fD xs 1) 1000000000+fD xs 2) 1000000000
def uN:Nat→Int
 | 0=>100
 | 1=>10
 | 2=>1
 | _+3=>0
theorem uN_div (j:Nat):Int.tdiv (uN j) 10=uN (j+1):=by
 match j with
 | 0=>rfl
 | 1=>rfl
 | 2=>rfl
 | _+3=>rfl
theorem frac_dig {xs:Bs}:∀ (j i:Nat),j<digN (xs.drop i)→rdigM ((xs.getD (i+j) 0).toNat:Int)=true:=by
 intro j
 induction j with
 | zero =>
  intro i h
  rw [digN_at] at h
  split at h
  ·rename_i hc; rw [Bool.and_eq_true] at hc; exact hc.2
  omega
 | succ j ih =>
  intro i h
  rw [digN_at] at h
  split at h
  ·have:=ih (i+1) om
   rwa [show i+1+j=i+(j+1) by omega] at this
  omega
theorem frac_ok {xs:Bs} {j:Nat} (h:j<bN xs):rdigM ((xs.getD (eN xs+1+j) 0).toNat:Int)=true:=by
 unfold bN at h
 split at h
 ·exact frac_dig j _ h
 omega
theorem fD_ok (xs:Bs) (j:Nat):0≤fD xs j∧fD xs j≤9:=by
 unfold fD
 split
 ·rename_i h
  have:=w8_dig (frac_ok h)
  omega
 omega
theorem qN_step {xs:Bs} {n:Int} (hn:0≤n∧n≤1000000000) (j:Nat):qN xs n (j+1)=min (qN xs n j+uN j * fD xs j) 1000000000:=by
 have h0:=fD_ok xs 0
 have h1:=fD_ok xs 1
 have h2:=fD_ok xs 2
 match j with
 | 0=>rfl
 | 1=>rfl
 | 2=>simp only [qN,uN]; omega
 | j+3=>simp only [qN,uN]; omega
theorem qN_le {xs:Bs} {n:Int} (hn:0≤n∧n≤1000000000) (j:Nat):0≤qN xs n j∧qN xs n j≤1000000000:=by
 have h0:=fD_ok xs 0
 have h1:=fD_ok xs 1
 have h2:=fD_ok xs 2
 match j with
 | 0=>simp only [qN]; omega
 | 1=>simp only [qN]; omega
 | 2=>simp only [qN]; omega
 | j+3=>simp only [qN]; omega
theorem qN_end {xs:Bs} {n:Int} (hn:0≤n∧n≤1000000000):qN xs n (bN xs)=qN xs n 3:=by
 have key:∀ j,bN xs≤j→fD xs j=0:=fun j h=>if_neg om
 have hs:=fun j=>qN_step (xs:=xs) hn j
 have hle:=fun j=>qN_le (xs:=xs) hn j
 match hb:bN xs with
 | 0 =>
  have a:qN xs n 1=_:=hs 0; have b:qN xs n 2=_:=hs 1; have c:qN xs n 3=_:=hs 2
  rw [key 0 om] at a; rw [key 1 om] at b; rw [key 2 om] at c
  have:=hle 0; have:=hle 1; have:=hle 2
  simp only [uN] at a b c
  omega
 | 1 =>
  have b:qN xs n 2=_:=hs 1; have c:qN xs n 3=_:=hs 2
  rw [key 1 om] at b; rw [key 2 om] at c
  have:=hle 1; have:=hle 2
  simp only [uN] at b c
  omega
 | 2 =>
  have c:qN xs n 3=_:=hs 2
  rw [key 2 om] at c
  have:=hle 2
  simp only [uN] at c
  omega
 | _+3=>rfl
theorem num_l2 (xs:Bs) (hP:nameP xs) (K:Int→Int→Prop) (n:Int) (hn:0≤n∧n≤1000000000) (hb:0<bN xs) (hK:rnumj32 xs K ((eN xs+1+bN xs:Nat):Int) (qN xs n (bN xs)) ((eN xs - sgN xs+bN xs:Nat):Int)) :
  ∀ (k j:Nat),j+k=bN xs→rnuml41 xs K (k+1) ((eN xs+1+j:Nat):Int) (qN xs n j) ((eN xs - sgN xs+j:Nat):Int) (uN j):=by
 have he:=(b_eq hP).2.2 hb
 have hd:digN (xs.drop (eN xs+1))=bN xs:=by
  have:bN xs=if (decide (eN xs<xs.length)&&xs.getD (eN xs) 0==46)=true then digN (xs.drop (eN xs+1)) else 0:=rfl
  split at this
  ·exact this.symm
  omega
 have hdd:∀ j,j≤bN xs→digN (xs.drop (eN xs+1+j))=bN xs - j:=by
  intro j
  induction j with
  | zero=>intro _; exact hd
  | succ j ih =>
   intro hj
   have h1:=ih om
   rw [digN_at] at h1
   split at h1
   ·rw [show eN xs+1+(j+1)=eN xs+1+j+1 by omega]; omega
   omega
 unfold nameP at hP
 intro k
 induction k with
 | zero =>
  intro j hj
  obtain rfl:j=bN xs:=by omega
  have h3:=hdd (bN xs) (Nat.le_refl _)
  have hv:rnumV5 xs ((eN xs+1+bN xs:Nat):Int)=false:=by
   unfold rnumV5
   rw [tnc]
   rw [digN_at] at h3
   split at h3
   ·omega
   rename_i hc
   rw [Bool.not_eq_true] at hc
   rw [show decide (((eN xs+1+bN xs:Nat):Int)<(xs.length:Int))=decide (eN xs+1+bN xs<xs.length) from decide_eq_decide.2 om]
   exact hc
  have j43:rnumj43 xs K ((eN xs+1+bN xs:Nat):Int) (qN xs n (bN xs)) ((eN xs - sgN xs+bN xs:Nat):Int) (uN (bN xs)) (rnuml41 xs K 0) :=
   ⟨(fun h=>by rw [hv] at h; cases h),fun _=>hK⟩
  exact ⟨fun h=>⟨by omega,od h,j43⟩,fun _=>j43⟩
 | succ k ih =>
  intro j hj
  have hf:=frac_ok (xs:=xs) (j:=j) om
  have hv:rnumV5 xs ((eN xs+1+j:Nat):Int)=true:=by
   unfold rnumV5
   rw [tnc,hf,Bool.and_true]
   exact decide_eq_true om
  have j43:rnumj43 xs K ((eN xs+1+j:Nat):Int) (qN xs n j) ((eN xs - sgN xs+j:Nat):Int) (uN j) (rnuml41 xs K (k+1)):=by
   refine ⟨fun _=>⟨by omega,by omega,?_⟩,(fun h=>by rw [hv] at h; cases h)⟩
   have h8:=w8_dig hf
   have hq:=qN_le (xs:=xs) hn j
   have hq1:=qN_step (xs:=xs) hn j
   have hu:0≤uN j∧uN j≤100:=by
    match j with
    | 0=>exact ⟨by decide,by decide⟩
    | 1=>exact ⟨by decide,by decide⟩
    | 2=>exact ⟨by decide,by decide⟩
    | _+3=>exact ⟨Int.le_refl 0,by show (0:Int)≤100; decide⟩
   have hfd:fD xs j=((xs.getD (eN xs+1+j) 0).toNat:Int) - 48:=if_pos om
   rw [tnc,h8.1,uN_div,w64 (x:=uN (j+1)) (by
    match j with
    | 0=>exact ⟨by decide,by decide⟩
    | 1=>exact ⟨by decide,by decide⟩
    | _+2=>exact ⟨by show (-9223372036854775808:Int)≤0; decide,by show (0:Int)≤9223372036854775807; decide⟩),w64 (x:=((eN xs+1+j:Nat):Int)+1) om,w64 (x:=((eN xs - sgN xs+j:Nat):Int)+1) om]
   rw [← hfd] at h8 ⊢
   have hm:0≤uN j * fD xs j∧uN j * fD xs j≤900:=by
    refine ⟨Int.mul_nonneg hu.1 h8.2.1,?_⟩
    calc uN j * fD xs j≤100 * 9:=Int.mul_le_mul hu.2 h8.2.2 h8.2.1 dc
     _=900:=rfl
   rw [w64 (x:=uN j * fD xs j) om,w64 om]
   have e:(if 1000000000<qN xs n j+uN j * fD xs j then 1000000000 else qN xs n j+uN j * fD xs j)=qN xs n (j+1):=by
    rw [hq1]; split <;> omega
   rw [e]
   have:=ih (j+1) om
   rw [show ((eN xs+1+j:Nat):Int)+1=((eN xs+1+(j+1):Nat):Int) by omega,show ((eN xs - sgN xs+j:Nat):Int)+1=((eN xs - sgN xs+(j+1):Nat):Int) by omega]
   exact this
  exact ⟨fun h=>⟨by omega,by omega,j43⟩,fun _=>j43⟩
theorem v4_get {xs:Bs} (h:nameP xs):numbV4 xs=if 0<bN xs then (xs.take (eN xs+1+bN xs)).drop (eN xs+1) else []:=by
 have hb:=b_eq h
 unfold nameP at h
 unfold numbV4
 rw [hb.1,(e_eq h).1]
 by_cases h0:0<bN xs
 ·have:=hb.2.2 h0
  rw [if_t (by simpa using h0),if_pos h0,w64 (x:=(eN xs:Int)+1) om,w64 om,show ((eN xs:Int)+1).toNat=eN xs+1 by omega,show ((eN xs:Int)+1+(bN xs:Int)).toNat=eN xs+1+bN xs by omega]
 rw [if_f (by simpa using h0),if_neg h0]
theorem v6_eq {xs:Bs} (h:nameP xs) (j:Nat) (n:Int) (hn:0≤n∧n≤1000000000):numbV6 xs (j:Int) n=min (10 * n+fD xs j) 1000000000:=by
 have hb:=b_eq h
 have hl:(numbV4 xs).length=bN xs:=by
  rw [v4_get h]
  split
  ·rename_i h0
   have:=hb.2.2 h0
   rw [List.length_drop,List.length_take]; omega
  simp; omega
 have key:numbV6 xs (j:Int) n=stepN n (if j<bN xs then ((xs.getD (eN xs+1+j) 0).toNat:Int) else 48):=by
  unfold numbV6
  rw [hl,tnc]
  by_cases hj:j<bN xs
  ·rw [if_t (by simpa using hj),if_pos hj]
   have e:(numbV4 xs).getD j 0=xs.getD (eN xs+1+j) 0:=by
    rw [v4_get h,if_pos om,getD_drop,List.getD_eq_getElem?_getD,List.getD_eq_getElem?_getD,List.getElem?_take_of_lt om]
   rw [e]; rfl
  rw [if_f (by simpa using hj),if_neg hj]; rfl
 rw [key]
 unfold fD
 split
 ·rename_i hj; rw [step_dig hn (frac_ok hj)]
 rw [step_dig hn dc]; rfl
theorem fin_eq {xs:Bs} (h:nameP xs) (n:Int) (hn:0≤n∧n≤1000000000):numbV6 xs 2 (numbV6 xs 1 (numbV6 xs 0 n))=qN xs n 3:=by
 have h0:=fD_ok xs 0
 have h1:=fD_ok xs 1
 have h2:=fD_ok xs 2
 have e0:=v6_eq h 0 n hn
 have e1:=v6_eq h 1 (numbV6 xs 0 n) (by rw [show (0:Int)=((0:Nat):Int) from rfl,e0]; omega)
 have e2:=v6_eq h 2 (numbV6 xs 1 (numbV6 xs 0 n)) (by
  rw [show (1:Int)=((1:Nat):Int) from rfl,e1,show (0:Int)=((0:Nat):Int) from rfl,e0]; omega)
 have e0':numbV6 xs 0 n=_:=e0
 have e1':numbV6 xs 1 (numbV6 xs 0 n)=_:=e1
 have e2':numbV6 xs 2 (numbV6 xs 1 (numbV6 xs 0 n))=_:=e2
 rw [e2',e1',e0']
 simp only [qN]
 omega
theorem rnum_F (xs:Bs) (h:nameP xs):rnumF xs (fun a b=>(a,b)=numS xs):=by
 have he:=e_eq h
 have hb:=b_eq h
 have hsg:=sg_le xs
 have hv1:=v1_nat xs
 have hle:sgN xs≤eN xs:=Nat.le_add_right _ _
 have h':=h
 unfold nameP at h'
 have hdig:digitsM (xs.drop (Int.toNat (numbV1 xs)))=((eN xs - sgN xs:Nat):Int):=by
  rw [digits_eq (nameP_drop h _),hv1,tnc]
  unfold eN; omega
 have hS:numS xs=if eN xs - sgN xs+bN xs=0 then (0,0) else (numbV9 xs (qN xs ((intsOf ((xs.take (eN xs)).drop (sgN xs))).foldl stepN 0) 3),((if 0<bN xs then eN xs+1+bN xs else eN xs:Nat):Int)):=by
  unfold numS
  rw [hdig,hb.1,w64 om,numB_eq h]
  by_cases h0:eN xs - sgN xs+bN xs=0
  ·rw [if_t (by simp; omega),if_pos h0]
  rw [if_f (by simp; omega),if_neg h0]
  have hm:∀ (l:List Int) (n:Int),(∀ c ∈ l,rdigM c=true)→0≤n∧n≤1000000000→0≤l.foldl stepN n∧l.foldl stepN n≤1000000000:=by
   intro l
   induction l with
   | nil=>intro n _ hn; exact hn
   | cons c l ih =>
    intro n hl hn
    refine ih _ (fun c hc=>hl c (List.mem_cons_of_mem _ hc)) ?_
    rw [step_dig hn (hl c (List.mem_cons_self ..))]
    have:=w8_dig (hl c (List.mem_cons_self ..))
    omega
  rw [fin_eq h _ (hm _ _ (fun c hc=>?_) om)]
  ·congr 1
   unfold numbV3
   rw [hb.1,he.1]
   by_cases hb0:0<bN xs
   ·have:=hb.2.2 hb0
    rw [if_t (by simpa using hb0),if_pos hb0,w64 (x:=1+(bN xs:Int)) om,w64 om]
    omega
   rw [if_f (by simpa using hb0),if_neg hb0]
  unfold intsOf at hc
  obtain ⟨b,hb1,rfl⟩:=List.mem_map.1 hc
  obtain ⟨j,hj⟩:=List.mem_iff_getElem?.1 hb1
  have hlt:=(List.getElem?_eq_some_iff.1 hj).1
  rw [List.length_drop,List.length_take] at hlt
  rw [List.getElem?_drop,List.getElem?_take_of_lt om] at hj
  have e:xs.getD (sgN xs+j) 0=b:=by rw [List.getD_eq_getElem?_getD,hj]; rfl
  rw [← e]
  exact frac_dig j (sgN xs) (by unfold eN at hlt; omega)
 have j32:∀ n,n=qN xs ((intsOf ((xs.take (eN xs)).drop (sgN xs))).foldl stepN 0) 3→rnumj32 xs (fun a b=>(a,b)=numS xs) ((if 0<bN xs then eN xs+1+bN xs else eN xs:Nat):Int) n ((eN xs - sgN xs+bN xs:Nat):Int):=by
  intro n hn
  refine ⟨fun hc=>?_,fun hc=>?_⟩
  ·rw [hS,if_pos (by simp at hc; omega)]
  have h0:¬ eN xs - sgN xs+bN xs=0:=by simp at hc; omega
  have key:rnumj65 xs (fun a b=>(a,b)=numS xs) ((if 0<bN xs then eN xs+1+bN xs else eN xs:Nat):Int) n:=by
   unfold rnumj65
   rw [hS,if_neg h0,hn]; rfl
  exact ⟨by omega,by omega,fun _=>key,fun _=>key⟩
 have j33:∀ m,0≤m∧m≤1000000000→(intsOf ((xs.take (eN xs)).drop (sgN xs))).foldl stepN 0=m→rnumj33 xs (fun a b=>(a,b)=numS xs) (eN xs:Int) m:=by
  intro m hm hf
  unfold rnumj33
  rw [sg_eq,w64 (x:=(eN xs:Int) - (sgN xs:Int)) om,w64 (x:=1000 * m) om,w64 (x:=(eN xs:Int)+1) om]
  have eq0:(if 1000000000<1000 * m then 1000000000 else 1000 * m)=qN xs m 0:=by
   simp only [qN]; split <;> omega
  rw [eq0,show (eN xs:Int) - (sgN xs:Int)=((eN xs - sgN xs:Nat):Int) by omega]
  have hV3:rnumV3 xs (eN xs:Int)=decide (0<bN xs):=by
   unfold rnumV3
   rw [rat_nat,w64 om,show ((eN xs:Int)+1).toNat=eN xs+1 by omega]
   have e46:(((xs.getD (eN xs) 0).toNat:Int)==46)=(xs.getD (eN xs) 0==46):=byte_beq (xs.getD (eN xs) 0) 46
   rw [e46]
   unfold bN
   rw [digN_at]
   by_cases h1:eN xs<xs.length
   ·rw [decide_eq_true h1,Bool.true_and]
    cases h2:xs.getD (eN xs) 0==46
    ·simp
    rw [if_t rfl,Bool.true_and,show decide ((eN xs:Int)+1<(xs.length:Int))=decide (eN xs+1<xs.length) from decide_eq_decide.2 om]
    cases h3:decide (eN xs+1<xs.length)&&rdigM ((xs.getD (eN xs+1) 0).toNat:Int) <;> simp
   rw [decide_eq_false h1,getD_out om]; simp
  refine ⟨fun hc=>?_,fun hc=>?_⟩
  ·rw [hV3] at hc
   have hb0:=of_decide_eq_true hc
   have hq:=j32 _ rfl
   rw [if_pos hb0,hf,← qN_end hm] at hq
   have:=num_l2 xs h (fun a b=>(a,b)=numS xs) m hm hb0 hq (bN xs) 0 om
   exact ⟨_,this⟩
  rw [hV3] at hc
  have hb0:=of_decide_eq_false hc
  have hq:=j32 _ rfl
  rw [if_neg hb0,hf,← qN_end hm,show bN xs=0 by omega] at hq
  exact hq
 have j5:rnumj5 xs (fun a b=>(a,b)=numS xs):=by
  unfold rnumj5
  rw [sg_eq]
  exact ⟨_,num_l1 xs h _ (eN xs - sgN xs) (sgN xs) 0 om om (by unfold eN; omega) om j33⟩
 have j6:rnumj6 xs (fun a b=>(a,b)=numS xs):=⟨fun _=>j5,fun _=>j5⟩
 have r0:rplP xs 0:=⟨h,by omega,by omega⟩
 exact ⟨r0,fun _=>j6,fun _=>⟨r0,j6⟩⟩
theorem rnum_c {g:Ghost} (xs:Bs)  (hp:nameP xs):CallsG prog 189 #[sv xs] g (.tuple #[iv (numS xs).1,iv (numS xs).2]) :=
 (rnum_ok xs _ (rnum_F xs hp)).gives (by rintro g' H' v _ ⟨r0,r1,rfl,rfl,hK⟩; obtain ⟨rfl,rfl⟩:r0=(numS xs).1∧r1=(numS xs).2:=⟨congrArg (fun z=>z.1) hK,congrArg (fun z=>z.2) hK⟩; rfl)
def rtxtV2 (xs:Bs) (z0:Int):Bool :=
 ((decide (z0<(xs.length:Int)))&&((((xs.getD z0.toNat 0).toNat:Int) != 10)&&(((xs.getD z0.toNat 0).toNat:Int) != ((xs.getD (Int.toNat 0) 0).toNat:Int))))
def rtxtV4 (xs:Bs) (z0:Int):Bool :=
 ((decide (z0<(xs.length:Int)))&&(((xs.getD z0.toNat 0).toNat:Int)==((xs.getD (Int.toNat 0) 0).toNat:Int)))
def rtxtV5 (xs:Bs) (z0:Int):Int :=
 (if ((((xs.getD z0.toNat 0).toNat:Int)==92)&&(decide (w6 (z0+1)<(xs.length:Int))))=true then w6 (z0+1) else z0)
def rtxtj17 (xs:Bs) (y0:Bs) (z0:Int) (C9:Bs→Int→Prop):Prop :=
 0≤rtxtV5 xs z0∧((rtxtV5 xs z0):Int)≤(w6 ((rtxtV5 xs z0)+1))∧(w6 ((rtxtV5 xs z0)+1))≤(xs.length:Int)∧y0.length+((xs.take (Int.toNat (w6 ((rtxtV5 xs z0)+1)))).drop (Int.toNat (rtxtV5 xs z0))).length≤maxLen∧C9 (y0++((xs.take (Int.toNat (w6 ((rtxtV5 xs z0)+1)))).drop (Int.toNat (rtxtV5 xs z0)))) (w6 ((rtxtV5 xs z0)+1))
def rtxtj27 (xs:Bs) (K:KT→Prop) (y0:Bs) (z0:Int):Prop :=
 (rtxtV4 xs z0=true→(0:Int)≤0∧0≤w6 (z0+1)∧w6 (z0+1)≤(xs.length:Int)∧K (5,xs.take (Int.toNat (w6 (z0+1))),y0,0))∧(rtxtV4 xs z0=false→(0:Int)≤0∧0≤z0∧z0≤(xs.length:Int)∧K (6,xs.take z0.toNat,([]:Bs),0))
def rtxtj11 (xs:Bs) (K:KT→Prop) (y0:Bs) (z0:Int) (C9:Bs→Int→Prop):Prop :=
 (rtxtV2 xs z0=true→0≤z0∧z0.toNat<xs.length∧(((((xs.getD z0.toNat 0).toNat:Int)==92)&&(decide (w6 (z0+1)<(xs.length:Int))))=true→rtxtj17 xs y0 z0 C9)∧(((((xs.getD z0.toNat 0).toNat:Int)==92)&&(decide (w6 (z0+1)<(xs.length:Int))))=false→rtxtj17 xs y0 z0 C9))∧(rtxtV2 xs z0=false→((decide (z0<(xs.length:Int)))=true→0≤z0∧z0.toNat<xs.length∧(0:Int)≤0∧Int.toNat 0<xs.length∧rtxtj27 xs K y0 z0)∧((decide (z0<(xs.length:Int)))=false→rtxtj27 xs K y0 z0))
def rtxtl9b (xs:Bs) (K:KT→Prop) (y0:Bs) (z0:Int) (C9:Bs→Int→Prop):Prop :=
 ((decide (z0<(xs.length:Int)))=true→0≤z0∧z0.toNat<xs.length∧((((xs.getD z0.toNat 0).toNat:Int) != 10)=true→(0:Int)≤0∧Int.toNat 0<xs.length∧rtxtj11 xs K y0 z0 C9)∧((((xs.getD z0.toNat 0).toNat:Int) != 10)=false→rtxtj11 xs K y0 z0 C9))∧((decide (z0<(xs.length:Int)))=false→rtxtj11 xs K y0 z0 C9)
def rtxtl9 (xs:Bs) (K:KT→Prop):Nat→Bs→Int→Prop
 | 0,_,_=>False
 | k+1,y0,z0=>rtxtl9b xs K y0 z0 (rtxtl9 xs K k)
def rtxtF (xs:Bs) (K:KT→Prop):Prop :=
 ∃ k,rtxtl9 xs K k ([]:Bs) 1
theorem rtxt_ok {g:Ghost} (xs:Bs) (K:KT→Prop)
  (hF:rtxtF xs K):CallsH prog 188 #[sv xs] g [] (fun g' H' v=>∃ (r0:Int×Bs×Bs×Int),v=.agg (aK r0)∧H'=[]∧K r0):=by
 refine CallsH.en 67 func188 rfl fun w0=>?_
 refine Ok.sr (Ok.o (OpOk.aw zK fun bs2=>?_))
 refine Ok.nt (Ok.sr (Ok.B 1 [(0,sv xs),(2,pv bs2 0),(3,sv ([]:Bs))] kr (Ok.nt (Ok.sr (Ok.b 1 [0,2,3] [(4,iv 1)] ?_)))))
 refine Ok.nt (Ok.q (Ok.block ?_))
 obtain ⟨k,hF⟩:=hF
 refine Ok.L (fun k a W=>∃ (y0:Bs) (z0:Int),StA 67 [(0,sv xs),(2,pv bs2 0),(3,sv y0),(4,iv z0)] a∧StW w0 [.blk bs2 (.cells zK 98)] g W∧rtxtl9 xs K k y0 z0) k ?_ ?_
 ·
  exact fun _ _ u v=>⟨([]:Bs),1,fA u v hF⟩
 clear hF
 rintro (_ | k9) _ _ ⟨y0,z0,q⟩
 exact (q.2.2:False).elim
 refine jn (fun hF=>?_) _ _ q
 refine Ok.q (Ok.ct [(0,sv xs),(2,pv bs2 0),(3,sv y0),(4,iv z0),(22,.bool (rtxtV2 xs z0))] [.blk bs2 (.cells zK 98)] (rtxtj11 xs K y0 z0 (rtxtl9 xs K k9)) ?_ (fun hF=>?_))
 ·
  refine Ok.quiet' kr kr (OkQ.b 5 [0,2,3,4] [(9,.bool (decide (z0<(xs.length:Int))))] ?_)
  refine OkQ.boolAt 9 (decide (z0<(xs.length:Int))) rfl (fun d0=>?_) (fun d0=>?_)
  ·replace hF:=hF.1 d0
   refine OkQ.b 2 [0,2,3,4] [(9,.bool true),(10,sv xs),(11,iv z0)] ?_
   obtain ⟨K0,G0,hF⟩:=hF
   have t0:=get_of (l:=xs) (0:UInt8) G0
   generalize Y0:(xs.getD z0.toNat 0)=e15 at t0 hF ⊢
   refine OkQ.y (j:=4) (d:=9) (want:=true) (b:=true) rfl kr kr rfl (OpQ.s (v:=.int .u8 (e15.toNat:Int)) (Yields.ix (k:=.i64) (i:=z0) (s:=xs) (b:=e15) kr kr underlying9 K0 t0) rfl rfl (OkQ.b 3 [0,2,3,4] [(15,.bool ((e15.toNat:Int) != 10))] ?_))
   refine OkQ.boolAt 15 ((e15.toNat:Int) != 10) rfl (fun f0=>?_) (fun f0=>?_)
   ·replace hF:=hF.1 f0
    refine OkQ.b 2 [0,2,3,4] [(15,.bool true),(16,sv xs),(17,iv z0)] ?_
    refine OkQ.y (j:=10) (d:=15) (want:=true) (b:=true) rfl kr kr rfl (OpQ.s (v:=.int .u8 (e15.toNat:Int)) (Yields.ix (k:=.i64) (i:=z0) (s:=xs) (b:=e15) kr kr underlying9 K0 t0) rfl rfl (OkQ.b 1 [0,2,3,4,15] [(18,.int .u8 (e15.toNat:Int)),(19,sv xs)] ?_))
    obtain ⟨C0,D0,hF⟩:=hF
    have Z0:=get_of (l:=xs) (0:UInt8) D0
    generalize E0:(xs.getD (Int.toNat 0) 0)=e17 at Z0 hF ⊢
    refine OkQ.y (j:=10) (d:=15) (want:=true) (b:=true) rfl kr kr rfl (OpQ.s (v:=.int .u8 (e17.toNat:Int)) (Yields.ix (k:=.i64) (i:=0) (s:=xs) (b:=e17) kr kr underlying9 C0 Z0) rfl rfl (OkQ.b 2 [0,2,3,4] [(22,.bool ((e15.toNat:Int) != (e17.toNat:Int)))] ?_))
    refine OkQ.j (Ok.t ?_)
    subst E0
    subst Y0
    refine Ok.rb 22 (rtxtV2 xs z0) (Eq.trans (mand_t f0) (mand_t d0)) ?_
    exact fz hF
   replace hF:=hF.2 f0
   refine OkQ.b 7 [0,2,3,4] [(22,.bool false)] ?_
   refine OkQ.j (Ok.t ?_)
   subst Y0
   refine Ok.rb 22 (rtxtV2 xs z0) (Eq.trans (mand_f f0) (mand_t d0)) ?_
   exact fz hF
  replace hF:=hF.2 d0
  refine OkQ.b 13 [0,2,3,4] [(22,.bool false)] ?_
  refine OkQ.j (Ok.t (Ok.rb 22 (rtxtV2 xs z0) (mand_f d0) ?_))
  exact fz hF
 refine Ok.cw hF (fun hc2 hF=>?_) (fun hc2 hF=>?_)
 ·refine Ok.k (Ok.t (Ok.block (Ok.ct [(0,sv xs),(2,pv bs2 0),(3,sv y0),(4,iv (rtxtV5 xs z0))] [.blk bs2 (.cells zK 98)] (rtxtj17 xs y0 z0 (rtxtl9 xs K k9)) ?_ (fun hF=>?_))))
  ·
   refine Ok.sr (Ok.b 2 [0,2,3,4] [(23,sv xs),(24,iv z0)] ?_)
   obtain ⟨h04,h14,hF⟩:=hF
   have he4:=get_of (l:=xs) (0:UInt8) h14
   generalize hg4:(xs.getD z0.toNat 0)=e4 at he4 hF ⊢
   refine Ok.o (OpOk.s (v:=.int .u8 (e4.toNat:Int)) (Yields.ix (k:=.i64) (i:=z0) (s:=xs) (b:=e4) kr kr underlying9 h04 he4) rfl rfl (Ok.b 2 [0,2,3,4] [(27,.bool ((e4.toNat:Int)==92))] ?_))
   refine Ok.w 6 [(0,sv xs),(2,pv bs2 0),(3,sv y0),(4,iv z0),(33,.bool (((e4.toNat:Int)==92)&&(decide (w6 (z0+1)<(xs.length:Int)))))] (fun hR5=>?_) ?_
   ·refine Ok.a 27 ((e4.toNat:Int)==92) rfl (fun hc6=>?_) (fun hc6=>?_)
    ·skip
     refine Ok.b 6 [0,2,3,4] [(33,.bool (decide (w6 (z0+1)<(xs.length:Int))))] ?_
     refine Ok.rb 33 (((e4.toNat:Int)==92)&&(decide (w6 (z0+1)<(xs.length:Int)))) (mand_t hc6) (Ok.b 0 [0,2,3,4] [(33,.bool (((e4.toNat:Int)==92)&&(decide (w6 (z0+1)<(xs.length:Int)))))] ?_)
     exact hR5
    skip
    refine Ok.b 6 [0,2,3,4] [(33,.bool false)] ?_
    refine Ok.rb 33 (((e4.toNat:Int)==92)&&(decide (w6 (z0+1)<(xs.length:Int)))) (mand_f hc6) (Ok.b 0 [0,2,3,4] [(33,.bool (((e4.toNat:Int)==92)&&(decide (w6 (z0+1)<(xs.length:Int)))))] ?_)
    exact hR5
   refine Ok.nt (Ok.cn hF rfl (fun hc7=>?_) (fun hc7=>?_))
   ·replace hF:=hF.1 hc7
    refine Ok.r (Ok.b 3 [0,2,3] [(4,iv (w6 (z0+1)))] ?_)
    refine Ok.j (Ok.t ?_)
    subst hg4
    refine Ok.v 4 rfl (show (iv (w6 (z0+1)):Value)=iv (rtxtV5 xs z0) from congrArg (Value.int .i64) ((if_t hc7).symm)) ?_
    exact fz hF
   replace hF:=hF.2 hc7
   refine Ok.k (Ok.t ?_)
   subst hg4
   refine Ok.v 4 rfl (show (iv z0:Value)=iv (rtxtV5 xs z0) from congrArg (Value.int .i64) ((if_f hc7).symm)) ?_
   exact fz hF
  refine Ok.sr (Ok.b 5 [0,2,4] [(36,sv y0),(37,sv xs),(38,iv (rtxtV5 xs z0)),(40,iv (w6 ((rtxtV5 xs z0)+1)))] ?_)
  obtain ⟨h03,h13,h23,hF⟩:=hF
  refine Ok.o (OpOk.s (Yields.ss (s:=xs) (l:=rtxtV5 xs z0) (h:=(w6 ((rtxtV5 xs z0)+1))) kr underlying9 (.inl ⟨_,_,rfl,rfl⟩) (.inl ⟨_,_,rfl,rfl⟩) h03 h13 h23 ((xs.take (Int.toNat (w6 ((rtxtV5 xs z0)+1)))).drop (Int.toNat (rtxtV5 xs z0))) rfl) rfl rfl ?_)
  obtain ⟨hv,hF⟩:=hF
  refine Ok.o (OpOk.s (v:=sv (y0++((xs.take (Int.toNat (w6 ((rtxtV5 xs z0)+1)))).drop (Int.toNat (rtxtV5 xs z0))))) (Yields.sa rfl rfl hv) rfl rfl (Ok.b 1 [0,2,4] [(3,sv (y0++((xs.take (Int.toNat (w6 ((rtxtV5 xs z0)+1)))).drop (Int.toNat (rtxtV5 xs z0)))))] ?_))
  refine Ok.nt (Ok.r (Ok.b 3 [0,2,3] [(4,iv (w6 ((rtxtV5 xs z0)+1)))] ?_))
  refine Ok.j (Ok.kn (Ok.t ?_))
  exact fun _ _ u v=>⟨k9,nl,y0++((xs.take (Int.toNat (w6 ((rtxtV5 xs z0)+1)))).drop (Int.toNat (rtxtV5 xs z0))),w6 ((rtxtV5 xs z0)+1),fA u v hF⟩
 refine Ok.x (Ok.thenE (Ok.thenE (Ok.blockHit (Ok.t (Ok.q (Ok.ct [(0,sv xs),(2,pv bs2 0),(3,sv y0),(4,iv z0),(56,.bool (rtxtV4 xs z0))] [.blk bs2 (.cells zK 98)] (rtxtj27 xs K y0 z0) ?_ (fun hF=>?_)))))))
 ·
  refine Ok.quiet' kr kr (OkQ.b 5 [0,2,3,4] [(49,.bool (decide (z0<(xs.length:Int))))] ?_)
  refine OkQ.boolAt 49 (decide (z0<(xs.length:Int))) rfl (fun V0=>?_) (fun V0=>?_)
  ·replace hF:=hF.1 V0
   refine OkQ.b 2 [0,2,3,4] [(49,.bool true),(50,sv xs),(51,iv z0)] ?_
   obtain ⟨h012,h112,hF⟩:=hF
   have A0:=get_of (l:=xs) (0:UInt8) h112
   generalize hg12:(xs.getD z0.toNat 0)=e12 at A0 hF ⊢
   refine OkQ.y (j:=4) (d:=49) (want:=true) (b:=true) rfl kr kr rfl (OpQ.s (v:=.int .u8 (e12.toNat:Int)) (Yields.ix (k:=.i64) (i:=z0) (s:=xs) (b:=e12) kr kr underlying9 h012 A0) rfl rfl (OkQ.b 1 [0,2,3,4,49] [(52,.int .u8 (e12.toNat:Int)),(53,sv xs)] ?_))
   obtain ⟨h013,h113,hF⟩:=hF
   have I0:=get_of (l:=xs) (0:UInt8) h113
   generalize hg13:(xs.getD (Int.toNat 0) 0)=e13 at I0 hF ⊢
   refine OkQ.y (j:=4) (d:=49) (want:=true) (b:=true) rfl kr kr rfl (OpQ.s (v:=.int .u8 (e13.toNat:Int)) (Yields.ix (k:=.i64) (i:=0) (s:=xs) (b:=e13) kr kr underlying9 h013 I0) rfl rfl (OkQ.b 2 [0,2,3,4] [(56,.bool ((e12.toNat:Int)==(e13.toNat:Int)))] ?_))
   refine OkQ.j (Ok.t ?_)
   subst hg13
   subst hg12
   refine Ok.rb 56 (rtxtV4 xs z0) (mand_t V0) ?_
   exact fz hF
  replace hF:=hF.2 V0
  refine OkQ.b 7 [0,2,3,4] [(56,.bool false)] ?_
  refine OkQ.j (Ok.t (Ok.rb 56 (rtxtV4 xs z0) (mand_f V0) ?_))
  exact fz hF
 refine Ok.cw hF (fun hc8 hF=>?_) (fun hc8 hF=>?_)
 ·refine Ok.sr (Ok.b 3 [2,3] [(57,sv xs),(59,iv (w6 (z0+1)))] ?_)
  obtain ⟨h09,h19,h29,hF⟩:=hF
  refine Ok.o (OpOk.s (Yields.ss (s:=xs) (l:=0) (h:=w6 (z0+1)) kr underlying9 (.inr ⟨rfl,rfl⟩) (.inl ⟨_,_,rfl,rfl⟩) h09 h19 h29 (xs.take (Int.toNat (w6 (z0+1)))) (by simp)) rfl rfl (Ok.b 2 [2] [(62,.agg #[iv 5,sv (xs.take (Int.toNat (w6 (z0+1)))),sv y0,iv 0])] ?_))
  refine Ok.o (OpOk.sw 0 #[iv 5,sv (xs.take (Int.toNat (w6 (z0+1)))),sv y0,iv 0] rfl rfl rfl ?_)
  refine Ok.nt (Ok.ret (Ok.tr ?_))
  exact Ok.p (vs:=[.agg #[iv 5,sv (xs.take (Int.toNat (w6 (z0+1)))),sv y0,iv 0]]) [] [] dc rfl (.inl rfl) rfl (.cons (.cellAgg 0 4 #[iv 5,sv (xs.take (Int.toNat (w6 (z0+1)))),sv y0,iv 0] rfl rfl underlying98 rfl kr kr kr) .nil) (Gext.r w0 g) ⟨(5,xs.take (Int.toNat (w6 (z0+1))),y0,0),rfl,rfl,hF⟩
 refine Ok.k (Ok.t (Ok.sr (Ok.b 2 [2] [(63,sv xs),(64,iv z0)] ?_)))
 obtain ⟨H0,M0,h210,hF⟩:=hF
 refine Ok.o (OpOk.s (Yields.ss (s:=xs) (l:=0) (h:=z0) kr underlying9 (.inr ⟨rfl,rfl⟩) (.inl ⟨_,_,rfl,rfl⟩) H0 M0 h210 (xs.take z0.toNat) (by simp)) rfl rfl (Ok.b 1 [2] [(66,.agg #[iv 6,sv (xs.take z0.toNat),sv ([]:Bs),iv 0])] ?_))
 refine Ok.o (OpOk.sw 0 #[iv 6,sv (xs.take z0.toNat),sv ([]:Bs),iv 0] rfl rfl rfl ?_)
 refine Ok.nt (Ok.ret ?_)
 exact Ok.p (vs:=[.agg #[iv 6,sv (xs.take z0.toNat),sv ([]:Bs),iv 0]]) [] [] dc rfl (.inl rfl) rfl (.cons (.cellAgg 0 4 #[iv 6,sv (xs.take z0.toNat),sv ([]:Bs),iv 0] rfl rfl underlying98 rfl kr kr kr) .nil) (Gext.r w0 g) ⟨(6,xs.take z0.toNat,([]:Bs),0),rfl,rfl,hF⟩
theorem rtxt_loop (xs:Bs) (hP:textP xs) (K:KT→Prop):∀ (k i:Nat) (acc:Bs),xs.length≤i+k→1≤i→i≤xs.length→acc.length≤i →
  K (txR xs (acc++(txN k (xs.getD 0 0) (xs.drop i)).1) (i - 1+(txN k (xs.getD 0 0) (xs.drop i)).2.1) (txN k (xs.getD 0 0) (xs.drop i)).2.2)→rtxtl9 xs K (k+1) acc (i:Int):=by
 obtain ⟨hP,hne⟩:=hP
 have hpos:=List.length_pos_iff.mpr hne
 intro k
 induction k using Nat.strongRecOn with
 | _ k ih =>
 intro i acc h1 h0 h2 h3 hK
 by_cases hi:i<xs.length
 ·obtain ⟨k,rfl⟩:∃ j,k=j+1:=⟨k - 1,by omega⟩
  have hd:=drop_get (l:=xs) (0:UInt8) hi
  have e0:(((xs.getD i 0).toNat:Int)==((xs.getD 0 0).toNat:Int))=(xs.getD i 0==xs.getD 0 0):=byte_beq _ _
  have e10:(((xs.getD i 0).toNat:Int)==10)=(xs.getD i 0==10):=byte_beq (xs.getD i 0) 10
  have e92:(((xs.getD i 0).toNat:Int)==92)=(xs.getD i 0==92):=byte_beq (xs.getD i 0) 92
  have hlt:decide ((i:Int)<(xs.length:Int))=true:=decide_eq_true om
  have j11:rtxtj11 xs K acc (i:Int) (rtxtl9 xs K (k+1)):=by
   unfold rtxtj11 rtxtV2
   rw [tnc,Int.toNat_zero,bne,bne,e0,e10,e92,hlt,Bool.true_and]
   refine ⟨fun hc=>?_,fun hc=>?_⟩
   ·rw [Bool.and_eq_true] at hc
    have hn:xs.getD i 0≠10:=by simpa using hc.1
    have hq:xs.getD i 0≠xs.getD 0 0:=by simpa using hc.2
    have key:rtxtj17 xs acc (i:Int) (rtxtl9 xs K (k+1)):=by
     unfold rtxtj17 rtxtV5
     rw [tnc,e92,w64 (x:=(i:Int)+1) om]
     by_cases hc2:(xs.getD i 0==92&&decide ((i:Int)+1<(xs.length:Int)))=true
     ·rw [if_t hc2]
      rw [Bool.and_eq_true] at hc2
      have h92:xs.getD i 0=92:=by simpa using hc2.1
      have hl2:=of_decide_eq_true hc2.2
      have hd2:=drop_get (l:=xs) (0:UInt8) (show i+1<xs.length by omega)
      rw [hd,hd2,txN_e _ _ _ _ _ hq hn h92] at hK
      rw [w64 om,show ((i:Int)+1+1).toNat=i+1+1 by omega,show ((i:Int)+1).toNat=i+1 by omega,take_drop_one om]
      refine ⟨by omega,by omega,by omega,by rw [maxLen_eq]; simp; omega,?_⟩
      have:=ih k om (i+2) (acc++[xs.getD (i+1) 0]) om om om (by simp; omega) (by
       rw [List.append_assoc,show i+2 - 1+(txN k (xs.getD 0 0) (xs.drop (i+2))).2.1=i - 1+((txN k (xs.getD 0 0) (xs.drop (i+2))).2.1+2) by omega]
       exact hK)
      exact this
     rw [Bool.not_eq_true] at hc2
     rw [if_f hc2]
     have h92:xs.getD i 0≠92∨xs.drop (i+1)=[]:=by
      rw [Bool.and_eq_false_iff] at hc2
      rcases hc2 with hc2 | hc2
      ·exact .inl (by simpa using hc2)
      have:=of_decide_eq_false hc2
      exact .inr (List.drop_of_length_le om)
     rw [hd,txN_c _ _ _ _ hq hn h92] at hK
     rw [w64 om,show ((i:Int)+1).toNat=i+1 by omega,tnc,take_drop_one om]
     refine ⟨by omega,by omega,by omega,by rw [maxLen_eq]; simp; omega,?_⟩
     exact ih k om (i+1) (acc++[xs.getD i 0]) om om om (by simp; omega) (by
      rw [List.append_assoc,show i+1 - 1+(txN k (xs.getD 0 0) (xs.drop (i+1))).2.1=i - 1+((txN k (xs.getD 0 0) (xs.drop (i+1))).2.1+1) by omega]
      exact hK)
    exact ⟨by omega,by omega,fun _=>key,fun _=>key⟩
   have key:rtxtj27 xs K acc (i:Int):=by
    unfold rtxtj27 rtxtV4
    rw [tnc,Int.toNat_zero,e0,hlt,Bool.true_and,w64 om,show ((i:Int)+1).toNat=i+1 by omega]
    refine ⟨fun h=>⟨by omega,by omega,by omega,?_⟩,fun h=>⟨by omega,by omega,by omega,?_⟩⟩
    ·have hq:xs.getD i 0=xs.getD 0 0:=by simpa using h
     rw [hd,hq,txN_q] at hK
     have:K (5,xs.take (i - 1+0+2),acc++[],0):=hK
     rwa [List.append_nil,show i - 1+0+2=i+1 by omega] at this
    have hq:xs.getD i 0≠xs.getD 0 0:=by simpa using h
    have hn:xs.getD i 0=10:=by
     rw [h] at hc
     simpa using hc
    rw [hd,txN_n _ _ _ _ hq hn] at hK
    have:K (6,xs.take (i - 1+0+1),[],0):=hK
    rwa [show i - 1+0+1=i by omega] at this
   exact ⟨fun _=>⟨by omega,by omega,by omega,by omega,key⟩,fun _=>key⟩
  exact ⟨fun _=>⟨by omega,by omega,fun _=>⟨by omega,by omega,j11⟩,fun _=>j11⟩,fun _=>j11⟩
 have hlt:decide ((i:Int)<(xs.length:Int))=false:=decide_eq_false om
 rw [List.drop_of_length_le om] at hK
 have e:∀ q,txN k q []=([],0,2):=fun q=>by cases k <;> rfl
 rw [e] at hK
 have key:rtxtj27 xs K acc (i:Int):=by
  unfold rtxtj27 rtxtV4
  rw [hlt]
  refine ⟨(fun h=>by simp at h),fun _=>⟨by omega,by omega,by omega,?_⟩⟩
  have:K (6,xs,[],0):=hK
  rwa [tnc,List.take_of_length_le om]
 have j11:rtxtj11 xs K acc (i:Int) (rtxtl9 xs K k):=by
  unfold rtxtj11 rtxtV2
  rw [hlt]
  exact ⟨(fun h=>by simp at h),fun _=>⟨(fun h=>by cases h),fun _=>key⟩⟩
 unfold rtxtl9 rtxtl9b
 rw [hlt]
 exact ⟨(fun h=>by cases h),fun _=>j11⟩
theorem rtxt_F (s:Bs) (hp:textP s):rtxtF s (fun r=>r=textS s):=by
 have hpos:=List.length_pos_iff.mpr hp.2
 exact ⟨s.length+1,rtxt_loop s hp (fun r=>r=textS s) s.length 1 [] om om om (by simp) (by simp [textS])⟩
theorem rtxt_c {g:Ghost} (xs:Bs)  (hp:textP xs):CallsG prog 188 #[sv xs] g (.agg (aK (textS xs))) :=
 (rtxt_ok xs _ (rtxt_F xs hp)).gv
end Go.Proofs.YtdapgmigogpdcaaGreatDoor.Tk
