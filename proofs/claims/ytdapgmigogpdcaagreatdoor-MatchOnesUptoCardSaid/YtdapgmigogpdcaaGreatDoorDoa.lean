/- Documents: a node by itself. -/
import Derived.Test.YtdapgmigogpdcaaGreatDoorSto
import Derived.Test.YtdapgmigogpdcaaGreatDoorMor
import Derived.Test.YtdapgmigogpdcaaGreatDoorTri
import Derived.Test.YtdapgmigogpdcaaGreatDoorExi
namespace Go.Proofs.YtdapgmigogpdcaaGreatDoor.Do
open _root_.Go.Proofs.Tryz Go Go.Eng Go.RowKit Ti
set_option linter.unusedVariables false
set_option linter.unusedSimpArgs false
theorem sdDoaa {p:Prop} (h:p:=by first | (show (26:Int)≤39; omega) | (rw [maxLen_eq]; decide) | omega | assumption | exact trivial | (have h0:=List.length_pos_iff.mpr asm; omega) | (simp; omega) | (simp at *; omega)):p:=h
set_option maxHeartbeats 4000000
set_option maxRecDepth 100000
theorem nam_pos {s:Bs} {n:Int} (h:((!(s==([]:Bs)))&&decide ((s.length:Int)≤n))=true):Int.toNat 0<s.length:=by
 rw [Bool.and_eq_true,Bool.not_eq_true',beq_eq_false_iff_ne] at h
 exact List.length_pos_iff.2 h.1
theorem nam_trim {s:Bs} {n:Int} {t:Bs} (h:((!(s==([]:Bs)))&&decide ((s.length:Int)≤n))=true) (hn:n≤1000) (ht:t.length<4294967281∧t.all (fun x=>decide (x.toNat<128))=true):trimP s t:=by
 rw [Bool.and_eq_true,decide_eq_true_eq] at h
 exact ⟨by omega,ht.1,ht.2⟩
abbrev cS:Bs:=[97,98,99,100,101,102,103,104,105,106,107,108,109,110,111,112,113,114,115,116,117,118,119,120,121,122,48,49,50,51,52,53,54,55,56,57,45,95,58]
def dnamj3 (xs:Bs) (xfirst:Bs) (K:Bool→Prop):Prop :=
 K (((!(xs==([]:Bs)))&&(decide ((xs.length:Int)≤40)))&&((decide ((ibS xfirst ((xs.getD (Int.toNat 0) 0).toNat:Int))≥0))&&(trimS xs cS==([]:Bs))))
def dnamF (xs:Bs) (xfirst:Bs) (K:Bool→Prop):Prop :=
 (((!(xs==([]:Bs)))&&(decide ((xs.length:Int)≤40)))=true→(0:Int)≤0∧Int.toNat 0<xs.length∧((decide ((ibS xfirst ((xs.getD (Int.toNat 0) 0).toNat:Int))≥0))=true→trimP xs cS∧dnamj3 xs xfirst K)∧((decide ((ibS xfirst ((xs.getD (Int.toNat 0) 0).toNat:Int))≥0))=false→dnamj3 xs xfirst K))∧(((!(xs==([]:Bs)))&&(decide ((xs.length:Int)≤40)))=false→dnamj3 xs xfirst K)
theorem dnam_ok {g:Ghost} (xs:Bs) (xfirst:Bs) (K:Bool→Prop)
  (hF:dnamF xs xfirst K):CallsH prog 59 #[sv xs,sv xfirst] g [] (fun g' H' v=>∃ (r0:Bool),v=.bool r0∧H'=[]∧K r0):=by
 refine CallsH.en 24 func59 rfl fun w0=>?_
 refine Ok.sr (Ok.B 1 [(0,sv xs),(1,sv xfirst)] kr (Ok.nt (Ok.ct [(4,.bool (((!(xs==([]:Bs)))&&(decide ((xs.length:Int)≤40)))&&((decide ((ibS xfirst ((xs.getD (Int.toNat 0) 0).toNat:Int))≥0))&&(trimS xs cS==([]:Bs)))))] [] (dnamj3 xs xfirst K) ?_ (fun hF=>?_))))
 ·
  refine Ok.r (Ok.rn 3 [] [0,1] [(7,.bool (!(xs==([]:Bs))))] ?_)
  refine Ok.w 4 [(0,sv xs),(1,sv xfirst),(11,.bool ((!(xs==([]:Bs)))&&(decide ((xs.length:Int)≤40))))] (fun hR1=>?_) ?_
  ·refine Ok.a 7 (!(xs==([]:Bs))) rfl (fun hc2=>?_) (fun hc2=>?_)
   ·skip
    refine Ok.b 4 [0,1] [(11,.bool (decide ((xs.length:Int)≤40)))] ?_
    refine Ok.rb 11 ((!(xs==([]:Bs)))&&(decide ((xs.length:Int)≤40))) (mand_t hc2) (Ok.b 0 [0,1] [(11,.bool ((!(xs==([]:Bs)))&&(decide ((xs.length:Int)≤40))))] ?_)
    exact hR1
   skip
   refine Ok.b 4 [0,1] [(11,.bool false)] ?_
   refine Ok.rb 11 ((!(xs==([]:Bs)))&&(decide ((xs.length:Int)≤40))) (mand_f hc2) (Ok.b 0 [0,1] [(11,.bool ((!(xs==([]:Bs)))&&(decide ((xs.length:Int)≤40))))] ?_)
   exact hR1
  refine Ok.b 1 [0,1] [(12,.bool ((!(xs==([]:Bs)))&&(decide ((xs.length:Int)≤40))))] ?_
  refine Ok.bw 12 hF (fun hc3 hF=>?_) (fun hc3 hF=>?_)
  ·refine Ok.b 2 [0] [(12,.bool true),(13,sv xfirst),(14,sv xs)] ?_
   obtain ⟨h04,h14,hF⟩:=hF
   have he4:=get_of (l:=xs) (0:UInt8) h14
   generalize hg4:(xs.getD (Int.toNat 0) 0)=e4 at he4 hF ⊢
   refine Ok.oy (OpOk.s (v:=.int .u8 (e4.toNat:Int)) (Yields.ix (k:=.i64) (i:=0) (s:=xs) (b:=e4) kr kr underlying9 h04 he4) rfl rfl (Ok.rn 4 [.k (ib_c xfirst (e4.toNat:Int))] [0] [(19,.bool (decide (ibS xfirst (e4.toNat:Int)≥0)))] ?_))
   refine Ok.a 19 (decide (ibS xfirst (e4.toNat:Int)≥0)) rfl (fun hc5=>?_) (fun hc5=>?_)
   ·replace hF:=hF.1 hc5
    obtain ⟨hp6,hF⟩:=hF
    refine Ok.rn 5 [.k (trim_c xs cS hp6)] [] [(4,.bool (trimS xs cS==([]:Bs)))] ?_
    refine Ok.j (Ok.t ?_)
    subst hg4
    refine Ok.rb 4 (((!(xs==([]:Bs)))&&(decide ((xs.length:Int)≤40)))&&((decide ((ibS xfirst ((xs.getD (Int.toNat 0) 0).toNat:Int))≥0))&&(trimS xs cS==([]:Bs)))) (Eq.trans (mand_t hc5) (mand_t hc3)) ?_
    exact fz hF
   replace hF:=hF.2 hc5
   refine Ok.B 5 [(4,.bool false)] kr (Ok.j (Ok.t ?_))
   subst hg4
   refine Ok.rb 4 (((!(xs==([]:Bs)))&&(decide ((xs.length:Int)≤40)))&&((decide ((ibS xfirst ((xs.getD (Int.toNat 0) 0).toNat:Int))≥0))&&(trimS xs cS==([]:Bs)))) (Eq.trans (mand_f hc5) (mand_t hc3)) ?_
   exact fz hF
  refine Ok.B 12 [(4,.bool false)] kr (Ok.nt (Ok.rb 4 (((!(xs==([]:Bs)))&&(decide ((xs.length:Int)≤40)))&&((decide ((ibS xfirst ((xs.getD (Int.toNat 0) 0).toNat:Int))≥0))&&(trimS xs cS==([]:Bs)))) (mand_f hc3) ?_))
  exact fz hF
 refine Ok.ret ?_
 exact Ok.pb (((!(xs==([]:Bs)))&&(decide ((xs.length:Int)≤40)))&&((decide ((ibS xfirst ((xs.getD (Int.toNat 0) 0).toNat:Int))≥0))&&(trimS xs cS==([]:Bs)))) hF
def dnamj3M (xs:Bs) (xfirst:Bs):Bool:=(((!(xs==([]:Bs)))&&(decide ((xs.length:Int)≤40)))&&((decide ((ibS xfirst ((xs.getD (Int.toNat 0) 0).toNat:Int))≥0))&&(trimS xs cS==([]:Bs))))
theorem dnamj3_A (xs:Bs) (xfirst:Bs) (P:Bool→Prop) (h:P (dnamj3M xs xfirst)):dnamj3 xs xfirst (fun k0=>P k0):=by
 unfold dnamj3M at h
 unfold dnamj3
 exact h
def dnamM (xs:Bs) (xfirst:Bs):Bool:=(dnamj3M xs xfirst)
theorem dnamF_A (xs:Bs) (xfirst:Bs) (P:Bool→Prop) (h:P (dnamM xs xfirst)):dnamF xs xfirst (fun k0=>P k0):=by
 unfold dnamM at h
 unfold dnamF
 refine ⟨fun hc0=>?_,fun hc0=>?_⟩
 ·skip
  have hd0:=hc0; try simp only [Bool.and_eq_true,Bool.or_eq_true,Bool.and_eq_false_iff,Bool.or_eq_false_iff,Bool.not_eq_true',Bool.not_eq_false',decide_eq_true_eq,decide_eq_false_iff_not,beq_iff_eq,beq_eq_false_iff_ne,ne_eq] at hd0
  refine ⟨?_,?_,?_⟩
  ·first | exact nam_trim asm dc dc | exact nam_pos asm | omega | assumption | exact trivial | (have h0:=List.length_pos_iff.mpr asm; omega) | (simp; omega) | (simp at *; omega)
  ·first | exact nam_trim asm dc dc | exact nam_pos asm | omega | assumption | exact trivial | (have h0:=List.length_pos_iff.mpr asm; omega) | (simp; omega) | (simp at *; omega)
  refine ⟨fun hc1=>?_,fun hc1=>?_⟩
  ·skip
   have hd1:=hc1; try simp only [Bool.and_eq_true,Bool.or_eq_true,Bool.and_eq_false_iff,Bool.or_eq_false_iff,Bool.not_eq_true',Bool.not_eq_false',decide_eq_true_eq,decide_eq_false_iff_not,beq_iff_eq,beq_eq_false_iff_ne,ne_eq] at hd1
   refine ⟨?_,?_⟩
   ·first | exact nam_trim asm dc dc | exact nam_pos asm | omega | assumption | exact trivial | (have h0:=List.length_pos_iff.mpr asm; omega) | (simp; omega) | (simp at *; omega)
   exact dnamj3_A xs xfirst _ h
  skip
  have hd1:=hc1; try simp only [Bool.and_eq_true,Bool.or_eq_true,Bool.and_eq_false_iff,Bool.or_eq_false_iff,Bool.not_eq_true',Bool.not_eq_false',decide_eq_true_eq,decide_eq_false_iff_not,beq_iff_eq,beq_eq_false_iff_ne,ne_eq] at hd1
  exact dnamj3_A xs xfirst _ h
 skip
 have hd0:=hc0; try simp only [Bool.and_eq_true,Bool.or_eq_true,Bool.and_eq_false_iff,Bool.or_eq_false_iff,Bool.not_eq_true',Bool.not_eq_false',decide_eq_true_eq,decide_eq_false_iff_not,beq_iff_eq,beq_eq_false_iff_ne,ne_eq] at hd0
 exact dnamj3_A xs xfirst _ h
theorem dnam_F (xs:Bs) (xfirst:Bs):dnamF xs xfirst (fun k0=>k0=dnamM xs xfirst) :=
 dnamF_A xs xfirst (fun z=>z=dnamM xs xfirst) rfl
theorem dnam_c {g:Ghost} (xs:Bs) (xfirst:Bs)  : CallsG prog 59 #[sv xs,sv xfirst] g (.bool (dnamM xs xfirst)) :=
 (dnam_ok xs xfirst _ (dnam_F xs xfirst)).gv
def dNamF (xs:Bs) (K:Bool→Prop):Prop :=
 (0:Int)≤0∧(0:Int)≤26∧26≤(cS.length:Int)∧K (dnamM xs (cS.take (Int.toNat 26)))
theorem dNam_ok {g:Ghost} (xs:Bs) (K:Bool→Prop)
  (hF:dNamF xs K):CallsH prog 34 #[sv xs] g [] (fun g' H' v=>∃ (r0:Bool),v=.bool r0∧H'=[]∧K r0):=by
 refine CallsH.en 6 func34 rfl fun w0=>?_
 refine Ok.sr (Ok.B 1 [(0,sv xs)] kr (Ok.nt (Ok.sr (Ok.B 1 [(3,sv xs)] kr ?_))))
 obtain ⟨h01,h11,h21,hF⟩:=hF
 refine Ok.o (OpOk.s (Yields.ss (s:=cS) (l:=0) (h:=26) kr underlying9 (.inr ⟨rfl,rfl⟩) (.inl ⟨_,_,rfl,rfl⟩) h01 h11 h21 (cS.take (Int.toNat 26)) (by simp)) rfl rfl (Ok.rn 2 [.k (dnam_c xs (cS.take (Int.toNat 26)))] [] [(2,.bool (dnamM xs (cS.take (Int.toNat 26))))] ?_))
 refine Ok.nt (Ok.ret ?_)
 exact Ok.pb (dnamM xs (cS.take (Int.toNat 26))) hF
def dNamM (xs:Bs):Bool:=(dnamM xs (cS.take (Int.toNat 26)))
theorem dNamF_A (xs:Bs) (P:Bool→Prop) (h:P (dNamM xs)):dNamF xs (fun k0=>P k0):=by
 unfold dNamM at h
 unfold dNamF
 refine ⟨?_,?_,?_,?_⟩
 ·exact sdDoaa
 ·exact sdDoaa
 ·exact sdDoaa
 exact h
theorem dNam_F (xs:Bs):dNamF xs (fun k0=>k0=dNamM xs) :=
 dNamF_A xs (fun z=>z=dNamM xs) rfl
theorem dNam_c {g:Ghost} (xs:Bs)  : CallsG prog 34 #[sv xs] g (.bool (dNamM xs)) :=
 (dNam_ok xs _ (dNam_F xs)).gv
def datnF (xs:Bs) (K:Bool→Prop):Prop :=
 (0:Int)≤0∧(0:Int)≤26∧26≤(cS.length:Int)∧(cS.take (Int.toNat 26)).length+([45,95]:Bs).length≤maxLen∧K (dnamM xs (cS.take (Int.toNat 26)++([45,95]:Bs)))
theorem datn_ok {g:Ghost} (xs:Bs) (K:Bool→Prop)
  (hF:datnF xs K):CallsH prog 60 #[sv xs] g [] (fun g' H' v=>∃ (r0:Bool),v=.bool r0∧H'=[]∧K r0):=by
 refine CallsH.en 7 func60 rfl fun w0=>?_
 refine Ok.sr (Ok.B 1 [(0,sv xs)] kr (Ok.nt (Ok.sr (Ok.B 1 [(3,sv xs)] kr ?_))))
 obtain ⟨h01,h11,h21,hF⟩:=hF
 refine Ok.o (OpOk.s (Yields.ss (s:=cS) (l:=0) (h:=26) kr underlying9 (.inr ⟨rfl,rfl⟩) (.inl ⟨_,_,rfl,rfl⟩) h01 h11 h21 (cS.take (Int.toNat 26)) (by simp)) rfl rfl ?_)
 obtain ⟨hv,hF⟩:=hF
 refine Ok.o (OpOk.s (v:=sv (cS.take (Int.toNat 26)++([45,95]:Bs))) (Yields.sa rfl rfl hv) rfl rfl (Ok.rn 2 [.k (dnam_c xs (cS.take (Int.toNat 26)++([45,95]:Bs)))] [] [(2,.bool (dnamM xs (cS.take (Int.toNat 26)++([45,95]:Bs))))] ?_))
 refine Ok.nt (Ok.ret ?_)
 exact Ok.pb (dnamM xs (cS.take (Int.toNat 26)++([45,95]:Bs))) hF
def datnM (xs:Bs):Bool:=(dnamM xs (cS.take (Int.toNat 26)++([45,95]:Bs)))
theorem datnF_A (xs:Bs) (P:Bool→Prop) (h:P (datnM xs)):datnF xs (fun k0=>P k0):=by
 unfold datnM at h
 unfold datnF
 refine ⟨?_,?_,?_,?_⟩
 ·exact sdDoaa
 ·exact sdDoaa
 ·exact sdDoaa
 refine ⟨?_,?_⟩
 ·exact sdDoaa
 exact h
theorem datn_F (xs:Bs):datnF xs (fun k0=>k0=datnM xs) :=
 datnF_A xs (fun z=>z=datnM xs) rfl
theorem datn_c {g:Ghost} (xs:Bs)  : CallsG prog 60 #[sv xs] g (.bool (datnM xs)) :=
 (datn_ok xs _ (datn_F xs)).gv
def dfcF (xa:Bs×Bs) (x1:Bs) (K:Bool→Prop):Prop :=
 K (xa.1==x1)
theorem dfc_ok {g:Ghost} (xa:Bs×Bs) {bx1 ox1:Nat} (x1:Bs) (C0:PtrTo g (.str) bx1 ox1 x1) (K:Bool→Prop)
  (hF:dfcF xa x1 K):CallsH prog 103 #[.agg #[sv xa.1,sv xa.2],pv bx1 ox1] g [] (fun g' H' v=>∃ (r0:Bool),v=.bool r0∧H'=[]∧K r0):=by
 refine CallsH.en 8 func103 rfl fun w0=>?_
 obtain ⟨csx1,_,Y0,hrx1⟩:=C0
 obtain rfl:=hrx1
 replace Y0:At g bx1 ox1 [sv x1]:=Y0
 refine Ok.sr (Ok.o (OpOk.bx #[sv xa.1,sv xa.2] fun bs2=>?_))
 refine Ok.B 1 [(1,pv bx1 ox1),(2,pv bs2 0)] kr (Ok.nt (Ok.sr (Ok.rn 5 [.e 0,.a 0 Y0] [] [(3,.bool (xa.1==x1))] ?_)))
 refine Ok.nt (Ok.ret ?_)
 exact Ok.pb (xa.1==x1) hF
def dfcM (xa:Bs×Bs) (x1:Bs):Bool:=(xa.1==x1)
theorem dfcF_A (xa:Bs×Bs) (x1:Bs) (P:Bool→Prop) (h:P (dfcM xa x1)):dfcF xa x1 (fun k0=>P k0):=by
 unfold dfcM at h
 unfold dfcF
 exact h
theorem dfc_F (xa:Bs×Bs) (x1:Bs):dfcF xa x1 (fun k0=>k0=dfcM xa x1) :=
 dfcF_A xa x1 (fun z=>z=dfcM xa x1) rfl
theorem dfc_c {g:Ghost} (xa:Bs×Bs) {bx1 ox1:Nat} (x1:Bs) (C0:PtrTo g (.str) bx1 ox1 x1)  : CallsG prog 103 #[.agg #[sv xa.1,sv xa.2],pv bx1 ox1] g (.bool (dfcM xa x1)) :=
 (dfc_ok xa x1 C0 _ (dfc_F xa x1)).gv
def difxl7b (xs:List (Bs×Bs)) (xf:(Bs×Bs)→Bool) (pxf:(Bs×Bs)→Prop) (K:Int→Prop) (b0:Int) (C7:Int→Prop):Prop :=
 ((decide (b0<(xs.length:Int)))=true→0≤b0∧b0.toNat<xs.length∧pxf (xs.getD b0.toNat default)∧((xf (xs.getD b0.toNat default))=true→K b0)∧((xf (xs.getD b0.toNat default))=false→C7 (w6 (b0+1))))∧((decide (b0<(xs.length:Int)))=false→K (-1))
def difxl7 (xs:List (Bs×Bs)) (xf:(Bs×Bs)→Bool) (pxf:(Bs×Bs)→Prop) (K:Int→Prop):Nat→Int→Prop
 | 0,_=>False
 | k+1,b0=>difxl7b xs xf pxf K b0 (difxl7 xs xf pxf K k)
def difxF (xs:List (Bs×Bs)) (xf:(Bs×Bs)→Bool) (pxf:(Bs×Bs)→Prop) (K:Int→Prop):Prop :=
 ∃ k,difxl7 xs xf pxf K k 0
theorem difx_ok {g:Ghost} {axs_0:Option Addr} {cxs_0:Nat} (xs:List (Bs×Bs)) {vxf:Value} (xf:(Bs×Bs)→Bool) (pxf:(Bs×Bs)→Prop) (o0:Rep g (.slice yA) [.slice axs_0 xs.length cxs_0] xs) (hfxf:∀ (y0:Bs×Bs),pxf y0→FnG prog vxf #[.agg #[sv y0.1,sv y0.2]] g (.bool (xf y0))) (K:Int→Prop)
  (hF:difxF xs xf pxf K):CallsH prog 102 #[.slice axs_0 xs.length cxs_0,vxf] g [] (fun g' H' v=>∃ (r0:Int),v=iv r0∧H'=[]∧K r0):=by
 refine CallsH.en 19 func102 rfl fun w0=>?_
 refine Ok.sr (Ok.B 1 [(0,.slice axs_0 xs.length cxs_0),(1,vxf)] kr (Ok.nt (Ok.q (Ok.sr (Ok.b 3 [0,1] [(7,iv (xs.length:Int)),(8,iv 0)] ?_)))))
 refine Ok.nt (Ok.block ?_)
 obtain ⟨k,hF⟩:=hF
 refine Ok.L (fun k a W=>∃ (b0:Int),StA 19 [(0,.slice axs_0 xs.length cxs_0),(1,vxf),(7,iv (xs.length:Int)),(8,iv b0)] a∧StW w0 [] g W∧difxl7 xs xf pxf K k b0) k ?_ ?_
 ·
  exact fun _ _ u v=>⟨0,fA u v hF⟩
 clear hF
 rintro (_ | k7) _ _ ⟨b0,q⟩
 exact (q.2.2:False).elim
 refine jn (fun hF=>?_) _ _ q
 refine Ok.sr (Ok.b 1 [0,1,7,8] [(9,.bool (decide (b0<(xs.length:Int))))] ?_)
 refine Ok.nt (Ok.q (Ok.cw hF (fun hc1 hF=>?_) (fun hc1 hF=>?_)))
 ·refine Ok.k (Ok.t (Ok.q (Ok.block (Ok.sr (Ok.b 2 [0,1,7,8] [(5,iv b0)] ?_)))))
  refine Ok.nt (Ok.sr (Ok.b 3 [0,1,5,7,8] [(11,vxf),(12,.slice axs_0 xs.length cxs_0),(13,iv b0)] ?_))
  obtain ⟨h03,h13,hF⟩:=hF
  have he3:=get_of (l:=xs) default h13
  generalize hg3:(xs.getD b0.toNat default)=e3 at he3 hF ⊢
  refine Ok.o (OpOk.indexRo (e:=.pair (.str) (.str)) rfl rfl underlying45 kr o0 h03 he3 rfl fun q2 o2 cs2 _ D0 hr2=>?_)
  obtain ⟨_,_,rfl,rfl,rfl⟩:=hr2
  replace D0:At g q2 o2 [sv e3.1,sv e3.2]:=D0
  refine Ok.o (OpOk.s (v:=.agg #[sv e3.1,sv e3.2]) (Yields.loadAggRo 0 2 #[sv e3.1,sv e3.2] D0 kr underlying105 rfl kr kr kr) rfl rfl ?_)
  obtain ⟨hq4,hF⟩:=hF
  refine Ok.o (OpOk.apply (args:=#[.agg #[sv e3.1,sv e3.2]]) (v:=.bool (xf e3)) rfl kr kr (hfxf e3 hq4) rfl (Ok.nt (Ok.cn hF rfl (fun hc5=>?_) (fun hc5=>?_))))
  ·replace hF:=hF.1 hc5
   refine Ok.sr (Ok.B 2 [(4,iv b0)] kr (Ok.nt (Ok.ret (Ok.kr (Ok.tr (Ok.tr (Ok.kr (Ok.tr ?_))))))))
   exact Ok.h0 (iv b0) ⟨_,rfl,rfl,hF⟩
  replace hF:=hF.2 hc5
  refine Ok.k (Ok.kn (Ok.t (Ok.r (Ok.b 2 [0,1,7] [(8,iv (w6 (b0+1)))] ?_))))
  refine Ok.j (Ok.t ?_)
  subst hg3
  exact fun _ _ u v=>⟨k7,nl,w6 (b0+1),fA u v hF⟩
 refine Ok.x (Ok.thenE (Ok.thenE (Ok.blockHit (Ok.t (Ok.sr (Ok.B 1 [(4,iv (-1))] kr (Ok.nt (Ok.ret ?_))))))))
 exact Ok.h0 (iv (-1)) ⟨_,rfl,rfl,hF⟩
def idxN {α:Type} (f:α→Bool):List α→Nat→Int
 | [],_=>-1
 | x::l,i=>if f x=true then (i:Int) else idxN f l (i+1)
def difxS (l:List (Bs×Bs)) (f:(Bs×Bs)→Bool):Int:=idxN f l 0
def difxP (l:List (Bs×Bs)) (_:(Bs×Bs)→Bool) (p:(Bs×Bs)→Prop):Prop:=l.length≤1000000∧∀ y,p y
theorem difx_F (l:List (Bs×Bs)) (f:(Bs×Bs)→Bool) (p:(Bs×Bs)→Prop) (hp:difxP l f p):difxF l f p (fun r=>r=difxS l f):=by
 obtain ⟨hl,hp⟩:=hp
 have loop:∀ (k i:Nat),i+k=l.length→difxS l f=idxN f (l.drop i) i→difxl7 l f p (fun r=>r=difxS l f) (k+1) (i:Int):=by
  intro k
  induction k with
  | zero =>
   intro i h h2
   have hn:decide ((i:Int)<(l.length:Int))=false:=decide_eq_false om
   rw [List.drop_of_length_le om] at h2
   exact ⟨fun h=>(Bool.false_ne_true (hn.symm.trans h)).elim,fun _=>h2.symm⟩
  | succ k ih =>
   intro i h h2
   have hn:decide ((i:Int)<(l.length:Int))=true:=decide_eq_true om
   rw [drop_get (l:=l) default om,idxN] at h2
   refine ⟨fun _=>⟨by omega,by rw [tnc]; omega,hp _,fun hc=>?_,fun hc=>?_⟩,fun h=>(Bool.false_ne_true (h.symm.trans hn)).elim⟩
   ·rw [tnc] at hc
    rw [h2,if_t hc]
   rw [tnc] at hc
   rw [if_f hc] at h2
   rw [w64 om]
   exact ih (i+1) om h2
 exact ⟨_,loop l.length 0 om rfl⟩
theorem difx_c {g:Ghost} {axs_0:Option Addr} {cxs_0:Nat} (xs:List (Bs×Bs)) {vxf:Value} (xf:(Bs×Bs)→Bool) (pxf:(Bs×Bs)→Prop) (o0:Rep g (.slice yA) [.slice axs_0 xs.length cxs_0] xs) (hfxf:∀ (y0:Bs×Bs),pxf y0→FnG prog vxf #[.agg #[sv y0.1,sv y0.2]] g (.bool (xf y0)))  (hp:difxP xs xf pxf):CallsG prog 102 #[.slice axs_0 xs.length cxs_0,vxf] g (iv (difxS xs xf)) :=
 (difx_ok xs xf pxf o0 hfxf _ (difx_F xs xf pxf hp)).gv
def dfinP (l:List (Bs×Bs)) (_:Bs):Prop:=l.length≤1000000
def dfinF (xl:List (Bs×Bs)) (xname:Bs) (K:Int→Prop):Prop :=
 difxP xl (fun y0=>dfcM y0 xname) (fun _=>True)∧K (difxS xl (fun y0=>dfcM y0 xname))
theorem dfin_ok {g:Ghost} {x0:Option Addr} {s0:Nat} (xl:List (Bs×Bs)) (xname:Bs) (d0:Rep g (.slice yA) [.slice x0 xl.length s0] xl) (K:Int→Prop)
  (hF:dfinF xl xname K):CallsH prog 61 #[.slice x0 xl.length s0,sv xname] g [] (fun g' H' v=>∃ (r0:Int),v=iv r0∧H'=[]∧K r0):=by
 refine CallsH.en 8 func61 rfl fun w0=>?_
 refine Ok.sr (Ok.o (OpOk.box (v:=sv xname) (cs:=#[sv xname]) rfl kr rfl fun bs3=>?_))
 refine Ok.B 1 [(0,.slice x0 xl.length s0),(3,pv bs3 0)] kr (Ok.nt (Ok.q (Ok.r ?_)))
 obtain ⟨hp2,hF⟩:=hF
 refine Ok.rn 4 [.c (fun W hW=>difx_c (vxf:=.func (.func 103) #[] #[pv bs3 0]) xl (fun y0=>dfcM y0 xname) (fun _=>True) (d0.mono hW.sees) (fun y0 hq=>⟨103,_,fun _=>by kernel_rfl,dfc_c y0 xname ⟨[sv xname],rfl,(hW.seeBlk 0 rfl 0 [sv xname] rfl),rfl⟩⟩) hp2)] [] [(4,iv (difxS xl (fun y0=>dfcM y0 xname)))] ?_
 refine Ok.nt (Ok.ret ?_)
 exact Ok.p0 (iv (difxS xl (fun y0=>dfcM y0 xname))) ⟨_,rfl,rfl,hF⟩
def dfinM (xl:List (Bs×Bs)) (xname:Bs):Int:=(difxS xl (fun y0=>dfcM y0 xname))
theorem dfinF_A (xl:List (Bs×Bs)) (xname:Bs) (hp:dfinP xl xname) (P:Int→Prop) (h:P (dfinM xl xname)):dfinF xl xname (fun k0=>P k0):=by
 unfold dfinM at h
 unfold dfinF
 refine ⟨?_,?_⟩
 ·first | exact ⟨hp,fun _=>trivial⟩ | omega | assumption | exact trivial | (have h0:=List.length_pos_iff.mpr asm; omega) | (simp; omega) | (simp at *; omega)
 exact h
theorem dfin_F (xl:List (Bs×Bs)) (xname:Bs) (hp:dfinP xl xname):dfinF xl xname (fun k0=>k0=dfinM xl xname) :=
 dfinF_A xl xname hp (fun z=>z=dfinM xl xname) rfl
theorem dfin_c {g:Ghost} {x0:Option Addr} {s0:Nat} (xl:List (Bs×Bs)) (xname:Bs) (d0:Rep g (.slice yA) [.slice x0 xl.length s0] xl)  (hp:dfinP xl xname):CallsG prog 61 #[.slice x0 xl.length s0,sv xname] g (iv (dfinM xl xname)) :=
 (dfin_ok xl xname d0 _ (dfin_F xl xname hp)).gv
def dattl15b (xl:List (Bs×Bs)) (K:Int→Prop) (z0:Int) (C15:Int→Prop):Prop :=
 ((decide (z0<(xl.length:Int)))=true→0≤z0∧z0.toNat<xl.length∧((!(datnM (xl.getD z0.toNat default).1))=true→K 3)∧((!(datnM (xl.getD z0.toNat default).1))=false→((decide (((xl.getD z0.toNat default).2.length:Int)>400))=true→K 2)∧((decide (((xl.getD z0.toNat default).2.length:Int)>400))=false→(0:Int)≤0∧0≤z0∧z0≤(xl.length:Int)∧dfinP (xl.take z0.toNat) (xl.getD z0.toNat default).1∧((decide ((dfinM (xl.take z0.toNat) (xl.getD z0.toNat default).1)≥0))=true→K 3)∧((decide ((dfinM (xl.take z0.toNat) (xl.getD z0.toNat default).1)≥0))=false→C15 (w6 (z0+1))))))∧((decide (z0<(xl.length:Int)))=false→K 0)
def dattl15 (xl:List (Bs×Bs)) (K:Int→Prop):Nat→Int→Prop
 | 0,_=>False
 | k+1,z0=>dattl15b xl K z0 (dattl15 xl K k)
def dattF (xl:List (Bs×Bs)) (K:Int→Prop):Prop :=
 ((decide ((xl.length:Int)>12))=true→K 2)∧((decide ((xl.length:Int)>12))=false→∃ k,dattl15 xl K k 0)
theorem datt_ok {g:Ghost} {x0:Option Addr} {s0:Nat} (xl:List (Bs×Bs)) (d0:Rep g (.slice yA) [.slice x0 xl.length s0] xl) (K:Int→Prop)
  (hF:dattF xl K):CallsH prog 35 #[.slice x0 xl.length s0] g [] (fun g' H' v=>∃ (r0:Int),v=iv r0∧H'=[]∧K r0):=by
 refine CallsH.en 34 func35 rfl fun w0=>?_
 refine Ok.sr (Ok.B 1 [(0,.slice x0 xl.length s0)] kr (Ok.nt (Ok.q (Ok.sr (Ok.b 3 [0] [(7,.bool (decide ((xl.length:Int)>12)))] ?_)))))
 refine Ok.nt (Ok.cw hF (fun hc1 hF=>?_) (fun hc1 hF=>?_))
 ·refine Ok.sr (Ok.B 1 [(2,iv 2)] kr (Ok.nt (Ok.ret (Ok.tr ?_))))
  exact Ok.h0 (iv 2) ⟨_,rfl,rfl,hF⟩
 refine Ok.k (Ok.t (Ok.q (Ok.sr (Ok.b 3 [0] [(8,.slice x0 xl.length s0),(9,iv (xl.length:Int)),(10,iv 0)] ?_))))
 refine Ok.nt (Ok.block ?_)
 obtain ⟨k,hF⟩:=hF
 refine Ok.L (fun k a W=>∃ (z0:Int),StA 34 [(0,.slice x0 xl.length s0),(8,.slice x0 xl.length s0),(9,iv (xl.length:Int)),(10,iv z0)] a∧StW w0 [] g W∧dattl15 xl K k z0) k ?_ ?_
 ·
  exact fun _ _ u v=>⟨0,fA u v hF⟩
 clear hF
 rintro (_ | k15) _ _ ⟨z0,q⟩
 exact (q.2.2:False).elim
 refine jn (fun hF=>?_) _ _ q
 refine Ok.sr (Ok.b 1 [0,8,9,10] [(11,.bool (decide (z0<(xl.length:Int))))] ?_)
 refine Ok.nt (Ok.q (Ok.cw hF (fun hc2 hF=>?_) (fun hc2 hF=>?_)))
 ·refine Ok.k (Ok.t (Ok.q (Ok.block (Ok.sr (Ok.b 1 [0,8,9,10] [(12,iv z0)] ?_)))))
  obtain ⟨h04,h14,hF⟩:=hF
  have he4:=get_of (l:=xl) default h14
  generalize hg4:(xl.getD z0.toNat default)=e4 at he4 hF ⊢
  refine Ok.o (OpOk.indexRo (e:=.pair (.str) (.str)) rfl rfl underlying45 kr d0 h04 he4 rfl fun q3 o3 cs3 _ E0 hr3=>?_)
  obtain ⟨_,_,rfl,rfl,rfl⟩:=hr3
  replace E0:At g q3 o3 [sv e4.1,sv e4.2]:=E0
  refine Ok.o (OpOk.s (v:=.agg #[sv e4.1,sv e4.2]) (Yields.loadAggRo 0 2 #[sv e4.1,sv e4.2] E0 kr underlying105 rfl kr kr kr) rfl rfl (Ok.o (OpOk.aw #[sv ([]:Bs),sv ([]:Bs)] fun bs4=>?_)))
  refine Ok.b 1 [0,8,9,10] [(3,iv z0),(4,pv bs4 0),(14,.agg #[sv e4.1,sv e4.2])] ?_
  refine Ok.o (OpOk.sw 0 #[sv e4.1,sv e4.2] rfl rfl rfl ?_)
  refine Ok.nt (Ok.block (Ok.sr (Ok.rn 5 [.e 0,.k (datn_c e4.1)] [0,3,4,8,9,10] [(15,.bool (!(datnM e4.1)))] ?_)))
  refine Ok.nt (Ok.cn hF rfl (fun hc6=>?_) (fun hc6=>?_))
  ·replace hF:=hF.1 hc6
   refine Ok.sr (Ok.B 1 [(2,iv 3)] kr (Ok.nt (Ok.ret (Ok.kr (Ok.kr (Ok.tr (Ok.tr (Ok.kr (Ok.tr ?_)))))))))
   exact Ok.p0 (iv 3) ⟨_,rfl,rfl,hF⟩
  replace hF:=hF.2 hc6
  refine Ok.sr (Ok.rn 5 [.e 0] [0,3,4,8,9,10] [(20,.bool (decide ((e4.2.length:Int)>400)))] ?_)
  refine Ok.nt (Ok.cn hF rfl (fun hc7=>?_) (fun hc7=>?_))
  ·replace hF:=hF.1 hc7
   refine Ok.sr (Ok.B 1 [(2,iv 2)] kr (Ok.nt (Ok.ret (Ok.kr (Ok.kr (Ok.tr (Ok.tr (Ok.kr (Ok.tr ?_)))))))))
   exact Ok.p0 (iv 2) ⟨_,rfl,rfl,hF⟩
  replace hF:=hF.2 hc7
  refine Ok.q (Ok.quiet' kr kr (OkQ.b 2 [0,4,8,9,10] [(26,.slice x0 xl.length s0),(27,iv z0)] ?_))
  obtain ⟨h08,h18,h28,hF⟩:=hF
  refine OkQ.op rfl (OpQ.sliceRo (e:=.pair (.str) (.str)) (l:=0) (h:=z0) rfl underlying45 kr (.inr ⟨rfl,rfl⟩) (.inl ⟨_,_,rfl,rfl⟩) d0 h08 h18 h28 rfl (xl.take z0.toNat) (by simp) fun a8 c8 hR8=>?_)
  refine OkQ.b 1 [0,8,9,10] [(28,.slice a8 (xl.take z0.toNat).length c8),(29,pv bs4 0)] ?_
  refine OkQ.op rfl (OpQ.s (v:=sv e4.1) (Yields.l 0 rfl rfl underlying9 rfl kr) rfl rfl ?_)
  obtain ⟨hp9,hF⟩:=hF
  refine OkQ.op rfl (OpQ.f enr (fun W hW=>dfin_c (xl.take z0.toNat) e4.1 (hR8.mono hW.sees) hp9) rfl ?_)
  refine OkQ.b 2 [0,8,9,10] [(25,.bool (decide ((dfinM (xl.take z0.toNat) e4.1)≥0)))] ?_
  refine OkQ.j (Ok.t (Ok.cn hF rfl (fun t0=>?_) (fun t0=>?_)))
  ·replace hF:=hF.1 t0
   refine Ok.sr (Ok.B 1 [(2,iv 3)] kr (Ok.nt (Ok.ret (Ok.kr (Ok.kr (Ok.tr (Ok.tr (Ok.kr (Ok.tr ?_)))))))))
   exact Ok.p0 (iv 3) ⟨_,rfl,rfl,hF⟩
  replace hF:=hF.2 t0
  refine Ok.k (Ok.kn (Ok.kn (Ok.t (Ok.r (Ok.b 2 [0,8,9] [(10,iv (w6 (z0+1)))] ?_)))))
  refine Ok.j (Ok.t ?_)
  subst hg4
  exact fun _ _ u v=>⟨k15,nl,w6 (z0+1),fA u v hF⟩
 refine Ok.x (Ok.thenE (Ok.thenE (Ok.blockHit (Ok.t (Ok.sr (Ok.B 1 [(2,iv 0)] kr (Ok.nt (Ok.ret ?_))))))))
 exact Ok.h0 (iv 0) ⟨_,rfl,rfl,hF⟩
def AGood (l:List (Bs×Bs)):Prop:=l.length≤12∧∀ a ∈ l,a.2.length≤400
theorem datt_ex (l:List (Bs×Bs)):∃ e,dattF l (fun r=>r=e)∧(e=0→AGood l):=by
 have no:∀ {e:Int},e≠0→(e=0→AGood l):=fun h h0=>absurd h0 h
 refine ex_if (fun h=>ex_k (no dc)) (fun h=>?_)
 have hl:=of_decide_eq_false h
 have loop:∀ (k i:Nat),i+k=l.length→(∀ j,j<i→(l.getD j default).2.length≤400)→∃ e,dattl15 l (fun r=>r=e) (k+1) (i:Int)∧(e=0→AGood l):=by
  intro k
  induction k with
  | zero =>
   intro i h hj
   refine ex_if (fun h=>od h) (fun _=>ex_k fun _=>⟨by omega,fun a ha=>?_⟩)
   obtain ⟨n,hn,rfl⟩:=List.getElem_of_mem ha
   have:=hj n om
   rwa [List.getD_eq_getElem?_getD,List.getElem?_eq_getElem hn,Option.getD_some] at this
  | succ k ih =>
   intro i h hj
   refine ex_if (fun _=>ex_need om (ex_need (by rw [tnc]; omega) (ex_if (fun _=>ex_k (no dc)) fun _=>ex_if (fun _=>ex_k (no dc)) fun hv=>ex_need om (ex_need om (ex_need om (ex_need (by unfold dfinP; rw [List.length_take]; omega) (ex_if (fun _=>ex_k (no dc)) fun _=>?_))))))) (fun h=>oe h)
   rw [w64 om]
   refine ih (i+1) om fun j hj2=>?_
   by_cases hji:j<i
   ·exact hj j hji
   have:j=i:=by omega
   subst this
   have:=of_decide_eq_false hv
   rw [tnc] at this
   omega
 exact ex_loop _ (loop l.length 0 om fun j hj=>absurd hj om)
noncomputable def dattS (l:List (Bs×Bs)):Int:=pickE fun e=>dattF l (fun r=>r=e)∧(e=0→AGood l)
theorem datt_sp (l:List (Bs×Bs)):dattF l (fun r=>r=dattS l)∧(dattS l=0→AGood l):=pickE_ok (A:=fun e=>dattF l (fun r=>r=e)∧(e=0→AGood l)) (datt_ex l)
theorem datt_F (l:List (Bs×Bs)):dattF l (fun r=>r=dattS l):=(datt_sp l).1
theorem datt_c {g:Ghost} {x0:Option Addr} {s0:Nat} (xl:List (Bs×Bs)) (d0:Rep g (.slice yA) [.slice x0 xl.length s0] xl)  : CallsG prog 35 #[.slice x0 xl.length s0] g (iv (dattS xl)) :=
 (datt_ok xl d0 _ (datt_F xl)).gv
def dparF (xkind:Int) (K:Bool→Prop):Prop :=
 K ((xkind==1)||(xkind==2))
theorem dpar_ok {g:Ghost} (xkind:Int) (K:Bool→Prop)
  (hF:dparF xkind K):CallsH prog 58 #[iv xkind] g [] (fun g' H' v=>∃ (r0:Bool),v=.bool r0∧H'=[]∧K r0):=by
 refine CallsH.en 9 func58 rfl fun w0=>?_
 refine Ok.sr (Ok.B 1 [(0,iv xkind)] kr (Ok.nt (Ok.sr (Ok.b 3 [0] [(5,.bool (xkind==1))] ?_))))
 refine Ok.w 3 [(8,.bool ((xkind==1)||(xkind==2)))] (fun hR1=>?_) ?_
 ·refine Ok.a 5 (xkind==1) rfl (fun hc2=>?_) (fun hc2=>?_)
  ·skip
   refine Ok.B 3 [(8,.bool true)] kr (Ok.rb 8 ((xkind==1)||(xkind==2)) (mor_t hc2) (Ok.B 0 [(8,.bool ((xkind==1)||(xkind==2)))] kr ?_))
   exact hR1
  skip
  refine Ok.B 3 [(8,.bool (xkind==2))] kr (Ok.rb 8 ((xkind==1)||(xkind==2)) (mor_f hc2) (Ok.B 0 [(8,.bool ((xkind==1)||(xkind==2)))] kr ?_))
  exact hR1
 refine Ok.B 1 [(2,.bool ((xkind==1)||(xkind==2)))] kr (Ok.nt (Ok.ret ?_))
 exact Ok.pb ((xkind==1)||(xkind==2)) hF
def dparM (xkind:Int):Bool:=((xkind==1)||(xkind==2))
theorem dparF_A (xkind:Int) (P:Bool→Prop) (h:P (dparM xkind)):dparF xkind (fun k0=>P k0):=by
 unfold dparM at h
 unfold dparF
 exact h
theorem dpar_F (xkind:Int):dparF xkind (fun k0=>k0=dparM xkind) :=
 dparF_A xkind (fun z=>z=dparM xkind) rfl
theorem dpar_c {g:Ghost} (xkind:Int)  : CallsG prog 58 #[iv xkind] g (.bool (dparM xkind)) :=
 (dpar_ok xkind _ (dpar_F xkind)).gv
def dbarV0 (xx:Nd):Bool :=
 (if (xx.1==2)=true then (if (xx.1==2)=true then (if ((xx.1==3)||(xx.1==4))=true then (dparM xx.1||((xx.2.2.2.2.2.length:Int)==0)) else ((xx.2.2.2.1==([]:Bs))&&(dparM xx.1||((xx.2.2.2.2.2.length:Int)==0)))) else (((xx.2.2.1.length:Int)==0)&&(if ((xx.1==3)||(xx.1==4))=true then (dparM xx.1||((xx.2.2.2.2.2.length:Int)==0)) else ((xx.2.2.2.1==([]:Bs))&&(dparM xx.1||((xx.2.2.2.2.2.length:Int)==0)))))) else (if (xx.1==5)=true then (if (xx.1==2)=true then (if ((xx.1==3)||(xx.1==4))=true then (dparM xx.1||((xx.2.2.2.2.2.length:Int)==0)) else ((xx.2.2.2.1==([]:Bs))&&(dparM xx.1||((xx.2.2.2.2.2.length:Int)==0)))) else (((xx.2.2.1.length:Int)==0)&&(if ((xx.1==3)||(xx.1==4))=true then (dparM xx.1||((xx.2.2.2.2.2.length:Int)==0)) else ((xx.2.2.2.1==([]:Bs))&&(dparM xx.1||((xx.2.2.2.2.2.length:Int)==0)))))) else ((xx.2.1==([]:Bs))&&(if (xx.1==2)=true then (if ((xx.1==3)||(xx.1==4))=true then (dparM xx.1||((xx.2.2.2.2.2.length:Int)==0)) else ((xx.2.2.2.1==([]:Bs))&&(dparM xx.1||((xx.2.2.2.2.2.length:Int)==0)))) else (((xx.2.2.1.length:Int)==0)&&(if ((xx.1==3)||(xx.1==4))=true then (dparM xx.1||((xx.2.2.2.2.2.length:Int)==0)) else ((xx.2.2.2.1==([]:Bs))&&(dparM xx.1||((xx.2.2.2.2.2.length:Int)==0)))))))))
def dbarj5 (xx:Nd) (K:Bool→Prop):Prop :=
 K (dbarV0 xx)
def dbarj3 (xx:Nd) (K:Bool→Prop):Prop :=
 ((xx.1==2)=true→((xx.1==2)=true→(((xx.1==3)||(xx.1==4))=true→(dparM xx.1=true→dbarj5 xx K)∧(dparM xx.1=false→dbarj5 xx K))∧(((xx.1==3)||(xx.1==4))=false→((xx.2.2.2.1==([]:Bs))=true→(dparM xx.1=true→dbarj5 xx K)∧(dparM xx.1=false→dbarj5 xx K))∧((xx.2.2.2.1==([]:Bs))=false→dbarj5 xx K)))∧((xx.1==2)=false→(((xx.2.2.1.length:Int)==0)=true→(((xx.1==3)||(xx.1==4))=true→(dparM xx.1=true→dbarj5 xx K)∧(dparM xx.1=false→dbarj5 xx K))∧(((xx.1==3)||(xx.1==4))=false→((xx.2.2.2.1==([]:Bs))=true→(dparM xx.1=true→dbarj5 xx K)∧(dparM xx.1=false→dbarj5 xx K))∧((xx.2.2.2.1==([]:Bs))=false→dbarj5 xx K)))∧(((xx.2.2.1.length:Int)==0)=false→dbarj5 xx K)))∧((xx.1==2)=false→((xx.1==5)=true→((xx.1==2)=true→(((xx.1==3)||(xx.1==4))=true→(dparM xx.1=true→dbarj5 xx K)∧(dparM xx.1=false→dbarj5 xx K))∧(((xx.1==3)||(xx.1==4))=false→((xx.2.2.2.1==([]:Bs))=true→(dparM xx.1=true→dbarj5 xx K)∧(dparM xx.1=false→dbarj5 xx K))∧((xx.2.2.2.1==([]:Bs))=false→dbarj5 xx K)))∧((xx.1==2)=false→(((xx.2.2.1.length:Int)==0)=true→(((xx.1==3)||(xx.1==4))=true→(dparM xx.1=true→dbarj5 xx K)∧(dparM xx.1=false→dbarj5 xx K))∧(((xx.1==3)||(xx.1==4))=false→((xx.2.2.2.1==([]:Bs))=true→(dparM xx.1=true→dbarj5 xx K)∧(dparM xx.1=false→dbarj5 xx K))∧((xx.2.2.2.1==([]:Bs))=false→dbarj5 xx K)))∧(((xx.2.2.1.length:Int)==0)=false→dbarj5 xx K)))∧((xx.1==5)=false→((xx.2.1==([]:Bs))=true→((xx.1==2)=true→(((xx.1==3)||(xx.1==4))=true→(dparM xx.1=true→dbarj5 xx K)∧(dparM xx.1=false→dbarj5 xx K))∧(((xx.1==3)||(xx.1==4))=false→((xx.2.2.2.1==([]:Bs))=true→(dparM xx.1=true→dbarj5 xx K)∧(dparM xx.1=false→dbarj5 xx K))∧((xx.2.2.2.1==([]:Bs))=false→dbarj5 xx K)))∧((xx.1==2)=false→(((xx.2.2.1.length:Int)==0)=true→(((xx.1==3)||(xx.1==4))=true→(dparM xx.1=true→dbarj5 xx K)∧(dparM xx.1=false→dbarj5 xx K))∧(((xx.1==3)||(xx.1==4))=false→((xx.2.2.2.1==([]:Bs))=true→(dparM xx.1=true→dbarj5 xx K)∧(dparM xx.1=false→dbarj5 xx K))∧((xx.2.2.2.1==([]:Bs))=false→dbarj5 xx K)))∧(((xx.2.2.1.length:Int)==0)=false→dbarj5 xx K)))∧((xx.2.1==([]:Bs))=false→dbarj5 xx K)))
def dbarF (xx:Nd) (K:Bool→Prop):Prop :=
 ((xx.1==3)=true→dbarj3 xx K)∧((xx.1==3)=false→dbarj3 xx K)
theorem dbar_ok {g:Ghost} {v0:Option Addr} {q0:Nat} {u0:Option Addr} {j0:Nat} (xx:Nd) (e0:Rep g (.slice yA) [.slice v0 xx.2.2.1.length q0] xx.2.2.1) (f0:Rep g (.slice (.int .i64)) [.slice u0 xx.2.2.2.2.2.length j0] xx.2.2.2.2.2) (K:Bool→Prop)
  (hF:dbarF xx K):CallsH prog 33 #[.agg (aN xx v0 q0 u0 j0)] g [] (fun g' H' v=>∃ (r0:Bool),v=.bool r0∧H'=[]∧K r0):=by
 refine CallsH.en 55 func33 rfl fun w0=>?_
 refine Ok.sr (Ok.o (OpOk.bx (aN xx v0 q0 u0 j0) fun bs1=>?_))
 refine Ok.B 1 [(1,pv bs1 0)] kr (Ok.nt (Ok.ct [(1,pv bs1 0),(3,.bool (xx.1==2)),(4,.bool ((xx.1==3)||(xx.1==4)))] [.blk bs1 (.cells (aN xx v0 q0 u0 j0) 48)] (dbarj3 xx K) ?_ (fun hF=>?_)))
 ·
  refine Ok.quiet' kr kr (OkQ.b 1 [1] [(5,pv bs1 0)] ?_)
  refine OkQ.op rfl (OpQ.s (v:=iv xx.1) (Yields.l 0 rfl rfl underlying3 rfl kr) rfl rfl (OkQ.b 2 [1] [(7,.bool (xx.1==2)),(8,pv bs1 0)] ?_))
  refine OkQ.op rfl (OpQ.s (v:=iv xx.1) (Yields.l 0 rfl rfl underlying3 rfl kr) rfl rfl (OkQ.b 2 [1,7] [(11,.bool (xx.1==3))] ?_))
  refine OkQ.boolAt 11 (xx.1==3) rfl (fun U0=>?_) (fun U0=>?_)
  ·replace hF:=hF.1 U0
   refine OkQ.b 6 [1] [(3,.bool (xx.1==2)),(4,.bool true)] ?_
   refine OkQ.j (Ok.t (Ok.rb 4 ((xx.1==3)||(xx.1==4)) (mor_t U0) ?_))
   exact fz hF
  replace hF:=hF.2 U0
  refine OkQ.b 1 [1,7] [(11,.bool false),(12,pv bs1 0)] ?_
  refine OkQ.y (j:=6) (d:=11) (want:=false) (b:=false) rfl kr kr rfl (OpQ.s (v:=iv xx.1) (Yields.l 0 rfl rfl underlying3 rfl kr) rfl rfl (OkQ.b 4 [1] [(3,.bool (xx.1==2)),(4,.bool (xx.1==4))] ?_))
  refine OkQ.j (Ok.t (Ok.rb 4 ((xx.1==3)||(xx.1==4)) (mor_f U0) ?_))
  exact fz hF
 refine Ok.ct [(2,.bool (dbarV0 xx))] [] (dbarj5 xx K) ?_ (fun hF=>?_)
 ·
  refine Ok.r (Ok.b 2 [1,3,4] [(17,.bool (xx.1==2))] ?_)
  refine Ok.bw 17 hF (fun hc2 hF=>?_) (fun hc2 hF=>?_)
  ·refine Ok.b 12 [1,4] [(27,.bool true),(29,.bool (xx.1==2))] ?_
   refine Ok.bw 29 hF (fun hc3 hF=>?_) (fun hc3 hF=>?_)
   ·refine Ok.b 9 [1] [(36,.bool true),(38,.bool ((xx.1==3)||(xx.1==4)))] ?_
    refine Ok.bw 38 hF (fun hc4 hF=>?_) (fun hc4 hF=>?_)
    ·refine Ok.rn 10 [.e 0,.k (dpar_c xx.1)] [1] [(44,.bool true),(48,.bool (dparM xx.1))] ?_
     refine Ok.bw 48 hF (fun hc5 hF=>?_) (fun hc5 hF=>?_)
     ·refine Ok.B 7 [(2,.bool true)] kr (Ok.nt (Ok.rb 2 (dbarV0 xx) (Eq.trans (Eq.trans (Eq.trans (mor_t hc5) ((if_t hc4).symm)) ((if_t hc3).symm)) ((if_t hc2).symm)) ?_))
      exact fz hF
     refine Ok.rn 7 [.e 0] [] [(2,.bool ((xx.2.2.2.2.2.length:Int)==0))] ?_
     refine Ok.nt (Ok.rb 2 (dbarV0 xx) (Eq.trans (Eq.trans (Eq.trans (mor_f hc5) ((if_t hc4).symm)) ((if_t hc3).symm)) ((if_t hc2).symm)) ?_)
     exact fz hF
    refine Ok.rn 6 [.e 0] [1] [(44,.bool (xx.2.2.2.1==([]:Bs)))] ?_
    refine Ok.bw 44 hF (fun hc6 hF=>?_) (fun hc6 hF=>?_)
    ·refine Ok.rn 4 [.e 0,.k (dpar_c xx.1)] [1] [(44,.bool true),(48,.bool (dparM xx.1))] ?_
     refine Ok.bw 48 hF (fun hc7 hF=>?_) (fun hc7 hF=>?_)
     ·refine Ok.B 7 [(2,.bool true)] kr (Ok.nt (Ok.rb 2 (dbarV0 xx) (Eq.trans (Eq.trans (Eq.trans (Eq.trans (mor_t hc7) (mand_t hc6)) ((if_f hc4).symm)) ((if_t hc3).symm)) ((if_t hc2).symm)) ?_))
      exact fz hF
     refine Ok.rn 7 [.e 0] [] [(2,.bool ((xx.2.2.2.2.2.length:Int)==0))] ?_
     refine Ok.nt (Ok.rb 2 (dbarV0 xx) (Eq.trans (Eq.trans (Eq.trans (Eq.trans (mor_f hc7) (mand_t hc6)) ((if_f hc4).symm)) ((if_t hc3).symm)) ((if_t hc2).symm)) ?_)
     exact fz hF
    refine Ok.B 11 [(2,.bool false)] kr (Ok.nt (Ok.rb 2 (dbarV0 xx) (Eq.trans (Eq.trans (Eq.trans (mand_f hc6) ((if_f hc4).symm)) ((if_t hc3).symm)) ((if_t hc2).symm)) ?_))
    exact fz hF
   refine Ok.rn 7 [.e 0] [1,4] [(36,.bool ((xx.2.2.1.length:Int)==0))] ?_
   refine Ok.bw 36 hF (fun hc8 hF=>?_) (fun hc8 hF=>?_)
   ·refine Ok.b 2 [1] [(36,.bool true),(38,.bool ((xx.1==3)||(xx.1==4)))] ?_
    refine Ok.bw 38 hF (fun hc9 hF=>?_) (fun hc9 hF=>?_)
    ·refine Ok.rn 10 [.e 0,.k (dpar_c xx.1)] [1] [(44,.bool true),(48,.bool (dparM xx.1))] ?_
     refine Ok.bw 48 hF (fun t0 hF=>?_) (fun t0 hF=>?_)
     ·refine Ok.B 7 [(2,.bool true)] kr (Ok.nt (Ok.rb 2 (dbarV0 xx) (Eq.trans (Eq.trans (Eq.trans (Eq.trans (mor_t t0) ((if_t hc9).symm)) (mand_t hc8)) ((if_f hc3).symm)) ((if_t hc2).symm)) ?_))
      exact fz hF
     refine Ok.rn 7 [.e 0] [] [(2,.bool ((xx.2.2.2.2.2.length:Int)==0))] ?_
     refine Ok.nt (Ok.rb 2 (dbarV0 xx) (Eq.trans (Eq.trans (Eq.trans (Eq.trans (mor_f t0) ((if_t hc9).symm)) (mand_t hc8)) ((if_f hc3).symm)) ((if_t hc2).symm)) ?_)
     exact fz hF
    refine Ok.rn 6 [.e 0] [1] [(44,.bool (xx.2.2.2.1==([]:Bs)))] ?_
    refine Ok.bw 44 hF (fun J0 hF=>?_) (fun J0 hF=>?_)
    ·refine Ok.rn 4 [.e 0,.k (dpar_c xx.1)] [1] [(44,.bool true),(48,.bool (dparM xx.1))] ?_
     refine Ok.bw 48 hF (fun F0 hF=>?_) (fun F0 hF=>?_)
     ·refine Ok.B 7 [(2,.bool true)] kr (Ok.nt (Ok.rb 2 (dbarV0 xx) (Eq.trans (Eq.trans (Eq.trans (Eq.trans (Eq.trans (mor_t F0) (mand_t J0)) ((if_f hc9).symm)) (mand_t hc8)) ((if_f hc3).symm)) ((if_t hc2).symm)) ?_))
      exact fz hF
     refine Ok.rn 7 [.e 0] [] [(2,.bool ((xx.2.2.2.2.2.length:Int)==0))] ?_
     refine Ok.nt (Ok.rb 2 (dbarV0 xx) (Eq.trans (Eq.trans (Eq.trans (Eq.trans (Eq.trans (mor_f F0) (mand_t J0)) ((if_f hc9).symm)) (mand_t hc8)) ((if_f hc3).symm)) ((if_t hc2).symm)) ?_)
     exact fz hF
    refine Ok.B 11 [(2,.bool false)] kr (Ok.nt (Ok.rb 2 (dbarV0 xx) (Eq.trans (Eq.trans (Eq.trans (Eq.trans (mand_f J0) ((if_f hc9).symm)) (mand_t hc8)) ((if_f hc3).symm)) ((if_t hc2).symm)) ?_))
    exact fz hF
   refine Ok.B 19 [(2,.bool false)] kr (Ok.nt (Ok.rb 2 (dbarV0 xx) (Eq.trans (Eq.trans (mand_f hc8) ((if_f hc3).symm)) ((if_t hc2).symm)) ?_))
   exact fz hF
  refine Ok.rn 5 [.e 0] [1,3,4] [(22,.bool (xx.1==5))] ?_
  refine Ok.bw 22 hF (fun c0 hF=>?_) (fun c0 hF=>?_)
  ·refine Ok.b 7 [1,4] [(27,.bool true),(29,.bool (xx.1==2))] ?_
   refine Ok.bw 29 hF (fun m0 hF=>?_) (fun m0 hF=>?_)
   ·refine Ok.b 9 [1] [(36,.bool true),(38,.bool ((xx.1==3)||(xx.1==4)))] ?_
    refine Ok.bw 38 hF (fun Z0 hF=>?_) (fun Z0 hF=>?_)
    ·refine Ok.rn 10 [.e 0,.k (dpar_c xx.1)] [1] [(44,.bool true),(48,.bool (dparM xx.1))] ?_
     refine Ok.bw 48 hF (fun G0 hF=>?_) (fun G0 hF=>?_)
     ·refine Ok.B 7 [(2,.bool true)] kr (Ok.nt (Ok.rb 2 (dbarV0 xx) (Eq.trans (Eq.trans (Eq.trans (Eq.trans (mor_t G0) ((if_t Z0).symm)) ((if_t m0).symm)) ((if_t c0).symm)) ((if_f hc2).symm)) ?_))
      exact fz hF
     refine Ok.rn 7 [.e 0] [] [(2,.bool ((xx.2.2.2.2.2.length:Int)==0))] ?_
     refine Ok.nt (Ok.rb 2 (dbarV0 xx) (Eq.trans (Eq.trans (Eq.trans (Eq.trans (mor_f G0) ((if_t Z0).symm)) ((if_t m0).symm)) ((if_t c0).symm)) ((if_f hc2).symm)) ?_)
     exact fz hF
    refine Ok.rn 6 [.e 0] [1] [(44,.bool (xx.2.2.2.1==([]:Bs)))] ?_
    refine Ok.bw 44 hF (fun W0 hF=>?_) (fun W0 hF=>?_)
    ·refine Ok.rn 4 [.e 0,.k (dpar_c xx.1)] [1] [(44,.bool true),(48,.bool (dparM xx.1))] ?_
     refine Ok.bw 48 hF (fun H0 hF=>?_) (fun H0 hF=>?_)
     ·refine Ok.B 7 [(2,.bool true)] kr (Ok.nt (Ok.rb 2 (dbarV0 xx) (Eq.trans (Eq.trans (Eq.trans (Eq.trans (Eq.trans (mor_t H0) (mand_t W0)) ((if_f Z0).symm)) ((if_t m0).symm)) ((if_t c0).symm)) ((if_f hc2).symm)) ?_))
      exact fz hF
     refine Ok.rn 7 [.e 0] [] [(2,.bool ((xx.2.2.2.2.2.length:Int)==0))] ?_
     refine Ok.nt (Ok.rb 2 (dbarV0 xx) (Eq.trans (Eq.trans (Eq.trans (Eq.trans (Eq.trans (mor_f H0) (mand_t W0)) ((if_f Z0).symm)) ((if_t m0).symm)) ((if_t c0).symm)) ((if_f hc2).symm)) ?_)
     exact fz hF
    refine Ok.B 11 [(2,.bool false)] kr (Ok.nt (Ok.rb 2 (dbarV0 xx) (Eq.trans (Eq.trans (Eq.trans (Eq.trans (mand_f W0) ((if_f Z0).symm)) ((if_t m0).symm)) ((if_t c0).symm)) ((if_f hc2).symm)) ?_))
    exact fz hF
   refine Ok.rn 7 [.e 0] [1,4] [(36,.bool ((xx.2.2.1.length:Int)==0))] ?_
   refine Ok.bw 36 hF (fun a0 hF=>?_) (fun a0 hF=>?_)
   ·refine Ok.b 2 [1] [(36,.bool true),(38,.bool ((xx.1==3)||(xx.1==4)))] ?_
    refine Ok.bw 38 hF (fun V0 hF=>?_) (fun V0 hF=>?_)
    ·refine Ok.rn 10 [.e 0,.k (dpar_c xx.1)] [1] [(44,.bool true),(48,.bool (dparM xx.1))] ?_
     refine Ok.bw 48 hF (fun M0 hF=>?_) (fun M0 hF=>?_)
     ·refine Ok.B 7 [(2,.bool true)] kr (Ok.nt (Ok.rb 2 (dbarV0 xx) (Eq.trans (Eq.trans (Eq.trans (Eq.trans (Eq.trans (mor_t M0) ((if_t V0).symm)) (mand_t a0)) ((if_f m0).symm)) ((if_t c0).symm)) ((if_f hc2).symm)) ?_))
      exact fz hF
     refine Ok.rn 7 [.e 0] [] [(2,.bool ((xx.2.2.2.2.2.length:Int)==0))] ?_
     refine Ok.nt (Ok.rb 2 (dbarV0 xx) (Eq.trans (Eq.trans (Eq.trans (Eq.trans (Eq.trans (mor_f M0) ((if_t V0).symm)) (mand_t a0)) ((if_f m0).symm)) ((if_t c0).symm)) ((if_f hc2).symm)) ?_)
     exact fz hF
    refine Ok.rn 6 [.e 0] [1] [(44,.bool (xx.2.2.2.1==([]:Bs)))] ?_
    refine Ok.bw 44 hF (fun X0 hF=>?_) (fun X0 hF=>?_)
    ·refine Ok.rn 4 [.e 0,.k (dpar_c xx.1)] [1] [(44,.bool true),(48,.bool (dparM xx.1))] ?_
     refine Ok.bw 48 hF (fun N0 hF=>?_) (fun N0 hF=>?_)
     ·refine Ok.B 7 [(2,.bool true)] kr (Ok.nt (Ok.rb 2 (dbarV0 xx) (Eq.trans (Eq.trans (Eq.trans (Eq.trans (Eq.trans (Eq.trans (mor_t N0) (mand_t X0)) ((if_f V0).symm)) (mand_t a0)) ((if_f m0).symm)) ((if_t c0).symm)) ((if_f hc2).symm)) ?_))
      exact fz hF
     refine Ok.rn 7 [.e 0] [] [(2,.bool ((xx.2.2.2.2.2.length:Int)==0))] ?_
     refine Ok.nt (Ok.rb 2 (dbarV0 xx) (Eq.trans (Eq.trans (Eq.trans (Eq.trans (Eq.trans (Eq.trans (mor_f N0) (mand_t X0)) ((if_f V0).symm)) (mand_t a0)) ((if_f m0).symm)) ((if_t c0).symm)) ((if_f hc2).symm)) ?_)
     exact fz hF
    refine Ok.B 11 [(2,.bool false)] kr (Ok.nt (Ok.rb 2 (dbarV0 xx) (Eq.trans (Eq.trans (Eq.trans (Eq.trans (Eq.trans (mand_f X0) ((if_f V0).symm)) (mand_t a0)) ((if_f m0).symm)) ((if_t c0).symm)) ((if_f hc2).symm)) ?_))
    exact fz hF
   refine Ok.B 19 [(2,.bool false)] kr (Ok.nt (Ok.rb 2 (dbarV0 xx) (Eq.trans (Eq.trans (Eq.trans (mand_f a0) ((if_f m0).symm)) ((if_t c0).symm)) ((if_f hc2).symm)) ?_))
   exact fz hF
  refine Ok.rn 5 [.e 0] [1,3,4] [(27,.bool (xx.2.1==([]:Bs)))] ?_
  refine Ok.bw 27 hF (fun g0 hF=>?_) (fun g0 hF=>?_)
  ·refine Ok.b 2 [1,4] [(27,.bool true),(29,.bool (xx.1==2))] ?_
   refine Ok.bw 29 hF (fun n0 hF=>?_) (fun n0 hF=>?_)
   ·refine Ok.b 9 [1] [(36,.bool true),(38,.bool ((xx.1==3)||(xx.1==4)))] ?_
    refine Ok.bw 38 hF (fun Q0 hF=>?_) (fun Q0 hF=>?_)
    ·refine Ok.rn 10 [.e 0,.k (dpar_c xx.1)] [1] [(44,.bool true),(48,.bool (dparM xx.1))] ?_
     refine Ok.bw 48 hF (fun O0 hF=>?_) (fun O0 hF=>?_)
     ·refine Ok.B 7 [(2,.bool true)] kr (Ok.nt (Ok.rb 2 (dbarV0 xx) (Eq.trans (Eq.trans (Eq.trans (Eq.trans (Eq.trans (mor_t O0) ((if_t Q0).symm)) ((if_t n0).symm)) (mand_t g0)) ((if_f c0).symm)) ((if_f hc2).symm)) ?_))
      exact fz hF
     refine Ok.rn 7 [.e 0] [] [(2,.bool ((xx.2.2.2.2.2.length:Int)==0))] ?_
     refine Ok.nt (Ok.rb 2 (dbarV0 xx) (Eq.trans (Eq.trans (Eq.trans (Eq.trans (Eq.trans (mor_f O0) ((if_t Q0).symm)) ((if_t n0).symm)) (mand_t g0)) ((if_f c0).symm)) ((if_f hc2).symm)) ?_)
     exact fz hF
    refine Ok.rn 6 [.e 0] [1] [(44,.bool (xx.2.2.2.1==([]:Bs)))] ?_
    refine Ok.bw 44 hF (fun S0 hF=>?_) (fun S0 hF=>?_)
    ·refine Ok.rn 4 [.e 0,.k (dpar_c xx.1)] [1] [(44,.bool true),(48,.bool (dparM xx.1))] ?_
     refine Ok.bw 48 hF (fun P0 hF=>?_) (fun P0 hF=>?_)
     ·refine Ok.B 7 [(2,.bool true)] kr (Ok.nt (Ok.rb 2 (dbarV0 xx) (Eq.trans (Eq.trans (Eq.trans (Eq.trans (Eq.trans (Eq.trans (mor_t P0) (mand_t S0)) ((if_f Q0).symm)) ((if_t n0).symm)) (mand_t g0)) ((if_f c0).symm)) ((if_f hc2).symm)) ?_))
      exact fz hF
     refine Ok.rn 7 [.e 0] [] [(2,.bool ((xx.2.2.2.2.2.length:Int)==0))] ?_
     refine Ok.nt (Ok.rb 2 (dbarV0 xx) (Eq.trans (Eq.trans (Eq.trans (Eq.trans (Eq.trans (Eq.trans (mor_f P0) (mand_t S0)) ((if_f Q0).symm)) ((if_t n0).symm)) (mand_t g0)) ((if_f c0).symm)) ((if_f hc2).symm)) ?_)
     exact fz hF
    refine Ok.B 11 [(2,.bool false)] kr (Ok.nt (Ok.rb 2 (dbarV0 xx) (Eq.trans (Eq.trans (Eq.trans (Eq.trans (Eq.trans (mand_f S0) ((if_f Q0).symm)) ((if_t n0).symm)) (mand_t g0)) ((if_f c0).symm)) ((if_f hc2).symm)) ?_))
    exact fz hF
   refine Ok.rn 7 [.e 0] [1,4] [(36,.bool ((xx.2.2.1.length:Int)==0))] ?_
   refine Ok.bw 36 hF (fun i0 hF=>?_) (fun i0 hF=>?_)
   ·refine Ok.b 2 [1] [(36,.bool true),(38,.bool ((xx.1==3)||(xx.1==4)))] ?_
    refine Ok.bw 38 hF (fun K0 hF=>?_) (fun K0 hF=>?_)
    ·refine Ok.rn 10 [.e 0,.k (dpar_c xx.1)] [1] [(44,.bool true),(48,.bool (dparM xx.1))] ?_
     refine Ok.bw 48 hF (fun T0 hF=>?_) (fun T0 hF=>?_)
     ·refine Ok.B 7 [(2,.bool true)] kr (Ok.nt (Ok.rb 2 (dbarV0 xx) (Eq.trans (Eq.trans (Eq.trans (Eq.trans (Eq.trans (Eq.trans (mor_t T0) ((if_t K0).symm)) (mand_t i0)) ((if_f n0).symm)) (mand_t g0)) ((if_f c0).symm)) ((if_f hc2).symm)) ?_))
      exact fz hF
     refine Ok.rn 7 [.e 0] [] [(2,.bool ((xx.2.2.2.2.2.length:Int)==0))] ?_
     refine Ok.nt (Ok.rb 2 (dbarV0 xx) (Eq.trans (Eq.trans (Eq.trans (Eq.trans (Eq.trans (Eq.trans (mor_f T0) ((if_t K0).symm)) (mand_t i0)) ((if_f n0).symm)) (mand_t g0)) ((if_f c0).symm)) ((if_f hc2).symm)) ?_)
     exact fz hF
    refine Ok.rn 6 [.e 0] [1] [(44,.bool (xx.2.2.2.1==([]:Bs)))] ?_
    refine Ok.bw 44 hF (fun B0 hF=>?_) (fun B0 hF=>?_)
    ·refine Ok.rn 4 [.e 0,.k (dpar_c xx.1)] [1] [(44,.bool true),(48,.bool (dparM xx.1))] ?_
     refine Ok.bw 48 hF (fun L0 hF=>?_) (fun L0 hF=>?_)
     ·refine Ok.B 7 [(2,.bool true)] kr (Ok.nt (Ok.rb 2 (dbarV0 xx) (Eq.trans (Eq.trans (Eq.trans (Eq.trans (Eq.trans (Eq.trans (Eq.trans (mor_t L0) (mand_t B0)) ((if_f K0).symm)) (mand_t i0)) ((if_f n0).symm)) (mand_t g0)) ((if_f c0).symm)) ((if_f hc2).symm)) ?_))
      exact fz hF
     refine Ok.rn 7 [.e 0] [] [(2,.bool ((xx.2.2.2.2.2.length:Int)==0))] ?_
     refine Ok.nt (Ok.rb 2 (dbarV0 xx) (Eq.trans (Eq.trans (Eq.trans (Eq.trans (Eq.trans (Eq.trans (Eq.trans (mor_f L0) (mand_t B0)) ((if_f K0).symm)) (mand_t i0)) ((if_f n0).symm)) (mand_t g0)) ((if_f c0).symm)) ((if_f hc2).symm)) ?_)
     exact fz hF
    refine Ok.B 11 [(2,.bool false)] kr (Ok.nt (Ok.rb 2 (dbarV0 xx) (Eq.trans (Eq.trans (Eq.trans (Eq.trans (Eq.trans (Eq.trans (mand_f B0) ((if_f K0).symm)) (mand_t i0)) ((if_f n0).symm)) (mand_t g0)) ((if_f c0).symm)) ((if_f hc2).symm)) ?_))
    exact fz hF
   refine Ok.B 19 [(2,.bool false)] kr (Ok.nt (Ok.rb 2 (dbarV0 xx) (Eq.trans (Eq.trans (Eq.trans (Eq.trans (mand_f i0) ((if_f n0).symm)) (mand_t g0)) ((if_f c0).symm)) ((if_f hc2).symm)) ?_))
   exact fz hF
  refine Ok.B 28 [(2,.bool false)] kr (Ok.nt (Ok.rb 2 (dbarV0 xx) (Eq.trans (Eq.trans (mand_f g0) ((if_f c0).symm)) ((if_f hc2).symm)) ?_))
  exact fz hF
 refine Ok.ret ?_
 exact Ok.pb (dbarV0 xx) hF
def dbarj5M (xx:Nd):Bool:=(dbarV0 xx)
theorem dbarj5_A (xx:Nd) (P:Bool→Prop) (h:P (dbarj5M xx)):dbarj5 xx (fun k0=>P k0):=by
 unfold dbarj5M at h
 unfold dbarj5
 exact h
def dbarj3M (xx:Nd):Bool:=(dbarj5M xx)
theorem dbarj3_A (xx:Nd) (P:Bool→Prop) (h:P (dbarj3M xx)):dbarj3 xx (fun k0=>P k0):=by
 unfold dbarj3M at h
 unfold dbarj3
 refine ⟨fun hc0=>?_,fun hc0=>?_⟩
 ·skip
  refine ⟨fun hc1=>?_,fun hc1=>?_⟩
  ·skip
   refine ⟨fun hc2=>?_,fun hc2=>?_⟩
   ·skip
    refine ⟨fun hc3=>?_,fun hc3=>?_⟩
    ·skip
     exact dbarj5_A xx _ h
    skip
    exact dbarj5_A xx _ h
   skip
   refine ⟨fun hc3=>?_,fun hc3=>?_⟩
   ·skip
    refine ⟨fun hc4=>?_,fun hc4=>?_⟩
    ·skip
     exact dbarj5_A xx _ h
    skip
    exact dbarj5_A xx _ h
   skip
   exact dbarj5_A xx _ h
  skip
  refine ⟨fun hc2=>?_,fun hc2=>?_⟩
  ·skip
   refine ⟨fun hc3=>?_,fun hc3=>?_⟩
   ·skip
    refine ⟨fun hc4=>?_,fun hc4=>?_⟩
    ·skip
     exact dbarj5_A xx _ h
    skip
    exact dbarj5_A xx _ h
   skip
   refine ⟨fun hc4=>?_,fun hc4=>?_⟩
   ·skip
    refine ⟨fun hc5=>?_,fun hc5=>?_⟩
    ·skip
     exact dbarj5_A xx _ h
    skip
    exact dbarj5_A xx _ h
   skip
   exact dbarj5_A xx _ h
  skip
  exact dbarj5_A xx _ h
 skip
 refine ⟨fun hc1=>?_,fun hc1=>?_⟩
 ·skip
  refine ⟨fun hc2=>?_,fun hc2=>?_⟩
  ·skip
   refine ⟨fun hc3=>?_,fun hc3=>?_⟩
   ·skip
    refine ⟨fun hc4=>?_,fun hc4=>?_⟩
    ·skip
     exact dbarj5_A xx _ h
    skip
    exact dbarj5_A xx _ h
   skip
   refine ⟨fun hc4=>?_,fun hc4=>?_⟩
   ·skip
    refine ⟨fun hc5=>?_,fun hc5=>?_⟩
    ·skip
     exact dbarj5_A xx _ h
    skip
    exact dbarj5_A xx _ h
   skip
   exact dbarj5_A xx _ h
  skip
  refine ⟨fun hc3=>?_,fun hc3=>?_⟩
  ·skip
   refine ⟨fun hc4=>?_,fun hc4=>?_⟩
   ·skip
    refine ⟨fun hc5=>?_,fun hc5=>?_⟩
    ·skip
     exact dbarj5_A xx _ h
    skip
    exact dbarj5_A xx _ h
   skip
   refine ⟨fun hc5=>?_,fun hc5=>?_⟩
   ·skip
    refine ⟨fun hc6=>?_,fun hc6=>?_⟩
    ·skip
     exact dbarj5_A xx _ h
    skip
    exact dbarj5_A xx _ h
   skip
   exact dbarj5_A xx _ h
  skip
  exact dbarj5_A xx _ h
 skip
 refine ⟨fun hc2=>?_,fun hc2=>?_⟩
 ·skip
  refine ⟨fun hc3=>?_,fun hc3=>?_⟩
  ·skip
   refine ⟨fun hc4=>?_,fun hc4=>?_⟩
   ·skip
    refine ⟨fun hc5=>?_,fun hc5=>?_⟩
    ·skip
     exact dbarj5_A xx _ h
    skip
    exact dbarj5_A xx _ h
   skip
   refine ⟨fun hc5=>?_,fun hc5=>?_⟩
   ·skip
    refine ⟨fun hc6=>?_,fun hc6=>?_⟩
    ·skip
     exact dbarj5_A xx _ h
    skip
    exact dbarj5_A xx _ h
   skip
   exact dbarj5_A xx _ h
  skip
  refine ⟨fun hc4=>?_,fun hc4=>?_⟩
  ·skip
   refine ⟨fun hc5=>?_,fun hc5=>?_⟩
   ·skip
    refine ⟨fun hc6=>?_,fun hc6=>?_⟩
    ·skip
     exact dbarj5_A xx _ h
    skip
    exact dbarj5_A xx _ h
   skip
   refine ⟨fun hc6=>?_,fun hc6=>?_⟩
   ·skip
    refine ⟨fun hc7=>?_,fun hc7=>?_⟩
    ·skip
     exact dbarj5_A xx _ h
    skip
    exact dbarj5_A xx _ h
   skip
   exact dbarj5_A xx _ h
  skip
  exact dbarj5_A xx _ h
 skip
 exact dbarj5_A xx _ h
def dbarM (xx:Nd):Bool:=(dbarj3M xx)
theorem dbarF_A (xx:Nd) (P:Bool→Prop) (h:P (dbarM xx)):dbarF xx (fun k0=>P k0):=by
 unfold dbarM at h
 unfold dbarF
 refine ⟨fun hc0=>?_,fun hc0=>?_⟩
 ·skip
  exact dbarj3_A xx _ h
 skip
 exact dbarj3_A xx _ h
theorem dbar_F (xx:Nd):dbarF xx (fun k0=>k0=dbarM xx) :=
 dbarF_A xx (fun z=>z=dbarM xx) rfl
theorem dbar_c {g:Ghost} {v0:Option Addr} {q0:Nat} {u0:Option Addr} {j0:Nat} (xx:Nd) (e0:Rep g (.slice yA) [.slice v0 xx.2.2.1.length q0] xx.2.2.1) (f0:Rep g (.slice (.int .i64)) [.slice u0 xx.2.2.2.2.2.length j0] xx.2.2.2.2.2)  : CallsG prog 33 #[.agg (aN xx v0 q0 u0 j0)] g (.bool (dbarM xx)) :=
 (dbar_ok xx e0 f0 _ (dbar_F xx)).gv
def donej29 (xx:Nd) (K:Int→Prop):Prop :=
 (((decide ((xx.2.2.2.1.length:Int)>400))||(decide ((xx.2.1.length:Int)>400)))=true→K 2)∧(((decide ((xx.2.2.2.1.length:Int)>400))||(decide ((xx.2.1.length:Int)>400)))=false→K 0)
def donej11 (xx:Nd) (K:Int→Prop):Prop :=
 (((xx.1==2)&&(!(dNamM xx.2.1)))=true→K 3)∧(((xx.1==2)&&(!(dNamM xx.2.1)))=false→(((dattS xx.2.2.1) != 0)=true→K (dattS xx.2.2.1))∧(((dattS xx.2.2.1) != 0)=false→((decide ((xx.2.2.2.1.length:Int)>400))=true→donej29 xx K)∧((decide ((xx.2.2.2.1.length:Int)>400))=false→donej29 xx K)))
def donej5 (xx:Nd) (K:Int→Prop):Prop :=
 ((decide (xx.1<1)||(decide (xx.1>5)||(!(dbarM xx))))=true→K 7)∧((decide (xx.1<1)||(decide (xx.1>5)||(!(dbarM xx))))=false→((xx.1==2)=true→donej11 xx K)∧((xx.1==2)=false→donej11 xx K))
def doneF (xx:Nd) (K:Int→Prop):Prop :=
 (decide (xx.1<1)=true→donej5 xx K)∧(decide (xx.1<1)=false→(decide (xx.1>5)=true→donej5 xx K)∧(decide (xx.1>5)=false→donej5 xx K))
theorem done_ok {g:Ghost} {v0:Option Addr} {q0:Nat} {u0:Option Addr} {j0:Nat} (xx:Nd) (e0:Rep g (.slice yA) [.slice v0 xx.2.2.1.length q0] xx.2.2.1) (f0:Rep g (.slice (.int .i64)) [.slice u0 xx.2.2.2.2.2.length j0] xx.2.2.2.2.2) (K:Int→Prop)
  (hF:doneF xx K):CallsH prog 17 #[.agg (aN xx v0 q0 u0 j0)] g [] (fun g' H' v=>∃ (r0:Int),v=iv r0∧H'=[]∧K r0):=by
 refine CallsH.en 44 func17 rfl fun w0=>?_
 refine Ok.sr (Ok.o (OpOk.bx (aN xx v0 q0 u0 j0) fun bs1=>?_))
 refine Ok.B 1 [(1,pv bs1 0)] kr (Ok.nt (Ok.q (Ok.block (Ok.ct [(1,pv bs1 0),(4,.bool (decide (xx.1<1)||(decide (xx.1>5)||(!(dbarM xx)))))] [.blk bs1 (.cells (aN xx v0 q0 u0 j0) 48)] (donej5 xx K) ?_ (fun hF=>?_)))))
 ·
  refine Ok.r (Ok.rn 4 [.e 0] [1] [(8,.bool (decide (xx.1<1)))] ?_)
  refine Ok.bw 8 hF (fun hc8 hF=>?_) (fun hc8 hF=>?_)
  ·refine Ok.b 10 [1] [(4,.bool true)] ?_
   refine Ok.nt (Ok.rb 4 (decide (xx.1<1)||(decide (xx.1>5)||(!(dbarM xx)))) (mor_t hc8) ?_)
   exact fz hF
  refine Ok.rn 5 [.e 0] [1] [(13,.bool (decide (xx.1>5)))] ?_
  refine Ok.bw 13 hF (fun hc9 hF=>?_) (fun hc9 hF=>?_)
  ·refine Ok.b 5 [1] [(4,.bool true)] ?_
   refine Ok.nt (Ok.rb 4 (decide (xx.1<1)||(decide (xx.1>5)||(!(dbarM xx)))) (Eq.trans (mor_t hc9) (mor_f hc8)) ?_)
   exact fz hF
  refine Ok.rn 5 [.e 0,.k (dbar_c xx e0 f0)] [1] [(4,.bool (!(dbarM xx)))] ?_
  refine Ok.nt (Ok.rb 4 (decide (xx.1<1)||(decide (xx.1>5)||(!(dbarM xx)))) (Eq.trans (mor_f hc9) (mor_f hc8)) ?_)
  exact fz hF
 refine Ok.cw hF (fun hc2 hF=>?_) (fun hc2 hF=>?_)
 ·refine Ok.sr (Ok.B 1 [(2,iv 7)] kr (Ok.nt (Ok.ret (Ok.kr (Ok.tr ?_)))))
  exact Ok.p0 (iv 7) ⟨_,rfl,rfl,hF⟩
 refine Ok.ct [(1,pv bs1 0),(18,.bool ((xx.1==2)&&(!(dNamM xx.2.1))))] [.blk bs1 (.cells (aN xx v0 q0 u0 j0) 48)] (donej11 xx K) ?_ (fun hF=>?_)
 ·
  refine Ok.r (Ok.rn 4 [.e 0] [1] [(22,.bool (xx.1==2))] ?_)
  refine Ok.bw 22 hF (fun hc7 hF=>?_) (fun hc7 hF=>?_)
  ·refine Ok.rn 6 [.e 0,.k (dNam_c xx.2.1)] [1] [(18,.bool (!(dNamM xx.2.1)))] ?_
   refine Ok.nt (Ok.rb 18 ((xx.1==2)&&(!(dNamM xx.2.1))) (mand_t hc7) ?_)
   exact fz hF
  refine Ok.b 6 [1] [(18,.bool false)] ?_
  refine Ok.nt (Ok.rb 18 ((xx.1==2)&&(!(dNamM xx.2.1))) (mand_f hc7) ?_)
  exact fz hF
 refine Ok.cw hF (fun hc3 hF=>?_) (fun hc3 hF=>?_)
 ·refine Ok.sr (Ok.B 1 [(2,iv 3)] kr (Ok.nt (Ok.ret (Ok.kr (Ok.tr ?_)))))
  exact Ok.p0 (iv 3) ⟨_,rfl,rfl,hF⟩
 refine Ok.k (Ok.kn (Ok.t (Ok.q (Ok.sr (Ok.rn 4 [.e 0,.k (datt_c xx.2.2.1 e0)] [1] [(3,iv (dattS xx.2.2.1))] ?_)))))
 refine Ok.nt (Ok.sr (Ok.b 2 [1,3] [(32,.bool ((dattS xx.2.2.1) != 0))] ?_))
 refine Ok.nt (Ok.cw hF (fun hc4 hF=>?_) (fun hc4 hF=>?_))
 ·refine Ok.sr (Ok.B 2 [(2,iv (dattS xx.2.2.1))] kr (Ok.nt (Ok.ret (Ok.tr ?_))))
  exact Ok.p0 (iv (dattS xx.2.2.1)) ⟨_,rfl,rfl,hF⟩
 refine Ok.k (Ok.t (Ok.q (Ok.ct [(43,.bool ((decide ((xx.2.2.2.1.length:Int)>400))||(decide ((xx.2.1.length:Int)>400))))] [] (donej29 xx K) ?_ (fun hF=>?_))))
 ·
  refine Ok.r (Ok.rn 5 [.e 0] [1] [(38,.bool (decide ((xx.2.2.2.1.length:Int)>400)))] ?_)
  refine Ok.bw 38 hF (fun hc6 hF=>?_) (fun hc6 hF=>?_)
  ·refine Ok.B 5 [(43,.bool true)] kr (Ok.nt (Ok.rb 43 ((decide ((xx.2.2.2.1.length:Int)>400))||(decide ((xx.2.1.length:Int)>400))) (mor_t hc6) ?_))
   exact fz hF
  refine Ok.rn 5 [.e 0] [] [(43,.bool (decide ((xx.2.1.length:Int)>400)))] ?_
  refine Ok.nt (Ok.rb 43 ((decide ((xx.2.2.2.1.length:Int)>400))||(decide ((xx.2.1.length:Int)>400))) (mor_f hc6) ?_)
  exact fz hF
 refine Ok.cw hF (fun hc5 hF=>?_) (fun hc5 hF=>?_)
 ·refine Ok.sr (Ok.B 1 [(2,iv 2)] kr (Ok.nt (Ok.ret (Ok.tr ?_))))
  exact Ok.h0 (iv 2) ⟨_,rfl,rfl,hF⟩
 refine Ok.k (Ok.t (Ok.sr (Ok.B 1 [(2,iv 0)] kr (Ok.nt (Ok.ret ?_)))))
 exact Ok.h0 (iv 0) ⟨_,rfl,rfl,hF⟩
theorem done_ex (x:Nd):∃ e,doneF x (fun r=>r=e)∧(e=0→AGood x.2.2.1):=by
 have no:∀ {e:Int},e≠0→(e=0→AGood x.2.2.1):=fun h h0=>absurd h0 h
 have j29:dattS x.2.2.1=0→∃ e,donej29 x (fun r=>r=e)∧(e=0→AGood x.2.2.1):=fun h0=>ex_if (fun _=>ex_k (no dc)) fun _=>ex_k fun _=>(datt_sp x.2.2.1).2 h0
 have j11:∃ e,donej11 x (fun r=>r=e)∧(e=0→AGood x.2.2.1):=ex_if (fun _=>ex_k (no dc)) fun _=>ex_if (fun hn=>ex_k (no (by simpa using hn))) fun hz=>ex_if (fun _=>j29 (by simpa using hz)) fun _=>j29 (by simpa using hz)
 have j5:∃ e,donej5 x (fun r=>r=e)∧(e=0→AGood x.2.2.1):=ex_if (fun _=>ex_k (no dc)) fun _=>ex_if (fun _=>j11) fun _=>j11
 exact ex_if (fun _=>j5) fun _=>ex_if (fun _=>j5) fun _=>j5
noncomputable def doneS (x:Nd):Int:=pickE fun e=>doneF x (fun r=>r=e)∧(e=0→AGood x.2.2.1)
theorem done_sp (x:Nd):doneF x (fun r=>r=doneS x)∧(doneS x=0→AGood x.2.2.1):=pickE_ok (A:=fun e=>doneF x (fun r=>r=e)∧(e=0→AGood x.2.2.1)) (done_ex x)
theorem done_F (x:Nd):doneF x (fun r=>r=doneS x):=(done_sp x).1
theorem done_c {g:Ghost} {v0:Option Addr} {q0:Nat} {u0:Option Addr} {j0:Nat} (xx:Nd) (e0:Rep g (.slice yA) [.slice v0 xx.2.2.1.length q0] xx.2.2.1) (f0:Rep g (.slice (.int .i64)) [.slice u0 xx.2.2.2.2.2.length j0] xx.2.2.2.2.2)  : CallsG prog 17 #[.agg (aN xx v0 q0 u0 j0)] g (iv (doneS xx)) :=
 (done_ok xx e0 f0 _ (done_F xx)).gv
end Go.Proofs.YtdapgmigogpdcaaGreatDoor.Do
