/- strings.Index. -/
import Derived.Test.YtdapgmigogpdcaaGreatDoorCsu
import Derived.Test.YtdapgmigogpdcaaGreatDoorLaid
namespace Go.Proofs.YtdapgmigogpdcaaGreatDoor.Css
open _root_.Go.Proofs.Tryz Go Go.Eng Go.RowKit Bld Trm
set_option linter.unusedVariables false
set_option linter.unusedSimpArgs false
theorem sdIdxa {p:Prop} (h:p:=by first | (have:=List.length_pos_iff.mpr hp.2.1; omega) | exact hp.1 | exact Int.ofNat_le.2 (named_len _ _) | exact (named_par hp.1 asm).2 | exact (named_par hp.1 asm).1 | exact ⟨hp.1,(numS_ok hp.1).1,(numS_ok hp.1).2⟩ | exact ⟨hp.1,by omega,by (have:=List.length_pos_iff.mpr hp.2.1; omega)⟩ | exact ⟨hp.1,hp.2.1⟩ | exact (note_ok hp.1 asm asm).2 | exact (note_ok hp.1 asm asm).1 | (have:=cp_len xs ([47,42]:Bs); have:=hp.2.2; unfold idxP; omega) | exact (sp_ok hp.1 _).2 | exact (sp_ok hp.1 _).1 | exact ⟨by decide,by decide,by decide⟩ | omega | assumption | exact trivial | (have h0:=List.length_pos_iff.mpr asm; omega) | (simp; omega) | (simp at *; omega)):p:=h
set_option maxHeartbeats 4000000
set_option maxRecDepth 100000
def idxS (s sub:Bs):Int:=Lib.index s sub
def idxP (s _:Bs):Prop:=s.length<4294967281
theorem idx_c {g:Ghost} (s sub:Bs) (hG:SomeInt g 0) (hp:idxP s sub):CallsG prog 89 #[sv s,sv sub] g (iv (idxS s sub)):=fun W hW=>by
 obtain ⟨cs,T,fz,m,h1,h2⟩:=hG
 refine (Tryz.strings_Index ⟨⟨s⟩⟩ ⟨⟨sub⟩⟩ m W hp (by rw [Lib.cell_of_heap (hW _ _ h1)]; exact h2)).mono fun e W' ⟨he,hw⟩=>⟨he,by subst hw; exact Below.refl _ _⟩
def firstV0 (xs:Bs):Bs :=
 (if (decide ((idxS (cpM xs ([47,42]:Bs)).1 ([42,47]:Bs))≥0))=true then xs.take (Int.toNat (w6 ((idxS (cpM xs ([47,42]:Bs)).1 ([42,47]:Bs))+4))) else xs)
def firstV1 (xs:Bs) (e10:UInt8):Bool :=
 (((e10.toNat:Int)==35)&&((decide ((xs.length:Int)>1))&&((signM ((xs.getD (Int.toNat 1) 0).toNat:Int))||(escM (xs.drop (Int.toNat 1))))))
def firstV2 (xs:Bs) (e10:UInt8):Bool :=
 (((e10.toNat:Int)==64)&&(begM (xs.drop (Int.toNat 1))))
def firstV3 (xs:Bs):Int :=
 (if (hpM (xs.drop (Int.toNat (((namedM 1 xs 0).2.1).length:Int))) ([40]:Bs))=true then 2 else (namedM 1 xs 0).1)
def firstV4 (xs:Bs):Bs :=
 (if (hpM (xs.drop (Int.toNat (((namedM 1 xs 0).2.1).length:Int))) ([40]:Bs))=true then xs.take (Int.toNat (w6 ((((namedM 1 xs 0).2.1).length:Int)+1))) else (namedM 1 xs 0).2.1)
def firstV5 (e10:UInt8):Bool :=
 (((e10.toNat:Int)==40)||(((e10.toNat:Int)==91)||((e10.toNat:Int)==123)))
def firstV6 (e10:UInt8):Bool :=
 (((e10.toNat:Int)==41)||(((e10.toNat:Int)==93)||((e10.toNat:Int)==125)))
def firstj21 (xs:Bs) (K:KT→Prop):Prop :=
 K (9,firstV0 xs,([]:Bs),0)
def firstj72 (xs:Bs) (K:KT→Prop):Prop :=
 K (firstV3 xs,firstV4 xs,(namedM 1 xs 0).2.2.1,(namedM 1 xs 0).2.2.2)
def firstj102 (xs:Bs) (K:KT→Prop) (e10:UInt8):Prop :=
 (firstV6 e10=true→(0:Int)≤0∧(0:Int)≤1∧1≤(xs.length:Int)∧K (11,xs.take (Int.toNat 1),([]:Bs),0))∧(firstV6 e10=false→(((e10.toNat:Int)==92)=true→(0:Int)≤0∧(0:Int)≤1∧1≤(xs.length:Int)∧K (6,xs.take (Int.toNat 1),([]:Bs),0))∧(((e10.toNat:Int)==92)=false→(0:Int)≤0∧(0:Int)≤1∧1≤(xs.length:Int)∧K (12,xs.take (Int.toNat 1),([]:Bs),0)))
def firstj88 (xs:Bs) (K:KT→Prop) (e10:UInt8):Prop :=
 (firstV5 e10=true→(0:Int)≤0∧(0:Int)≤1∧1≤(xs.length:Int)∧K (10,xs.take (Int.toNat 1),([]:Bs),0))∧(firstV5 e10=false→(((e10.toNat:Int)==41)=true→firstj102 xs K e10)∧(((e10.toNat:Int)==41)=false→(((e10.toNat:Int)==93)=true→firstj102 xs K e10)∧(((e10.toNat:Int)==93)=false→firstj102 xs K e10)))
def firstj49 (xs:Bs) (K:KT→Prop) (e10:UInt8):Prop :=
 (firstV2 xs e10=true→namedP 3 xs 1∧K ((namedM 3 xs 1).1,(namedM 3 xs 1).2.1,(namedM 3 xs 1).2.2.1,(namedM 3 xs 1).2.2.2))∧(firstV2 xs e10=false→nameP xs∧((decide ((numS xs).2>0))=true→numberP xs (numS xs).1 (numS xs).2∧K ((numberM xs (numS xs).1 (numS xs).2).1,(numberM xs (numS xs).1 (numS xs).2).2.1,(numberM xs (numS xs).1 (numS xs).2).2.2.1,(numberM xs (numS xs).1 (numS xs).2).2.2.2))∧((decide ((numS xs).2>0))=false→(begM xs=true→namedP 1 xs 0∧0≤(((namedM 1 xs 0).2.1).length:Int)∧((((namedM 1 xs 0).2.1).length:Int):Int)≤(xs.length:Int)∧(xs.length:Int)≤(xs.length:Int)∧((hpM (xs.drop (Int.toNat (((namedM 1 xs 0).2.1).length:Int))) ([40]:Bs))=true→(0:Int)≤0∧0≤(w6 ((((namedM 1 xs 0).2.1).length:Int)+1))∧(w6 ((((namedM 1 xs 0).2.1).length:Int)+1))≤(xs.length:Int)∧firstj72 xs K)∧((hpM (xs.drop (Int.toNat (((namedM 1 xs 0).2.1).length:Int))) ([40]:Bs))=false→firstj72 xs K))∧(begM xs=false→(((e10.toNat:Int)==40)=true→firstj88 xs K e10)∧(((e10.toNat:Int)==40)=false→(((e10.toNat:Int)==91)=true→firstj88 xs K e10)∧(((e10.toNat:Int)==91)=false→firstj88 xs K e10)))))
def firstj43 (xs:Bs) (K:KT→Prop) (e10:UInt8):Prop :=
 (firstV1 xs e10=true→namedP 4 xs 1∧K ((namedM 4 xs 1).1,(namedM 4 xs 1).2.1,(namedM 4 xs 1).2.2.1,(namedM 4 xs 1).2.2.2))∧(firstV1 xs e10=false→(((e10.toNat:Int)==64)=true→(0:Int)≤1∧(1:Int)≤(xs.length:Int)∧(xs.length:Int)≤(xs.length:Int)∧firstj49 xs K e10)∧(((e10.toNat:Int)==64)=false→firstj49 xs K e10))
def firstF (xs:Bs) (K:KT→Prop):Prop :=
 tlP xs ([32,9,10,12,13]:Bs)∧((decide ((w6 ((xs.length:Int) - ((tlS xs ([32,9,10,12,13]:Bs)).length:Int)))>0))=true→(0:Int)≤0∧0≤(w6 ((xs.length:Int) - ((tlS xs ([32,9,10,12,13]:Bs)).length:Int)))∧(w6 ((xs.length:Int) - ((tlS xs ([32,9,10,12,13]:Bs)).length:Int)))≤(xs.length:Int)∧K (8,xs.take (Int.toNat (w6 ((xs.length:Int) - ((tlS xs ([32,9,10,12,13]:Bs)).length:Int)))),([]:Bs),0))∧((decide ((w6 ((xs.length:Int) - ((tlS xs ([32,9,10,12,13]:Bs)).length:Int)))>0))=false→((cpM xs ([47,42]:Bs)).2=true→idxP (cpM xs ([47,42]:Bs)).1 ([42,47]:Bs)∧((decide ((idxS (cpM xs ([47,42]:Bs)).1 ([42,47]:Bs))≥0))=true→(0:Int)≤0∧0≤(w6 ((idxS (cpM xs ([47,42]:Bs)).1 ([42,47]:Bs))+4))∧(w6 ((idxS (cpM xs ([47,42]:Bs)).1 ([42,47]:Bs))+4))≤(xs.length:Int)∧firstj21 xs K)∧((decide ((idxS (cpM xs ([47,42]:Bs)).1 ([42,47]:Bs))≥0))=false→firstj21 xs K))∧((cpM xs ([47,42]:Bs)).2=false→(0:Int)≤0∧Int.toNat 0<xs.length∧(((((xs.getD (Int.toNat 0) 0).toNat:Int)==39)||(((xs.getD (Int.toNat 0) 0).toNat:Int)==34))=true→textP xs∧K ((textS xs).1,(textS xs).2.1,(textS xs).2.2.1,(textS xs).2.2.2))∧(((((xs.getD (Int.toNat 0) 0).toNat:Int)==39)||(((xs.getD (Int.toNat 0) 0).toNat:Int)==34))=false→((((xs.getD (Int.toNat 0) 0).toNat:Int)==35)=true→((decide ((xs.length:Int)>1))=true→(0:Int)≤1∧Int.toNat 1<xs.length∧((signM ((xs.getD (Int.toNat 1) 0).toNat:Int))=true→firstj43 xs K (xs.getD (Int.toNat 0) 0))∧((signM ((xs.getD (Int.toNat 1) 0).toNat:Int))=false→(0:Int)≤1∧(1:Int)≤(xs.length:Int)∧(xs.length:Int)≤(xs.length:Int)∧firstj43 xs K (xs.getD (Int.toNat 0) 0)))∧((decide ((xs.length:Int)>1))=false→firstj43 xs K (xs.getD (Int.toNat 0) 0)))∧((((xs.getD (Int.toNat 0) 0).toNat:Int)==35)=false→firstj43 xs K (xs.getD (Int.toNat 0) 0)))))
theorem first_ok {g:Ghost} (xs:Bs) (hG0:SomeInt g 0) (K:KT→Prop)
  (hF:firstF xs K):CallsH prog 53 #[sv xs] g [] (fun g' H' v=>∃ (r0:Int×Bs×Bs×Int),v=.agg (aK r0)∧H'=[]∧K r0):=by
 refine CallsH.en 132 func53 rfl fun w0=>?_
 refine Ok.sr (Ok.o (OpOk.box (v:=sv xs) (cs:=#[sv xs]) rfl kr rfl fun bs1=>?_))
 refine Ok.o (OpOk.aw zK fun bs2=>?_)
 refine Ok.nt (Ok.sr (Ok.B 2 [(1,pv bs1 0),(2,pv bs2 0),(3,.func (.func 86) #[] #[pv bs1 0])] kr (Ok.nt (Ok.q (Ok.q (Ok.quiet' kr kr (OkQ.op rfl (OpQ.s (v:=sv xs) (Yields.l 1 rfl rfl underlying9 rfl kr) rfl rfl (OkQ.b 1 [1,2,3] [(15,iv (xs.length:Int))] ?_)))))))))
 refine OkQ.op rfl (OpQ.s (v:=sv xs) (Yields.l 1 rfl rfl underlying9 rfl kr) rfl rfl ?_)
 obtain ⟨hp3,hF⟩:=hF
 refine OkQ.op rfl (OpQ.f enr (fun W hW=>tl_c xs ([32,9,10,12,13]:Bs) hp3) rfl ?_)
 refine OkQ.b 3 [1,2,3] [(4,iv (w6 ((xs.length:Int) - ((tlS xs ([32,9,10,12,13]:Bs)).length:Int))))] ?_
 refine OkQ.j (Ok.t (Ok.sr (Ok.b 2 [1,2,3,4] [(21,.bool (decide ((w6 ((xs.length:Int) - ((tlS xs ([32,9,10,12,13]:Bs)).length:Int)))>0)))] ?_)))
 refine Ok.nt (Ok.cw hF (fun hc4 hF=>?_) (fun hc4 hF=>?_))
 ·refine Ok.sr (Ok.rn 2 [.e 1] [2] [(22,sv xs),(23,iv (w6 ((xs.length:Int) - ((tlS xs ([32,9,10,12,13]:Bs)).length:Int))))] ?_)
  obtain ⟨h05,h15,h25,hF⟩:=hF
  refine Ok.o (OpOk.s (Yields.ss (s:=xs) (l:=0) (h:=(w6 ((xs.length:Int) - ((tlS xs ([32,9,10,12,13]:Bs)).length:Int)))) kr underlying9 (.inr ⟨rfl,rfl⟩) (.inl ⟨_,_,rfl,rfl⟩) h05 h15 h25 (xs.take (Int.toNat (w6 ((xs.length:Int) - ((tlS xs ([32,9,10,12,13]:Bs)).length:Int))))) (by simp)) rfl rfl (Ok.b 1 [2] [(25,.agg #[iv 8,sv (xs.take (Int.toNat (w6 ((xs.length:Int) - ((tlS xs ([32,9,10,12,13]:Bs)).length:Int))))),sv ([]:Bs),iv 0])] ?_))
  refine Ok.o (OpOk.sw 0 #[iv 8,sv (xs.take (Int.toNat (w6 ((xs.length:Int) - ((tlS xs ([32,9,10,12,13]:Bs)).length:Int))))),sv ([]:Bs),iv 0] rfl rfl rfl ?_)
  refine Ok.nt (Ok.ret (Ok.tr ?_))
  exact Ok.p (vs:=[.agg #[iv 8,sv (xs.take (Int.toNat (w6 ((xs.length:Int) - ((tlS xs ([32,9,10,12,13]:Bs)).length:Int))))),sv ([]:Bs),iv 0]]) [] [] dc rfl (.inl rfl) rfl (.cons (.cellAgg 0 4 #[iv 8,sv (xs.take (Int.toNat (w6 ((xs.length:Int) - ((tlS xs ([32,9,10,12,13]:Bs)).length:Int))))),sv ([]:Bs),iv 0] rfl rfl underlying98 rfl kr kr kr) .nil) (Gext.r w0 g) ⟨(8,xs.take (Int.toNat (w6 ((xs.length:Int) - ((tlS xs ([32,9,10,12,13]:Bs)).length:Int)))),([]:Bs),0),rfl,rfl,hF⟩
 refine Ok.k (Ok.t (Ok.q (Ok.sr (Ok.rn 7 [.e 1,.k (cp_c xs ([47,42]:Bs))] [1,2,3] [(5,sv ((cpM xs ([47,42]:Bs)).1)),(6,.bool (cpM xs ([47,42]:Bs)).2)] ?_))))
 refine Ok.nt (Ok.sr (Ok.b 1 [1,2,3,5] [(31,.bool (cpM xs ([47,42]:Bs)).2)] ?_))
 refine Ok.nt (Ok.cw hF (fun hc6 hF=>?_) (fun hc6 hF=>?_))
 ·refine Ok.ct [(1,pv bs1 0),(2,pv bs2 0)] [.blk bs2 (.cells zK 98),.blk bs1 (.cells #[sv (firstV0 xs)] 9)] (firstj21 xs K) ?_ (fun hF=>?_)
  ·
   refine Ok.q (Ok.r ?_)
   obtain ⟨hp7,hF⟩:=hF
   refine Ok.rn 3 [.k (idx_c (cpM xs ([47,42]:Bs)).1 ([42,47]:Bs) hG0 hp7)] [1,2] [(7,iv (idxS (cpM xs ([47,42]:Bs)).1 ([42,47]:Bs)))] ?_
   refine Ok.nt (Ok.sr (Ok.b 2 [1,2,7] [(35,.bool (decide ((idxS (cpM xs ([47,42]:Bs)).1 ([42,47]:Bs))≥0)))] ?_))
   refine Ok.nt (Ok.cw hF (fun hc8 hF=>?_) (fun hc8 hF=>?_))
   ·refine Ok.r (Ok.rn 3 [.e 1] [1,2] [(36,sv xs),(38,iv (w6 ((idxS (cpM xs ([47,42]:Bs)).1 ([42,47]:Bs))+4)))] ?_)
    obtain ⟨h09,h19,h29,hF⟩:=hF
    refine Ok.o (OpOk.s (Yields.ss (s:=xs) (l:=0) (h:=(w6 ((idxS (cpM xs ([47,42]:Bs)).1 ([42,47]:Bs))+4))) kr underlying9 (.inr ⟨rfl,rfl⟩) (.inl ⟨_,_,rfl,rfl⟩) h09 h19 h29 (xs.take (Int.toNat (w6 ((idxS (cpM xs ([47,42]:Bs)).1 ([42,47]:Bs))+4)))) (by simp)) rfl rfl (Ok.o (OpOk.s1 1 (sv (xs.take (Int.toNat (w6 ((idxS (cpM xs ([47,42]:Bs)).1 ([42,47]:Bs))+4))))) rfl rfl rfl ?_)))
    refine Ok.nt (Ok.heapEq (H':=[.blk bs2 (.cells zK 98),.blk bs1 (.cells #[sv (firstV0 xs)] 9)]) (econs (rfl) (econs (congrArg (fun l:List Value=>Ent.blk bs1 (.cells ⟨l⟩ 9)) (lcons (congrArg (fun s:Bs=>Value.string ⟨⟨s⟩⟩) ((if_t hc8).symm)) rfl)) rfl)) ?_)
    exact fz hF
   refine Ok.k (Ok.t (Ok.heapEq (H':=[.blk bs2 (.cells zK 98),.blk bs1 (.cells #[sv (firstV0 xs)] 9)]) (econs (rfl) (econs (congrArg (fun l:List Value=>Ent.blk bs1 (.cells ⟨l⟩ 9)) (lcons (congrArg (fun s:Bs=>Value.string ⟨⟨s⟩⟩) ((if_f hc8).symm)) rfl)) rfl)) ?_))
   exact fz hF
  refine Ok.sr (Ok.rn 2 [.e 1] [2] [(41,.agg #[iv 9,sv (firstV0 xs),sv ([]:Bs),iv 0])] ?_)
  refine Ok.o (OpOk.sw 0 #[iv 9,sv (firstV0 xs),sv ([]:Bs),iv 0] rfl rfl rfl ?_)
  refine Ok.nt (Ok.ret (Ok.tr ?_))
  exact Ok.p (vs:=[.agg #[iv 9,sv (firstV0 xs),sv ([]:Bs),iv 0]]) [] [] dc rfl (.inl rfl) rfl (.cons (.cellAgg 0 4 #[iv 9,sv (firstV0 xs),sv ([]:Bs),iv 0] rfl rfl underlying98 rfl kr kr kr) .nil) (Gext.r w0 g) ⟨(9,firstV0 xs,([]:Bs),0),rfl,rfl,hF⟩
 refine Ok.k (Ok.t (Ok.q (Ok.sr (Ok.o (OpOk.s (v:=sv xs) (Yields.l 1 rfl rfl underlying9 rfl kr) rfl rfl ?_)))))
 obtain ⟨f0,h110,hF⟩:=hF
 have c0:=get_of (l:=xs) (0:UInt8) h110
 generalize hg10:(xs.getD (Int.toNat 0) 0)=e10 at c0 hF ⊢
 refine Ok.o (OpOk.s (v:=.int .u8 (e10.toNat:Int)) (Yields.ix (k:=.i64) (i:=0) (s:=xs) (b:=e10) kr kr underlying9 f0 c0) rfl rfl (Ok.b 1 [1,2,3] [(8,.int .u8 (e10.toNat:Int))] ?_))
 refine Ok.nt (Ok.block (Ok.sr (Ok.b 3 [1,2,3,8] [(47,.bool ((e10.toNat:Int)==39))] ?_)))
 refine Ok.w 3 [(1,pv bs1 0),(2,pv bs2 0),(3,.func (.func 86) #[] #[pv bs1 0]),(8,.int .u8 (e10.toNat:Int)),(50,.bool (((e10.toNat:Int)==39)||((e10.toNat:Int)==34)))] (fun g0=>?_) ?_
 ·refine Ok.a 47 ((e10.toNat:Int)==39) rfl (fun d0=>?_) (fun d0=>?_)
  ·skip
   refine Ok.b 3 [1,2,3,8] [(50,.bool true)] ?_
   refine Ok.rb 50 (((e10.toNat:Int)==39)||((e10.toNat:Int)==34)) (mor_t d0) (Ok.b 0 [1,2,3,8] [(50,.bool (((e10.toNat:Int)==39)||((e10.toNat:Int)==34)))] ?_)
   exact g0
  skip
  refine Ok.b 3 [1,2,3,8] [(50,.bool ((e10.toNat:Int)==34))] ?_
  refine Ok.rb 50 (((e10.toNat:Int)==39)||((e10.toNat:Int)==34)) (mor_f d0) (Ok.b 0 [1,2,3,8] [(50,.bool (((e10.toNat:Int)==39)||((e10.toNat:Int)==34)))] ?_)
  exact g0
 refine Ok.b 1 [1,2,3,8] [(44,.bool (((e10.toNat:Int)==39)||((e10.toNat:Int)==34)))] ?_
 refine Ok.nt (Ok.cw hF (fun hc13 hF=>?_) (fun hc13 hF=>?_))
 ·refine Ok.sr (Ok.o (OpOk.s (v:=sv xs) (Yields.l 1 rfl rfl underlying9 rfl kr) rfl rfl ?_))
  obtain ⟨hp14,hF⟩:=hF
  refine Ok.o (OpOk.f enr (fun W hW=>text_c xs hp14) rfl ?_)
  refine Ok.o (OpOk.sw 0 (aK (textS xs)) rfl rfl rfl ?_)
  refine Ok.nt (Ok.ret (Ok.kr (Ok.tr ?_)))
  exact Ok.p (vs:=[.agg (aK (textS xs))]) [] [] dc rfl (.inl rfl) rfl (.cons (.cellAgg 0 4 (aK (textS xs)) rfl rfl underlying98 rfl kr kr kr) .nil) (Gext.r w0 g) ⟨((textS xs).1,(textS xs).2.1,(textS xs).2.2.1,(textS xs).2.2.2),rfl,rfl,hF⟩
 refine Ok.ct [(1,pv bs1 0),(2,pv bs2 0),(3,.func (.func 86) #[] #[pv bs1 0]),(8,.int .u8 (e10.toNat:Int)),(53,.bool (firstV1 xs e10))] [.blk bs2 (.cells zK 98),.blk bs1 (.cells #[sv xs] 9)] (firstj43 xs K e10) ?_ (fun hF=>?_)
 ·
  refine Ok.r (Ok.b 3 [1,2,3,8] [(56,.bool ((e10.toNat:Int)==35))] ?_)
  refine Ok.bw 56 hF (fun v0 hF=>?_) (fun v0 hF=>?_)
  ·refine Ok.rn 5 [.e 1] [1,2,3,8] [(61,.bool (decide ((xs.length:Int)>1)))] ?_
   refine Ok.bw 61 hF (fun x0 hF=>?_) (fun x0 hF=>?_)
   ·refine Ok.oy (OpOk.s (v:=sv xs) (Yields.l 1 rfl rfl underlying9 rfl kr) rfl rfl ?_)
    obtain ⟨h047,h147,hF⟩:=hF
    have m0:=get_of (l:=xs) (0:UInt8) h147
    generalize n0:(xs.getD (Int.toNat 1) 0)=e47 at m0 hF ⊢
    refine Ok.oy (OpOk.s (v:=.int .u8 (e47.toNat:Int)) (Yields.ix (k:=.i64) (i:=1) (s:=xs) (b:=e47) kr kr underlying9 h047 m0) rfl rfl (Ok.rn 2 [.k (sign_c (e47.toNat:Int))] [1,2,3,8] [(61,.bool true),(65,.bool (signM (e47.toNat:Int)))] ?_))
    refine Ok.a 65 (signM (e47.toNat:Int)) rfl (fun q0=>?_) (fun q0=>?_)
    ·replace hF:=hF.1 q0
     refine Ok.b 6 [1,2,3,8] [(53,.bool true)] ?_
     refine Ok.j (Ok.t ?_)
     subst n0
     refine Ok.rb 53 (firstV1 xs e10) (Eq.trans (Eq.trans (mor_t q0) (mand_t x0)) (mand_t v0)) ?_
     exact fz hF
    replace hF:=hF.2 q0
    refine Ok.oy (OpOk.s (v:=sv xs) (Yields.l 1 rfl rfl underlying9 rfl kr) rfl rfl ?_)
    obtain ⟨h049,h149,h249,hF⟩:=hF
    refine Ok.oy (OpOk.s (Yields.ss (s:=xs) (l:=1) (h:=(xs.length:Int)) kr underlying9 (.inl ⟨_,_,rfl,rfl⟩) (.inr ⟨rfl,rfl⟩) h049 h149 h249 (xs.drop (Int.toNat 1)) (tkd _ _)) rfl rfl (Ok.rn 4 [.k (esc_c (xs.drop (Int.toNat 1)))] [1,2,3,8] [(53,.bool (escM (xs.drop (Int.toNat 1))))] ?_))
    refine Ok.j (Ok.t ?_)
    subst n0
    refine Ok.rb 53 (firstV1 xs e10) (Eq.trans (Eq.trans (mor_f q0) (mand_t x0)) (mand_t v0)) ?_
    exact fz hF
   refine Ok.b 10 [1,2,3,8] [(53,.bool false)] ?_
   refine Ok.nt (Ok.rb 53 (firstV1 xs e10) (Eq.trans (mand_f x0) (mand_t v0)) ?_)
   exact fz hF
  refine Ok.b 15 [1,2,3,8] [(53,.bool false)] ?_
  refine Ok.nt (Ok.rb 53 (firstV1 xs e10) (mand_f v0) ?_)
  exact fz hF
 refine Ok.cw hF (fun hc15 hF=>?_) (fun hc15 hF=>?_)
 ·refine Ok.sr (Ok.o (OpOk.s (v:=sv xs) (Yields.l 1 rfl rfl underlying9 rfl kr) rfl rfl ?_))
  obtain ⟨hp16,hF⟩:=hF
  refine Ok.o (OpOk.f enr (fun W hW=>named_c 4 xs 1 hp16) rfl ?_)
  refine Ok.o (OpOk.sw 0 (aK (namedM 4 xs 1)) rfl rfl rfl ?_)
  refine Ok.nt (Ok.ret (Ok.kr (Ok.tr ?_)))
  exact Ok.p (vs:=[.agg (aK (namedM 4 xs 1))]) [] [] dc rfl (.inl rfl) rfl (.cons (.cellAgg 0 4 (aK (namedM 4 xs 1)) rfl rfl underlying98 rfl kr kr kr) .nil) (Gext.r w0 g) ⟨((namedM 4 xs 1).1,(namedM 4 xs 1).2.1,(namedM 4 xs 1).2.2.1,(namedM 4 xs 1).2.2.2),rfl,rfl,hF⟩
 refine Ok.ct [(1,pv bs1 0),(2,pv bs2 0),(3,.func (.func 86) #[] #[pv bs1 0]),(73,.bool (firstV2 xs e10))] [.blk bs2 (.cells zK 98),.blk bs1 (.cells #[sv xs] 9)] (firstj49 xs K e10) ?_ (fun hF=>?_)
 ·
  refine Ok.r (Ok.b 3 [1,2,3] [(76,.bool ((e10.toNat:Int)==64))] ?_)
  refine Ok.bw 76 hF (fun e0 hF=>?_) (fun e0 hF=>?_)
  ·refine Ok.oy (OpOk.s (v:=sv xs) (Yields.l 1 rfl rfl underlying9 rfl kr) rfl rfl ?_)
   obtain ⟨h044,h144,h244,hF⟩:=hF
   refine Ok.oy (OpOk.s (Yields.ss (s:=xs) (l:=1) (h:=(xs.length:Int)) kr underlying9 (.inl ⟨_,_,rfl,rfl⟩) (.inr ⟨rfl,rfl⟩) h044 h144 h244 (xs.drop (Int.toNat 1)) (tkd _ _)) rfl rfl (Ok.rn 3 [.k (beg_c (xs.drop (Int.toNat 1)))] [1,2,3] [(73,.bool (begM (xs.drop (Int.toNat 1))))] ?_))
   refine Ok.nt (Ok.rb 73 (firstV2 xs e10) (mand_t e0) ?_)
   exact fz hF
  refine Ok.b 5 [1,2,3] [(73,.bool false)] ?_
  refine Ok.nt (Ok.rb 73 (firstV2 xs e10) (mand_f e0) ?_)
  exact fz hF
 refine Ok.cw hF (fun hc17 hF=>?_) (fun hc17 hF=>?_)
 ·refine Ok.sr (Ok.o (OpOk.s (v:=sv xs) (Yields.l 1 rfl rfl underlying9 rfl kr) rfl rfl ?_))
  obtain ⟨hp18,hF⟩:=hF
  refine Ok.o (OpOk.f enr (fun W hW=>named_c 3 xs 1 hp18) rfl ?_)
  refine Ok.o (OpOk.sw 0 (aK (namedM 3 xs 1)) rfl rfl rfl ?_)
  refine Ok.nt (Ok.ret (Ok.kr (Ok.tr ?_)))
  exact Ok.p (vs:=[.agg (aK (namedM 3 xs 1))]) [] [] dc rfl (.inl rfl) rfl (.cons (.cellAgg 0 4 (aK (namedM 3 xs 1)) rfl rfl underlying98 rfl kr kr kr) .nil) (Gext.r w0 g) ⟨((namedM 3 xs 1).1,(namedM 3 xs 1).2.1,(namedM 3 xs 1).2.2.1,(namedM 3 xs 1).2.2.2),rfl,rfl,hF⟩
 refine Ok.k (Ok.kn (Ok.t (Ok.q (Ok.q (Ok.r ?_)))))
 obtain ⟨hp19,hF⟩:=hF
 refine Ok.rn 7 [.e 1,.k (numb_c xs hp19)] [1,2,3] [(9,iv (numS xs).1),(10,iv (numS xs).2)] ?_
 refine Ok.nt (Ok.sr (Ok.b 2 [1,2,3,9,10] [(89,.bool (decide ((numS xs).2>0)))] ?_))
 refine Ok.nt (Ok.cw hF (fun hc20 hF=>?_) (fun hc20 hF=>?_))
 ·refine Ok.sr (Ok.rn 3 [.e 1] [2] [(90,sv xs),(91,iv (numS xs).1),(92,iv (numS xs).2)] ?_)
  obtain ⟨hp21,hF⟩:=hF
  refine Ok.o (OpOk.f enr (fun W hW=>number_c xs (numS xs).1 (numS xs).2 hp21) rfl ?_)
  refine Ok.o (OpOk.sw 0 (aK (numberM xs (numS xs).1 (numS xs).2)) rfl rfl rfl ?_)
  refine Ok.nt (Ok.ret (Ok.tr ?_))
  exact Ok.p (vs:=[.agg (aK (numberM xs (numS xs).1 (numS xs).2))]) [] [] dc rfl (.inl rfl) rfl (.cons (.cellAgg 0 4 (aK (numberM xs (numS xs).1 (numS xs).2)) rfl rfl underlying98 rfl kr kr kr) .nil) (Gext.r w0 g) ⟨((numberM xs (numS xs).1 (numS xs).2).1,(numberM xs (numS xs).1 (numS xs).2).2.1,(numberM xs (numS xs).1 (numS xs).2).2.2.1,(numberM xs (numS xs).1 (numS xs).2).2.2.2),rfl,rfl,hF⟩
 refine Ok.k (Ok.t (Ok.q (Ok.sr (Ok.o (OpOk.s (v:=sv xs) (Yields.l 1 rfl rfl underlying9 rfl kr) rfl rfl (Ok.o (OpOk.f enr (fun W hW=>beg_c xs) rfl ?_)))))))
 refine Ok.nt (Ok.cw hF (fun hc22 hF=>?_) (fun hc22 hF=>?_))
 ·refine Ok.sr (Ok.o (OpOk.s (v:=sv xs) (Yields.l 1 rfl rfl underlying9 rfl kr) rfl rfl ?_))
  obtain ⟨hp23,hF⟩:=hF
  refine Ok.o (OpOk.f enr (fun W hW=>named_c 1 xs 0 hp23) rfl ?_)
  refine Ok.o (OpOk.aw zK fun z0=>?_)
  refine Ok.o (OpOk.sw 0 (aK (namedM 1 xs 0)) rfl rfl rfl ?_)
  refine Ok.nt (Ok.ct [(2,pv bs2 0),(11,pv z0 0)] [.blk z0 (.cells #[iv (firstV3 xs),sv (firstV4 xs),sv ((namedM 1 xs 0).2.2.1),iv (namedM 1 xs 0).2.2.2] 98),.blk bs2 (.cells zK 98)] (firstj72 xs K) ?_ (fun hF=>?_))
  ·
   refine Ok.sr (Ok.rn 4 [.e 0] [1,2] [(11,pv z0 0),(12,iv (((namedM 1 xs 0).2.1).length:Int))] ?_)
   refine Ok.nt (Ok.sr (Ok.rn 2 [.e 2] [1,2,11,12] [(101,sv xs),(102,iv (((namedM 1 xs 0).2.1).length:Int))] ?_))
   obtain ⟨h025,h125,h225,hF⟩:=hF
   refine Ok.o (OpOk.s (Yields.ss (s:=xs) (l:=(((namedM 1 xs 0).2.1).length:Int)) (h:=(xs.length:Int)) kr underlying9 (.inl ⟨_,_,rfl,rfl⟩) (.inr ⟨rfl,rfl⟩) h025 h125 h225 (xs.drop (Int.toNat (((namedM 1 xs 0).2.1).length:Int))) (tkd _ _)) rfl rfl (Ok.o (OpOk.f enr (fun W hW=>hp_c (xs.drop (Int.toNat (((namedM 1 xs 0).2.1).length:Int))) ([40]:Bs)) rfl ?_)))
   refine Ok.nt (Ok.cw hF (fun y0 hF=>?_) (fun y0 hF=>?_))
   ·refine Ok.mix [] [] [.blk bs2 (.cells zK 98),.blk bs1 (.cells #[sv xs] 9)] [(0,true),(1,true),(2,true),(3,true),(4,true),(5,false),(6,true),(7,false)] kr kr (.cons _ (.cons_cons _ (.cons_cons _ .slnil))) (OkM.h rfl rfl rfl (OpQ.s (v:=sv xs) (Yields.l 1 rfl rfl underlying9 rfl kr) rfl rfl (OkM.b 2 [2,11] [(105,sv xs),(107,iv (w6 ((((namedM 1 xs 0).2.1).length:Int)+1)))] ?_)))
    obtain ⟨h027,h127,h227,hF⟩:=hF
    refine OkM.h rfl rfl rfl (OpQ.s (v:=sv (xs.take (Int.toNat (w6 ((((namedM 1 xs 0).2.1).length:Int)+1))))) (Yields.ss (s:=xs) (l:=0) (h:=(w6 ((((namedM 1 xs 0).2.1).length:Int)+1))) kr underlying9 (.inr ⟨rfl,rfl⟩) (.inl ⟨_,_,rfl,rfl⟩) h027 h127 h227 (xs.take (Int.toNat (w6 ((((namedM 1 xs 0).2.1).length:Int)+1)))) (by simp)) rfl rfl (OkM.b 1 [2,11] [(108,sv (xs.take (Int.toNat (w6 ((((namedM 1 xs 0).2.1).length:Int)+1))))),(109,pv z0 0)] ?_))
    refine OkM.t rfl rfl (OpOk.sto (k:=1) (v:=iv 2) 0 #[iv 2,sv ((namedM 1 xs 0).2.1),sv ((namedM 1 xs 0).2.2.1),iv (namedM 1 xs 0).2.2.2] rfl rfl rfl ?_)
    refine OkM.l (i:=5) rfl (Gle.refl _) (.cons _ (.cons_cons _ (.cons_cons _ .slnil))) (OkM.b 1 [2,11,108] [(110,pv z0 1)] ?_)
    refine OkM.t rfl rfl (OpOk.sto (k:=1) (v:=sv (xs.take (Int.toNat (w6 ((((namedM 1 xs 0).2.1).length:Int)+1))))) 0 #[iv 2,sv (xs.take (Int.toNat (w6 ((((namedM 1 xs 0).2.1).length:Int)+1)))),sv ((namedM 1 xs 0).2.2.1),iv (namedM 1 xs 0).2.2.2] rfl rfl rfl ?_)
    refine OkM.l (i:=7) rfl (Gle.refl _) (.cons _ (.cons_cons _ (.cons_cons _ .slnil))) (OkM.nil (Ok.t (Ok.heapEq (H':=[.blk z0 (.cells #[iv (firstV3 xs),sv (firstV4 xs),sv ((namedM 1 xs 0).2.2.1),iv (namedM 1 xs 0).2.2.2] 98),.blk bs2 (.cells zK 98),.blk bs1 (.cells #[sv xs] 9)]) (econs (congrArg (fun l:List Value=>Ent.blk z0 (.cells ⟨l⟩ 98)) (lcons (congrArg (Value.int .i64) ((if_t y0).symm)) (lcons (congrArg (fun s:Bs=>Value.string ⟨⟨s⟩⟩) ((if_t y0).symm)) (lcons (rfl) (lcons (rfl) rfl))))) (econs (rfl) (econs (rfl) rfl))) ?_)))
    exact fz hF
   refine Ok.k (Ok.t (Ok.heapEq (H':=[.blk z0 (.cells #[iv (firstV3 xs),sv (firstV4 xs),sv ((namedM 1 xs 0).2.2.1),iv (namedM 1 xs 0).2.2.2] 98),.blk bs2 (.cells zK 98),.blk bs1 (.cells #[sv xs] 9)]) (econs (congrArg (fun l:List Value=>Ent.blk z0 (.cells ⟨l⟩ 98)) (lcons (congrArg (Value.int .i64) ((if_f y0).symm)) (lcons (congrArg (fun s:Bs=>Value.string ⟨⟨s⟩⟩) ((if_f y0).symm)) (lcons (rfl) (lcons (rfl) rfl))))) (econs (rfl) (econs (rfl) rfl))) ?_))
   exact fz hF
  refine Ok.sr (Ok.o (OpOk.s (v:=.agg #[iv (firstV3 xs),sv (firstV4 xs),sv ((namedM 1 xs 0).2.2.1),iv (namedM 1 xs 0).2.2.2]) (Yields.loadAgg 0 4 #[iv (firstV3 xs),sv (firstV4 xs),sv ((namedM 1 xs 0).2.2.1),iv (namedM 1 xs 0).2.2.2] rfl rfl underlying98 rfl kr kr kr) rfl rfl (Ok.o (OpOk.sw 1 #[iv (firstV3 xs),sv (firstV4 xs),sv ((namedM 1 xs 0).2.2.1),iv (namedM 1 xs 0).2.2.2] rfl rfl rfl ?_))))
  refine Ok.nt (Ok.ret (Ok.tr ?_))
  exact Ok.p (vs:=[.agg #[iv (firstV3 xs),sv (firstV4 xs),sv ((namedM 1 xs 0).2.2.1),iv (namedM 1 xs 0).2.2.2]]) [] [] dc rfl (.inl rfl) rfl (.cons (.cellAgg 1 4 #[iv (firstV3 xs),sv (firstV4 xs),sv ((namedM 1 xs 0).2.2.1),iv (namedM 1 xs 0).2.2.2] rfl rfl underlying98 rfl kr kr kr) .nil) (Gext.r w0 g) ⟨(firstV3 xs,firstV4 xs,(namedM 1 xs 0).2.2.1,(namedM 1 xs 0).2.2.2),rfl,rfl,hF⟩
 refine Ok.k (Ok.t (Ok.q (Ok.sr (Ok.o (OpOk.s (v:=sv xs) (Yields.l 1 rfl rfl underlying9 rfl kr) rfl rfl (Ok.o (OpOk.s (v:=.int .u8 (e10.toNat:Int)) (Yields.ix (k:=.i64) (i:=0) (s:=xs) (b:=e10) kr kr underlying9 f0 c0) rfl rfl (Ok.nt (Ok.block (Ok.ct [(2,pv bs2 0),(3,.func (.func 86) #[] #[pv bs1 0]),(113,.int .u8 (e10.toNat:Int)),(114,.bool (firstV5 e10))] [.blk bs2 (.cells zK 98),.blk bs1 (.cells #[sv xs] 9)] (firstj88 xs K e10) ?_ (fun hF=>?_)))))))))))
 ·
  refine Ok.sr (Ok.b 2 [2,3] [(113,.int .u8 (e10.toNat:Int)),(114,.bool ((e10.toNat:Int)==40))] ?_)
  refine Ok.nt (Ok.cw hF (fun u0 hF=>?_) (fun u0 hF=>?_))
  ·refine Ok.k (Ok.t (Ok.rb 114 (firstV5 e10) (Eq.trans (u0) (mor_t u0)) ?_))
   exact fz hF
  refine Ok.sr (Ok.b 2 [2,3,113] [(114,.bool ((e10.toNat:Int)==91))] ?_)
  refine Ok.nt (Ok.cw hF (fun s0 hF=>?_) (fun s0 hF=>?_))
  ·refine Ok.k (Ok.t (Ok.rb 114 (firstV5 e10) (Eq.trans (Eq.trans (s0) (mor_t s0)) (mor_f u0)) ?_))
   exact fz hF
  refine Ok.r (Ok.b 2 [2,3,113] [(114,.bool ((e10.toNat:Int)==123))] ?_)
  refine Ok.nt (Ok.rb 114 (firstV5 e10) (Eq.trans (mor_f s0) (mor_f u0)) ?_)
  exact fz hF
 refine Ok.cw hF (fun hc28 hF=>?_) (fun hc28 hF=>?_)
 ·refine Ok.sr (Ok.b 1 [2] [(118,.func (.func 86) #[] #[pv bs1 0])] ?_)
  refine Ok.o (OpOk.i (args:=#[iv 10,pv bs1 0]) 8 [(0,iv 10),(1,pv bs1 0)] enr func86 rfl rfl rfl rfl (Ok.sr (Ok.o (OpOk.aw zK fun bs3i119=>?_))))
  refine Ok.nt (Ok.sr (Ok.B 1 [(1,pv bs1 0),(3,pv bs3i119 0),(4,iv 10)] kr (Ok.o (OpOk.s (v:=sv xs) (Yields.l 2 rfl rfl underlying9 rfl kr) rfl rfl ?_))))
  obtain ⟨h030,h130,h230,hF⟩:=hF
  refine Ok.o (OpOk.s (Yields.ss (s:=xs) (l:=0) (h:=1) kr underlying9 (.inr ⟨rfl,rfl⟩) (.inl ⟨_,_,rfl,rfl⟩) h030 h130 h230 (xs.take (Int.toNat 1)) (by simp)) rfl rfl (Ok.b 1 [3] [(7,.agg #[iv 10,sv (xs.take (Int.toNat 1)),sv ([]:Bs),iv 0])] ?_))
  refine Ok.o (OpOk.sw 0 #[iv 10,sv (xs.take (Int.toNat 1)),sv ([]:Bs),iv 0] rfl rfl rfl ?_)
  refine Ok.nt (Ok.ret (Ok.back (vs:=[.agg #[iv 10,sv (xs.take (Int.toNat 1)),sv ([]:Bs),iv 0]]) (.inl rfl) rfl (.cons (.cellAgg 0 4 #[iv 10,sv (xs.take (Int.toNat 1)),sv ([]:Bs),iv 0] rfl rfl underlying98 rfl kr kr kr) .nil) rfl (Ok.o (OpOk.sw 1 #[iv 10,sv (xs.take (Int.toNat 1)),sv ([]:Bs),iv 0] rfl rfl rfl ?_))))
  refine Ok.nt (Ok.ret (Ok.kr (Ok.tr ?_)))
  exact Ok.p (vs:=[.agg #[iv 10,sv (xs.take (Int.toNat 1)),sv ([]:Bs),iv 0]]) [] [] dc rfl (.inl rfl) rfl (.cons (.cellAgg 1 4 #[iv 10,sv (xs.take (Int.toNat 1)),sv ([]:Bs),iv 0] rfl rfl underlying98 rfl kr kr kr) .nil) (Gext.r w0 g) ⟨(10,xs.take (Int.toNat 1),([]:Bs),0),rfl,rfl,hF⟩
 refine Ok.ct [(2,pv bs2 0),(3,.func (.func 86) #[] #[pv bs1 0]),(113,.int .u8 (e10.toNat:Int)),(120,.bool (firstV6 e10))] [.blk bs2 (.cells zK 98),.blk bs1 (.cells #[sv xs] 9)] (firstj102 xs K e10) ?_ (fun hF=>?_)
 ·
  refine Ok.sr (Ok.b 2 [2,3,113] [(120,.bool ((e10.toNat:Int)==41))] ?_)
  refine Ok.nt (Ok.cw hF (fun j0 hF=>?_) (fun j0 hF=>?_))
  ·refine Ok.k (Ok.t (Ok.rb 120 (firstV6 e10) (Eq.trans (j0) (mor_t j0)) ?_))
   exact fz hF
  refine Ok.sr (Ok.b 2 [2,3,113] [(120,.bool ((e10.toNat:Int)==93))] ?_)
  refine Ok.nt (Ok.cw hF (fun b0 hF=>?_) (fun b0 hF=>?_))
  ·refine Ok.k (Ok.t (Ok.rb 120 (firstV6 e10) (Eq.trans (Eq.trans (b0) (mor_t b0)) (mor_f j0)) ?_))
   exact fz hF
  refine Ok.r (Ok.b 2 [2,3,113] [(120,.bool ((e10.toNat:Int)==125))] ?_)
  refine Ok.nt (Ok.rb 120 (firstV6 e10) (Eq.trans (mor_f b0) (mor_f j0)) ?_)
  exact fz hF
 refine Ok.cw hF (fun hc31 hF=>?_) (fun hc31 hF=>?_)
 ·refine Ok.sr (Ok.b 1 [2] [(124,.func (.func 86) #[] #[pv bs1 0])] ?_)
  refine Ok.o (OpOk.i (args:=#[iv 11,pv bs1 0]) 8 [(0,iv 11),(1,pv bs1 0)] enr func86 rfl rfl rfl rfl (Ok.sr (Ok.o (OpOk.aw zK fun bs3i125=>?_))))
  refine Ok.nt (Ok.sr (Ok.B 1 [(1,pv bs1 0),(3,pv bs3i125 0),(4,iv 11)] kr (Ok.o (OpOk.s (v:=sv xs) (Yields.l 2 rfl rfl underlying9 rfl kr) rfl rfl ?_))))
  obtain ⟨h033,h133,h233,hF⟩:=hF
  refine Ok.o (OpOk.s (Yields.ss (s:=xs) (l:=0) (h:=1) kr underlying9 (.inr ⟨rfl,rfl⟩) (.inl ⟨_,_,rfl,rfl⟩) h033 h133 h233 (xs.take (Int.toNat 1)) (by simp)) rfl rfl (Ok.b 1 [3] [(7,.agg #[iv 11,sv (xs.take (Int.toNat 1)),sv ([]:Bs),iv 0])] ?_))
  refine Ok.o (OpOk.sw 0 #[iv 11,sv (xs.take (Int.toNat 1)),sv ([]:Bs),iv 0] rfl rfl rfl ?_)
  refine Ok.nt (Ok.ret (Ok.back (vs:=[.agg #[iv 11,sv (xs.take (Int.toNat 1)),sv ([]:Bs),iv 0]]) (.inl rfl) rfl (.cons (.cellAgg 0 4 #[iv 11,sv (xs.take (Int.toNat 1)),sv ([]:Bs),iv 0] rfl rfl underlying98 rfl kr kr kr) .nil) rfl (Ok.o (OpOk.sw 1 #[iv 11,sv (xs.take (Int.toNat 1)),sv ([]:Bs),iv 0] rfl rfl rfl ?_))))
  refine Ok.nt (Ok.ret (Ok.kr (Ok.tr ?_)))
  exact Ok.p (vs:=[.agg #[iv 11,sv (xs.take (Int.toNat 1)),sv ([]:Bs),iv 0]]) [] [] dc rfl (.inl rfl) rfl (.cons (.cellAgg 1 4 #[iv 11,sv (xs.take (Int.toNat 1)),sv ([]:Bs),iv 0] rfl rfl underlying98 rfl kr kr kr) .nil) (Gext.r w0 g) ⟨(11,xs.take (Int.toNat 1),([]:Bs),0),rfl,rfl,hF⟩
 refine Ok.sr (Ok.b 2 [2,3] [(126,.bool ((e10.toNat:Int)==92))] ?_)
 refine Ok.nt (Ok.cw hF (fun hc34 hF=>?_) (fun hc34 hF=>?_))
 ·refine Ok.sr (Ok.b 1 [2] [(128,.func (.func 86) #[] #[pv bs1 0])] ?_)
  refine Ok.o (OpOk.i (args:=#[iv 6,pv bs1 0]) 8 [(0,iv 6),(1,pv bs1 0)] enr func86 rfl rfl rfl rfl (Ok.sr (Ok.o (OpOk.aw zK fun bs3i129=>?_))))
  refine Ok.nt (Ok.sr (Ok.B 1 [(1,pv bs1 0),(3,pv bs3i129 0),(4,iv 6)] kr (Ok.o (OpOk.s (v:=sv xs) (Yields.l 2 rfl rfl underlying9 rfl kr) rfl rfl ?_))))
  obtain ⟨h036,h136,h236,hF⟩:=hF
  refine Ok.o (OpOk.s (Yields.ss (s:=xs) (l:=0) (h:=1) kr underlying9 (.inr ⟨rfl,rfl⟩) (.inl ⟨_,_,rfl,rfl⟩) h036 h136 h236 (xs.take (Int.toNat 1)) (by simp)) rfl rfl (Ok.b 1 [3] [(7,.agg #[iv 6,sv (xs.take (Int.toNat 1)),sv ([]:Bs),iv 0])] ?_))
  refine Ok.o (OpOk.sw 0 #[iv 6,sv (xs.take (Int.toNat 1)),sv ([]:Bs),iv 0] rfl rfl rfl ?_)
  refine Ok.nt (Ok.ret (Ok.back (vs:=[.agg #[iv 6,sv (xs.take (Int.toNat 1)),sv ([]:Bs),iv 0]]) (.inl rfl) rfl (.cons (.cellAgg 0 4 #[iv 6,sv (xs.take (Int.toNat 1)),sv ([]:Bs),iv 0] rfl rfl underlying98 rfl kr kr kr) .nil) rfl (Ok.o (OpOk.sw 1 #[iv 6,sv (xs.take (Int.toNat 1)),sv ([]:Bs),iv 0] rfl rfl rfl ?_))))
  refine Ok.nt (Ok.ret (Ok.kr (Ok.tr ?_)))
  exact Ok.p (vs:=[.agg #[iv 6,sv (xs.take (Int.toNat 1)),sv ([]:Bs),iv 0]]) [] [] dc rfl (.inl rfl) rfl (.cons (.cellAgg 1 4 #[iv 6,sv (xs.take (Int.toNat 1)),sv ([]:Bs),iv 0] rfl rfl underlying98 rfl kr kr kr) .nil) (Gext.r w0 g) ⟨(6,xs.take (Int.toNat 1),([]:Bs),0),rfl,rfl,hF⟩
 refine Ok.k (Ok.kn (Ok.t (Ok.sr (Ok.b 1 [2] [(130,.func (.func 86) #[] #[pv bs1 0])] ?_))))
 refine Ok.o (OpOk.i (args:=#[iv 12,pv bs1 0]) 8 [(0,iv 12),(1,pv bs1 0)] enr func86 rfl rfl rfl rfl (Ok.sr (Ok.o (OpOk.aw zK fun bs3i131=>?_))))
 refine Ok.nt (Ok.sr (Ok.B 1 [(1,pv bs1 0),(3,pv bs3i131 0),(4,iv 12)] kr (Ok.o (OpOk.s (v:=sv xs) (Yields.l 2 rfl rfl underlying9 rfl kr) rfl rfl ?_))))
 obtain ⟨h038,h138,h238,hF⟩:=hF
 refine Ok.o (OpOk.s (Yields.ss (s:=xs) (l:=0) (h:=1) kr underlying9 (.inr ⟨rfl,rfl⟩) (.inl ⟨_,_,rfl,rfl⟩) h038 h138 h238 (xs.take (Int.toNat 1)) (by simp)) rfl rfl (Ok.b 1 [3] [(7,.agg #[iv 12,sv (xs.take (Int.toNat 1)),sv ([]:Bs),iv 0])] ?_))
 refine Ok.o (OpOk.sw 0 #[iv 12,sv (xs.take (Int.toNat 1)),sv ([]:Bs),iv 0] rfl rfl rfl ?_)
 refine Ok.nt (Ok.ret (Ok.back (vs:=[.agg #[iv 12,sv (xs.take (Int.toNat 1)),sv ([]:Bs),iv 0]]) (.inl rfl) rfl (.cons (.cellAgg 0 4 #[iv 12,sv (xs.take (Int.toNat 1)),sv ([]:Bs),iv 0] rfl rfl underlying98 rfl kr kr kr) .nil) rfl (Ok.o (OpOk.sw 1 #[iv 12,sv (xs.take (Int.toNat 1)),sv ([]:Bs),iv 0] rfl rfl rfl ?_))))
 refine Ok.nt (Ok.ret ?_)
 exact Ok.p (vs:=[.agg #[iv 12,sv (xs.take (Int.toNat 1)),sv ([]:Bs),iv 0]]) [] [] dc rfl (.inl rfl) rfl (.cons (.cellAgg 1 4 #[iv 12,sv (xs.take (Int.toNat 1)),sv ([]:Bs),iv 0] rfl rfl underlying98 rfl kr kr kr) .nil) (Gext.r w0 g) ⟨(12,xs.take (Int.toNat 1),([]:Bs),0),rfl,rfl,hF⟩
def firstP (s:Bs):Prop:=nameP s∧s≠[]∧s.length<4294967281
theorem sp_ok {s:Bs} (h:nameP s) (c:Bs):0≤w6 ((s.length:Int) - ((tlS s c).length:Int))∧w6 ((s.length:Int) - ((tlS s c).length:Int))≤s.length:=by
 have:=tlS_len s c
 unfold nameP at h
 rw [w64 om]
 omega
theorem numS_ok {s:Bs} (h:nameP s):0≤(numS s).2∧(numS s).2≤s.length:=by
 have h1:=end_ok h
 have h2:=v2_ok h
 unfold numS
 split
 ·simp
 unfold numbV3
 unfold nameP at h
 generalize w6 ((numbV1 s)+(digitsM (s.drop (Int.toNat (numbV1 s)))))=e at h1 h2 ⊢
 split
 ·rename_i hc
  have:=h2.2 (of_decide_eq_true hc)
  rw [w64 (x:=1+numbV2 s) om,w64 om]
  omega
 omega
theorem cp_len (s p:Bs):(cpM s p).1.length≤s.length:=by
 unfold cpM slcpM
 split <;> simp
theorem idx_len:∀ (s sub:Bs),0≤Lib.index s sub→Lib.index s sub+sub.length≤s.length
 | [],sub=>by
  unfold Lib.index
  split
  ·rename_i h; intro _; rw [List.isEmpty_iff.1 h]; simp
  intro h; omega
 | b::l,sub=>by
  unfold Lib.index
  split
  ·rename_i h
   intro _
   have:=(List.isPrefixOf_iff_prefix.1 h).length_le
   omega
  split
  ·intro h; omega
  rename_i h1 h2
  intro h
  have h3:=Lib.index_ge l sub
  have:Lib.index l sub≠-1:=by simpa using h2
  have:=idx_len l sub om
  simp only [List.length_cons]
  omega
theorem note_ok {s:Bs} (h:nameP s) (h1:(cpM s ([47,42]:Bs)).2=true) (h2:decide ((idxS (cpM s ([47,42]:Bs)).1 ([42,47]:Bs))≥0)=true) :
  0≤w6 ((idxS (cpM s ([47,42]:Bs)).1 ([42,47]:Bs))+4)∧w6 ((idxS (cpM s ([47,42]:Bs)).1 ([42,47]:Bs))+4)≤s.length:=by
 have h2:=of_decide_eq_true h2
 have h3:=idx_len (cpM s ([47,42]:Bs)).1 ([42,47]:Bs) h2
 have h4:(cpM s ([47,42]:Bs)).1.length+2=s.length:=by
  unfold cpM slcpM at h1 ⊢
  cases hc:slhpM s ([47,42]:Bs)
  ·rw [hc,if_t (show (!false)=true from rfl)] at h1; cases h1
  rw [if_f (show (!true)=false from rfl)]
  have:=slhp_len hc
  simp at this
  simp
  omega
 unfold idxS at h2 ⊢
 unfold nameP at h
 simp only [List.length_cons,List.length_nil] at h3
 rw [w64 om]
 omega
theorem named_len (k:Int) (s:Bs):((namedM k s 0).2.1).length≤s.length:=by
 unfold namedM
 simp only [List.length_take]
 omega
theorem named_par {k:Int} {s:Bs} (h:nameP s) (h1:hpM (s.drop (Int.toNat (((namedM k s 0).2.1).length:Int))) ([40]:Bs)=true) :
  0≤w6 ((((namedM k s 0).2.1).length:Int)+1)∧w6 ((((namedM k s 0).2.1).length:Int)+1)≤s.length:=by
 have h2:=named_len k s
 have h3:=slhp_len (s:=s.drop (Int.toNat (((namedM k s 0).2.1).length:Int))) (p:=[40]) h1
 rw [List.length_drop] at h3
 simp at h3
 unfold nameP at h
 rw [w64 om]
 omega
set_option maxHeartbeats 4000000
def firstj21M (xs:Bs):KT:=(9,firstV0 xs,([]:Bs),0)
theorem firstj21_A (xs:Bs) (hp:firstP xs) (P:KT→Prop) (h:P (firstj21M xs)):firstj21 xs (fun k0=>P k0):=by
 unfold firstj21M at h
 unfold firstj21
 exact h
def firstj72M (xs:Bs):KT:=(firstV3 xs,firstV4 xs,(namedM 1 xs 0).2.2.1,(namedM 1 xs 0).2.2.2)
theorem firstj72_A (xs:Bs) (hp:firstP xs) (P:KT→Prop) (h:P (firstj72M xs)):firstj72 xs (fun k0=>P k0):=by
 unfold firstj72M at h
 unfold firstj72
 exact h
def firstj102M (xs:Bs) (e10:UInt8):KT:=(if (firstV6 e10)=true then (11,xs.take (Int.toNat 1),([]:Bs),0) else (if ((e10.toNat:Int)==92)=true then (6,xs.take (Int.toNat 1),([]:Bs),0) else (12,xs.take (Int.toNat 1),([]:Bs),0)))
theorem firstj102_A (xs:Bs) (e10:UInt8) (hp:firstP xs) (P:KT→Prop) (h:P (firstj102M xs e10)):firstj102 xs (fun k0=>P k0) e10:=by
 unfold firstj102M at h
 unfold firstj102
 refine ⟨fun hc0=>?_,fun hc0=>?_⟩
 ·rw [if_t hc0] at h
  refine ⟨?_,?_,?_,?_⟩
  ·exact sdIdxa
  ·exact sdIdxa
  ·exact sdIdxa
  exact h
 rw [if_f hc0] at h
 refine ⟨fun hc1=>?_,fun hc1=>?_⟩
 ·rw [if_t hc1] at h
  have hd1:=hc1; try simp only [Bool.and_eq_true,Bool.or_eq_true,Bool.and_eq_false_iff,Bool.or_eq_false_iff,Bool.not_eq_true',Bool.not_eq_false',decide_eq_true_eq,decide_eq_false_iff_not,beq_iff_eq,beq_eq_false_iff_ne,ne_eq] at hd1
  refine ⟨?_,?_,?_,?_⟩
  ·exact sdIdxa
  ·exact sdIdxa
  ·exact sdIdxa
  exact h
 rw [if_f hc1] at h
 have hd1:=hc1; try simp only [Bool.and_eq_true,Bool.or_eq_true,Bool.and_eq_false_iff,Bool.or_eq_false_iff,Bool.not_eq_true',Bool.not_eq_false',decide_eq_true_eq,decide_eq_false_iff_not,beq_iff_eq,beq_eq_false_iff_ne,ne_eq] at hd1
 refine ⟨?_,?_,?_,?_⟩
 ·exact sdIdxa
 ·exact sdIdxa
 ·exact sdIdxa
 exact h
def firstj88M (xs:Bs) (e10:UInt8):KT:=(if (firstV5 e10)=true then (10,xs.take (Int.toNat 1),([]:Bs),0) else (firstj102M xs e10))
theorem firstj88_A (xs:Bs) (e10:UInt8) (hp:firstP xs) (P:KT→Prop) (h:P (firstj88M xs e10)):firstj88 xs (fun k0=>P k0) e10:=by
 unfold firstj88M at h
 unfold firstj88
 refine ⟨fun hc0=>?_,fun hc0=>?_⟩
 ·rw [if_t hc0] at h
  refine ⟨?_,?_,?_,?_⟩
  ·exact sdIdxa
  ·exact sdIdxa
  ·exact sdIdxa
  exact h
 rw [if_f hc0] at h
 refine ⟨fun hc1=>?_,fun hc1=>?_⟩
 ·skip
  have hd1:=hc1; try simp only [Bool.and_eq_true,Bool.or_eq_true,Bool.and_eq_false_iff,Bool.or_eq_false_iff,Bool.not_eq_true',Bool.not_eq_false',decide_eq_true_eq,decide_eq_false_iff_not,beq_iff_eq,beq_eq_false_iff_ne,ne_eq] at hd1
  exact firstj102_A xs e10 (by exact sdIdxa) _ h
 skip
 have hd1:=hc1; try simp only [Bool.and_eq_true,Bool.or_eq_true,Bool.and_eq_false_iff,Bool.or_eq_false_iff,Bool.not_eq_true',Bool.not_eq_false',decide_eq_true_eq,decide_eq_false_iff_not,beq_iff_eq,beq_eq_false_iff_ne,ne_eq] at hd1
 refine ⟨fun hc2=>?_,fun hc2=>?_⟩
 ·skip
  have hd2:=hc2; try simp only [Bool.and_eq_true,Bool.or_eq_true,Bool.and_eq_false_iff,Bool.or_eq_false_iff,Bool.not_eq_true',Bool.not_eq_false',decide_eq_true_eq,decide_eq_false_iff_not,beq_iff_eq,beq_eq_false_iff_ne,ne_eq] at hd2
  exact firstj102_A xs e10 (by exact sdIdxa) _ h
 skip
 have hd2:=hc2; try simp only [Bool.and_eq_true,Bool.or_eq_true,Bool.and_eq_false_iff,Bool.or_eq_false_iff,Bool.not_eq_true',Bool.not_eq_false',decide_eq_true_eq,decide_eq_false_iff_not,beq_iff_eq,beq_eq_false_iff_ne,ne_eq] at hd2
 exact firstj102_A xs e10 (by exact sdIdxa) _ h
def firstj49M (xs:Bs) (e10:UInt8):KT:=(if (firstV2 xs e10)=true then ((namedM 3 xs 1).1,(namedM 3 xs 1).2.1,(namedM 3 xs 1).2.2.1,(namedM 3 xs 1).2.2.2) else (if (decide ((numS xs).2>0))=true then ((numberM xs (numS xs).1 (numS xs).2).1,(numberM xs (numS xs).1 (numS xs).2).2.1,(numberM xs (numS xs).1 (numS xs).2).2.2.1,(numberM xs (numS xs).1 (numS xs).2).2.2.2) else (if (begM xs)=true then (firstj72M xs) else (firstj88M xs e10))))
theorem firstj49_A (xs:Bs) (e10:UInt8) (hp:firstP xs) (P:KT→Prop) (h:P (firstj49M xs e10)):firstj49 xs (fun k0=>P k0) e10:=by
 unfold firstj49M at h
 unfold firstj49
 refine ⟨fun hc0=>?_,fun hc0=>?_⟩
 ·rw [if_t hc0] at h
  refine ⟨?_,?_⟩
  ·exact sdIdxa
  exact h
 rw [if_f hc0] at h
 refine ⟨?_,?_⟩
 ·exact sdIdxa
 refine ⟨fun hc1=>?_,fun hc1=>?_⟩
 ·rw [if_t hc1] at h
  have hd1:=hc1; try simp only [Bool.and_eq_true,Bool.or_eq_true,Bool.and_eq_false_iff,Bool.or_eq_false_iff,Bool.not_eq_true',Bool.not_eq_false',decide_eq_true_eq,decide_eq_false_iff_not,beq_iff_eq,beq_eq_false_iff_ne,ne_eq] at hd1
  refine ⟨?_,?_⟩
  ·exact sdIdxa
  exact h
 rw [if_f hc1] at h
 have hd1:=hc1; try simp only [Bool.and_eq_true,Bool.or_eq_true,Bool.and_eq_false_iff,Bool.or_eq_false_iff,Bool.not_eq_true',Bool.not_eq_false',decide_eq_true_eq,decide_eq_false_iff_not,beq_iff_eq,beq_eq_false_iff_ne,ne_eq] at hd1
 refine ⟨fun hc2=>?_,fun hc2=>?_⟩
 ·rw [if_t hc2] at h
  refine ⟨?_,?_⟩
  ·exact sdIdxa
  refine ⟨?_,?_,?_,?_⟩
  ·exact sdIdxa
  ·exact sdIdxa
  ·exact sdIdxa
  refine ⟨fun hc3=>?_,fun hc3=>?_⟩
  ·skip
   refine ⟨?_,?_,?_,?_⟩
   ·exact sdIdxa
   ·exact sdIdxa
   ·exact sdIdxa
   exact firstj72_A xs (by exact sdIdxa) _ h
  skip
  exact firstj72_A xs (by exact sdIdxa) _ h
 rw [if_f hc2] at h
 refine ⟨fun hc3=>?_,fun hc3=>?_⟩
 ·skip
  have hd3:=hc3; try simp only [Bool.and_eq_true,Bool.or_eq_true,Bool.and_eq_false_iff,Bool.or_eq_false_iff,Bool.not_eq_true',Bool.not_eq_false',decide_eq_true_eq,decide_eq_false_iff_not,beq_iff_eq,beq_eq_false_iff_ne,ne_eq] at hd3
  exact firstj88_A xs e10 (by exact sdIdxa) _ h
 skip
 have hd3:=hc3; try simp only [Bool.and_eq_true,Bool.or_eq_true,Bool.and_eq_false_iff,Bool.or_eq_false_iff,Bool.not_eq_true',Bool.not_eq_false',decide_eq_true_eq,decide_eq_false_iff_not,beq_iff_eq,beq_eq_false_iff_ne,ne_eq] at hd3
 refine ⟨fun hc4=>?_,fun hc4=>?_⟩
 ·skip
  have hd4:=hc4; try simp only [Bool.and_eq_true,Bool.or_eq_true,Bool.and_eq_false_iff,Bool.or_eq_false_iff,Bool.not_eq_true',Bool.not_eq_false',decide_eq_true_eq,decide_eq_false_iff_not,beq_iff_eq,beq_eq_false_iff_ne,ne_eq] at hd4
  exact firstj88_A xs e10 (by exact sdIdxa) _ h
 skip
 have hd4:=hc4; try simp only [Bool.and_eq_true,Bool.or_eq_true,Bool.and_eq_false_iff,Bool.or_eq_false_iff,Bool.not_eq_true',Bool.not_eq_false',decide_eq_true_eq,decide_eq_false_iff_not,beq_iff_eq,beq_eq_false_iff_ne,ne_eq] at hd4
 exact firstj88_A xs e10 (by exact sdIdxa) _ h
def firstj43M (xs:Bs) (e10:UInt8):KT:=(if (firstV1 xs e10)=true then ((namedM 4 xs 1).1,(namedM 4 xs 1).2.1,(namedM 4 xs 1).2.2.1,(namedM 4 xs 1).2.2.2) else (firstj49M xs e10))
theorem firstj43_A (xs:Bs) (e10:UInt8) (hp:firstP xs) (P:KT→Prop) (h:P (firstj43M xs e10)):firstj43 xs (fun k0=>P k0) e10:=by
 unfold firstj43M at h
 unfold firstj43
 refine ⟨fun hc0=>?_,fun hc0=>?_⟩
 ·rw [if_t hc0] at h
  refine ⟨?_,?_⟩
  ·exact sdIdxa
  exact h
 rw [if_f hc0] at h
 refine ⟨fun hc1=>?_,fun hc1=>?_⟩
 ·skip
  have hd1:=hc1; try simp only [Bool.and_eq_true,Bool.or_eq_true,Bool.and_eq_false_iff,Bool.or_eq_false_iff,Bool.not_eq_true',Bool.not_eq_false',decide_eq_true_eq,decide_eq_false_iff_not,beq_iff_eq,beq_eq_false_iff_ne,ne_eq] at hd1
  refine ⟨?_,?_,?_,?_⟩
  ·exact sdIdxa
  ·exact sdIdxa
  ·exact sdIdxa
  exact firstj49_A xs e10 (by exact sdIdxa) _ h
 skip
 have hd1:=hc1; try simp only [Bool.and_eq_true,Bool.or_eq_true,Bool.and_eq_false_iff,Bool.or_eq_false_iff,Bool.not_eq_true',Bool.not_eq_false',decide_eq_true_eq,decide_eq_false_iff_not,beq_iff_eq,beq_eq_false_iff_ne,ne_eq] at hd1
 exact firstj49_A xs e10 (by exact sdIdxa) _ h
def firstM (xs:Bs):KT:=(if (decide ((w6 ((xs.length:Int) - ((tlS xs ([32,9,10,12,13]:Bs)).length:Int)))>0))=true then (8,xs.take (Int.toNat (w6 ((xs.length:Int) - ((tlS xs ([32,9,10,12,13]:Bs)).length:Int)))),([]:Bs),0) else (if (cpM xs ([47,42]:Bs)).2=true then (firstj21M xs) else (if ((((xs.getD (Int.toNat 0) 0).toNat:Int)==39)||(((xs.getD (Int.toNat 0) 0).toNat:Int)==34))=true then ((textS xs).1,(textS xs).2.1,(textS xs).2.2.1,(textS xs).2.2.2) else (firstj43M xs (xs.getD (Int.toNat 0) 0)))))
theorem firstF_A (xs:Bs) (hp:firstP xs) (P:KT→Prop) (h:P (firstM xs)):firstF xs (fun k0=>P k0):=by
 unfold firstM at h
 unfold firstF
 refine ⟨?_,?_⟩
 ·exact sdIdxa
 refine ⟨fun hc0=>?_,fun hc0=>?_⟩
 ·rw [if_t hc0] at h
  have hd0:=hc0; try simp only [Bool.and_eq_true,Bool.or_eq_true,Bool.and_eq_false_iff,Bool.or_eq_false_iff,Bool.not_eq_true',Bool.not_eq_false',decide_eq_true_eq,decide_eq_false_iff_not,beq_iff_eq,beq_eq_false_iff_ne,ne_eq] at hd0
  refine ⟨?_,?_,?_,?_⟩
  ·exact sdIdxa
  ·exact sdIdxa
  ·exact sdIdxa
  exact h
 rw [if_f hc0] at h
 have hd0:=hc0; try simp only [Bool.and_eq_true,Bool.or_eq_true,Bool.and_eq_false_iff,Bool.or_eq_false_iff,Bool.not_eq_true',Bool.not_eq_false',decide_eq_true_eq,decide_eq_false_iff_not,beq_iff_eq,beq_eq_false_iff_ne,ne_eq] at hd0
 refine ⟨fun hc1=>?_,fun hc1=>?_⟩
 ·rw [if_t hc1] at h
  refine ⟨?_,?_⟩
  ·exact sdIdxa
  refine ⟨fun hc2=>?_,fun hc2=>?_⟩
  ·skip
   have hd2:=hc2; try simp only [Bool.and_eq_true,Bool.or_eq_true,Bool.and_eq_false_iff,Bool.or_eq_false_iff,Bool.not_eq_true',Bool.not_eq_false',decide_eq_true_eq,decide_eq_false_iff_not,beq_iff_eq,beq_eq_false_iff_ne,ne_eq] at hd2
   refine ⟨?_,?_,?_,?_⟩
   ·exact sdIdxa
   ·exact sdIdxa
   ·exact sdIdxa
   exact firstj21_A xs (by exact sdIdxa) _ h
  skip
  have hd2:=hc2; try simp only [Bool.and_eq_true,Bool.or_eq_true,Bool.and_eq_false_iff,Bool.or_eq_false_iff,Bool.not_eq_true',Bool.not_eq_false',decide_eq_true_eq,decide_eq_false_iff_not,beq_iff_eq,beq_eq_false_iff_ne,ne_eq] at hd2
  exact firstj21_A xs (by exact sdIdxa) _ h
 rw [if_f hc1] at h
 refine ⟨?_,?_,?_⟩
 ·exact sdIdxa
 ·exact sdIdxa
 refine ⟨fun hc2=>?_,fun hc2=>?_⟩
 ·rw [if_t hc2] at h
  have hd2:=hc2; try simp only [Bool.and_eq_true,Bool.or_eq_true,Bool.and_eq_false_iff,Bool.or_eq_false_iff,Bool.not_eq_true',Bool.not_eq_false',decide_eq_true_eq,decide_eq_false_iff_not,beq_iff_eq,beq_eq_false_iff_ne,ne_eq] at hd2
  refine ⟨?_,?_⟩
  ·exact sdIdxa
  exact h
 rw [if_f hc2] at h
 have hd2:=hc2; try simp only [Bool.and_eq_true,Bool.or_eq_true,Bool.and_eq_false_iff,Bool.or_eq_false_iff,Bool.not_eq_true',Bool.not_eq_false',decide_eq_true_eq,decide_eq_false_iff_not,beq_iff_eq,beq_eq_false_iff_ne,ne_eq] at hd2
 refine ⟨fun hc3=>?_,fun hc3=>?_⟩
 ·skip
  have hd3:=hc3; try simp only [Bool.and_eq_true,Bool.or_eq_true,Bool.and_eq_false_iff,Bool.or_eq_false_iff,Bool.not_eq_true',Bool.not_eq_false',decide_eq_true_eq,decide_eq_false_iff_not,beq_iff_eq,beq_eq_false_iff_ne,ne_eq] at hd3
  refine ⟨fun hc4=>?_,fun hc4=>?_⟩
  ·skip
   have hd4:=of_decide_eq_true hc4
   refine ⟨?_,?_,?_⟩
   ·exact sdIdxa
   ·exact sdIdxa
   refine ⟨fun hc5=>?_,fun hc5=>?_⟩
   ·skip
    exact firstj43_A xs (xs.getD (Int.toNat 0) 0) (by exact sdIdxa) _ h
   skip
   refine ⟨?_,?_,?_,?_⟩
   ·exact sdIdxa
   ·exact sdIdxa
   ·exact sdIdxa
   exact firstj43_A xs (xs.getD (Int.toNat 0) 0) (by exact sdIdxa) _ h
  skip
  have hd4:=of_decide_eq_false hc4
  exact firstj43_A xs (xs.getD (Int.toNat 0) 0) (by exact sdIdxa) _ h
 skip
 have hd3:=hc3; try simp only [Bool.and_eq_true,Bool.or_eq_true,Bool.and_eq_false_iff,Bool.or_eq_false_iff,Bool.not_eq_true',Bool.not_eq_false',decide_eq_true_eq,decide_eq_false_iff_not,beq_iff_eq,beq_eq_false_iff_ne,ne_eq] at hd3
 exact firstj43_A xs (xs.getD (Int.toNat 0) 0) (by exact sdIdxa) _ h
theorem first_F (xs:Bs) (hp:firstP xs):firstF xs (fun k0=>k0=firstM xs) :=
 firstF_A xs hp (fun z=>z=firstM xs) rfl
theorem first_c {g:Ghost} (xs:Bs) (hG0:SomeInt g 0)  (hp:firstP xs):CallsG prog 53 #[sv xs] g (.agg (aK (firstM xs))) :=
 (first_ok xs hG0 _ (first_F xs hp)).gv
end Go.Proofs.YtdapgmigogpdcaaGreatDoor.Css
