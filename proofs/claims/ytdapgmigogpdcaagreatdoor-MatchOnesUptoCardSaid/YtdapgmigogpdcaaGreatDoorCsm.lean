/- csstok: a number with its unit. -/
import Derived.Test.YtdapgmigogpdcaaGreatDoorCst
namespace Go.Proofs.YtdapgmigogpdcaaGreatDoor.Css
open _root_.Go.Proofs.Tryz Go Go.Eng Bld Trm
set_option linter.unusedVariables false
set_option linter.unusedSimpArgs false
theorem sdCsma {p:Prop} (h:p:=by first | exact hp.2.2 | exact hp.2.1 | exact (hp_one hc0 hp.2.1 hp.1).2 | exact (hp_one hc0 hp.2.1 hp.1).1 | exact (ahead_ok hp.1 hp.2.1 hp.2.2).2 | exact (ahead_ok hp.1 hp.2.1 hp.2.2).1 | exact lowerP_name (nameP_drop hp.1 _) | exact nameP_drop hp.1 _ | omega | assumption | exact trivial | (have h0:=List.length_pos_iff.mpr asm; omega) | (simp; omega) | (simp at *; omega)):p:=h
set_option maxHeartbeats 4000000
set_option maxRecDepth 100000
def numberP (s:Bs) (_:Int) (a:Int):Prop:=nameP s∧0≤a∧a≤s.length
theorem lowerP_name {s:Bs} (h:nameP s):lowerP (nameS s).1:=nameS_val h
theorem hp_one {s:Bs} {a:Int} (h:hpM (s.drop a.toNat) ([37]:Bs)=true) (h0:0≤a) (h1:nameP s):w6 (a+1)≤s.length∧0≤w6 (a+1):=by
 have:=slhp_len (s:=s.drop a.toNat) (p:=[37]) h
 rw [List.length_drop] at this
 simp at this
 unfold nameP at h1
 rw [w64 om]
 omega
def numberV0 (xs:Bs) (xn:Int):Bs :=
 (if (hpM (xs.drop xn.toNat) ([37]:Bs))=true then xs.take (Int.toNat (w6 (xn+1))) else (if (begM (xs.drop xn.toNat))=true then xs.take (Int.toNat (w6 (xn+(nameS (xs.drop xn.toNat)).2))) else xs.take xn.toNat))
def numberV1 (xs:Bs) (xn:Int):Bs :=
 (if (hpM (xs.drop xn.toNat) ([37]:Bs))=true then ([37]:Bs) else (if (begM (xs.drop xn.toNat))=true then (lowerS (nameS (xs.drop xn.toNat)).1) else ([]:Bs)))
def numberj5 (xs:Bs) (xnum:Int) (xn:Int) (K:KT→Prop):Prop :=
 K (7,numberV0 xs xn,numberV1 xs xn,xnum)
def numberF (xs:Bs) (xnum:Int) (xn:Int) (K:KT→Prop):Prop :=
 (0:Int)≤0∧0≤xn∧xn≤(xs.length:Int)∧0≤xn∧(xn:Int)≤(xs.length:Int)∧(xs.length:Int)≤(xs.length:Int)∧((hpM (xs.drop xn.toNat) ([37]:Bs))=true→(0:Int)≤0∧0≤w6 (xn+1)∧w6 (xn+1)≤(xs.length:Int)∧numberj5 xs xnum xn K)∧((hpM (xs.drop xn.toNat) ([37]:Bs))=false→((begM (xs.drop xn.toNat))=true→nameP (xs.drop xn.toNat)∧(0:Int)≤0∧0≤(w6 (xn+(nameS (xs.drop xn.toNat)).2))∧(w6 (xn+(nameS (xs.drop xn.toNat)).2))≤(xs.length:Int)∧lowerP (nameS (xs.drop xn.toNat)).1∧numberj5 xs xnum xn K)∧((begM (xs.drop xn.toNat))=false→numberj5 xs xnum xn K))
theorem number_ok {g:Ghost} (xs:Bs) (xnum:Int) (xn:Int) (K:KT→Prop)
  (hF:numberF xs xnum xn K):CallsH prog 96 #[sv xs,iv xnum,iv xn] g [] (fun g' H' v=>∃ (r0:Int×Bs×Bs×Int),v=.agg (aK r0)∧H'=[]∧K r0):=by
 refine CallsH.en 44 func96 rfl fun w0=>?_
 refine Ok.sr (Ok.o (OpOk.aw zK fun bs6=>?_))
 refine Ok.nt (Ok.sr (Ok.B 2 [(0,sv xs),(1,iv xnum),(2,iv xn),(6,pv bs6 0),(11,sv xs),(12,iv xn)] kr ?_))
 obtain ⟨h02,h12,h22,hF⟩:=hF
 refine Ok.o (OpOk.s (Yields.ss (s:=xs) (l:=0) (h:=xn) kr underlying9 (.inr ⟨rfl,rfl⟩) (.inl ⟨_,_,rfl,rfl⟩) h02 h12 h22 (xs.take xn.toNat) (by simp)) rfl rfl (Ok.b 2 [0,2,6] [(15,.agg #[iv 7,sv (xs.take xn.toNat),sv ([]:Bs),iv xnum])] ?_))
 refine Ok.o (OpOk.aw zK fun bs7=>?_)
 refine Ok.o (OpOk.sw 0 #[iv 7,sv (xs.take xn.toNat),sv ([]:Bs),iv xnum] rfl rfl rfl ?_)
 refine Ok.nt (Ok.ct [(6,pv bs6 0),(7,pv bs7 0)] [.blk bs7 (.cells #[iv 7,sv (numberV0 xs xn),sv (numberV1 xs xn),iv xnum] 98),.blk bs6 (.cells zK 98)] (numberj5 xs xnum xn K) ?_ (fun hF=>?_))
 ·
  refine Ok.sr (Ok.b 2 [0,2,6] [(7,pv bs7 0),(16,sv xs),(17,iv xn)] ?_)
  obtain ⟨h04,h14,h24,hF⟩:=hF
  refine Ok.o (OpOk.s (Yields.ss (s:=xs) (l:=xn) (h:=(xs.length:Int)) kr underlying9 (.inl ⟨_,_,rfl,rfl⟩) (.inr ⟨rfl,rfl⟩) h04 h14 h24 (xs.drop xn.toNat) (tkd _ _)) rfl rfl (Ok.b 1 [0,2,6,7] [(8,sv (xs.drop xn.toNat))] ?_))
  refine Ok.nt (Ok.sr (Ok.b 1 [0,2,6,7,8] [(19,sv (xs.drop xn.toNat))] ?_))
  refine Ok.o (OpOk.f enr (fun W hW=>hp_c (xs.drop xn.toNat) ([37]:Bs)) rfl ?_)
  refine Ok.nt (Ok.cw hF (fun hc5 hF=>?_) (fun hc5 hF=>?_))
  ·refine Ok.r (Ok.b 3 [6,7] [(21,sv xs),(23,iv (w6 (xn+1)))] ?_)
   obtain ⟨h06,h16,h26,hF⟩:=hF
   refine Ok.o (OpOk.s (Yields.ss (s:=xs) (l:=0) (h:=w6 (xn+1)) kr underlying9 (.inr ⟨rfl,rfl⟩) (.inl ⟨_,_,rfl,rfl⟩) h06 h16 h26 (xs.take (Int.toNat (w6 (xn+1)))) (by simp)) rfl rfl (Ok.b 1 [6,7] [(24,sv (xs.take (Int.toNat (w6 (xn+1))))),(25,pv bs7 1)] ?_))
   refine Ok.o (OpOk.sto (k:=1) (v:=sv (xs.take (Int.toNat (w6 (xn+1))))) 0 #[iv 7,sv (xs.take (Int.toNat (w6 (xn+1)))),sv ([]:Bs),iv xnum] rfl rfl rfl ?_)
   refine Ok.b 1 [6,7] [(26,pv bs7 2)] ?_
   refine Ok.o (OpOk.sto (k:=1) (v:=sv ([37]:Bs)) 0 #[iv 7,sv (xs.take (Int.toNat (w6 (xn+1)))),sv ([37]:Bs),iv xnum] rfl rfl rfl ?_)
   refine Ok.nt (Ok.heapEq (H':=[.blk bs7 (.cells #[iv 7,sv (numberV0 xs xn),sv (numberV1 xs xn),iv xnum] 98),.blk bs6 (.cells zK 98)]) (econs (congrArg (fun l:List Value=>Ent.blk bs7 (.cells ⟨l⟩ 98)) (lcons (rfl) (lcons (congrArg (fun s:Bs=>Value.string ⟨⟨s⟩⟩) ((if_t hc5).symm)) (lcons (congrArg (fun s:Bs=>Value.string ⟨⟨s⟩⟩) ((if_t hc5).symm)) (lcons (rfl) rfl))))) (econs (rfl) rfl)) ?_)
   exact fz hF
  refine Ok.sr (Ok.b 1 [0,2,6,7,8] [(27,sv (xs.drop xn.toNat))] ?_)
  refine Ok.o (OpOk.f enr (fun W hW=>beg_c (xs.drop xn.toNat)) rfl ?_)
  refine Ok.nt (Ok.cw hF (fun hc7 hF=>?_) (fun hc7 hF=>?_))
  ·refine Ok.q (Ok.r ?_)
   obtain ⟨hp8,hF⟩:=hF
   refine Ok.rn 7 [.k (name_c (xs.drop xn.toNat) hp8)] [0,2,6,7] [(9,sv ((nameS (xs.drop xn.toNat)).1)),(10,iv (nameS (xs.drop xn.toNat)).2)] ?_
   refine Ok.nt (Ok.mix [] [] [.blk bs6 (.cells zK 98)] [(0,true),(1,true),(2,true),(3,true),(4,true),(5,true),(6,true),(7,true),(8,false),(9,true),(10,false)] kr kr (.cons _ (.cons_cons _ .slnil)) (OkM.b 4 [6,7,9] [(34,sv xs),(37,iv (w6 (xn+(nameS (xs.drop xn.toNat)).2)))] ?_))
   obtain ⟨h09,h19,h29,hF⟩:=hF
   refine OkM.h rfl rfl rfl (OpQ.s (v:=sv (xs.take (Int.toNat (w6 (xn+(nameS (xs.drop xn.toNat)).2))))) (Yields.ss (s:=xs) (l:=0) (h:=(w6 (xn+(nameS (xs.drop xn.toNat)).2))) kr underlying9 (.inr ⟨rfl,rfl⟩) (.inl ⟨_,_,rfl,rfl⟩) h09 h19 h29 (xs.take (Int.toNat (w6 (xn+(nameS (xs.drop xn.toNat)).2)))) (by simp)) rfl rfl (OkM.b 1 [6,7] [(38,sv (xs.take (Int.toNat (w6 (xn+(nameS (xs.drop xn.toNat)).2))))),(39,sv ((nameS (xs.drop xn.toNat)).1))] ?_))
   obtain ⟨hp10,hF⟩:=hF
   refine OkM.h rfl rfl rfl (OpQ.f enr (fun W hW=>lower_c (nameS (xs.drop xn.toNat)).1 hp10) rfl ?_)
   refine OkM.b 1 [6,7,38] [(40,sv (lowerS (nameS (xs.drop xn.toNat)).1)),(41,pv bs7 1)] ?_
   refine OkM.t rfl rfl (OpOk.sto (k:=1) (v:=sv (xs.take (Int.toNat (w6 (xn+(nameS (xs.drop xn.toNat)).2))))) 0 #[iv 7,sv (xs.take (Int.toNat (w6 (xn+(nameS (xs.drop xn.toNat)).2)))),sv ([]:Bs),iv xnum] rfl rfl rfl ?_)
   refine OkM.l (i:=8) rfl (Gle.refl _) (.cons _ (.cons_cons _ .slnil)) (OkM.b 1 [6,7,40] [(42,pv bs7 2)] ?_)
   refine OkM.t rfl rfl (OpOk.sto (k:=1) (v:=sv (lowerS (nameS (xs.drop xn.toNat)).1)) 0 #[iv 7,sv (xs.take (Int.toNat (w6 (xn+(nameS (xs.drop xn.toNat)).2)))),sv (lowerS (nameS (xs.drop xn.toNat)).1),iv xnum] rfl rfl rfl ?_)
   refine OkM.l (i:=10) rfl (Gle.refl _) (.cons _ (.cons_cons _ .slnil)) (OkM.nil (Ok.t (Ok.heapEq (H':=[.blk bs7 (.cells #[iv 7,sv (numberV0 xs xn),sv (numberV1 xs xn),iv xnum] 98),.blk bs6 (.cells zK 98)]) (econs (congrArg (fun l:List Value=>Ent.blk bs7 (.cells ⟨l⟩ 98)) (lcons (rfl) (lcons (congrArg (fun s:Bs=>Value.string ⟨⟨s⟩⟩) (Eq.trans ((if_t hc7).symm) ((if_f hc5).symm))) (lcons (congrArg (fun s:Bs=>Value.string ⟨⟨s⟩⟩) (Eq.trans ((if_t hc7).symm) ((if_f hc5).symm))) (lcons (rfl) rfl))))) (econs (rfl) rfl)) ?_)))
   exact fz hF
  refine Ok.k (Ok.t (Ok.heapEq (H':=[.blk bs7 (.cells #[iv 7,sv (numberV0 xs xn),sv (numberV1 xs xn),iv xnum] 98),.blk bs6 (.cells zK 98)]) (econs (congrArg (fun l:List Value=>Ent.blk bs7 (.cells ⟨l⟩ 98)) (lcons (rfl) (lcons (congrArg (fun s:Bs=>Value.string ⟨⟨s⟩⟩) (Eq.trans ((if_f hc7).symm) ((if_f hc5).symm))) (lcons (congrArg (fun s:Bs=>Value.string ⟨⟨s⟩⟩) (Eq.trans ((if_f hc7).symm) ((if_f hc5).symm))) (lcons (rfl) rfl))))) (econs (rfl) rfl)) ?_))
  exact fz hF
 refine Ok.sr (Ok.o (OpOk.s (v:=.agg #[iv 7,sv (numberV0 xs xn),sv (numberV1 xs xn),iv xnum]) (Yields.loadAgg 0 4 #[iv 7,sv (numberV0 xs xn),sv (numberV1 xs xn),iv xnum] rfl rfl underlying98 rfl kr kr kr) rfl rfl (Ok.o (OpOk.sw 1 #[iv 7,sv (numberV0 xs xn),sv (numberV1 xs xn),iv xnum] rfl rfl rfl ?_))))
 refine Ok.nt (Ok.ret ?_)
 exact Ok.p (vs:=[.agg #[iv 7,sv (numberV0 xs xn),sv (numberV1 xs xn),iv xnum]]) [] [] dc rfl (.inl rfl) rfl (.cons (.cellAgg 1 4 #[iv 7,sv (numberV0 xs xn),sv (numberV1 xs xn),iv xnum] rfl rfl underlying98 rfl kr kr kr) .nil) (Gext.r w0 g) ⟨(7,numberV0 xs xn,numberV1 xs xn,xnum),rfl,rfl,hF⟩
def numberj5M (xs:Bs) (xnum:Int) (xn:Int):KT:=(7,numberV0 xs xn,numberV1 xs xn,xnum)
theorem numberj5_A (xs:Bs) (xnum:Int) (xn:Int) (P:KT→Prop) (h:P (numberj5M xs xnum xn)):numberj5 xs xnum xn (fun k0=>P k0):=by
 unfold numberj5M at h
 unfold numberj5
 exact h
def numberM (xs:Bs) (xnum:Int) (xn:Int):KT:=(numberj5M xs xnum xn)
theorem numberF_A (xs:Bs) (xnum:Int) (xn:Int) (hp:numberP xs xnum xn) (P:KT→Prop) (h:P (numberM xs xnum xn)):numberF xs xnum xn (fun k0=>P k0):=by
 unfold numberM at h
 unfold numberF
 refine ⟨?_,?_,?_,?_⟩
 ·exact sdCsma
 ·exact sdCsma
 ·exact sdCsma
 refine ⟨?_,?_,?_,?_⟩
 ·exact sdCsma
 ·exact sdCsma
 ·exact sdCsma
 refine ⟨fun hc0=>?_,fun hc0=>?_⟩
 ·skip
  refine ⟨?_,?_,?_,?_⟩
  ·exact sdCsma
  ·exact sdCsma
  ·exact sdCsma
  exact numberj5_A xs xnum xn _ h
 skip
 refine ⟨fun hc1=>?_,fun hc1=>?_⟩
 ·skip
  refine ⟨?_,?_⟩
  ·exact sdCsma
  refine ⟨?_,?_,?_,?_⟩
  ·exact sdCsma
  ·exact sdCsma
  ·exact sdCsma
  refine ⟨?_,?_⟩
  ·exact sdCsma
  exact numberj5_A xs xnum xn _ h
 skip
 exact numberj5_A xs xnum xn _ h
theorem number_F (xs:Bs) (xnum:Int) (xn:Int) (hp:numberP xs xnum xn):numberF xs xnum xn (fun k0=>k0=numberM xs xnum xn) :=
 numberF_A xs xnum xn hp (fun z=>z=numberM xs xnum xn) rfl
theorem number_c {g:Ghost} (xs:Bs) (xnum:Int) (xn:Int)  (hp:numberP xs xnum xn):CallsG prog 96 #[sv xs,iv xnum,iv xn] g (.agg (aK (numberM xs xnum xn))) :=
 (number_ok xs xnum xn _ (number_F xs xnum xn hp)).gv
end Go.Proofs.YtdapgmigogpdcaaGreatDoor.Css
