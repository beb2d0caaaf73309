/- The reference's tokens: the first token of a text. -/
import Derived.Test.YtdapgmigogpdcaaGreatDoorTrb
namespace Go.Proofs.YtdapgmigogpdcaaGreatDoor.Tk
open _root_.Go.Proofs.Tryz Go Go.Eng Bld Trm Css
set_option linter.unusedVariables false
set_option linter.unusedSimpArgs false
set_option maxHeartbeats 4000000
set_option maxRecDepth 100000
def rnatV0 (xs:Bs) (xend:Int):Bs :=
 (if (ratM xs xend==37)=true then xs.take (Int.toNat (w6 (xend+1))) else (if (rbegS xs xend)=true then xs.take (Int.toNat (rsaidS xs xend).2) else xs.take xend.toNat))
def rnatV1 (xs:Bs) (xend:Int):Bs :=
 (if (ratM xs xend==37)=true then ([37]:Bs) else (if (rbegS xs xend)=true then (lowerS (rsaidS xs xend).1) else ([]:Bs)))
def rnatj5 (xs:Bs) (xn:Int) (xend:Int) (K:KT→Prop):Prop :=
 K (7,rnatV0 xs xend,rnatV1 xs xend,xn)
def rnatF (xs:Bs) (xn:Int) (xend:Int) (K:KT→Prop):Prop :=
 (0:Int)≤0∧0≤xend∧xend≤(xs.length:Int)∧rplP xs xend∧((ratM xs xend==37)=true→(0:Int)≤0∧0≤w6 (xend+1)∧w6 (xend+1)≤(xs.length:Int)∧rnatj5 xs xn xend K)∧((ratM xs xend==37)=false→rplP xs xend∧(rbegS xs xend=true→rsaidP xs xend∧(0:Int)≤0∧0≤(rsaidS xs xend).2∧(rsaidS xs xend).2≤(xs.length:Int)∧lowerP (rsaidS xs xend).1∧rnatj5 xs xn xend K)∧(rbegS xs xend=false→rnatj5 xs xn xend K))
theorem rnat_ok {g:Ghost} (xs:Bs) (xn:Int) (xend:Int) (K:KT→Prop)
  (hF:rnatF xs xn xend K):CallsH prog 190 #[sv xs,iv xn,iv xend] g [] (fun g' H' v=>∃ (r0:Int×Bs×Bs×Int),v=.agg (aK r0)∧H'=[]∧K r0):=by
 refine CallsH.en 42 func190 rfl fun w0=>?_
 refine Ok.sr (Ok.o (OpOk.aw zK fun bs6=>?_))
 refine Ok.nt (Ok.sr (Ok.B 2 [(0,sv xs),(1,iv xn),(2,iv xend),(6,pv bs6 0),(10,sv xs),(11,iv xend)] kr ?_))
 obtain ⟨h02,h12,h22,hF⟩:=hF
 refine Ok.o (OpOk.s (Yields.ss (s:=xs) (l:=0) (h:=xend) kr underlying9 (.inr ⟨rfl,rfl⟩) (.inl ⟨_,_,rfl,rfl⟩) h02 h12 h22 (xs.take xend.toNat) (by simp)) rfl rfl (Ok.b 2 [0,2,6] [(14,.agg #[iv 7,sv (xs.take xend.toNat),sv ([]:Bs),iv xn])] ?_))
 refine Ok.o (OpOk.aw zK fun bs7=>?_)
 refine Ok.o (OpOk.sw 0 #[iv 7,sv (xs.take xend.toNat),sv ([]:Bs),iv xn] rfl rfl rfl ?_)
 refine Ok.nt (Ok.ct [(6,pv bs6 0),(7,pv bs7 0)] [.blk bs7 (.cells #[iv 7,sv (rnatV0 xs xend),sv (rnatV1 xs xend),iv xn] 98),.blk bs6 (.cells zK 98)] (rnatj5 xs xn xend K) ?_ (fun hF=>?_))
 ·
  refine Ok.q (Ok.r ?_)
  obtain ⟨hp4,hF⟩:=hF
  refine Ok.rn 4 [.k (rat_c xs xend hp4)] [0,2,6] [(7,pv bs7 0),(18,.bool (ratM xs xend==37))] ?_
  refine Ok.nt (Ok.cw hF (fun hc5 hF=>?_) (fun hc5 hF=>?_))
  ·refine Ok.sr (Ok.b 3 [6,7] [(19,sv xs),(21,iv (w6 (xend+1)))] ?_)
   obtain ⟨h06,h16,h26,hF⟩:=hF
   refine Ok.o (OpOk.s (Yields.ss (s:=xs) (l:=0) (h:=w6 (xend+1)) kr underlying9 (.inr ⟨rfl,rfl⟩) (.inl ⟨_,_,rfl,rfl⟩) h06 h16 h26 (xs.take (Int.toNat (w6 (xend+1)))) (by simp)) rfl rfl (Ok.b 1 [6,7] [(22,sv (xs.take (Int.toNat (w6 (xend+1))))),(23,pv bs7 1)] ?_))
   refine Ok.o (OpOk.sto (k:=1) (v:=sv (xs.take (Int.toNat (w6 (xend+1))))) 0 #[iv 7,sv (xs.take (Int.toNat (w6 (xend+1)))),sv ([]:Bs),iv xn] rfl rfl rfl ?_)
   refine Ok.nt (Ok.r (Ok.b 1 [6,7] [(24,pv bs7 2)] ?_))
   refine Ok.o (OpOk.sto (k:=1) (v:=sv ([37]:Bs)) 0 #[iv 7,sv (xs.take (Int.toNat (w6 (xend+1)))),sv ([37]:Bs),iv xn] rfl rfl rfl ?_)
   refine Ok.nt (Ok.heapEq (H':=[.blk bs7 (.cells #[iv 7,sv (rnatV0 xs xend),sv (rnatV1 xs xend),iv xn] 98),.blk bs6 (.cells zK 98)]) (econs (congrArg (fun l:List Value=>Ent.blk bs7 (.cells ⟨l⟩ 98)) (lcons (rfl) (lcons (congrArg (fun s:Bs=>Value.string ⟨⟨s⟩⟩) ((if_t hc5).symm)) (lcons (congrArg (fun s:Bs=>Value.string ⟨⟨s⟩⟩) ((if_t hc5).symm)) (lcons (rfl) rfl))))) (econs (rfl) rfl)) ?_)
   exact fz hF
  refine Ok.sr (Ok.b 2 [0,2,6,7] [(25,sv xs),(26,iv xend)] ?_)
  obtain ⟨hp7,hF⟩:=hF
  refine Ok.o (OpOk.f enr (fun W hW=>rbeg_c xs xend hp7) rfl ?_)
  refine Ok.nt (Ok.cw hF (fun hc8 hF=>?_) (fun hc8 hF=>?_))
  ·refine Ok.q (Ok.r ?_)
   obtain ⟨hp9,hF⟩:=hF
   refine Ok.rn 8 [.k (rsaid_c xs xend hp9)] [0,6,7] [(8,sv ((rsaidS xs xend).1)),(9,iv (rsaidS xs xend).2)] ?_
   refine Ok.nt (Ok.sr (Ok.b 2 [6,7,8] [(34,sv xs),(35,iv (rsaidS xs xend).2)] ?_))
   obtain ⟨h010,h110,h210,hF⟩:=hF
   refine Ok.o (OpOk.s (Yields.ss (s:=xs) (l:=0) (h:=(rsaidS xs xend).2) kr underlying9 (.inr ⟨rfl,rfl⟩) (.inl ⟨_,_,rfl,rfl⟩) h010 h110 h210 (xs.take (Int.toNat (rsaidS xs xend).2)) (by simp)) rfl rfl (Ok.b 1 [6,7,8] [(36,sv (xs.take (Int.toNat (rsaidS xs xend).2))),(37,pv bs7 1)] ?_))
   refine Ok.o (OpOk.sto (k:=1) (v:=sv (xs.take (Int.toNat (rsaidS xs xend).2))) 0 #[iv 7,sv (xs.take (Int.toNat (rsaidS xs xend).2)),sv ([]:Bs),iv xn] rfl rfl rfl ?_)
   refine Ok.nt (Ok.r ?_)
   obtain ⟨hp11,hF⟩:=hF
   refine Ok.rn 3 [.k (rlow_c (rsaidS xs xend).1 hp11)] [6,7] [(39,sv (lowerS (rsaidS xs xend).1)),(40,pv bs7 2)] ?_
   refine Ok.o (OpOk.sto (k:=1) (v:=sv (lowerS (rsaidS xs xend).1)) 0 #[iv 7,sv (xs.take (Int.toNat (rsaidS xs xend).2)),sv (lowerS (rsaidS xs xend).1),iv xn] rfl rfl rfl ?_)
   refine Ok.nt (Ok.heapEq (H':=[.blk bs7 (.cells #[iv 7,sv (rnatV0 xs xend),sv (rnatV1 xs xend),iv xn] 98),.blk bs6 (.cells zK 98)]) (econs (congrArg (fun l:List Value=>Ent.blk bs7 (.cells ⟨l⟩ 98)) (lcons (rfl) (lcons (congrArg (fun s:Bs=>Value.string ⟨⟨s⟩⟩) (Eq.trans ((if_t hc8).symm) ((if_f hc5).symm))) (lcons (congrArg (fun s:Bs=>Value.string ⟨⟨s⟩⟩) (Eq.trans ((if_t hc8).symm) ((if_f hc5).symm))) (lcons (rfl) rfl))))) (econs (rfl) rfl)) ?_)
   exact fz hF
  refine Ok.k (Ok.t (Ok.heapEq (H':=[.blk bs7 (.cells #[iv 7,sv (rnatV0 xs xend),sv (rnatV1 xs xend),iv xn] 98),.blk bs6 (.cells zK 98)]) (econs (congrArg (fun l:List Value=>Ent.blk bs7 (.cells ⟨l⟩ 98)) (lcons (rfl) (lcons (congrArg (fun s:Bs=>Value.string ⟨⟨s⟩⟩) (Eq.trans ((if_f hc8).symm) ((if_f hc5).symm))) (lcons (congrArg (fun s:Bs=>Value.string ⟨⟨s⟩⟩) (Eq.trans ((if_f hc8).symm) ((if_f hc5).symm))) (lcons (rfl) rfl))))) (econs (rfl) rfl)) ?_))
  exact fz hF
 refine Ok.sr (Ok.o (OpOk.s (v:=.agg #[iv 7,sv (rnatV0 xs xend),sv (rnatV1 xs xend),iv xn]) (Yields.loadAgg 0 4 #[iv 7,sv (rnatV0 xs xend),sv (rnatV1 xs xend),iv xn] rfl rfl underlying98 rfl kr kr kr) rfl rfl (Ok.o (OpOk.sw 1 #[iv 7,sv (rnatV0 xs xend),sv (rnatV1 xs xend),iv xn] rfl rfl rfl ?_))))
 refine Ok.nt (Ok.ret ?_)
 exact Ok.p (vs:=[.agg #[iv 7,sv (rnatV0 xs xend),sv (rnatV1 xs xend),iv xn]]) [] [] dc rfl (.inl rfl) rfl (.cons (.cellAgg 1 4 #[iv 7,sv (rnatV0 xs xend),sv (rnatV1 xs xend),iv xn] rfl rfl underlying98 rfl kr kr kr) .nil) (Gext.r w0 g) ⟨(7,rnatV0 xs xend,rnatV1 xs xend,xn),rfl,rfl,hF⟩
theorem rat_37 (s:Bs) (i:Nat):(ratM s (i:Int)==37)=hpM (s.drop i) [37]:=by
 rw [rat_nat,hp_single]
 have e:(((s.getD i 0).toNat:Int)==37)=(s.getD i 0==37):=byte_beq (s.getD i 0) 37
 rw [e]
 by_cases h:i<s.length
 ·rw [decide_eq_true h,Bool.true_and]
 rw [decide_eq_false h,getD_out om]; rfl
theorem rat_40 (s:Bs) (i:Nat):(ratM s (i:Int)==40)=hpM (s.drop i) [40]:=by
 rw [rat_nat,hp_single]
 have e:(((s.getD i 0).toNat:Int)==40)=(s.getD i 0==40):=byte_beq (s.getD i 0) 40
 rw [e]
 by_cases h:i<s.length
 ·rw [decide_eq_true h,Bool.true_and]
 rw [decide_eq_false h,getD_out om]; rfl
theorem said_nat {s:Bs} (h:nameP s) {i:Nat} (hi:i≤s.length):(rsaidS s (i:Int)).2=w6 ((i:Int)+(nameS (s.drop i)).2)∧(i:Int)≤(rsaidS s (i:Int)).2∧(rsaidS s (i:Int)).2≤s.length:=by
 have h1:=nameS_len (nameP_drop h i)
 rw [List.length_drop] at h1
 unfold nameP at h
 unfold rsaidS
 rw [tnc]
 simp only
 rw [w64 om]
 omega
theorem rnat_F (xs:Bs) (n e:Int) (hp:numberP xs n e):rnatF xs n e (fun r=>r=numberM xs n e):=by
 obtain ⟨i,rfl⟩:∃ k:Nat,e=(k:Int):=⟨e.toNat,by have:=hp.2.1; omega⟩
 have h:=hp.1
 have hi:=hp.2.2
 have hr:=rpl_nat h (show i≤xs.length+4 by omega)
 have hs:=said_nat h (show i≤xs.length by omega)
 have key:rnatj5 xs n (i:Int) (fun r=>r=numberM xs n (i:Int)):=by
  unfold rnatj5 rnatV0 rnatV1 numberM numberj5M numberV0 numberV1 rbegS
  rw [rat_37,tnc,hs.1]
  rfl
 refine ⟨by omega,by omega,by omega,hr,fun hc=>⟨by omega,?_,?_,key⟩,fun _=>⟨hr,fun _=>⟨⟨h,by omega,by omega⟩,by omega,by omega,hs.2.2,nameS_val (nameP_drop h _),key⟩,fun _=>key⟩⟩
 ·unfold nameP at h
  rw [w64 om]; omega
 rw [rat_37,hp_single,Bool.and_eq_true] at hc
 have:=of_decide_eq_true hc.1
 unfold nameP at h
 rw [w64 om]; omega
theorem rnat_c {g:Ghost} (xs:Bs) (xn:Int) (xend:Int)  (hp:numberP xs xn xend):CallsG prog 190 #[sv xs,iv xn,iv xend] g (.agg (aK (numberM xs xn xend))) :=
 (rnat_ok xs xn xend _ (rnat_F xs xn xend hp)).gv
def rnoteS (s:Bs):Int×Bs×Bs×Int:=(9,(if 0≤Lib.index (s.drop 2) [42,47] then s.take ((Lib.index (s.drop 2) [42,47]).toNat+4) else s),[],0)
def rnoteP (s:Bs):Prop:=nameP s∧2≤s.length
def rnoteV2 (xs:Bs) (v0:Int):Bool :=
 ((((xs.getD v0.toNat 0).toNat:Int)==42)&&(((xs.getD (Int.toNat (w6 (v0+1))) 0).toNat:Int)==47))
def rnotej16 (xs:Bs) (K:KT→Prop) (v0:Int) (C7:Int→Prop):Prop :=
 (rnoteV2 xs v0=true→(0:Int)≤0∧0≤w6 (v0+2)∧w6 (v0+2)≤(xs.length:Int)∧K (9,xs.take (Int.toNat (w6 (v0+2))),([]:Bs),0))∧(rnoteV2 xs v0=false→C7 (w6 (v0+1)))
def rnotel7b (xs:Bs) (K:KT→Prop) (v0:Int) (C7:Int→Prop):Prop :=
 ((decide (w6 (v0+1)<(xs.length:Int)))=true→0≤v0∧v0.toNat<xs.length∧((((xs.getD v0.toNat 0).toNat:Int)==42)=true→0≤w6 (v0+1)∧Int.toNat (w6 (v0+1))<xs.length∧rnotej16 xs K v0 C7)∧((((xs.getD v0.toNat 0).toNat:Int)==42)=false→rnotej16 xs K v0 C7))∧((decide (w6 (v0+1)<(xs.length:Int)))=false→K (9,xs,([]:Bs),0))
def rnotel7 (xs:Bs) (K:KT→Prop):Nat→Int→Prop
 | 0,_=>False
 | k+1,v0=>rnotel7b xs K v0 (rnotel7 xs K k)
def rnoteF (xs:Bs) (K:KT→Prop):Prop :=
 ∃ k,rnotel7 xs K k 2
theorem rnote_ok {g:Ghost} (xs:Bs) (K:KT→Prop)
  (hF:rnoteF xs K):CallsH prog 187 #[sv xs] g [] (fun g' H' v=>∃ (r0:Int×Bs×Bs×Int),v=.agg (aK r0)∧H'=[]∧K r0):=by
 refine CallsH.en 29 func187 rfl fun w0=>?_
 refine Ok.sr (Ok.o (OpOk.aw zK fun bs2=>?_))
 refine Ok.nt (Ok.q (Ok.sr (Ok.B 1 [(0,sv xs),(2,pv bs2 0),(3,iv 2)] kr (Ok.nt (Ok.block ?_)))))
 obtain ⟨k,hF⟩:=hF
 refine Ok.L (fun k a W=>∃ (v0:Int),StA 29 [(0,sv xs),(2,pv bs2 0),(3,iv v0)] a∧StW w0 [.blk bs2 (.cells zK 98)] g W∧rnotel7 xs K k v0) k ?_ ?_
 ·
  exact fun _ _ u v=>⟨2,fA u v hF⟩
 clear hF
 rintro (_ | k7) _ _ ⟨v0,q⟩
 exact (q.2.2:False).elim
 refine jn (fun hF=>?_) _ _ q
 refine Ok.q (Ok.sr (Ok.b 5 [0,2,3] [(8,.bool (decide (w6 (v0+1)<(xs.length:Int))))] ?_))
 refine Ok.nt (Ok.cw hF (fun hc2 hF=>?_) (fun hc2 hF=>?_))
 ·refine Ok.k (Ok.t (Ok.q (Ok.block (Ok.ct [(0,sv xs),(2,pv bs2 0),(3,iv v0),(21,.bool (rnoteV2 xs v0))] [.blk bs2 (.cells zK 98)] (rnotej16 xs K v0 (rnotel7 xs K k7)) ?_ (fun hF=>?_)))))
  ·
   refine Ok.r (Ok.b 2 [0,2,3] [(11,sv xs),(12,iv v0)] ?_)
   obtain ⟨h05,h15,hF⟩:=hF
   have he5:=get_of (l:=xs) (0:UInt8) h15
   generalize hg5:(xs.getD v0.toNat 0)=e5 at he5 hF ⊢
   refine Ok.o (OpOk.s (v:=.int .u8 (e5.toNat:Int)) (Yields.ix (k:=.i64) (i:=v0) (s:=xs) (b:=e5) kr kr underlying9 h05 he5) rfl rfl (Ok.b 2 [0,2,3] [(15,.bool ((e5.toNat:Int)==42))] ?_))
   refine Ok.a 15 ((e5.toNat:Int)==42) rfl (fun hc6=>?_) (fun hc6=>?_)
   ·replace hF:=hF.1 hc6
    refine Ok.b 3 [0,2,3] [(15,.bool true),(16,sv xs),(18,iv (w6 (v0+1)))] ?_
    obtain ⟨h07,h17,hF⟩:=hF
    have he7:=get_of (l:=xs) (0:UInt8) h17
    generalize hg7:(xs.getD (Int.toNat (w6 (v0+1))) 0)=e7 at he7 hF ⊢
    refine Ok.oy (OpOk.s (v:=.int .u8 (e7.toNat:Int)) (Yields.ix (k:=.i64) (i:=w6 (v0+1)) (s:=xs) (b:=e7) kr kr underlying9 h07 he7) rfl rfl (Ok.b 2 [0,2,3] [(21,.bool ((e7.toNat:Int)==47))] ?_))
    refine Ok.j (Ok.t ?_)
    subst hg7
    subst hg5
    refine Ok.rb 21 (rnoteV2 xs v0) (mand_t hc6) ?_
    exact fz hF
   replace hF:=hF.2 hc6
   refine Ok.b 6 [0,2,3] [(21,.bool false)] ?_
   refine Ok.j (Ok.t ?_)
   subst hg5
   refine Ok.rb 21 (rnoteV2 xs v0) (mand_f hc6) ?_
   exact fz hF
  refine Ok.cw hF (fun hc3 hF=>?_) (fun hc3 hF=>?_)
  ·refine Ok.sr (Ok.b 3 [2] [(22,sv xs),(24,iv (w6 (v0+2)))] ?_)
   obtain ⟨h04,h14,h24,hF⟩:=hF
   refine Ok.o (OpOk.s (Yields.ss (s:=xs) (l:=0) (h:=w6 (v0+2)) kr underlying9 (.inr ⟨rfl,rfl⟩) (.inl ⟨_,_,rfl,rfl⟩) h04 h14 h24 (xs.take (Int.toNat (w6 (v0+2)))) (by simp)) rfl rfl (Ok.b 1 [2] [(26,.agg #[iv 9,sv (xs.take (Int.toNat (w6 (v0+2)))),sv ([]:Bs),iv 0])] ?_))
   refine Ok.o (OpOk.sw 0 #[iv 9,sv (xs.take (Int.toNat (w6 (v0+2)))),sv ([]:Bs),iv 0] rfl rfl rfl ?_)
   refine Ok.nt (Ok.ret (Ok.kr (Ok.tr (Ok.tr (Ok.kr (Ok.tr ?_))))))
   exact Ok.p (vs:=[.agg #[iv 9,sv (xs.take (Int.toNat (w6 (v0+2)))),sv ([]:Bs),iv 0]]) [] [] dc rfl (.inl rfl) rfl (.cons (.cellAgg 0 4 #[iv 9,sv (xs.take (Int.toNat (w6 (v0+2)))),sv ([]:Bs),iv 0] rfl rfl underlying98 rfl kr kr kr) .nil) (Gext.r w0 g) ⟨(9,xs.take (Int.toNat (w6 (v0+2))),([]:Bs),0),rfl,rfl,hF⟩
  refine Ok.k (Ok.kn (Ok.t (Ok.r (Ok.b 3 [0,2] [(3,iv (w6 (v0+1)))] ?_))))
  refine Ok.j (Ok.t ?_)
  exact fun _ _ u v=>⟨k7,nl,w6 (v0+1),fA u v hF⟩
 refine Ok.x (Ok.thenE (Ok.thenE (Ok.blockHit (Ok.t (Ok.sr (Ok.b 2 [2] [(28,.agg #[iv 9,sv xs,sv ([]:Bs),iv 0])] ?_))))))
 refine Ok.o (OpOk.sw 0 #[iv 9,sv xs,sv ([]:Bs),iv 0] rfl rfl rfl ?_)
 refine Ok.nt (Ok.ret ?_)
 exact Ok.p (vs:=[.agg #[iv 9,sv xs,sv ([]:Bs),iv 0]]) [] [] dc rfl (.inl rfl) rfl (.cons (.cellAgg 0 4 #[iv 9,sv xs,sv ([]:Bs),iv 0] rfl rfl underlying98 rfl kr kr kr) .nil) (Gext.r w0 g) ⟨(9,xs,([]:Bs),0),rfl,rfl,hF⟩
theorem index_at (s:Bs) (i:Nat) (h:i+1<s.length):Lib.index (s.drop i) [42,47]=if (s.getD i 0==42&&s.getD (i+1) 0==47)=true then 0 else if Lib.index (s.drop (i+1)) [42,47]==-1 then -1 else Lib.index (s.drop (i+1)) [42,47]+1:=by
 rw [drop_get (0:UInt8) (show i<s.length by omega)]
 have hd:=drop_get (l:=s) (0:UInt8) h
 have e:([42,47]:Bs).isPrefixOf (s.getD i 0::s.drop (i+1))=(s.getD i 0==42&&s.getD (i+1) 0==47):=by
  rw [hd]
  simp only [List.isPrefixOf,Bool.and_true]
  rw [Bool.beq_comm (a:=(42:UInt8)),Bool.beq_comm (a:=(47:UInt8))]
 rw [Lib.index,e]
theorem index_short {s:Bs} (h:s.length≤1):Lib.index s [42,47] = -1:=by
 match s,h with
 | [],_=>rfl
 | [c],_=>simp [Lib.index,List.isPrefixOf]
theorem rnote_loop (xs:Bs) (hP:nameP xs) (K:KT→Prop):∀ (k i:Nat),xs.length≤i+k→2≤i→i≤xs.length →
  K (9,(if 0≤Lib.index (xs.drop i) [42,47] then xs.take ((Lib.index (xs.drop i) [42,47]).toNat+i+2) else xs),[],0)→rnotel7 xs K (k+1) (i:Int):=by
 unfold nameP at hP
 intro k
 induction k with
 | zero =>
  intro i h1 h2 h3 hK
  refine ⟨fun h=>?_,fun _=>?_⟩
  ·have:=of_decide_eq_true h
   rw [w64 om] at this
   omega
  rw [index_short (by rw [List.length_drop]; omega),if_neg dc] at hK
  exact hK
 | succ k ih =>
  intro i h1 h2 h3 hK
  have e42:(((xs.getD i 0).toNat:Int)==42)=(xs.getD i 0==42):=byte_beq (xs.getD i 0) 42
  have e47:(((xs.getD (i+1) 0).toNat:Int)==47)=(xs.getD (i+1) 0==47):=byte_beq (xs.getD (i+1) 0) 47
  refine ⟨fun h=>?_,fun h=>?_⟩
  ·have h:=of_decide_eq_true h
   rw [w64 om] at h
   rw [index_at xs i om] at hK
   have key:rnotej16 xs K (i:Int) (rnotel7 xs K (k+1)):=by
    unfold rnotej16 rnoteV2
    rw [w64 (x:=(i:Int)+1) om,tnc,show ((i:Int)+1).toNat=i+1 by omega,e42,e47,w64 om]
    refine ⟨fun hc=>⟨by omega,by omega,by omega,?_⟩,fun hc=>?_⟩
    ·rw [if_t hc,if_pos dc] at hK
     rw [show ((i:Int)+2).toNat=Int.toNat 0+i+2 by omega]
     exact hK
    rw [if_f hc] at hK
    refine ih (i+1) om om om ?_
    have hg:=Lib.index_ge (xs.drop (i+1)) [42,47]
    by_cases hm:Lib.index (xs.drop (i+1)) [42,47] = -1
    ·rw [if_t (show (Lib.index (xs.drop (i+1)) [42,47]==-1)=true by rw [hm]; rfl),if_neg dc] at hK
     rw [hm,if_neg dc]
     exact hK
    rw [if_f (show (Lib.index (xs.drop (i+1)) [42,47]==-1)=false by simpa using hm),if_pos om] at hK
    rw [if_pos om]
    rw [show (Lib.index (xs.drop (i+1)) [42,47]+1).toNat+i+2=(Lib.index (xs.drop (i+1)) [42,47]).toNat+(i+1)+2 by omega] at hK
    exact hK
   have hi1:0≤w6 ((i:Int)+1)∧(w6 ((i:Int)+1)).toNat<xs.length:=by
    rw [w64 om]; omega
   exact ⟨by omega,by omega,fun _=>⟨hi1.1,hi1.2,key⟩,fun _=>key⟩
  have h:=of_decide_eq_false h
  rw [w64 om] at h
  rw [index_short (by rw [List.length_drop]; omega),if_neg dc] at hK
  exact hK
theorem rnote_F (s:Bs) (hp:rnoteP s):rnoteF s (fun r=>r=rnoteS s) :=
 ⟨_,rnote_loop s hp.1 _ (s.length - 2) 2 (by have:=hp.2; omega) om hp.2 rfl⟩
theorem rnote_c {g:Ghost} (xs:Bs)  (hp:rnoteP xs):CallsG prog 187 #[sv xs] g (.agg (aK (rnoteS xs))) :=
 (rnote_ok xs _ (rnote_F xs hp)).gv
def rtokV1 (xs:Bs) (z0:Int):Bool :=
 ((decide (z0<(xs.length:Int)))&&(blankM ((xs.getD z0.toNat 0).toNat:Int)))
def rtokV2 (xs:Bs) (e2:UInt8):Bool :=
 (((e2.toNat:Int)==35)&&((rnamM (ratM xs 1)&&(decide ((xs.length:Int)>1)))||rescM xs 1))
def rtokV3 (e2:UInt8):Int :=
 (if ((((e2.toNat:Int)==40)||((e2.toNat:Int)==91))||((e2.toNat:Int)==123))=true then 10 else 12)
def rtokV4 (e2:UInt8):Int :=
 (if ((((e2.toNat:Int)==41)||((e2.toNat:Int)==93))||((e2.toNat:Int)==125))=true then 11 else (rtokV3 e2))
def rtokV5 (e2:UInt8):Int :=
 (if ((e2.toNat:Int)==92)=true then 6 else (rtokV4 e2))
def rtokj15 (xs:Bs) (K:KT→Prop) (z0:Int) (C13:Int→Prop):Prop :=
 (rtokV1 xs z0=true→C13 (w6 (z0+1)))∧(rtokV1 xs z0=false→(0:Int)≤0∧0≤z0∧z0≤(xs.length:Int)∧K (8,xs.take z0.toNat,([]:Bs),0))
def rtokl13b (xs:Bs) (K:KT→Prop) (z0:Int) (C13:Int→Prop):Prop :=
 ((decide (z0<(xs.length:Int)))=true→0≤z0∧z0.toNat<xs.length∧rtokj15 xs K z0 C13)∧((decide (z0<(xs.length:Int)))=false→rtokj15 xs K z0 C13)
def rtokl13 (xs:Bs) (K:KT→Prop):Nat→Int→Prop
 | 0,_=>False
 | k+1,z0=>rtokl13b xs K z0 (rtokl13 xs K k)
def rtokj104 (xs:Bs) (K:KT→Prop) (e2:UInt8):Prop :=
 (0:Int)≤0∧(0:Int)≤1∧1≤(xs.length:Int)∧K (rtokV5 e2,xs.take (Int.toNat 1),([]:Bs),0)
def rtokj98 (xs:Bs) (K:KT→Prop) (e2:UInt8):Prop :=
 (((e2.toNat:Int)==92)=true→rtokj104 xs K e2)∧(((e2.toNat:Int)==92)=false→rtokj104 xs K e2)
def rtokj92 (xs:Bs) (K:KT→Prop) (e2:UInt8):Prop :=
 (((((e2.toNat:Int)==41)||((e2.toNat:Int)==93))||((e2.toNat:Int)==125))=true→rtokj98 xs K e2)∧(((((e2.toNat:Int)==41)||((e2.toNat:Int)==93))||((e2.toNat:Int)==125))=false→rtokj98 xs K e2)
def rtokj63 (xs:Bs) (K:KT→Prop) (e2:UInt8):Prop :=
 ((((e2.toNat:Int)==64)&&rbegS xs 1)=true→rsaidP xs 1∧(0:Int)≤0∧0≤(rsaidS xs 1).2∧(rsaidS xs 1).2≤(xs.length:Int)∧K (3,xs.take (Int.toNat (rsaidS xs 1).2),(rsaidS xs 1).1,0))∧((((e2.toNat:Int)==64)&&rbegS xs 1)=false→rplP xs 0∧(rbegS xs 0=true→rsaidP xs 0∧rplP xs (rsaidS xs 0).2∧((ratM xs (rsaidS xs 0).2==40)=true→(0:Int)≤0∧0≤(w6 ((rsaidS xs 0).2+1))∧(w6 ((rsaidS xs 0).2+1))≤(xs.length:Int)∧K (2,xs.take (Int.toNat (w6 ((rsaidS xs 0).2+1))),(rsaidS xs 0).1,0))∧((ratM xs (rsaidS xs 0).2==40)=false→(0:Int)≤0∧0≤(rsaidS xs 0).2∧(rsaidS xs 0).2≤(xs.length:Int)∧K (1,xs.take (Int.toNat (rsaidS xs 0).2),(rsaidS xs 0).1,0)))∧(rbegS xs 0=false→(((((e2.toNat:Int)==40)||((e2.toNat:Int)==91))||((e2.toNat:Int)==123))=true→rtokj92 xs K e2)∧(((((e2.toNat:Int)==40)||((e2.toNat:Int)==91))||((e2.toNat:Int)==123))=false→rtokj92 xs K e2)))
def rtokj53 (xs:Bs) (K:KT→Prop) (e2:UInt8):Prop :=
 (rtokV2 xs e2=true→rsaidP xs 1∧(0:Int)≤0∧0≤(rsaidS xs 1).2∧(rsaidS xs 1).2≤(xs.length:Int)∧K (4,xs.take (Int.toNat (rsaidS xs 1).2),(rsaidS xs 1).1,0))∧(rtokV2 xs e2=false→(((e2.toNat:Int)==64)=true→rplP xs 1∧rtokj63 xs K e2)∧(((e2.toNat:Int)==64)=false→rtokj63 xs K e2))
def rtokj27 (xs:Bs) (K:KT→Prop) (e2:UInt8):Prop :=
 ((((e2.toNat:Int)==47)&&(ratM xs 1==42))=true→rnoteP xs∧K ((rnoteS xs).1,(rnoteS xs).2.1,(rnoteS xs).2.2.1,(rnoteS xs).2.2.2))∧((((e2.toNat:Int)==47)&&(ratM xs 1==42))=false→((((e2.toNat:Int)==39)||((e2.toNat:Int)==34))=true→textP xs∧K ((textS xs).1,(textS xs).2.1,(textS xs).2.2.1,(textS xs).2.2.2))∧((((e2.toNat:Int)==39)||((e2.toNat:Int)==34))=false→nameP xs∧((decide ((numS xs).2>0))=true→numberP xs (numS xs).1 (numS xs).2∧K ((numberM xs (numS xs).1 (numS xs).2).1,(numberM xs (numS xs).1 (numS xs).2).2.1,(numberM xs (numS xs).1 (numS xs).2).2.2.1,(numberM xs (numS xs).1 (numS xs).2).2.2.2))∧((decide ((numS xs).2>0))=false→(((e2.toNat:Int)==35)=true→rplP xs 1∧((rnamM (ratM xs 1)&&(decide ((xs.length:Int)>1)))=true→rtokj53 xs K e2)∧((rnamM (ratM xs 1)&&(decide ((xs.length:Int)>1)))=false→rplP xs 1∧rtokj53 xs K e2))∧(((e2.toNat:Int)==35)=false→rtokj53 xs K e2))))
def rtokF (xs:Bs) (K:KT→Prop):Prop :=
 (0:Int)≤0∧Int.toNat 0<xs.length∧((blankM ((xs.getD (Int.toNat 0) 0).toNat:Int))=true→∃ k,rtokl13 xs K k 0)∧((blankM ((xs.getD (Int.toNat 0) 0).toNat:Int))=false→((((xs.getD (Int.toNat 0) 0).toNat:Int)==47)=true→rplP xs 1∧rtokj27 xs K (xs.getD (Int.toNat 0) 0))∧((((xs.getD (Int.toNat 0) 0).toNat:Int)==47)=false→rtokj27 xs K (xs.getD (Int.toNat 0) 0)))
theorem rtok_ok {g:Ghost} (xs:Bs) (K:KT→Prop)
  (hF:rtokF xs K):CallsH prog 147 #[sv xs] g [] (fun g' H' v=>∃ (r0:Int×Bs×Bs×Int),v=.agg (aK r0)∧H'=[]∧K r0):=by
 refine CallsH.en 152 func147 rfl fun w0=>?_
 refine Ok.sr (Ok.o (OpOk.aw zK fun bs2=>?_))
 refine Ok.nt (Ok.sr (Ok.B 1 [(0,sv xs),(2,pv bs2 0),(14,sv xs)] kr ?_))
 obtain ⟨h02,h12,hF⟩:=hF
 have he2:=get_of (l:=xs) (0:UInt8) h12
 generalize hg2:(xs.getD (Int.toNat 0) 0)=e2 at he2 hF ⊢
 refine Ok.o (OpOk.s (v:=.int .u8 (e2.toNat:Int)) (Yields.ix (k:=.i64) (i:=0) (s:=xs) (b:=e2) kr kr underlying9 h02 he2) rfl rfl (Ok.b 1 [0,2] [(3,.int .u8 (e2.toNat:Int))] ?_))
 refine Ok.nt (Ok.q (Ok.sr (Ok.b 1 [0,2,3] [(16,.int .u8 (e2.toNat:Int))] ?_)))
 refine Ok.o (OpOk.f enr (fun W hW=>blank_c (e2.toNat:Int)) rfl ?_)
 refine Ok.nt (Ok.cw hF (fun hc3 hF=>?_) (fun hc3 hF=>?_))
 ·refine Ok.sr (Ok.b 1 [0,2] [(4,iv 0)] ?_)
  refine Ok.nt (Ok.q (Ok.block ?_))
  obtain ⟨k,hF⟩:=hF
  refine Ok.L (fun k a W=>∃ (z0:Int),StA 152 [(0,sv xs),(2,pv bs2 0),(4,iv z0)] a∧StW w0 [.blk bs2 (.cells zK 98)] g W∧rtokl13 xs K k z0) k ?_ ?_
  ·
   exact fun _ _ u v=>⟨0,fA u v hF⟩
  clear hF
  rintro (_ | k13) _ _ ⟨z0,q⟩
  exact (q.2.2:False).elim
  refine jn (fun hF=>?_) _ _ q
  refine Ok.q (Ok.ct [(0,sv xs),(2,pv bs2 0),(4,iv z0),(27,.bool (rtokV1 xs z0))] [.blk bs2 (.cells zK 98)] (rtokj15 xs K z0 (rtokl13 xs K k13)) ?_ (fun hF=>?_))
  ·
   refine Ok.r (Ok.b 5 [0,2,4] [(22,.bool (decide (z0<(xs.length:Int))))] ?_)
   refine Ok.bw 22 hF (fun hc6 hF=>?_) (fun hc6 hF=>?_)
   ·refine Ok.b 2 [0,2,4] [(22,.bool true),(23,sv xs),(24,iv z0)] ?_
    obtain ⟨h07,h17,hF⟩:=hF
    have he7:=get_of (l:=xs) (0:UInt8) h17
    generalize hg7:(xs.getD z0.toNat 0)=e7 at he7 hF ⊢
    refine Ok.oy (OpOk.s (v:=.int .u8 (e7.toNat:Int)) (Yields.ix (k:=.i64) (i:=z0) (s:=xs) (b:=e7) kr kr underlying9 h07 he7) rfl rfl (Ok.rn 2 [.k (blank_c (e7.toNat:Int))] [0,2,4] [(27,.bool (blankM (e7.toNat:Int)))] ?_))
    refine Ok.j (Ok.t ?_)
    subst hg7
    refine Ok.rb 27 (rtokV1 xs z0) (mand_t hc6) ?_
    exact fz hF
   refine Ok.b 5 [0,2,4] [(27,.bool false)] ?_
   refine Ok.nt (Ok.rb 27 (rtokV1 xs z0) (mand_f hc6) ?_)
   exact fz hF
  refine Ok.cw hF (fun hc4 hF=>?_) (fun hc4 hF=>?_)
  ·refine Ok.k (Ok.t (Ok.block (Ok.r (Ok.b 3 [0,2] [(4,iv (w6 (z0+1)))] ?_))))
   refine Ok.j (Ok.kn (Ok.t ?_))
   exact fun _ _ u v=>⟨k13,nl,w6 (z0+1),fA u v hF⟩
  refine Ok.x (Ok.thenE (Ok.thenE (Ok.blockHit (Ok.t (Ok.sr (Ok.b 2 [2] [(30,sv xs),(31,iv z0)] ?_))))))
  obtain ⟨h05,h15,h25,hF⟩:=hF
  refine Ok.o (OpOk.s (Yields.ss (s:=xs) (l:=0) (h:=z0) kr underlying9 (.inr ⟨rfl,rfl⟩) (.inl ⟨_,_,rfl,rfl⟩) h05 h15 h25 (xs.take z0.toNat) (by simp)) rfl rfl (Ok.b 1 [2] [(33,.agg #[iv 8,sv (xs.take z0.toNat),sv ([]:Bs),iv 0])] ?_))
  refine Ok.o (OpOk.sw 0 #[iv 8,sv (xs.take z0.toNat),sv ([]:Bs),iv 0] rfl rfl rfl ?_)
  refine Ok.nt (Ok.ret (Ok.tr ?_))
  exact Ok.p (vs:=[.agg #[iv 8,sv (xs.take z0.toNat),sv ([]:Bs),iv 0]]) [] [] dc rfl (.inl rfl) rfl (.cons (.cellAgg 0 4 #[iv 8,sv (xs.take z0.toNat),sv ([]:Bs),iv 0] rfl rfl underlying98 rfl kr kr kr) .nil) (Gext.r w0 g) ⟨(8,xs.take z0.toNat,([]:Bs),0),rfl,rfl,hF⟩
 refine Ok.k (Ok.t (Ok.q (Ok.ct [(0,sv xs),(2,pv bs2 0),(3,.int .u8 (e2.toNat:Int)),(40,.bool (((e2.toNat:Int)==47)&&(ratM xs 1==42)))] [.blk bs2 (.cells zK 98)] (rtokj27 xs K e2) ?_ (fun hF=>?_))))
 ·
  refine Ok.r (Ok.b 3 [0,2,3] [(36,.bool ((e2.toNat:Int)==47))] ?_)
  refine Ok.bw 36 hF (fun y0 hF=>?_) (fun y0 hF=>?_)
  ·obtain ⟨hp51,hF⟩:=hF
   refine Ok.rn 4 [.k (rat_c xs 1 hp51)] [0,2,3] [(40,.bool (ratM xs 1==42))] ?_
   refine Ok.nt (Ok.rb 40 (((e2.toNat:Int)==47)&&(ratM xs 1==42)) (mand_t y0) ?_)
   exact fz hF
  refine Ok.b 4 [0,2,3] [(40,.bool false)] ?_
  refine Ok.nt (Ok.rb 40 (((e2.toNat:Int)==47)&&(ratM xs 1==42)) (mand_f y0) ?_)
  exact fz hF
 refine Ok.cw hF (fun hc8 hF=>?_) (fun hc8 hF=>?_)
 ·refine Ok.sr (Ok.b 1 [2] [(41,sv xs)] ?_)
  obtain ⟨hp9,hF⟩:=hF
  refine Ok.o (OpOk.f enr (fun W hW=>rnote_c xs hp9) rfl ?_)
  refine Ok.o (OpOk.sw 0 (aK (rnoteS xs)) rfl rfl rfl ?_)
  refine Ok.nt (Ok.ret (Ok.tr ?_))
  exact Ok.p (vs:=[.agg (aK (rnoteS xs))]) [] [] dc rfl (.inl rfl) rfl (.cons (.cellAgg 0 4 (aK (rnoteS xs)) rfl rfl underlying98 rfl kr kr kr) .nil) (Gext.r w0 g) ⟨((rnoteS xs).1,(rnoteS xs).2.1,(rnoteS xs).2.2.1,(rnoteS xs).2.2.2),rfl,rfl,hF⟩
 refine Ok.k (Ok.t (Ok.q (Ok.sr (Ok.b 3 [0,2,3] [(45,.bool ((e2.toNat:Int)==39))] ?_))))
 refine Ok.w 3 [(0,sv xs),(2,pv bs2 0),(3,.int .u8 (e2.toNat:Int)),(48,.bool (((e2.toNat:Int)==39)||((e2.toNat:Int)==34)))] (fun Z0=>?_) ?_
 ·refine Ok.a 45 ((e2.toNat:Int)==39) rfl (fun u0=>?_) (fun u0=>?_)
  ·skip
   refine Ok.b 3 [0,2,3] [(48,.bool true)] ?_
   refine Ok.rb 48 (((e2.toNat:Int)==39)||((e2.toNat:Int)==34)) (mor_t u0) (Ok.b 0 [0,2,3] [(48,.bool (((e2.toNat:Int)==39)||((e2.toNat:Int)==34)))] ?_)
   exact Z0
  skip
  refine Ok.b 3 [0,2,3] [(48,.bool ((e2.toNat:Int)==34))] ?_
  refine Ok.rb 48 (((e2.toNat:Int)==39)||((e2.toNat:Int)==34)) (mor_f u0) (Ok.b 0 [0,2,3] [(48,.bool (((e2.toNat:Int)==39)||((e2.toNat:Int)==34)))] ?_)
  exact Z0
 refine Ok.nt (Ok.cw hF (fun hc12 hF=>?_) (fun hc12 hF=>?_))
 ·refine Ok.sr (Ok.b 1 [2] [(49,sv xs)] ?_)
  obtain ⟨hp13,hF⟩:=hF
  refine Ok.o (OpOk.f enr (fun W hW=>rtxt_c xs hp13) rfl ?_)
  refine Ok.o (OpOk.sw 0 (aK (textS xs)) rfl rfl rfl ?_)
  refine Ok.nt (Ok.ret (Ok.tr ?_))
  exact Ok.p (vs:=[.agg (aK (textS xs))]) [] [] dc rfl (.inl rfl) rfl (.cons (.cellAgg 0 4 (aK (textS xs)) rfl rfl underlying98 rfl kr kr kr) .nil) (Gext.r w0 g) ⟨((textS xs).1,(textS xs).2.1,(textS xs).2.2.1,(textS xs).2.2.2),rfl,rfl,hF⟩
 refine Ok.k (Ok.t (Ok.q (Ok.r ?_)))
 obtain ⟨hp14,hF⟩:=hF
 refine Ok.rn 7 [.k (rnum_c xs hp14)] [0,2,3] [(5,iv (numS xs).1),(6,iv (numS xs).2)] ?_
 refine Ok.nt (Ok.q (Ok.sr (Ok.b 2 [0,2,3,5,6] [(57,.bool (decide ((numS xs).2>0)))] ?_)))
 refine Ok.nt (Ok.cw hF (fun hc15 hF=>?_) (fun hc15 hF=>?_))
 ·refine Ok.sr (Ok.b 3 [2] [(58,sv xs),(59,iv (numS xs).1),(60,iv (numS xs).2)] ?_)
  obtain ⟨hp16,hF⟩:=hF
  refine Ok.o (OpOk.f enr (fun W hW=>rnat_c xs (numS xs).1 (numS xs).2 hp16) rfl ?_)
  refine Ok.o (OpOk.sw 0 (aK (numberM xs (numS xs).1 (numS xs).2)) rfl rfl rfl ?_)
  refine Ok.nt (Ok.ret (Ok.tr ?_))
  exact Ok.p (vs:=[.agg (aK (numberM xs (numS xs).1 (numS xs).2))]) [] [] dc rfl (.inl rfl) rfl (.cons (.cellAgg 0 4 (aK (numberM xs (numS xs).1 (numS xs).2)) rfl rfl underlying98 rfl kr kr kr) .nil) (Gext.r w0 g) ⟨((numberM xs (numS xs).1 (numS xs).2).1,(numberM xs (numS xs).1 (numS xs).2).2.1,(numberM xs (numS xs).1 (numS xs).2).2.2.1,(numberM xs (numS xs).1 (numS xs).2).2.2.2),rfl,rfl,hF⟩
 refine Ok.k (Ok.t (Ok.q (Ok.ct [(0,sv xs),(2,pv bs2 0),(3,.int .u8 (e2.toNat:Int)),(77,.bool (rtokV2 xs e2))] [.blk bs2 (.cells zK 98)] (rtokj53 xs K e2) ?_ (fun hF=>?_))))
 ·
  refine Ok.r (Ok.b 3 [0,2,3] [(64,.bool ((e2.toNat:Int)==35))] ?_)
  refine Ok.bw 64 hF (fun k0 hF=>?_) (fun k0 hF=>?_)
  ·obtain ⟨hp45,hF⟩:=hF
   refine Ok.rn 4 [.k (rat_c xs 1 hp45),.k (rnam_c (ratM xs 1))] [0,2,3] [(64,.bool true),(68,.bool (rnamM (ratM xs 1)))] ?_
   refine Ok.w 4 [(0,sv xs),(2,pv bs2 0),(3,.int .u8 (e2.toNat:Int)),(64,.bool true),(72,.bool (rnamM (ratM xs 1)&&(decide ((xs.length:Int)>1))))] (fun V0=>?_) ?_
   ·refine Ok.a 68 (rnamM (ratM xs 1)) rfl (fun j0=>?_) (fun j0=>?_)
    ·skip
     refine Ok.b 4 [0,2,3,64] [(72,.bool (decide ((xs.length:Int)>1)))] ?_
     refine Ok.rb 72 (rnamM (ratM xs 1)&&(decide ((xs.length:Int)>1))) (mand_t j0) (Ok.b 0 [0,2,3,64] [(72,.bool (rnamM (ratM xs 1)&&(decide ((xs.length:Int)>1))))] ?_)
     exact V0
    skip
    refine Ok.b 4 [0,2,3,64] [(72,.bool false)] ?_
    refine Ok.rb 72 (rnamM (ratM xs 1)&&(decide ((xs.length:Int)>1))) (mand_f j0) (Ok.b 0 [0,2,3,64] [(72,.bool (rnamM (ratM xs 1)&&(decide ((xs.length:Int)>1))))] ?_)
    exact V0
   refine Ok.b 1 [0,2,3,64] [(73,.bool (rnamM (ratM xs 1)&&(decide ((xs.length:Int)>1))))] ?_
   refine Ok.bw 73 hF (fun x0 hF=>?_) (fun x0 hF=>?_)
   ·refine Ok.b 4 [0,2,3] [(77,.bool true)] ?_
    refine Ok.nt (Ok.rb 77 (rtokV2 xs e2) (Eq.trans (mor_t x0) (mand_t k0)) ?_)
    exact fz hF
   obtain ⟨hp49,hF⟩:=hF
   refine Ok.rn 4 [.k (resc_c xs 1 hp49)] [0,2,3] [(77,.bool (rescM xs 1))] ?_
   refine Ok.nt (Ok.rb 77 (rtokV2 xs e2) (Eq.trans (mor_f x0) (mand_t k0)) ?_)
   exact fz hF
  refine Ok.b 13 [0,2,3] [(77,.bool false)] ?_
  refine Ok.nt (Ok.rb 77 (rtokV2 xs e2) (mand_f k0) ?_)
  exact fz hF
 refine Ok.cw hF (fun hc17 hF=>?_) (fun hc17 hF=>?_)
 ·refine Ok.q (Ok.r ?_)
  obtain ⟨hp18,hF⟩:=hF
  refine Ok.rn 7 [.k (rsaid_c xs 1 hp18)] [0,2] [(7,sv ((rsaidS xs 1).1)),(8,iv (rsaidS xs 1).2)] ?_
  refine Ok.nt (Ok.sr (Ok.b 2 [2,7] [(83,sv xs),(84,iv (rsaidS xs 1).2)] ?_))
  obtain ⟨h019,h119,h219,hF⟩:=hF
  refine Ok.o (OpOk.s (Yields.ss (s:=xs) (l:=0) (h:=(rsaidS xs 1).2) kr underlying9 (.inr ⟨rfl,rfl⟩) (.inl ⟨_,_,rfl,rfl⟩) h019 h119 h219 (xs.take (Int.toNat (rsaidS xs 1).2)) (by simp)) rfl rfl (Ok.b 2 [2] [(87,.agg #[iv 4,sv (xs.take (Int.toNat (rsaidS xs 1).2)),sv ((rsaidS xs 1).1),iv 0])] ?_))
  refine Ok.o (OpOk.sw 0 #[iv 4,sv (xs.take (Int.toNat (rsaidS xs 1).2)),sv ((rsaidS xs 1).1),iv 0] rfl rfl rfl ?_)
  refine Ok.nt (Ok.ret (Ok.tr ?_))
  exact Ok.p (vs:=[.agg #[iv 4,sv (xs.take (Int.toNat (rsaidS xs 1).2)),sv ((rsaidS xs 1).1),iv 0]]) [] [] dc rfl (.inl rfl) rfl (.cons (.cellAgg 0 4 #[iv 4,sv (xs.take (Int.toNat (rsaidS xs 1).2)),sv ((rsaidS xs 1).1),iv 0] rfl rfl underlying98 rfl kr kr kr) .nil) (Gext.r w0 g) ⟨(4,xs.take (Int.toNat (rsaidS xs 1).2),(rsaidS xs 1).1,0),rfl,rfl,hF⟩
 refine Ok.k (Ok.t (Ok.q (Ok.ct [(0,sv xs),(2,pv bs2 0),(3,.int .u8 (e2.toNat:Int)),(93,.bool (((e2.toNat:Int)==64)&&rbegS xs 1))] [.blk bs2 (.cells zK 98)] (rtokj63 xs K e2) ?_ (fun hF=>?_))))
 ·
  refine Ok.r (Ok.b 3 [0,2,3] [(90,.bool ((e2.toNat:Int)==64))] ?_)
  refine Ok.bw 90 hF (fun c0 hF=>?_) (fun c0 hF=>?_)
  ·obtain ⟨hp43,hF⟩:=hF
   refine Ok.rn 3 [.k (rbeg_c xs 1 hp43)] [0,2,3] [(93,.bool (rbegS xs 1))] ?_
   refine Ok.nt (Ok.rb 93 (((e2.toNat:Int)==64)&&rbegS xs 1) (mand_t c0) ?_)
   exact fz hF
  refine Ok.b 3 [0,2,3] [(93,.bool false)] ?_
  refine Ok.nt (Ok.rb 93 (((e2.toNat:Int)==64)&&rbegS xs 1) (mand_f c0) ?_)
  exact fz hF
 refine Ok.cw hF (fun hc20 hF=>?_) (fun hc20 hF=>?_)
 ·refine Ok.q (Ok.r ?_)
  obtain ⟨hp21,hF⟩:=hF
  refine Ok.rn 7 [.k (rsaid_c xs 1 hp21)] [0,2] [(9,sv ((rsaidS xs 1).1)),(10,iv (rsaidS xs 1).2)] ?_
  refine Ok.nt (Ok.sr (Ok.b 2 [2,9] [(99,sv xs),(100,iv (rsaidS xs 1).2)] ?_))
  obtain ⟨h022,h122,h222,hF⟩:=hF
  refine Ok.o (OpOk.s (Yields.ss (s:=xs) (l:=0) (h:=(rsaidS xs 1).2) kr underlying9 (.inr ⟨rfl,rfl⟩) (.inl ⟨_,_,rfl,rfl⟩) h022 h122 h222 (xs.take (Int.toNat (rsaidS xs 1).2)) (by simp)) rfl rfl (Ok.b 2 [2] [(103,.agg #[iv 3,sv (xs.take (Int.toNat (rsaidS xs 1).2)),sv ((rsaidS xs 1).1),iv 0])] ?_))
  refine Ok.o (OpOk.sw 0 #[iv 3,sv (xs.take (Int.toNat (rsaidS xs 1).2)),sv ((rsaidS xs 1).1),iv 0] rfl rfl rfl ?_)
  refine Ok.nt (Ok.ret (Ok.tr ?_))
  exact Ok.p (vs:=[.agg #[iv 3,sv (xs.take (Int.toNat (rsaidS xs 1).2)),sv ((rsaidS xs 1).1),iv 0]]) [] [] dc rfl (.inl rfl) rfl (.cons (.cellAgg 0 4 #[iv 3,sv (xs.take (Int.toNat (rsaidS xs 1).2)),sv ((rsaidS xs 1).1),iv 0] rfl rfl underlying98 rfl kr kr kr) .nil) (Gext.r w0 g) ⟨(3,xs.take (Int.toNat (rsaidS xs 1).2),(rsaidS xs 1).1,0),rfl,rfl,hF⟩
 refine Ok.k (Ok.t (Ok.q (Ok.sr (Ok.b 1 [0,2,3] [(104,sv xs)] ?_))))
 obtain ⟨hp23,hF⟩:=hF
 refine Ok.o (OpOk.f enr (fun W hW=>rbeg_c xs 0 hp23) rfl ?_)
 refine Ok.nt (Ok.cw hF (fun hc24 hF=>?_) (fun hc24 hF=>?_))
 ·refine Ok.q (Ok.r ?_)
  obtain ⟨hp25,hF⟩:=hF
  refine Ok.rn 7 [.k (rsaid_c xs 0 hp25)] [0,2] [(11,sv ((rsaidS xs 0).1)),(12,iv (rsaidS xs 0).2)] ?_
  refine Ok.nt (Ok.q (Ok.q (Ok.r ?_)))
  obtain ⟨hp26,hF⟩:=hF
  refine Ok.rn 4 [.k (rat_c xs (rsaidS xs 0).2 hp26)] [0,2,11,12] [(114,.bool (ratM xs (rsaidS xs 0).2==40))] ?_
  refine Ok.nt (Ok.cw hF (fun hc27 hF=>?_) (fun hc27 hF=>?_))
  ·refine Ok.sr (Ok.b 3 [2,11] [(115,sv xs),(117,iv (w6 ((rsaidS xs 0).2+1)))] ?_)
   obtain ⟨h028,h128,h228,hF⟩:=hF
   refine Ok.o (OpOk.s (Yields.ss (s:=xs) (l:=0) (h:=(w6 ((rsaidS xs 0).2+1))) kr underlying9 (.inr ⟨rfl,rfl⟩) (.inl ⟨_,_,rfl,rfl⟩) h028 h128 h228 (xs.take (Int.toNat (w6 ((rsaidS xs 0).2+1)))) (by simp)) rfl rfl (Ok.b 2 [2] [(120,.agg #[iv 2,sv (xs.take (Int.toNat (w6 ((rsaidS xs 0).2+1)))),sv ((rsaidS xs 0).1),iv 0])] ?_))
   refine Ok.o (OpOk.sw 0 #[iv 2,sv (xs.take (Int.toNat (w6 ((rsaidS xs 0).2+1)))),sv ((rsaidS xs 0).1),iv 0] rfl rfl rfl ?_)
   refine Ok.nt (Ok.ret (Ok.tr (Ok.tr ?_)))
   exact Ok.p (vs:=[.agg #[iv 2,sv (xs.take (Int.toNat (w6 ((rsaidS xs 0).2+1)))),sv ((rsaidS xs 0).1),iv 0]]) [] [] dc rfl (.inl rfl) rfl (.cons (.cellAgg 0 4 #[iv 2,sv (xs.take (Int.toNat (w6 ((rsaidS xs 0).2+1)))),sv ((rsaidS xs 0).1),iv 0] rfl rfl underlying98 rfl kr kr kr) .nil) (Gext.r w0 g) ⟨(2,xs.take (Int.toNat (w6 ((rsaidS xs 0).2+1))),(rsaidS xs 0).1,0),rfl,rfl,hF⟩
  refine Ok.k (Ok.t (Ok.sr (Ok.b 2 [2,11] [(121,sv xs),(122,iv (rsaidS xs 0).2)] ?_)))
  obtain ⟨h029,h129,h229,hF⟩:=hF
  refine Ok.o (OpOk.s (Yields.ss (s:=xs) (l:=0) (h:=(rsaidS xs 0).2) kr underlying9 (.inr ⟨rfl,rfl⟩) (.inl ⟨_,_,rfl,rfl⟩) h029 h129 h229 (xs.take (Int.toNat (rsaidS xs 0).2)) (by simp)) rfl rfl (Ok.b 2 [2] [(125,.agg #[iv 1,sv (xs.take (Int.toNat (rsaidS xs 0).2)),sv ((rsaidS xs 0).1),iv 0])] ?_))
  refine Ok.o (OpOk.sw 0 #[iv 1,sv (xs.take (Int.toNat (rsaidS xs 0).2)),sv ((rsaidS xs 0).1),iv 0] rfl rfl rfl ?_)
  refine Ok.nt (Ok.ret (Ok.tr ?_))
  exact Ok.p (vs:=[.agg #[iv 1,sv (xs.take (Int.toNat (rsaidS xs 0).2)),sv ((rsaidS xs 0).1),iv 0]]) [] [] dc rfl (.inl rfl) rfl (.cons (.cellAgg 0 4 #[iv 1,sv (xs.take (Int.toNat (rsaidS xs 0).2)),sv ((rsaidS xs 0).1),iv 0] rfl rfl underlying98 rfl kr kr kr) .nil) (Gext.r w0 g) ⟨(1,xs.take (Int.toNat (rsaidS xs 0).2),(rsaidS xs 0).1,0),rfl,rfl,hF⟩
 refine Ok.k (Ok.t (Ok.sr (Ok.b 1 [0,2,3] [(13,iv 12)] ?_)))
 refine Ok.nt (Ok.ct [(0,sv xs),(2,pv bs2 0),(3,.int .u8 (e2.toNat:Int)),(13,iv (rtokV3 e2))] [.blk bs2 (.cells zK 98)] (rtokj92 xs K e2) ?_ (fun hF=>?_))
 ·
  refine Ok.sr (Ok.b 3 [0,2,3,13] [(128,.bool ((e2.toNat:Int)==40))] ?_)
  refine Ok.w 3 [(0,sv xs),(2,pv bs2 0),(3,.int .u8 (e2.toNat:Int)),(13,iv 12),(131,.bool (((e2.toNat:Int)==40)||((e2.toNat:Int)==91)))] (fun Q0=>?_) ?_
  ·refine Ok.a 128 ((e2.toNat:Int)==40) rfl (fun f0=>?_) (fun f0=>?_)
   ·skip
    refine Ok.b 3 [0,2,3,13] [(131,.bool true)] ?_
    refine Ok.rb 131 (((e2.toNat:Int)==40)||((e2.toNat:Int)==91)) (mor_t f0) (Ok.b 0 [0,2,3,13] [(131,.bool (((e2.toNat:Int)==40)||((e2.toNat:Int)==91)))] ?_)
    exact Q0
   skip
   refine Ok.b 3 [0,2,3,13] [(131,.bool ((e2.toNat:Int)==91))] ?_
   refine Ok.rb 131 (((e2.toNat:Int)==40)||((e2.toNat:Int)==91)) (mor_f f0) (Ok.b 0 [0,2,3,13] [(131,.bool (((e2.toNat:Int)==40)||((e2.toNat:Int)==91)))] ?_)
   exact Q0
  refine Ok.b 1 [0,2,3,13] [(132,.bool (((e2.toNat:Int)==40)||((e2.toNat:Int)==91)))] ?_
  refine Ok.w 3 [(0,sv xs),(2,pv bs2 0),(3,.int .u8 (e2.toNat:Int)),(13,iv 12),(135,.bool ((((e2.toNat:Int)==40)||((e2.toNat:Int)==91))||((e2.toNat:Int)==123)))] (fun K0=>?_) ?_
  ·refine Ok.a 132 (((e2.toNat:Int)==40)||((e2.toNat:Int)==91)) rfl (fun g0=>?_) (fun g0=>?_)
   ·skip
    refine Ok.b 3 [0,2,3,13] [(135,.bool true)] ?_
    refine Ok.rb 135 ((((e2.toNat:Int)==40)||((e2.toNat:Int)==91))||((e2.toNat:Int)==123)) (mor_t g0) (Ok.b 0 [0,2,3,13] [(135,.bool ((((e2.toNat:Int)==40)||((e2.toNat:Int)==91))||((e2.toNat:Int)==123)))] ?_)
    exact K0
   skip
   refine Ok.b 3 [0,2,3,13] [(135,.bool ((e2.toNat:Int)==123))] ?_
   refine Ok.rb 135 ((((e2.toNat:Int)==40)||((e2.toNat:Int)==91))||((e2.toNat:Int)==123)) (mor_f g0) (Ok.b 0 [0,2,3,13] [(135,.bool ((((e2.toNat:Int)==40)||((e2.toNat:Int)==91))||((e2.toNat:Int)==123)))] ?_)
   exact K0
  refine Ok.nt (Ok.cw hF (fun m0 hF=>?_) (fun m0 hF=>?_))
  ·refine Ok.r (Ok.b 1 [0,2,3] [(13,iv 10)] ?_)
   refine Ok.nt (Ok.v 13 rfl (show (iv 10:Value)=iv (rtokV3 e2) from congrArg (Value.int .i64) ((if_t m0).symm)) ?_)
   exact fz hF
  refine Ok.k (Ok.t (Ok.v 13 rfl (show (iv 12:Value)=iv (rtokV3 e2) from congrArg (Value.int .i64) ((if_f m0).symm)) ?_))
  exact fz hF
 refine Ok.ct [(0,sv xs),(2,pv bs2 0),(3,.int .u8 (e2.toNat:Int)),(13,iv (rtokV4 e2))] [.blk bs2 (.cells zK 98)] (rtokj98 xs K e2) ?_ (fun hF=>?_)
 ·
  refine Ok.sr (Ok.b 3 [0,2,3,13] [(138,.bool ((e2.toNat:Int)==41))] ?_)
  refine Ok.w 3 [(0,sv xs),(2,pv bs2 0),(3,.int .u8 (e2.toNat:Int)),(13,iv (rtokV3 e2)),(141,.bool (((e2.toNat:Int)==41)||((e2.toNat:Int)==93)))] (fun Y0=>?_) ?_
  ·refine Ok.a 138 ((e2.toNat:Int)==41) rfl (fun o0=>?_) (fun o0=>?_)
   ·skip
    refine Ok.b 3 [0,2,3,13] [(141,.bool true)] ?_
    refine Ok.rb 141 (((e2.toNat:Int)==41)||((e2.toNat:Int)==93)) (mor_t o0) (Ok.b 0 [0,2,3,13] [(141,.bool (((e2.toNat:Int)==41)||((e2.toNat:Int)==93)))] ?_)
    exact Y0
   skip
   refine Ok.b 3 [0,2,3,13] [(141,.bool ((e2.toNat:Int)==93))] ?_
   refine Ok.rb 141 (((e2.toNat:Int)==41)||((e2.toNat:Int)==93)) (mor_f o0) (Ok.b 0 [0,2,3,13] [(141,.bool (((e2.toNat:Int)==41)||((e2.toNat:Int)==93)))] ?_)
   exact Y0
  refine Ok.b 1 [0,2,3,13] [(142,.bool (((e2.toNat:Int)==41)||((e2.toNat:Int)==93)))] ?_
  refine Ok.w 3 [(0,sv xs),(2,pv bs2 0),(3,.int .u8 (e2.toNat:Int)),(13,iv (rtokV3 e2)),(145,.bool ((((e2.toNat:Int)==41)||((e2.toNat:Int)==93))||((e2.toNat:Int)==125)))] (fun U0=>?_) ?_
  ·refine Ok.a 142 (((e2.toNat:Int)==41)||((e2.toNat:Int)==93)) rfl (fun q0=>?_) (fun q0=>?_)
   ·skip
    refine Ok.b 3 [0,2,3,13] [(145,.bool true)] ?_
    refine Ok.rb 145 ((((e2.toNat:Int)==41)||((e2.toNat:Int)==93))||((e2.toNat:Int)==125)) (mor_t q0) (Ok.b 0 [0,2,3,13] [(145,.bool ((((e2.toNat:Int)==41)||((e2.toNat:Int)==93))||((e2.toNat:Int)==125)))] ?_)
    exact U0
   skip
   refine Ok.b 3 [0,2,3,13] [(145,.bool ((e2.toNat:Int)==125))] ?_
   refine Ok.rb 145 ((((e2.toNat:Int)==41)||((e2.toNat:Int)==93))||((e2.toNat:Int)==125)) (mor_f q0) (Ok.b 0 [0,2,3,13] [(145,.bool ((((e2.toNat:Int)==41)||((e2.toNat:Int)==93))||((e2.toNat:Int)==125)))] ?_)
   exact U0
  refine Ok.nt (Ok.cw hF (fun t0 hF=>?_) (fun t0 hF=>?_))
  ·refine Ok.r (Ok.b 1 [0,2,3] [(13,iv 11)] ?_)
   refine Ok.nt (Ok.v 13 rfl (show (iv 11:Value)=iv (rtokV4 e2) from congrArg (Value.int .i64) ((if_t t0).symm)) ?_)
   exact fz hF
  refine Ok.k (Ok.t (Ok.v 13 rfl (show (iv (rtokV3 e2):Value)=iv (rtokV4 e2) from congrArg (Value.int .i64) ((if_f t0).symm)) ?_))
  exact fz hF
 refine Ok.ct [(0,sv xs),(2,pv bs2 0),(13,iv (rtokV5 e2))] [.blk bs2 (.cells zK 98)] (rtokj104 xs K e2) ?_ (fun hF=>?_)
 ·
  refine Ok.sr (Ok.b 2 [0,2,13] [(147,.bool ((e2.toNat:Int)==92))] ?_)
  refine Ok.nt (Ok.cw hF (fun a0 hF=>?_) (fun a0 hF=>?_))
  ·refine Ok.r (Ok.b 1 [0,2] [(13,iv 6)] ?_)
   refine Ok.nt (Ok.v 13 rfl (show (iv 6:Value)=iv (rtokV5 e2) from congrArg (Value.int .i64) ((if_t a0).symm)) ?_)
   exact fz hF
  refine Ok.k (Ok.t (Ok.v 13 rfl (show (iv (rtokV4 e2):Value)=iv (rtokV5 e2) from congrArg (Value.int .i64) ((if_f a0).symm)) ?_))
  exact fz hF
 refine Ok.sr (Ok.b 2 [2] [(148,iv (rtokV5 e2)),(149,sv xs)] ?_)
 obtain ⟨h030,h130,h230,hF⟩:=hF
 refine Ok.o (OpOk.s (Yields.ss (s:=xs) (l:=0) (h:=1) kr underlying9 (.inr ⟨rfl,rfl⟩) (.inl ⟨_,_,rfl,rfl⟩) h030 h130 h230 (xs.take (Int.toNat 1)) (by simp)) rfl rfl (Ok.b 1 [2] [(151,.agg #[iv (rtokV5 e2),sv (xs.take (Int.toNat 1)),sv ([]:Bs),iv 0])] ?_))
 refine Ok.o (OpOk.sw 0 #[iv (rtokV5 e2),sv (xs.take (Int.toNat 1)),sv ([]:Bs),iv 0] rfl rfl rfl ?_)
 refine Ok.nt (Ok.ret ?_)
 exact Ok.p (vs:=[.agg #[iv (rtokV5 e2),sv (xs.take (Int.toNat 1)),sv ([]:Bs),iv 0]]) [] [] dc rfl (.inl rfl) rfl (.cons (.cellAgg 0 4 #[iv (rtokV5 e2),sv (xs.take (Int.toNat 1)),sv ([]:Bs),iv 0] rfl rfl underlying98 rfl kr kr kr) .nil) (Gext.r w0 g) ⟨(rtokV5 e2,xs.take (Int.toNat 1),([]:Bs),0),rfl,rfl,hF⟩
/-- blanks at the beginning -/
def spN (s:Bs):Nat:=s.length - (tlS s [32,9,10,12,13]).length
theorem sp_in (c:UInt8):([32,9,10,12,13]:Bs).contains c=blankM (c.toNat:Int):=by
 have:=byte_all (p:=fun c=>([32,9,10,12,13]:Bs).contains c==blankM (c.toNat:Int)) dk c
 simpa using this
theorem spN_cons (c:UInt8) (r:Bs):spN (c::r)=if blankM (c.toNat:Int)=true then spN r+1 else 0:=by
 have h:=tlS_len r [32,9,10,12,13]
 unfold spN
 have e:tlS (c::r) [32,9,10,12,13]=if blankM (c.toNat:Int)=true then tlS r [32,9,10,12,13] else c::r:=by
  unfold tlS
  rw [List.dropWhile_cons,sp_in]
 rw [e]
 split
 ·simp only [List.length_cons]; omega
 omega
theorem spN_at (s:Bs) (i:Nat):spN (s.drop i)=if (decide (i<s.length)&&blankM ((s.getD i 0).toNat:Int))=true then spN (s.drop (i+1))+1 else 0:=by
 by_cases h:i<s.length
 ·rw [drop_get (0:UInt8) h,spN_cons,decide_eq_true h,Bool.true_and]
 rw [List.drop_of_length_le om,if_f (by rw [decide_eq_false h]; rfl)]; rfl
theorem sp_wrap {s:Bs} (h:nameP s):w6 ((s.length:Int) - ((tlS s ([32,9,10,12,13]:Bs)).length:Int))=(spN s:Int):=by
 have:=tlS_len s [32,9,10,12,13]
 unfold nameP at h
 unfold spN
 rw [w64 om]; omega
theorem rtok_loop (xs:Bs) (hP:nameP xs) (K:KT→Prop):∀ (k i:Nat),spN (xs.drop i)=k→i≤xs.length→K (8,xs.take (i+k),[],0)→rtokl13 xs K (k+1) (i:Int):=by
 unfold nameP at hP
 intro k
 induction k with
 | zero =>
  intro i h1 h2 hK
  have hv:rtokV1 xs (i:Int)=false:=by
   unfold rtokV1
   rw [tnc]
   rw [spN_at] at h1
   split at h1
   ·omega
   rename_i hc
   rw [Bool.not_eq_true] at hc
   rw [show decide ((i:Int)<(xs.length:Int))=decide (i<xs.length) from decide_eq_decide.2 om]
   exact hc
  have key:rtokj15 xs K (i:Int) (rtokl13 xs K 0):=⟨(fun h=>by rw [hv] at h; cases h),fun _=>⟨by omega,by omega,by omega,by rw [tnc]; exact hK⟩⟩
  exact ⟨fun h=>⟨by omega,od h,key⟩,fun _=>key⟩
 | succ k ih =>
  intro i h1 h2 hK
  rw [spN_at] at h1
  split at h1
  ·rename_i hc
   have hc':=hc
   rw [Bool.and_eq_true] at hc
   have hi:=of_decide_eq_true hc.1
   have hv:rtokV1 xs (i:Int)=true:=by
    unfold rtokV1
    rw [tnc,show decide ((i:Int)<(xs.length:Int))=decide (i<xs.length) from decide_eq_decide.2 om]
    exact hc'
   have key:rtokj15 xs K (i:Int) (rtokl13 xs K (k+1)):=by
    refine ⟨fun _=>?_,(fun h=>by rw [hv] at h; cases h)⟩
    rw [w64 om]
    exact ih (i+1) om om (by rw [show i+1+k=i+(k+1) by omega]; exact hK)
   exact ⟨fun h=>⟨by omega,by omega,key⟩,fun _=>key⟩
  omega
theorem cp_two (c:UInt8) (r:Bs):(cpM (c::r) ([47,42]:Bs)).2=(c==47&&decide (0<r.length)&&r.getD 0 0==42):=by
 unfold cpM slcpM slhpM slhpj3M
 cases r with
 | nil=>cases c==47 <;> rfl
 | cons d r =>
  rw [decide_eq_true (by simp; omega),Bool.true_and]
  have e:((c::d::r).take (Int.toNat ((([47,42]:Bs).length:Nat):Int))==([47,42]:Bs))=(c==47&&d==42):=by
   show ([c,d]==([47,42]:Bs))=_
   show (c==47&&(d==42&&true))=_
   rw [Bool.and_true]
  rw [e,decide_eq_true (by simp),Bool.and_true]
  show (if (!(c==47&&d==42))=true then _ else _:Bs×Bool).2=(c==47&&d==42)
  cases (c==47&&d==42) <;> rfl
theorem cp_rest {s:Bs} (h:(cpM s ([47,42]:Bs)).2=true):(cpM s ([47,42]:Bs)).1=s.drop 2:=by
 unfold cpM slcpM at h ⊢
 cases hc:slhpM s ([47,42]:Bs)
 ·rw [hc] at h; cases h
 rfl
theorem note_eq {s:Bs} (h:nameP s) (hc:(cpM s ([47,42]:Bs)).2=true):rnoteS s=(9,firstV0 s,[],0):=by
 have hl:=idx_len (s.drop 2) [42,47]
 unfold rnoteS firstV0 idxS
 rw [cp_rest hc]
 rw [List.length_drop] at hl
 unfold nameP at h
 by_cases h0:0≤Lib.index (s.drop 2) [42,47]
 ·have:=hl h0
  simp only [List.length_cons,List.length_nil] at this
  rw [if_pos h0,if_t (by simpa using h0),w64 om,show (Lib.index (s.drop 2) [42,47]+4).toNat=(Lib.index (s.drop 2) [42,47]).toNat+4 by omega]
 rw [if_neg h0,if_f (by simpa using h0)]
theorem num_zero {c:UInt8} {r:Bs} (h:nameP (c::r)) (h1:c≠43) (h2:c≠45) (h3:c≠46) (h4:rdigM (c.toNat:Int)=false):numS (c::r)=(0,0):=by
 have e1:numbV1 (c::r)=0:=by
  unfold numbV1 numbV0
  have a1:((((c::r).getD (Int.toNat 0) 0).toNat:Int)==43)=(c==43):=byte_beq c 43
  have a2:((((c::r).getD (Int.toNat 0) 0).toNat:Int)==45)=(c==45):=byte_beq c 45
  rw [a1,a2,if_f (by simp [h1,h2])]
 have s0:sgN (c::r)=0:=by unfold sgN; rw [e1]; rfl
 have d0:digN ((c::r).drop 0)=0:=by
  show digN (c::r)=0
  rw [digN_cons,if_f h4]
 have e0:eN (c::r)=0:=by unfold eN; rw [s0,d0]
 have b0:bN (c::r)=0:=by
  unfold bN
  rw [e0,if_f]
  show (_&&c==46)=false
  simp [h3]
 have hdig:digitsM ((c::r).drop (Int.toNat (numbV1 (c::r))))=0:=by
  rw [digits_eq (nameP_drop h _),e1,Int.toNat_zero,d0]; rfl
 unfold numS
 rw [hdig,(b_eq h).1,b0]
 rfl
theorem named_eq {s:Bs} (h:nameP s) (q:Int) {i:Nat} (hi:i≤s.length):namedM q s (i:Int)=(q,s.take (rsaidS s (i:Int)).2.toNat,(rsaidS s (i:Int)).1,0):=by
 unfold namedM
 rw [(said_nat h hi).1,tnc]
 rfl
theorem b35 (c:UInt8):((c.toNat:Int)==35)=(c==35):=byte_beq c 35
theorem b64 (c:UInt8):((c.toNat:Int)==64)=(c==64):=byte_beq c 64
theorem b47 (c:UInt8):((c.toNat:Int)==47)=(c==47):=byte_beq c 47
theorem b42 (c:UInt8):((c.toNat:Int)==42)=(c==42):=byte_beq c 42
theorem hash_eq {c:UInt8} {r:Bs} (h:nameP (c::r)):rtokV2 (c::r) c=firstV1 (c::r) c:=by
 have hr:ratM (c::r) 1=((r.getD 0 0).toNat:Int):=rat_nat (c::r) 1
 have he:rescM (c::r) 1=escM r:=resc_drop h (i:=1) (by simp)
 have hg:(((c::r).getD (Int.toNat 1) 0).toNat:Int)=((r.getD 0 0).toNat:Int):=rfl
 have hd:((c::r).drop (Int.toNat 1))=r:=rfl
 unfold rtokV2 firstV1
 rw [hr,he,hg,hd,nam_sign]
 cases hE:escM r
 ·rw [Bool.or_false,Bool.or_false,Bool.and_comm (signM _)]
 have:=esc_len hE
 rw [decide_eq_true (by simp only [List.length_cons]; omega)]
 simp
theorem tail_eq (xs:Bs) (c:UInt8):firstj88M xs c=(rtokV5 c,xs.take (Int.toNat 1),[],0):=by
 unfold firstj88M firstj102M firstV5 firstV6 rtokV5 rtokV4 rtokV3
 have e:∀ n:UInt8,((c.toNat:Int)==(n.toNat:Int))=(c==n):=byte_beq c
 have e40:((c.toNat:Int)==40)=(c==40):=e 40
 have e41:((c.toNat:Int)==41)=(c==41):=e 41
 have e91:((c.toNat:Int)==91)=(c==91):=e 91
 have e93:((c.toNat:Int)==93)=(c==93):=e 93
 have e123:((c.toNat:Int)==123)=(c==123):=e 123
 have e125:((c.toNat:Int)==125)=(c==125):=e 125
 have e92:((c.toNat:Int)==92)=(c==92):=e 92
 rw [e40,e41,e91,e93,e123,e125,e92]
 by_cases h40:c=40
 ·subst h40; rfl
 by_cases h91:c=91
 ·subst h91; rfl
 by_cases J0:c=123
 ·subst J0; rfl
 by_cases h41:c=41
 ·subst h41; rfl
 by_cases h93:c=93
 ·subst h93; rfl
 by_cases W0:c=125
 ·subst W0; rfl
 by_cases h92:c=92
 ·subst h92; rfl
 simp [h40,h91,J0,h41,h93,W0,h92]
theorem rtok_F (s:Bs) (hp:firstP s):rtokF s (fun r=>r=firstM s):=by
 obtain ⟨h,hne,hlt⟩:=hp
 match s,hne with
 | c::r,_ =>
  have hl:(c::r).length=r.length+1:=rfl
  have r0:rplP (c::r) 0:=⟨h,by omega,by omega⟩
  have r1:rplP (c::r) 1:=⟨h,by omega,by omega⟩
  have hw:=sp_wrap h
  have hs0:=said_nat h (i:=0) (Nat.zero_le _)
  have hs1:=said_nat h (i:=1) om
  have n0:=named_eq h (i:=0) 1 (Nat.zero_le _)
  have n4:=named_eq h (i:=1) 4 om
  have n3:=named_eq h (i:=1) 3 om
  have hn0:((0:Nat):Int)=0:=rfl
  have hn1:((1:Nat):Int)=1:=rfl
  rw [hn0] at hs0 n0
  rw [hn1] at hs1 n4 n3
  have hrat1:ratM (c::r) 1=((r.getD 0 0).toNat:Int):=rat_nat (c::r) 1
  unfold rtokF
  show (0:Int)≤0∧_∧(blankM (c.toNat:Int)=true→_)∧(blankM (c.toNat:Int)=false→_)
  refine ⟨by omega,by simp,fun hb=>?_,fun hb=>?_⟩
  ·refine ⟨_,rtok_loop (c::r) h _ (spN (c::r)) 0 rfl om ?_⟩
   have h1:0<spN (c::r):=by rw [spN_cons,if_t hb]; omega
   unfold firstM
   rw [hw,if_t (by simpa using h1),tnc,Nat.zero_add]
  have hsp:spN (c::r)=0:=by rw [spN_cons,if_f hb]
  have hcp:=cp_two c r
  have key:rtokj27 (c::r) (fun t=>t=firstM (c::r)) c:=by
   unfold rtokj27
   have hF:firstM (c::r)=if (cpM (c::r) ([47,42]:Bs)).2=true then (9,firstV0 (c::r),[],0) else if (((c.toNat:Int)==39)||((c.toNat:Int)==34))=true then textS (c::r) else firstj43M (c::r) c:=by
    unfold firstM
    rw [hw,hsp,if_f (show decide (((0:Nat):Int)>0)=false from rfl)]
    rfl
   have h2a:(((c.toNat:Int)==47)&&(ratM (c::r) 1==42))=(cpM (c::r) ([47,42]:Bs)).2:=by
    rw [hcp,hrat1,b47,b42]
    cases r with
    | nil=>cases c==47 <;> rfl
    | cons d r=>rw [decide_eq_true (by simp),Bool.and_true]
   rw [h2a]
   refine ⟨fun hc=>?_,fun hc=>?_⟩
   ·refine ⟨⟨h,?_⟩,?_⟩
    ·rw [hcp,Bool.and_eq_true,Bool.and_eq_true] at hc
     have:=of_decide_eq_true hc.1.2
     omega
    rw [hF,if_t hc]; exact note_eq h hc
   rw [hF,if_f hc]
   refine ⟨fun hq=>⟨⟨h,by simp⟩,?_⟩,fun hq=>⟨h,fun hn=>?_,fun hn=>?_⟩⟩
   ·rw [if_t hq]
   ·have hn':=of_decide_eq_true hn
    refine ⟨⟨h,(numS_ok h).1,(numS_ok h).2⟩,?_⟩
    rw [if_f hq]
    have q0:c≠35:=fun e=>by
     subst e
     rw [num_zero h dc dc dc dk] at hn'
     exact absurd hn' dc
    have hc64:c≠64:=fun e=>by
     subst e
     rw [num_zero h dc dc dc dk] at hn'
     exact absurd hn' dc
    unfold firstj43M firstj49M firstV1 firstV2
    rw [b35,b64,if_f (by simp [q0]),if_f (by simp [hc64]),if_t hn]
   have X0:firstV1 (c::r) c=false→rtokj63 (c::r) (fun t=>t=firstj43M (c::r) c) c:=fun hv=>by
    unfold rtokj63
    have hb1:rbegS (c::r) 1=begM r:=rfl
    have hb0:rbegS (c::r) 0=begM (c::r):=rfl
    have hfin:rtokj104 (c::r) (fun t=>t=firstj88M (c::r) c) c:=⟨by omega,by omega,by omega,(tail_eq (c::r) c).symm⟩
    rw [hb1,hb0]
    refine ⟨fun h3=>⟨⟨h,by omega,by omega⟩,by omega,by omega,hs1.2.2,?_⟩,fun h3=>⟨r0,fun hB=>⟨⟨h,by omega,by omega⟩,⟨h,by omega,by omega⟩,fun hP=>⟨by omega,?_,?_,?_⟩,fun hP=>⟨by omega,by omega,hs0.2.2,?_⟩⟩,fun hB=>?_⟩⟩
    ·unfold firstj43M firstj49M
     rw [if_f hv,if_t (show firstV2 (c::r) c=true from h3),n3]
    ·have:=h; unfold nameP at this
     rw [w64 om]; omega
    ·have h40:=rat_40 (c::r) (rsaidS (c::r) 0).2.toNat
     rw [show (((rsaidS (c::r) 0).2.toNat:Nat):Int)=(rsaidS (c::r) 0).2 by omega,hP,hp_single] at h40
     have h40:=h40.symm
     rw [Bool.and_eq_true] at h40
     have:=of_decide_eq_true h40.1
     have:=h; unfold nameP at this
     rw [w64 om]; omega
    ·have h40:=rat_40 (c::r) (rsaidS (c::r) 0).2.toNat
     rw [show (((rsaidS (c::r) 0).2.toNat:Nat):Int)=(rsaidS (c::r) 0).2 by omega,hP] at h40
     unfold firstj43M firstj49M firstj72M firstV3 firstV4
     rw [if_f hv,if_f (show firstV2 (c::r) c=false from h3),if_f hn,if_t hB,n0]
     simp only
     rw [show ((((c::r).take (rsaidS (c::r) 0).2.toNat).length:Nat):Int)=(rsaidS (c::r) 0).2 by rw [List.length_take]; omega]
     rw [if_t h40.symm,if_t h40.symm]
    ·have h40:=rat_40 (c::r) (rsaidS (c::r) 0).2.toNat
     rw [show (((rsaidS (c::r) 0).2.toNat:Nat):Int)=(rsaidS (c::r) 0).2 by omega,hP] at h40
     unfold firstj43M firstj49M firstj72M firstV3 firstV4
     rw [if_f hv,if_f (show firstV2 (c::r) c=false from h3),if_f hn,if_t hB,n0]
     simp only
     rw [show ((((c::r).take (rsaidS (c::r) 0).2.toNat).length:Nat):Int)=(rsaidS (c::r) 0).2 by rw [List.length_take]; omega]
     rw [if_f h40.symm,if_f h40.symm]
    have hE:firstj43M (c::r) c=firstj88M (c::r) c:=by
     unfold firstj43M firstj49M
     rw [if_f hv,if_f (show firstV2 (c::r) c=false from h3),if_f hn,if_f hB]
    rw [hE]
    have j98:rtokj98 (c::r) (fun t=>t=firstj88M (c::r) c) c:=⟨fun _=>hfin,fun _=>hfin⟩
    have j92:rtokj92 (c::r) (fun t=>t=firstj88M (c::r) c) c:=⟨fun _=>j98,fun _=>j98⟩
    exact ⟨fun _=>j92,fun _=>j92⟩
   have i0:rtokj53 (c::r) (fun t=>t=firstj43M (c::r) c) c:=by
    unfold rtokj53
    rw [hash_eq h]
    refine ⟨fun hv=>⟨⟨h,by omega,by omega⟩,by omega,by omega,hs1.2.2,?_⟩,fun hv=>⟨fun _=>⟨r1,X0 hv⟩,fun _=>X0 hv⟩⟩
    unfold firstj43M
    rw [if_t hv,n4]
   rw [if_f hq]
   exact ⟨fun _=>⟨r1,fun _=>i0,fun _=>⟨r1,i0⟩⟩,fun _=>i0⟩
  exact ⟨fun _=>⟨r1,key⟩,fun _=>key⟩
theorem rtok_c {g:Ghost} (xs:Bs)  (hp:firstP xs):CallsG prog 147 #[sv xs] g (.agg (aK (firstM xs))) :=
 (rtok_ok xs _ (rtok_F xs hp)).gv
end Go.Proofs.YtdapgmigogpdcaaGreatDoor.Tk
