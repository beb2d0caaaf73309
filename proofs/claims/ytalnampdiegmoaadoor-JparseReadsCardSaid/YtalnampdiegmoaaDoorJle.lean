/- The script reader: the reference. -/
import Derived.Test.YtalnampdiegmoaaDoorJld
import Derived.Test.YtalnampdiegmoaaDoorJlw
namespace Go.Proofs.YtalnampdiegmoaaDoor.Jl
open _root_.Go.Proofs.Tryd Go Go.Eng Go.RowKit Bld Fl
set_option linter.unusedVariables false
set_option linter.unusedSimpArgs false
set_option maxHeartbeats 4000000
set_option maxRecDepth 100000
def idxS (s sub:Bs):Int:=Lib.index s sub
def idxP (s _:Bs):Prop:=s.length<4294967281
theorem idx_c {g:Ghost} (s sub:Bs) (hG:SomeInt g 1) (hp:idxP s sub):CallsG prog 48 #[sv s,sv sub] g (iv (idxS s sub)):=fun W hW=>by
 obtain ⟨cs,T,fz,m,h1,h2⟩:=hG
 refine (Tryd.strings_Index ⟨⟨s⟩⟩ ⟨⟨sub⟩⟩ m W hp (by rw [Lib.cell_of_heap (hW _ _ h1)]; exact h2)).mono fun e W' ⟨he,hw⟩=>⟨he,by subst hw; exact Below.refl _ _⟩
def scontS (s sub:Bs):Bool:=Lib.contains s sub
def scontP (s _:Bs):Prop:=s.length<4294967281
theorem scont_c {g:Ghost} (s sub:Bs) (hG:SomeInt g 1) (hp:scontP s sub):CallsG prog 47 #[sv s,sv sub] g (.bool (scontS s sub)):=fun W hW=>by
 obtain ⟨cs,T,fz,m,h1,h2⟩:=hG
 refine (Tryd.strings_Contains ⟨⟨s⟩⟩ ⟨⟨sub⟩⟩ m W hp (by rw [Lib.cell_of_heap (hW _ _ h1)]; exact h2)).mono fun e W' ⟨he,hw⟩=>⟨he,by subst hw; exact Below.refl _ _⟩
def slhpj3 (xs:Bs) (xprefix:Bs) (K:Bool→Prop):Prop :=
 K ((decide ((xs.length:Int)≥(xprefix.length:Int)))&&((xs.take (Int.toNat (xprefix.length:Int)))==xprefix))
def slhpF (xs:Bs) (xprefix:Bs) (K:Bool→Prop):Prop :=
 ((decide ((xs.length:Int)≥(xprefix.length:Int)))=true→(0:Int)≤0∧0≤(xprefix.length:Int)∧(xprefix.length:Int)≤(xs.length:Int)∧slhpj3 xs xprefix K)∧((decide ((xs.length:Int)≥(xprefix.length:Int)))=false→slhpj3 xs xprefix K)
theorem slhp_ok {g:Ghost} (xs:Bs) (xprefix:Bs) (K:Bool→Prop)
  (hF:slhpF xs xprefix K):CallsH prog 46 #[sv xs,sv xprefix] g [] (fun g' H' v=>∃ (r0:Bool),v=.bool r0∧H'=[]∧K r0):=by
 refine CallsH.en 18 func46 rfl fun w0=>?_
 refine Ok.sr (Ok.B 1 [(0,sv xs),(1,sv xprefix)] kr (Ok.nt (Ok.ct [(4,.bool ((decide ((xs.length:Int)≥(xprefix.length:Int)))&&((xs.take (Int.toNat (xprefix.length:Int)))==xprefix)))] [] (slhpj3 xs xprefix K) ?_ (fun hF=>?_))))
 ·
  refine Ok.r (Ok.b 6 [0,1] [(10,.bool (decide ((xs.length:Int)≥(xprefix.length:Int))))] ?_)
  refine Ok.bw 10 hF (fun hc1 hF=>?_) (fun hc1 hF=>?_)
  ·refine Ok.b 3 [1] [(10,.bool true),(11,sv xs),(13,iv (xprefix.length:Int))] ?_
   obtain ⟨h02,h12,h22,hF⟩:=hF
   refine Ok.oy (OpOk.s (Yields.ss (s:=xs) (l:=0) (h:=(xprefix.length:Int)) kr underlying9 (.inr ⟨rfl,rfl⟩) (.inl ⟨_,_,rfl,rfl⟩) h02 h12 h22 (xs.take (Int.toNat (xprefix.length:Int))) (by simp)) rfl rfl (Ok.rn 4 [] [] [(4,.bool ((xs.take (Int.toNat (xprefix.length:Int)))==xprefix))] ?_))
   refine Ok.nt (Ok.rb 4 ((decide ((xs.length:Int)≥(xprefix.length:Int)))&&((xs.take (Int.toNat (xprefix.length:Int)))==xprefix)) (mand_t hc1) ?_)
   exact fz hF
  refine Ok.B 8 [(4,.bool false)] kr (Ok.nt (Ok.rb 4 ((decide ((xs.length:Int)≥(xprefix.length:Int)))&&((xs.take (Int.toNat (xprefix.length:Int)))==xprefix)) (mand_f hc1) ?_))
  exact fz hF
 refine Ok.ret ?_
 exact Ok.pb ((decide ((xs.length:Int)≥(xprefix.length:Int)))&&((xs.take (Int.toNat (xprefix.length:Int)))==xprefix)) hF
def slhpj3M (xs:Bs) (xprefix:Bs):Bool:=((decide ((xs.length:Int)≥(xprefix.length:Int)))&&((xs.take (Int.toNat (xprefix.length:Int)))==xprefix))
theorem slhpj3_A (xs:Bs) (xprefix:Bs) (P:Bool→Prop) (h:P (slhpj3M xs xprefix)):slhpj3 xs xprefix (fun k0=>P k0):=by
 unfold slhpj3M at h
 unfold slhpj3
 exact h
def slhpM (xs:Bs) (xprefix:Bs):Bool:=(slhpj3M xs xprefix)
theorem slhpF_A (xs:Bs) (xprefix:Bs) (P:Bool→Prop) (h:P (slhpM xs xprefix)):slhpF xs xprefix (fun k0=>P k0):=by
 unfold slhpM at h
 unfold slhpF
 refine ⟨fun hc0=>?_,fun hc0=>?_⟩
 ·skip
  have hd0:=of_decide_eq_true hc0
  refine ⟨?_,?_,?_,?_⟩
  ·first | omega | assumption | exact trivial | (have h0:=List.length_pos_iff.mpr asm; omega) | (simp; omega) | (simp at *; omega)
  ·first | omega | assumption | exact trivial | (have h0:=List.length_pos_iff.mpr asm; omega) | (simp; omega) | (simp at *; omega)
  ·first | omega | assumption | exact trivial | (have h0:=List.length_pos_iff.mpr asm; omega) | (simp; omega) | (simp at *; omega)
  exact slhpj3_A xs xprefix _ h
 skip
 have hd0:=of_decide_eq_false hc0
 exact slhpj3_A xs xprefix _ h
theorem slhp_F (xs:Bs) (xprefix:Bs):slhpF xs xprefix (fun k0=>k0=slhpM xs xprefix) :=
 slhpF_A xs xprefix (fun z=>z=slhpM xs xprefix) rfl
theorem slhp_c {g:Ghost} (xs:Bs) (xprefix:Bs)  : CallsG prog 46 #[sv xs,sv xprefix] g (.bool (slhpM xs xprefix)) :=
 (slhp_ok xs xprefix _ (slhp_F xs xprefix)).gv
def hpF (xs:Bs) (xprefix:Bs) (K:Bool→Prop):Prop :=
 K (slhpM xs xprefix)
theorem hp_ok {g:Ghost} (xs:Bs) (xprefix:Bs) (K:Bool→Prop)
  (hF:hpF xs xprefix K):CallsH prog 17 #[sv xs,sv xprefix] g [] (fun g' H' v=>∃ (r0:Bool),v=.bool r0∧H'=[]∧K r0):=by
 refine CallsH.en 8 func17 rfl fun w0=>?_
 refine Ok.sr (Ok.B 1 [(0,sv xs),(1,sv xprefix)] kr (Ok.nt (Ok.sr (Ok.rn 4 [.k (slhp_c xs xprefix)] [] [(4,.bool (slhpM xs xprefix))] ?_))))
 refine Ok.nt (Ok.ret ?_)
 exact Ok.pb (slhpM xs xprefix) hF
def hpM (xs:Bs) (xprefix:Bs):Bool:=(slhpM xs xprefix)
theorem hpF_A (xs:Bs) (xprefix:Bs) (P:Bool→Prop) (h:P (hpM xs xprefix)):hpF xs xprefix (fun k0=>P k0):=by
 unfold hpM at h
 unfold hpF
 exact h
theorem hp_F (xs:Bs) (xprefix:Bs):hpF xs xprefix (fun k0=>k0=hpM xs xprefix) :=
 hpF_A xs xprefix (fun z=>z=hpM xs xprefix) rfl
theorem hp_c {g:Ghost} (xs:Bs) (xprefix:Bs)  : CallsG prog 17 #[sv xs,sv xprefix] g (.bool (hpM xs xprefix)) :=
 (hp_ok xs xprefix _ (hp_F xs xprefix)).gv
def btwF (xn:Int) (xlow:Int) (xhigh:Int) (K:Bool→Prop):Prop :=
 K (decide (xlow≤xn)&&decide (xn≤xhigh))
theorem btw_ok {g:Ghost} (xn:Int) (xlow:Int) (xhigh:Int) (K:Bool→Prop)
  (hF:btwF xn xlow xhigh K):CallsH prog 18 #[iv xn,iv xlow,iv xhigh] g [] (fun g' H' v=>∃ (r0:Bool),v=.bool r0∧H'=[]∧K r0):=by
 refine CallsH.en 15 func18 rfl fun w0=>?_
 refine Ok.sr (Ok.B 1 [(0,iv xn),(1,iv xlow),(2,iv xhigh)] kr (Ok.nt (Ok.sr (Ok.b 4 [0,2] [(10,.bool (decide (xlow≤xn)))] ?_))))
 refine Ok.w 4 [(14,.bool (decide (xlow≤xn)&&decide (xn≤xhigh)))] (fun hR1=>?_) ?_
 ·refine Ok.a 10 (decide (xlow≤xn)) rfl (fun hc2=>?_) (fun hc2=>?_)
  ·skip
   refine Ok.B 4 [(14,.bool (decide (xn≤xhigh)))] kr (Ok.rb 14 (decide (xlow≤xn)&&decide (xn≤xhigh)) (mand_t hc2) (Ok.B 0 [(14,.bool (decide (xlow≤xn)&&decide (xn≤xhigh)))] kr ?_))
   exact hR1
  skip
  refine Ok.B 4 [(14,.bool false)] kr (Ok.rb 14 (decide (xlow≤xn)&&decide (xn≤xhigh)) (mand_f hc2) (Ok.B 0 [(14,.bool (decide (xlow≤xn)&&decide (xn≤xhigh)))] kr ?_))
  exact hR1
 refine Ok.B 1 [(6,.bool (decide (xlow≤xn)&&decide (xn≤xhigh)))] kr (Ok.nt (Ok.ret ?_))
 exact Ok.pb (decide (xlow≤xn)&&decide (xn≤xhigh)) hF
def btwM (xn:Int) (xlow:Int) (xhigh:Int):Bool:=(decide (xlow≤xn)&&decide (xn≤xhigh))
theorem btwF_A (xn:Int) (xlow:Int) (xhigh:Int) (P:Bool→Prop) (h:P (btwM xn xlow xhigh)):btwF xn xlow xhigh (fun k0=>P k0):=by
 unfold btwM at h
 unfold btwF
 exact h
theorem btw_F (xn:Int) (xlow:Int) (xhigh:Int):btwF xn xlow xhigh (fun k0=>k0=btwM xn xlow xhigh) :=
 btwF_A xn xlow xhigh (fun z=>z=btwM xn xlow xhigh) rfl
theorem btw_c {g:Ghost} (xn:Int) (xlow:Int) (xhigh:Int)  : CallsG prog 18 #[iv xn,iv xlow,iv xhigh] g (.bool (btwM xn xlow xhigh)) :=
 (btw_ok xn xlow xhigh _ (btw_F xn xlow xhigh)).gv
def rwordj3 (xs:Bs) (K:Bool→Prop):Prop :=
 K ((!(xs==([]:Bs)))&&(scontS ([32,108,101,116,32,102,110,32,105,102,32,101,108,115,101,32,119,104,105,108,101,32,102,111,114,32,111,102,32,114,101,116,117,114,110,32,98,114,101,97,107,32,99,111,110,116,105,110,117,101,32,116,104,114,111,119,32,116,114,121,32,99,97,116,99,104,32,102,105,110,97,108,108,121,32,116,114,117,101,32,102,97,108,115,101,32,110,117,108,108,32]:Bs) ((([32]:Bs)++xs)++([32]:Bs))))
def rwordF (xs:Bs) (K:Bool→Prop):Prop :=
 ((!(xs==([]:Bs)))=true→([32]:Bs).length+xs.length≤maxLen∧(([32]:Bs)++xs).length+([32]:Bs).length≤maxLen∧scontP ([32,108,101,116,32,102,110,32,105,102,32,101,108,115,101,32,119,104,105,108,101,32,102,111,114,32,111,102,32,114,101,116,117,114,110,32,98,114,101,97,107,32,99,111,110,116,105,110,117,101,32,116,104,114,111,119,32,116,114,121,32,99,97,116,99,104,32,102,105,110,97,108,108,121,32,116,114,117,101,32,102,97,108,115,101,32,110,117,108,108,32]:Bs) ((([32]:Bs)++xs)++([32]:Bs))∧rwordj3 xs K)∧((!(xs==([]:Bs)))=false→rwordj3 xs K)
theorem rword_ok {g:Ghost} (xs:Bs) (hG1:SomeInt g 1) (K:Bool→Prop)
  (hF:rwordF xs K):CallsH prog 20 #[sv xs] g [] (fun g' H' v=>∃ (r0:Bool),v=.bool r0∧H'=[]∧K r0):=by
 refine CallsH.en 11 func20 rfl fun w0=>?_
 refine Ok.sr (Ok.B 1 [(0,sv xs)] kr (Ok.nt (Ok.ct [(2,.bool ((!(xs==Bz))&&(scontS BM ((Bb++xs)++Bb))))] [] (rwordj3 xs K) ?_ (fun hF=>?_))))
 ·
  refine Ok.r (Ok.rn 3 [] [0] [(5,.bool (!(xs==Bz)))] ?_)
  refine Ok.bw 5 hF (fun hc1 hF=>?_) (fun hc1 hF=>?_)
  ·refine Ok.B 1 [(5,.bool true),(6,sv xs)] kr ?_
   obtain ⟨hv,hF⟩:=hF
   refine Ok.oy (OpOk.s (v:=sv (Bb++xs)) (Yields.sa rfl rfl hv) rfl rfl ?_)
   obtain ⟨hv,hF⟩:=hF
   refine Ok.oy (OpOk.s (v:=sv ((Bb++xs)++Bb)) (Yields.sa rfl rfl hv) rfl rfl ?_)
   obtain ⟨hp2,hF⟩:=hF
   refine Ok.rn 3 [.k (scont_c BM ((Bb++xs)++Bb) hG1 hp2)] [] [(2,.bool (scontS BM ((Bb++xs)++Bb)))] ?_
   refine Ok.nt (Ok.rb 2 ((!(xs==Bz))&&(scontS BM ((Bb++xs)++Bb))) (mand_t hc1) ?_)
   exact fz hF
  refine Ok.B 6 [(2,.bool false)] kr (Ok.nt (Ok.rb 2 ((!(xs==Bz))&&(scontS BM ((Bb++xs)++Bb))) (mand_f hc1) ?_))
  exact fz hF
 refine Ok.ret ?_
 exact Ok.pb ((!(xs==Bz))&&(scontS BM ((Bb++xs)++Bb))) hF
def rwordP (s:Bs):Prop:=s.length≤1000000∧∀ c ∈ s,c≠32
def rwordS (s:Bs):Bool:=!(s==[])&&(fieldsS KW).contains s
theorem kw_text:Wd.wtext (fieldsS KW)=32::(KW++[32]):=by decide +kernel
theorem kw_words:∀ w ∈ fieldsS KW,∀ c ∈ w,c≠32:=by decide +kernel
theorem rword_F (s:Bs) (hp:rwordP s):rwordF s (fun r=>r=rwordS s):=by
 have hw:scontS (32::(KW++[32])) ((([32]:Bs)++s)++[32])=(fieldsS KW).contains s:=by
  rw [← kw_text]; exact Wd.contains_words s hp.2 _ kw_words
 have key:rwordj3 s (fun r=>r=rwordS s):=by
  unfold rwordj3 rwordS
  rw [← hw]; rfl
 have hl:=hp.1
 exact ⟨fun _=>⟨by rw [maxLen_eq]; show 1+s.length≤_; omega,by rw [maxLen_eq,List.length_append]; show (1+s.length)+1≤_; omega,by unfold scontP; decide,key⟩,fun _=>key⟩
theorem rword_c {g:Ghost} (xs:Bs) (hG1:SomeInt g 1)  (hp:rwordP xs):CallsG prog 20 #[sv xs] g (.bool (rwordS xs)) :=
 (rword_ok xs hG1 _ (rword_F xs hp)).gv
def rnbj3 (xc:Int) (K:Bool→Prop):Prop :=
 K (btwM (w6 xc) 97 122||(btwM (w6 xc) 65 90||(btwM (w6 xc) 48 57||(xc==95))))
def rnbF (xc:Int) (K:Bool→Prop):Prop :=
 (btwM (w6 xc) 97 122=true→rnbj3 xc K)∧(btwM (w6 xc) 97 122=false→(btwM (w6 xc) 65 90=true→rnbj3 xc K)∧(btwM (w6 xc) 65 90=false→rnbj3 xc K))
theorem rnb_ok {g:Ghost} (xc:Int) (K:Bool→Prop)
  (hF:rnbF xc K):CallsH prog 19 #[.int .u8 xc] g [] (fun g' H' v=>∃ (r0:Bool),v=.bool r0∧H'=[]∧K r0):=by
 refine CallsH.en 20 func19 rfl fun w0=>?_
 refine Ok.sr (Ok.B 1 [(0,.int .u8 xc)] kr (Ok.nt (Ok.cg g [(2,.bool (btwM (w6 xc) 97 122||(btwM (w6 xc) 65 90||(btwM (w6 xc) 48 57||(xc==95)))))] [] (rnbj3 xc K) ?_ (fun gj3 hxj3 hF=>?_))))
 ·
  refine Ok.r (Ok.rn 4 [.k (btw_c (w6 xc) 97 122)] [0] [(6,.bool (btwM (w6 xc) 97 122))] ?_)
  refine Ok.bw 6 hF (fun hc1 hF=>?_) (fun hc1 hF=>?_)
  ·refine Ok.B 14 [(2,.bool true)] kr (Ok.nt (Ok.rb 2 (btwM (w6 xc) 97 122||(btwM (w6 xc) 65 90||(btwM (w6 xc) 48 57||(xc==95)))) (mor_t hc1) ?_))
   exact fg hF
  refine Ok.rn 5 [.k (btw_c (w6 xc) 65 90)] [0] [(11,.bool (btwM (w6 xc) 65 90))] ?_
  refine Ok.bw 11 hF (fun hc2 hF=>?_) (fun hc2 hF=>?_)
  ·refine Ok.B 9 [(2,.bool true)] kr (Ok.nt (Ok.rb 2 (btwM (w6 xc) 97 122||(btwM (w6 xc) 65 90||(btwM (w6 xc) 48 57||(xc==95)))) (Eq.trans (mor_t hc2) (mor_f hc1)) ?_))
   exact fg hF
  refine Ok.rn 5 [.k (btw_c (w6 xc) 48 57)] [0] [(16,.bool (btwM (w6 xc) 48 57))] ?_
  refine Ok.w 3 [(19,.bool (btwM (w6 xc) 48 57||(xc==95)))] (fun hR3=>?_) ?_
  ·refine Ok.a 16 (btwM (w6 xc) 48 57) rfl (fun hc4=>?_) (fun hc4=>?_)
   ·skip
    refine Ok.B 3 [(19,.bool true)] kr (Ok.rb 19 (btwM (w6 xc) 48 57||(xc==95)) (mor_t hc4) (Ok.B 0 [(19,.bool (btwM (w6 xc) 48 57||(xc==95)))] kr ?_))
    exact hR3
   skip
   refine Ok.B 3 [(19,.bool (xc==95))] kr (Ok.rb 19 (btwM (w6 xc) 48 57||(xc==95)) (mor_f hc4) (Ok.B 0 [(19,.bool (btwM (w6 xc) 48 57||(xc==95)))] kr ?_))
   exact hR3
  refine Ok.B 1 [(2,.bool (btwM (w6 xc) 48 57||(xc==95)))] kr (Ok.nt (Ok.rb 2 (btwM (w6 xc) 97 122||(btwM (w6 xc) 65 90||(btwM (w6 xc) 48 57||(xc==95)))) (Eq.trans (mor_f hc2) (mor_f hc1)) ?_))
  exact fg hF
 refine Ok.ret ?_
 exact Ok.h1 (.bool (btwM (w6 xc) 97 122||(btwM (w6 xc) 65 90||(btwM (w6 xc) 48 57||(xc==95))))) hxj3 ⟨_,rfl,rfl,hF⟩
def rnbj3M (xc:Int):Bool:=(btwM (w6 xc) 97 122||(btwM (w6 xc) 65 90||(btwM (w6 xc) 48 57||(xc==95))))
theorem rnbj3_A (xc:Int) (P:Bool→Prop) (h:P (rnbj3M xc)):rnbj3 xc (fun k0=>P k0):=by
 unfold rnbj3M at h
 unfold rnbj3
 exact h
def rnbM (xc:Int):Bool:=(rnbj3M xc)
theorem rnbF_A (xc:Int) (P:Bool→Prop) (h:P (rnbM xc)):rnbF xc (fun k0=>P k0):=by
 unfold rnbM at h
 unfold rnbF
 refine ⟨fun hc0=>?_,fun hc0=>?_⟩
 ·skip
  exact rnbj3_A xc _ h
 skip
 refine ⟨fun hc1=>?_,fun hc1=>?_⟩
 ·skip
  exact rnbj3_A xc _ h
 skip
 exact rnbj3_A xc _ h
theorem rnb_F (xc:Int):rnbF xc (fun k0=>k0=rnbM xc) :=
 rnbF_A xc (fun z=>z=rnbM xc) rfl
theorem rnb_c {g:Ghost} (xc:Int)  : CallsG prog 19 #[.int .u8 xc] g (.bool (rnbM xc)) :=
 (rnb_ok xc _ (rnb_F xc)).gv
theorem byte_all {p:UInt8→Bool} (h:(List.range 256).all (fun n=>p (UInt8.ofNat n))=true) (c:UInt8):p c=true:=by
 have h1:=List.all_eq_true.1 h c.toNat (by simpa using c.toNat_lt)
 simpa using h1
theorem sub1 (s:Bs) {i:Int} (h0:0≤i) (h1:i<(s.length:Int)):(s.take (Int.toNat (i+1))).drop i.toNat=[s.getD i.toNat 0]:=by
 rw [show Int.toNat (i+1)=i.toNat+1 by omega,take_get (l:=s) 0 om,List.drop_append_of_le_length (by rw [List.length_take]; omega),List.drop_of_length_le (by rw [List.length_take]; omega)]
 rfl
theorem one_eq (c d:UInt8):([c]==[d])=((c.toNat:Int)==(d.toNat:Int)):=by
 rw [Bool.eq_iff_iff,beq_iff_eq,beq_iff_eq]
 constructor
 ·intro h; injection h with h; rw [h]
 intro h; rw [UInt8.toNat_inj.1 (show c.toNat=d.toNat by omega)]
theorem one34 (c:UInt8):([c]==[34])=((c.toNat:Int)==34):=one_eq c 34
theorem one92 (c:UInt8):([c]==[92])=((c.toNat:Int)==92):=one_eq c 92
def hexOk (c:UInt8):Bool:=(scontS HX [c]==decide (ibS HX (c.toNat:Int)≥0))&&(idxS HX [c]==ibS HX (c.toNat:Int))&&(!decide ((c.toNat:Int)>127)||decide (ibS HX (c.toNat:Int)<0))&&decide (ibS HX (c.toNat:Int)<16)
theorem hex_ok (c:UInt8):hexOk c=true:=byte_all dk c
def nibOk (a b:Int):Bool:=UInt8.ofNat (Int.toNat (IntKind.wrap .u8 (w6 (w6 (16 * a)+b))))==UInt8.ofNat (Int.toNat (IntKind.wrap .u8 (bitOr .i64 (w6 (a * 2 ^ 4)) b)))
theorem nib_all:(List.range 16).all (fun n=>(List.range 16).all fun m=>nibOk (n:Int) (m:Int))=true:=by decide +kernel
theorem nib {a b:Int} (h1:0≤a) (h2:a<16) (h3:0≤b) (h4:b<16):UInt8.ofNat (Int.toNat (IntKind.wrap .u8 (w6 (w6 (16 * a)+b))))=UInt8.ofNat (Int.toNat (IntKind.wrap .u8 (bitOr .i64 (w6 (a * 2 ^ 4)) b))):=by
 obtain ⟨n,rfl⟩:=Int.eq_ofNat_of_zero_le h1
 obtain ⟨m,rfl⟩:=Int.eq_ofNat_of_zero_le h3
 have h:=List.all_eq_true.1 (List.all_eq_true.1 nib_all n (List.mem_range.2 om)) m (List.mem_range.2 om)
 exact beq_iff_eq.1 h
def rtaj16 (xs:Bs) (s0:Bs) (z0:Int) (C9:Bs→Int→Prop):Prop :=
 C9 s0 (w6 ((if (!(((xs.take (Int.toNat (w6 (z0+1)))).drop z0.toNat)==([92]:Bs)))=true then z0 else (if ((((xs.getD (Int.toNat (w6 (z0+1))) 0).toNat:Int)==34)||(((xs.getD (Int.toNat (w6 (z0+1))) 0).toNat:Int)==92))=true then w6 (z0+1) else (if (((xs.getD (Int.toNat (w6 (z0+1))) 0).toNat:Int)==110)=true then w6 (z0+1) else (if (((xs.getD (Int.toNat (w6 (z0+1))) 0).toNat:Int)==116)=true then w6 (z0+1) else w6 ((w6 (z0+1))+2)))))+1))
def rtaj91 (xs:Bs) (K:Bs→Int→Prop) (y0:Int) (v0:Int) (z0:Int) (C81:Int→Int→Prop):Prop :=
 (((decide ((w6 ((w6 (z0+1))+v0))≥(xs.length:Int)))||((decide (((xs.getD (Int.toNat (w6 ((w6 (z0+1))+v0))) 0).toNat:Int)>127))||(!(scontS ([48,49,50,51,52,53,54,55,56,57,97,98,99,100,101,102]:Bs) ((xs.take (Int.toNat (w6 ((w6 ((w6 (z0+1))+v0))+1)))).drop (Int.toNat (w6 ((w6 (z0+1))+v0))))))))=true→K ([]:Bs) (-1))∧(((decide ((w6 ((w6 (z0+1))+v0))≥(xs.length:Int)))||((decide (((xs.getD (Int.toNat (w6 ((w6 (z0+1))+v0))) 0).toNat:Int)>127))||(!(scontS ([48,49,50,51,52,53,54,55,56,57,97,98,99,100,101,102]:Bs) ((xs.take (Int.toNat (w6 ((w6 ((w6 (z0+1))+v0))+1)))).drop (Int.toNat (w6 ((w6 (z0+1))+v0))))))))=false→0≤(w6 ((w6 (z0+1))+v0))∧((w6 ((w6 (z0+1))+v0)):Int)≤(w6 ((w6 ((w6 (z0+1))+v0))+1))∧(w6 ((w6 ((w6 (z0+1))+v0))+1))≤(xs.length:Int)∧idxP ([48,49,50,51,52,53,54,55,56,57,97,98,99,100,101,102]:Bs) ((xs.take (Int.toNat (w6 ((w6 ((w6 (z0+1))+v0))+1)))).drop (Int.toNat (w6 ((w6 (z0+1))+v0))))∧C81 (w6 ((w6 (16 * y0))+(idxS ([48,49,50,51,52,53,54,55,56,57,97,98,99,100,101,102]:Bs) ((xs.take (Int.toNat (w6 ((w6 ((w6 (z0+1))+v0))+1)))).drop (Int.toNat (w6 ((w6 (z0+1))+v0))))))) (w6 (v0+1)))
def rtal81b (xs:Bs) (K:Bs→Int→Prop) (q0:Bs) (z0:Int) (C9:Bs→Int→Prop) (y0:Int) (v0:Int) (C81:Int→Int→Prop):Prop :=
 (decide (v0<3)=true→((decide ((w6 ((w6 (z0+1))+v0))≥(xs.length:Int)))=true→rtaj91 xs K y0 v0 z0 C81)∧((decide ((w6 ((w6 (z0+1))+v0))≥(xs.length:Int)))=false→0≤(w6 ((w6 (z0+1))+v0))∧Int.toNat (w6 ((w6 (z0+1))+v0))<xs.length∧((decide (((xs.getD (Int.toNat (w6 ((w6 (z0+1))+v0))) 0).toNat:Int)>127))=true→rtaj91 xs K y0 v0 z0 C81)∧((decide (((xs.getD (Int.toNat (w6 ((w6 (z0+1))+v0))) 0).toNat:Int)>127))=false→0≤(w6 ((w6 (z0+1))+v0))∧((w6 ((w6 (z0+1))+v0)):Int)≤(w6 ((w6 ((w6 (z0+1))+v0))+1))∧(w6 ((w6 ((w6 (z0+1))+v0))+1))≤(xs.length:Int)∧scontP ([48,49,50,51,52,53,54,55,56,57,97,98,99,100,101,102]:Bs) ((xs.take (Int.toNat (w6 ((w6 ((w6 (z0+1))+v0))+1)))).drop (Int.toNat (w6 ((w6 (z0+1))+v0))))∧rtaj91 xs K y0 v0 z0 C81)))∧(decide (v0<3)=false→q0.length+(bytesOf ([IntKind.wrap .u8 y0]:List Int)).length≤maxLen∧rtaj16 xs (q0++bytesOf ([IntKind.wrap .u8 y0]:List Int)) z0 C9)
def rtal81 (xs:Bs) (K:Bs→Int→Prop) (q0:Bs) (z0:Int) (C9:Bs→Int→Prop):Nat→Int→Int→Prop
 | 0,_,_=>False
 | k+1,y0,v0=>rtal81b xs K q0 z0 C9 y0 v0 (rtal81 xs K q0 z0 C9 k)
def rtaj56 (xs:Bs) (K:Bs→Int→Prop) (e8:UInt8) (q0:Bs) (z0:Int) (C9:Bs→Int→Prop):Prop :=
 ((((e8.toNat:Int)==34)||((e8.toNat:Int)==92))=true→0≤w6 (z0+1)∧((w6 (z0+1)):Int)≤(w6 ((w6 (z0+1))+1))∧(w6 ((w6 (z0+1))+1))≤(xs.length:Int)∧q0.length+((xs.take (Int.toNat (w6 ((w6 (z0+1))+1)))).drop (Int.toNat (w6 (z0+1)))).length≤maxLen∧rtaj16 xs (q0++((xs.take (Int.toNat (w6 ((w6 (z0+1))+1)))).drop (Int.toNat (w6 (z0+1))))) z0 C9)∧((((e8.toNat:Int)==34)||((e8.toNat:Int)==92))=false→(((e8.toNat:Int)==110)=true→q0.length+([10]:Bs).length≤maxLen∧rtaj16 xs (q0++([10]:Bs)) z0 C9)∧(((e8.toNat:Int)==110)=false→(((e8.toNat:Int)==116)=true→q0.length+([9]:Bs).length≤maxLen∧rtaj16 xs (q0++([9]:Bs)) z0 C9)∧(((e8.toNat:Int)==116)=false→(((e8.toNat:Int)==120)=true→∃ k,rtal81 xs K q0 z0 C9 k 0 1)∧(((e8.toNat:Int)==120)=false→K ([]:Bs) (-1)))))
def rtal9b (xs:Bs) (K:Bs→Int→Prop) (q0:Bs) (z0:Int) (C9:Bs→Int→Prop):Prop :=
 ((decide (z0<(xs.length:Int)))=true→0≤z0∧(z0:Int)≤w6 (z0+1)∧w6 (z0+1)≤(xs.length:Int)∧((((xs.take (Int.toNat (w6 (z0+1)))).drop z0.toNat)==([34]:Bs))=true→K q0 (w6 (z0+1)))∧((((xs.take (Int.toNat (w6 (z0+1)))).drop z0.toNat)==([34]:Bs))=false→0≤z0∧z0.toNat<xs.length∧((decide (((xs.getD z0.toNat 0).toNat:Int)<32))=true→K ([]:Bs) (-1))∧((decide (((xs.getD z0.toNat 0).toNat:Int)<32))=false→((!(((xs.take (Int.toNat (w6 (z0+1)))).drop z0.toNat)==([92]:Bs)))=true→q0.length+((xs.take (Int.toNat (w6 (z0+1)))).drop z0.toNat).length≤maxLen∧rtaj16 xs (q0++((xs.take (Int.toNat (w6 (z0+1)))).drop z0.toNat)) z0 C9)∧((!(((xs.take (Int.toNat (w6 (z0+1)))).drop z0.toNat)==([92]:Bs)))=false→((w6 (z0+1)==(xs.length:Int))=true→K ([]:Bs) (-1))∧((w6 (z0+1)==(xs.length:Int))=false→0≤w6 (z0+1)∧Int.toNat (w6 (z0+1))<xs.length∧((((xs.getD (Int.toNat (w6 (z0+1))) 0).toNat:Int)==34)=true→rtaj56 xs K (xs.getD (Int.toNat (w6 (z0+1))) 0) q0 z0 C9)∧((((xs.getD (Int.toNat (w6 (z0+1))) 0).toNat:Int)==34)=false→rtaj56 xs K (xs.getD (Int.toNat (w6 (z0+1))) 0) q0 z0 C9))))))∧((decide (z0<(xs.length:Int)))=false→K ([]:Bs) (-1))
def rtal9 (xs:Bs) (K:Bs→Int→Prop):Nat→Bs→Int→Prop
 | 0,_,_=>False
 | k+1,q0,z0=>rtal9b xs K q0 z0 (rtal9 xs K k)
def rtaF (xs:Bs) (xat:Int) (K:Bs→Int→Prop):Prop :=
 ∃ k,rtal9 xs K k ([]:Bs) (w6 (xat+1))
theorem rta_ok {g:Ghost} (xs:Bs) (xat:Int) (hG1:SomeInt g 1) (K:Bs→Int→Prop)
  (hF:rtaF xs xat K):CallsH prog 21 #[sv xs,iv xat] g [] (fun g' H' v=>∃ (r0:Bs),∃ (r1:Int),v=.tuple #[sv r0,iv r1]∧H'=[]∧K r0 r1):=by
 refine CallsH.en 124 func21 rfl fun w0=>?_
 refine Ok.sr (Ok.B 2 [(0,sv xs),(1,iv xat)] kr (Ok.nt (Ok.sr (Ok.b 1 [0,1] [(6,sv Bz)] ?_))))
 refine Ok.nt (Ok.q (Ok.sr (Ok.b 3 [0,6] [(7,iv (w6 (xat+1)))] ?_)))
 refine Ok.nt (Ok.block ?_)
 obtain ⟨k,hF⟩:=hF
 refine Ok.L (fun k a W=>∃ gl9:Ghost,Gext w0 g gl9∧∃ (q0:Bs) (z0:Int),StA 124 [(0,sv xs),(6,sv q0),(7,iv z0)] a∧StW w0 [] gl9 W∧rtal9 xs K k q0 z0) k ?_ ?_
 ·
  exact fun _ _ u v=>⟨g,Gext.r w0 g,Bz,w6 (xat+1),fA u v hF⟩
 clear hF
 rintro (_ | k9) _ _ ⟨gl9,c0,q0,z0,q⟩
 exact (q.2.2:False).elim
 refine jn (fun hF=>?_) _ _ q
 replace hG1:=hG1.mono c0.1
 refine Ok.q (Ok.sr (Ok.b 4 [0,6,7] [(17,.bool (decide (z0<(xs.length:Int))))] ?_))
 refine Ok.nt (Ok.cw hF (fun hc1 hF=>?_) (fun hc1 hF=>?_))
 ·refine Ok.k (Ok.t (Ok.cut (fun a W=>∃ i0:Ghost,Gext w0 gl9 i0∧∃ (s0:Bs),StA 124 [(0,sv xs),(6,sv s0),(7,iv (if (!(((xs.take (Int.toNat (w6 (z0+1)))).drop z0.toNat)==([92]:Bs)))=true then z0 else (if ((((xs.getD (Int.toNat (w6 (z0+1))) 0).toNat:Int)==34)||(((xs.getD (Int.toNat (w6 (z0+1))) 0).toNat:Int)==92))=true then w6 (z0+1) else (if (((xs.getD (Int.toNat (w6 (z0+1))) 0).toNat:Int)==110)=true then w6 (z0+1) else (if (((xs.getD (Int.toNat (w6 (z0+1))) 0).toNat:Int)==116)=true then w6 (z0+1) else w6 ((w6 (z0+1))+2))))))] a∧StW w0 [] i0 W∧rtaj16 xs s0 z0 (rtal9 xs K k9)) ?_ ?_))
  ·
   refine Ok.block (Ok.sr (Ok.b 4 [0,6,7] [(20,sv xs),(21,iv z0),(23,iv (w6 (z0+1)))] ?_))
   obtain ⟨h02,h12,h22,hF⟩:=hF
   refine Ok.o (OpOk.s (Yields.ss (s:=xs) (l:=z0) (h:=w6 (z0+1)) kr underlying9 (.inl ⟨_,_,rfl,rfl⟩) (.inl ⟨_,_,rfl,rfl⟩) h02 h12 h22 ((xs.take (Int.toNat (w6 (z0+1)))).drop z0.toNat) rfl) rfl rfl (Ok.b 1 [0,6,7] [(8,sv ((xs.take (Int.toNat (w6 (z0+1)))).drop z0.toNat))] ?_))
   refine Ok.nt (Ok.q (Ok.block (Ok.sr (Ok.rn 3 [] [0,6,7,8] [(25,.bool (((xs.take (Int.toNat (w6 (z0+1)))).drop z0.toNat)==([34]:Bs)))] ?_))))
   refine Ok.nt (Ok.cw hF (fun hc3 hF=>?_) (fun hc3 hF=>?_))
   ·refine Ok.sr (Ok.B 5 [(4,sv q0),(5,iv (w6 (z0+1)))] kr (Ok.nt (Ok.ret (Ok.kr (Ok.tr (Ok.kr (Ok.tr (Ok.tr (Ok.kr (Ok.tr ?_))))))))))
    exact Ok.resH (vs:=[sv q0,iv (w6 (z0+1))]) (.inl rfl) rfl (.cons (.tmp rfl) (.cons (.tmp rfl) .nil)) c0 ⟨q0,w6 (z0+1),rfl,rfl,hF⟩
   refine Ok.sr (Ok.b 2 [0,6,7,8] [(32,sv xs),(33,iv z0)] ?_)
   obtain ⟨h04,h14,hF⟩:=hF
   have he4:=get_of (l:=xs) (0:UInt8) h14
   generalize hg4:(xs.getD z0.toNat 0)=e4 at he4 hF ⊢
   refine Ok.o (OpOk.s (v:=.int .u8 (e4.toNat:Int)) (Yields.ix (k:=.i64) (i:=z0) (s:=xs) (b:=e4) kr kr underlying9 h04 he4) rfl rfl (Ok.b 2 [0,6,7,8] [(31,.bool (decide ((e4.toNat:Int)<32)))] ?_))
   refine Ok.nt (Ok.cn hF rfl (fun hc5=>?_) (fun hc5=>?_))
   ·replace hF:=hF.1 hc5
    refine Ok.sr (Ok.B 2 [(4,sv Bz),(5,iv (-1))] kr (Ok.nt (Ok.ret (Ok.kr (Ok.tr (Ok.kr (Ok.tr (Ok.tr (Ok.kr (Ok.tr ?_))))))))))
    exact Ok.resH (vs:=[sv Bz,iv (-1)]) (.inl rfl) rfl (.cons (.tmp rfl) (.cons (.tmp rfl) .nil)) c0 ⟨Bz,(-1),rfl,rfl,hF⟩
   replace hF:=hF.2 hc5
   refine Ok.sr (Ok.rn 3 [] [0,6,7,8] [(36,.bool (!(((xs.take (Int.toNat (w6 (z0+1)))).drop z0.toNat)==([92]:Bs))))] ?_)
   refine Ok.nt (Ok.cn hF rfl (fun hc6=>?_) (fun hc6=>?_))
   ·replace hF:=hF.1 hc6
    refine Ok.sr (Ok.b 2 [0,7] [(39,sv q0),(40,sv ((xs.take (Int.toNat (w6 (z0+1)))).drop z0.toNat))] ?_)
    obtain ⟨hv,hF⟩:=hF
    refine Ok.o (OpOk.s (v:=sv (q0++((xs.take (Int.toNat (w6 (z0+1)))).drop z0.toNat))) (Yields.sa rfl rfl hv) rfl rfl (Ok.b 1 [0,7] [(6,sv (q0++((xs.take (Int.toNat (w6 (z0+1)))).drop z0.toNat)))] ?_))
    refine Ok.nt (Ok.x (Ok.blockMiss rfl (Ok.thenE (Ok.blockHit (Ok.t ?_)))))
    subst hg4
    refine Ok.v 7 rfl (show (iv z0:Value)=iv (if (!(((xs.take (Int.toNat (w6 (z0+1)))).drop z0.toNat)==([92]:Bs)))=true then z0 else (if ((((xs.getD (Int.toNat (w6 (z0+1))) 0).toNat:Int)==34)||(((xs.getD (Int.toNat (w6 (z0+1))) 0).toNat:Int)==92))=true then w6 (z0+1) else (if (((xs.getD (Int.toNat (w6 (z0+1))) 0).toNat:Int)==110)=true then w6 (z0+1) else (if (((xs.getD (Int.toNat (w6 (z0+1))) 0).toNat:Int)==116)=true then w6 (z0+1) else w6 ((w6 (z0+1))+2))))) from congrArg (Value.int .i64) ((if_t hc6).symm)) ?_
    exact fun _ _ u v=>⟨gl9,Gext.r w0 gl9,q0++((xs.take (Int.toNat (w6 (z0+1)))).drop z0.toNat),fA u v hF⟩
   replace hF:=hF.2 hc6
   refine Ok.k (Ok.kn (Ok.t (Ok.sr (Ok.b 3 [0,6] [(7,iv (w6 (z0+1)))] ?_))))
   refine Ok.nt (Ok.q (Ok.sr (Ok.b 4 [0,6,7] [(47,.bool (w6 (z0+1)==(xs.length:Int)))] ?_)))
   refine Ok.nt (Ok.cn hF rfl (fun hc7=>?_) (fun hc7=>?_))
   ·replace hF:=hF.1 hc7
    refine Ok.sr (Ok.B 2 [(4,sv Bz),(5,iv (-1))] kr (Ok.nt (Ok.ret (Ok.tr (Ok.kr (Ok.tr (Ok.tr (Ok.kr (Ok.tr ?_)))))))))
    exact Ok.resH (vs:=[sv Bz,iv (-1)]) (.inl rfl) rfl (.cons (.tmp rfl) (.cons (.tmp rfl) .nil)) c0 ⟨Bz,(-1),rfl,rfl,hF⟩
   replace hF:=hF.2 hc7
   refine Ok.k (Ok.t (Ok.sr (Ok.b 2 [0,6,7] [(48,sv xs),(49,iv (w6 (z0+1)))] ?_)))
   obtain ⟨h08,h18,hF⟩:=hF
   have he8:=get_of (l:=xs) (0:UInt8) h18
   generalize hg8:(xs.getD (Int.toNat (w6 (z0+1))) 0)=e8 at he8 hF ⊢
   refine Ok.o (OpOk.s (v:=.int .u8 (e8.toNat:Int)) (Yields.ix (k:=.i64) (i:=w6 (z0+1)) (s:=xs) (b:=e8) kr kr underlying9 h08 he8) rfl rfl (Ok.b 1 [0,6,7] [(9,.int .u8 (e8.toNat:Int))] ?_))
   refine Ok.nt (Ok.sr (Ok.b 1 [0,6,7] [(51,.int .u8 (e8.toNat:Int))] ?_))
   refine Ok.nt (Ok.block (Ok.cut (fun a W=>∃ b0:Ghost,Gext w0 gl9 b0∧StA 124 [(0,sv xs),(6,sv q0),(7,iv (w6 (z0+1))),(51,.int .u8 (e8.toNat:Int)),(52,.bool (((e8.toNat:Int)==34)||((e8.toNat:Int)==92)))] a∧StW w0 [] b0 W∧rtaj56 xs K e8 q0 z0 (rtal9 xs K k9)) ?_ ?_))
   ·
    refine Ok.sr (Ok.b 2 [0,6,7,51] [(52,.bool ((e8.toNat:Int)==34))] ?_)
    refine Ok.nt (Ok.cw hF (fun Z0 hF=>?_) (fun Z0 hF=>?_))
    ·refine Ok.k (Ok.t (Ok.rb 52 (((e8.toNat:Int)==34)||((e8.toNat:Int)==92)) (Eq.trans (Z0) (mor_t Z0)) ?_))
     exact fg hF
    refine Ok.r (Ok.b 2 [0,6,7,51] [(52,.bool ((e8.toNat:Int)==92))] ?_)
    refine Ok.nt (Ok.rb 52 (((e8.toNat:Int)==34)||((e8.toNat:Int)==92)) (mor_f Z0) ?_)
    exact fg hF
   clear hF
   rintro _ _ ⟨b0,x0,q⟩
   refine jn (fun hF=>?_) _ _ q
   replace hG1:=hG1.mono x0.1
   refine Ok.cn hF rfl (fun hc9=>?_) (fun hc9=>?_)
   ·replace hF:=hF.1 hc9
    refine Ok.r (Ok.b 5 [0,7] [(55,sv q0),(56,sv xs),(57,iv (w6 (z0+1))),(59,iv (w6 ((w6 (z0+1))+1)))] ?_)
    obtain ⟨K0,Y0,U0,hF⟩:=hF
    refine Ok.o (OpOk.s (Yields.ss (s:=xs) (l:=w6 (z0+1)) (h:=(w6 ((w6 (z0+1))+1))) kr underlying9 (.inl ⟨_,_,rfl,rfl⟩) (.inl ⟨_,_,rfl,rfl⟩) K0 Y0 U0 ((xs.take (Int.toNat (w6 ((w6 (z0+1))+1)))).drop (Int.toNat (w6 (z0+1)))) rfl) rfl rfl ?_)
    obtain ⟨hv,hF⟩:=hF
    refine Ok.o (OpOk.s (v:=sv (q0++((xs.take (Int.toNat (w6 ((w6 (z0+1))+1)))).drop (Int.toNat (w6 (z0+1)))))) (Yields.sa rfl rfl hv) rfl rfl (Ok.b 1 [0,7] [(6,sv (q0++((xs.take (Int.toNat (w6 ((w6 (z0+1))+1)))).drop (Int.toNat (w6 (z0+1))))))] ?_))
    refine Ok.j (Ok.kn (Ok.kn (Ok.t ?_)))
    subst hg8
    subst hg4
    refine Ok.v 7 rfl (show (iv (w6 (z0+1)):Value)=iv (if (!(((xs.take (Int.toNat (w6 (z0+1)))).drop z0.toNat)==([92]:Bs)))=true then z0 else (if ((((xs.getD (Int.toNat (w6 (z0+1))) 0).toNat:Int)==34)||(((xs.getD (Int.toNat (w6 (z0+1))) 0).toNat:Int)==92))=true then w6 (z0+1) else (if (((xs.getD (Int.toNat (w6 (z0+1))) 0).toNat:Int)==110)=true then w6 (z0+1) else (if (((xs.getD (Int.toNat (w6 (z0+1))) 0).toNat:Int)==116)=true then w6 (z0+1) else w6 ((w6 (z0+1))+2))))) from congrArg (Value.int .i64) (Eq.trans ((if_t hc9).symm) ((if_f hc6).symm))) ?_
    exact fun _ _ u v=>⟨b0,x0,q0++((xs.take (Int.toNat (w6 ((w6 (z0+1))+1)))).drop (Int.toNat (w6 (z0+1)))),fA u v hF⟩
   replace hF:=hF.2 hc9
   refine Ok.sr (Ok.b 2 [0,6,7,51] [(62,.bool ((e8.toNat:Int)==110))] ?_)
   refine Ok.nt (Ok.cn hF rfl (fun m0=>?_) (fun m0=>?_))
   ·replace hF:=hF.1 m0
    refine Ok.r (Ok.b 1 [0,7] [(64,sv q0)] ?_)
    obtain ⟨hv,hF⟩:=hF
    refine Ok.o (OpOk.s (v:=sv (q0++([10]:Bs))) (Yields.sa rfl rfl hv) rfl rfl (Ok.b 1 [0,7] [(6,sv (q0++([10]:Bs)))] ?_))
    refine Ok.j (Ok.kn (Ok.kn (Ok.t ?_)))
    subst hg8
    subst hg4
    refine Ok.v 7 rfl (show (iv (w6 (z0+1)):Value)=iv (if (!(((xs.take (Int.toNat (w6 (z0+1)))).drop z0.toNat)==([92]:Bs)))=true then z0 else (if ((((xs.getD (Int.toNat (w6 (z0+1))) 0).toNat:Int)==34)||(((xs.getD (Int.toNat (w6 (z0+1))) 0).toNat:Int)==92))=true then w6 (z0+1) else (if (((xs.getD (Int.toNat (w6 (z0+1))) 0).toNat:Int)==110)=true then w6 (z0+1) else (if (((xs.getD (Int.toNat (w6 (z0+1))) 0).toNat:Int)==116)=true then w6 (z0+1) else w6 ((w6 (z0+1))+2))))) from congrArg (Value.int .i64) (Eq.trans (Eq.trans ((if_t m0).symm) ((if_f hc9).symm)) ((if_f hc6).symm))) ?_
    exact fun _ _ u v=>⟨b0,x0,q0++([10]:Bs),fA u v hF⟩
   replace hF:=hF.2 m0
   refine Ok.sr (Ok.b 2 [0,6,7,51] [(66,.bool ((e8.toNat:Int)==116))] ?_)
   refine Ok.nt (Ok.cn hF rfl (fun o0=>?_) (fun o0=>?_))
   ·replace hF:=hF.1 o0
    refine Ok.r (Ok.b 1 [0,7] [(68,sv q0)] ?_)
    obtain ⟨hv,hF⟩:=hF
    refine Ok.o (OpOk.s (v:=sv (q0++([9]:Bs))) (Yields.sa rfl rfl hv) rfl rfl (Ok.b 1 [0,7] [(6,sv (q0++([9]:Bs)))] ?_))
    refine Ok.j (Ok.kn (Ok.kn (Ok.t ?_)))
    subst hg8
    subst hg4
    refine Ok.v 7 rfl (show (iv (w6 (z0+1)):Value)=iv (if (!(((xs.take (Int.toNat (w6 (z0+1)))).drop z0.toNat)==([92]:Bs)))=true then z0 else (if ((((xs.getD (Int.toNat (w6 (z0+1))) 0).toNat:Int)==34)||(((xs.getD (Int.toNat (w6 (z0+1))) 0).toNat:Int)==92))=true then w6 (z0+1) else (if (((xs.getD (Int.toNat (w6 (z0+1))) 0).toNat:Int)==110)=true then w6 (z0+1) else (if (((xs.getD (Int.toNat (w6 (z0+1))) 0).toNat:Int)==116)=true then w6 (z0+1) else w6 ((w6 (z0+1))+2))))) from congrArg (Value.int .i64) (Eq.trans (Eq.trans (Eq.trans ((if_t o0).symm) ((if_f m0).symm)) ((if_f hc9).symm)) ((if_f hc6).symm))) ?_
    exact fun _ _ u v=>⟨b0,x0,q0++([9]:Bs),fA u v hF⟩
   replace hF:=hF.2 o0
   refine Ok.sr (Ok.b 2 [0,6,7] [(70,.bool ((e8.toNat:Int)==120))] ?_)
   refine Ok.nt (Ok.cn hF rfl (fun J0=>?_) (fun J0=>?_))
   ·replace hF:=hF.1 J0
    refine Ok.sr (Ok.b 1 [0,6,7] [(10,iv 0)] ?_)
    refine Ok.nt (Ok.q (Ok.sr (Ok.b 1 [0,6,7,10] [(11,iv 1)] ?_)))
    refine Ok.nt (Ok.block ?_)
    obtain ⟨k,hF⟩:=hF
    refine Ok.L (fun k a W=>∃ j0:Ghost,Gext w0 b0 j0∧∃ (y0:Int) (v0:Int),StA 124 [(0,sv xs),(6,sv q0),(7,iv (w6 (z0+1))),(10,iv y0),(11,iv v0)] a∧StW w0 [] j0 W∧rtal81 xs K q0 z0 (rtal9 xs K k9) k y0 v0) k ?_ ?_
    ·
     exact fun _ _ u v=>⟨b0,Gext.r w0 b0,0,1,fA u v hF⟩
    clear hF
    rintro (_ | k81) _ _ ⟨j0,d0,y0,v0,q⟩
    exact (q.2.2:False).elim
    refine jn (fun hF=>?_) _ _ q
    replace hG1:=hG1.mono d0.1
    refine Ok.q (Ok.sr (Ok.b 2 [0,6,7,10,11] [(73,.bool (decide (v0<3)))] ?_))
    refine Ok.nt (Ok.cn hF rfl (fun W0=>?_) (fun W0=>?_))
    ·replace hF:=hF.1 W0
     refine Ok.k (Ok.t (Ok.q (Ok.block (Ok.q (Ok.cg j0 [(0,sv xs),(6,sv q0),(7,iv (w6 (z0+1))),(10,iv y0),(11,iv v0),(102,.bool ((decide ((w6 ((w6 (z0+1))+v0))≥(xs.length:Int)))||((decide (((xs.getD (Int.toNat (w6 ((w6 (z0+1))+v0))) 0).toNat:Int)>127))||(!(scontS BE ((xs.take (Int.toNat (w6 ((w6 ((w6 (z0+1))+v0))+1)))).drop (Int.toNat (w6 ((w6 (z0+1))+v0)))))))))] [] (rtaj91 xs K y0 v0 z0 (rtal81 xs K q0 z0 (rtal9 xs K k9) k81)) ?_ (fun gj91 t0 hF=>?_))))))
     ·
      refine Ok.r (Ok.b 7 [0,6,7,10,11] [(82,.bool (decide ((w6 ((w6 (z0+1))+v0))≥(xs.length:Int))))] ?_)
      refine Ok.bw 82 hF (fun V0 hF=>?_) (fun V0 hF=>?_)
      ·refine Ok.b 20 [0,6,7,10,11] [(102,.bool true)] ?_
       refine Ok.nt (Ok.rb 102 ((decide ((w6 ((w6 (z0+1))+v0))≥(xs.length:Int)))||((decide (((xs.getD (Int.toNat (w6 ((w6 (z0+1))+v0))) 0).toNat:Int)>127))||(!(scontS BE ((xs.take (Int.toNat (w6 ((w6 ((w6 (z0+1))+v0))+1)))).drop (Int.toNat (w6 ((w6 (z0+1))+v0)))))))) (mor_t V0) ?_)
       exact fg hF
      refine Ok.b 4 [0,6,7,10,11] [(82,.bool false),(83,sv xs),(86,iv (w6 ((w6 (z0+1))+v0)))] ?_
      obtain ⟨h019,h119,hF⟩:=hF
      have X0:=get_of (l:=xs) (0:UInt8) h119
      generalize S0:(xs.getD (Int.toNat (w6 ((w6 (z0+1))+v0))) 0)=e19 at X0 hF ⊢
      refine Ok.oy (OpOk.s (v:=.int .u8 (e19.toNat:Int)) (Yields.ix (k:=.i64) (i:=(w6 ((w6 (z0+1))+v0))) (s:=xs) (b:=e19) kr kr underlying9 h019 X0) rfl rfl (Ok.b 3 [0,6,7,10,11] [(90,.bool (decide ((e19.toNat:Int)>127)))] ?_))
      refine Ok.a 90 (decide ((e19.toNat:Int)>127)) rfl (fun l0=>?_) (fun l0=>?_)
      ·replace hF:=hF.1 l0
       refine Ok.b 12 [0,6,7,10,11] [(102,.bool true)] ?_
       refine Ok.j (Ok.t ?_)
       subst S0
       refine Ok.rb 102 ((decide ((w6 ((w6 (z0+1))+v0))≥(xs.length:Int)))||((decide (((xs.getD (Int.toNat (w6 ((w6 (z0+1))+v0))) 0).toNat:Int)>127))||(!(scontS BE ((xs.take (Int.toNat (w6 ((w6 ((w6 (z0+1))+v0))+1)))).drop (Int.toNat (w6 ((w6 (z0+1))+v0)))))))) (Eq.trans (mor_t l0) (mor_f V0)) ?_
       exact fg hF
      replace hF:=hF.2 l0
      refine Ok.b 8 [0,6,7,10,11] [(90,.bool false),(91,sv xs),(94,iv (w6 ((w6 (z0+1))+v0))),(98,iv (w6 ((w6 ((w6 (z0+1))+v0))+1)))] ?_
      obtain ⟨h021,h121,h221,hF⟩:=hF
      refine Ok.oy (OpOk.s (Yields.ss (s:=xs) (l:=(w6 ((w6 (z0+1))+v0))) (h:=(w6 ((w6 ((w6 (z0+1))+v0))+1))) kr underlying9 (.inl ⟨_,_,rfl,rfl⟩) (.inl ⟨_,_,rfl,rfl⟩) h021 h121 h221 ((xs.take (Int.toNat (w6 ((w6 ((w6 (z0+1))+v0))+1)))).drop (Int.toNat (w6 ((w6 (z0+1))+v0)))) rfl) rfl rfl ?_)
      obtain ⟨hp22,hF⟩:=hF
      refine Ok.rn 3 [.k (scont_c BE ((xs.take (Int.toNat (w6 ((w6 ((w6 (z0+1))+v0))+1)))).drop (Int.toNat (w6 ((w6 (z0+1))+v0)))) hG1 hp22)] [0,6,7,10,11] [(102,.bool (!(scontS BE ((xs.take (Int.toNat (w6 ((w6 ((w6 (z0+1))+v0))+1)))).drop (Int.toNat (w6 ((w6 (z0+1))+v0)))))))] ?_
      refine Ok.j (Ok.t ?_)
      subst S0
      refine Ok.rb 102 ((decide ((w6 ((w6 (z0+1))+v0))≥(xs.length:Int)))||((decide (((xs.getD (Int.toNat (w6 ((w6 (z0+1))+v0))) 0).toNat:Int)>127))||(!(scontS BE ((xs.take (Int.toNat (w6 ((w6 ((w6 (z0+1))+v0))+1)))).drop (Int.toNat (w6 ((w6 (z0+1))+v0)))))))) (Eq.trans (mor_f l0) (mor_f V0)) ?_
      exact fg hF
     replace hG1:=hG1.mono t0.1
     refine Ok.cw hF (fun hc15 hF=>?_) (fun hc15 hF=>?_)
     ·refine Ok.sr (Ok.B 2 [(4,sv Bz),(5,iv (-1))] kr (Ok.nt (Ok.ret (Ok.tr (Ok.kr (Ok.tr (Ok.tr (Ok.kr (Ok.tr (Ok.kr (Ok.kr (Ok.tr (Ok.tr (Ok.kr (Ok.tr ?_)))))))))))))))
      exact Ok.resH (vs:=[sv Bz,iv (-1)]) (.inl rfl) rfl (.cons (.tmp rfl) (.cons (.tmp rfl) .nil)) (((c0.trans x0).trans d0).trans t0) ⟨Bz,(-1),rfl,rfl,hF⟩
     refine Ok.k (Ok.t (Ok.r (Ok.b 10 [0,6,7,11] [(104,iv (w6 (16 * y0))),(105,sv xs),(108,iv (w6 ((w6 (z0+1))+v0))),(112,iv (w6 ((w6 ((w6 (z0+1))+v0))+1)))] ?_)))
     obtain ⟨h016,h116,h216,hF⟩:=hF
     refine Ok.o (OpOk.s (Yields.ss (s:=xs) (l:=(w6 ((w6 (z0+1))+v0))) (h:=(w6 ((w6 ((w6 (z0+1))+v0))+1))) kr underlying9 (.inl ⟨_,_,rfl,rfl⟩) (.inl ⟨_,_,rfl,rfl⟩) h016 h116 h216 ((xs.take (Int.toNat (w6 ((w6 ((w6 (z0+1))+v0))+1)))).drop (Int.toNat (w6 ((w6 (z0+1))+v0)))) rfl) rfl rfl ?_)
     obtain ⟨hp17,hF⟩:=hF
     refine Ok.rn 3 [.k (idx_c BE ((xs.take (Int.toNat (w6 ((w6 ((w6 (z0+1))+v0))+1)))).drop (Int.toNat (w6 ((w6 (z0+1))+v0)))) hG1 hp17)] [0,6,7,11] [(10,iv (w6 ((w6 (16 * y0))+(idxS BE ((xs.take (Int.toNat (w6 ((w6 ((w6 (z0+1))+v0))+1)))).drop (Int.toNat (w6 ((w6 (z0+1))+v0))))))))] ?_
     refine Ok.j (Ok.kn (Ok.t (Ok.r (Ok.b 3 [0,6,7,10] [(11,iv (w6 (v0+1)))] ?_))))
     refine Ok.j (Ok.t ?_)
     exact fun _ _ u v=>⟨k81,nl,gj91,d0.trans t0,w6 ((w6 (16 * y0))+(idxS BE ((xs.take (Int.toNat (w6 ((w6 ((w6 (z0+1))+v0))+1)))).drop (Int.toNat (w6 ((w6 (z0+1))+v0)))))),w6 (v0+1),fA u v hF⟩
    replace hF:=hF.2 W0
    refine Ok.x (Ok.thenE (Ok.thenE (Ok.blockHit (Ok.t (Ok.sr (Ok.b 3 [0,7] [(116,sv q0),(118,.int .u8 (IntKind.wrap .u8 y0))] ?_))))))
    have B0:RepL j0 yb ([.int .u8 (IntKind.wrap .u8 y0)]:List Value) ([IntKind.wrap .u8 y0]:List Int):=(RepL.consN (c:=[.int .u8 (IntKind.wrap .u8 y0)]) rfl rfl)
    refine Ok.o (OpOk.li B0 fun b23=>?_)
    refine Ok.o (OpOk.s (v:=sv (bytesOf ([IntKind.wrap .u8 y0]:List Int))) (Yields.strOfOwn 0 kr rfl rfl B0 underlying70 underlying9 underlying5) rfl rfl ?_)
    obtain ⟨hv,hF⟩:=hF
    refine Ok.o (OpOk.s (v:=sv (q0++bytesOf ([IntKind.wrap .u8 y0]:List Int))) (Yields.sa rfl rfl hv) rfl rfl (Ok.b 1 [0,7] [(6,sv (q0++bytesOf ([IntKind.wrap .u8 y0]:List Int)))] ?_))
    refine Ok.nt (Ok.r (Ok.b 3 [0,6] [(7,iv (w6 ((w6 (z0+1))+2)))] ?_))
    refine Ok.j (Ok.kn (Ok.kn (Ok.t ?_)))
    subst hg8
    subst hg4
    refine Ok.v 7 rfl (show (iv (w6 ((w6 (z0+1))+2)):Value)=iv (if (!(((xs.take (Int.toNat (w6 (z0+1)))).drop z0.toNat)==([92]:Bs)))=true then z0 else (if ((((xs.getD (Int.toNat (w6 (z0+1))) 0).toNat:Int)==34)||(((xs.getD (Int.toNat (w6 (z0+1))) 0).toNat:Int)==92))=true then w6 (z0+1) else (if (((xs.getD (Int.toNat (w6 (z0+1))) 0).toNat:Int)==110)=true then w6 (z0+1) else (if (((xs.getD (Int.toNat (w6 (z0+1))) 0).toNat:Int)==116)=true then w6 (z0+1) else w6 ((w6 (z0+1))+2))))) from congrArg (Value.int .i64) (Eq.trans (Eq.trans (Eq.trans ((if_f o0).symm) ((if_f m0).symm)) ((if_f hc9).symm)) ((if_f hc6).symm))) ?_
    exact fun _ _ u v=>⟨j0,x0.trans d0,q0++bytesOf ([IntKind.wrap .u8 y0]:List Int),fA u v hF⟩
   replace hF:=hF.2 J0
   refine Ok.sr (Ok.B 2 [(4,sv Bz),(5,iv (-1))] kr (Ok.nt (Ok.ret (Ok.kr (Ok.kr (Ok.tr (Ok.tr (Ok.kr (Ok.tr ?_)))))))))
   exact Ok.resH (vs:=[sv Bz,iv (-1)]) (.inl rfl) rfl (.cons (.tmp rfl) (.cons (.tmp rfl) .nil)) (c0.trans x0) ⟨Bz,(-1),rfl,rfl,hF⟩
  clear hF
  rintro _ _ ⟨i0,Q0,s0,q⟩
  refine jn (fun hF=>?_) _ _ q
  refine Ok.r (Ok.b 3 [0,6] [(7,iv (w6 ((if (!(((xs.take (Int.toNat (w6 (z0+1)))).drop z0.toNat)==([92]:Bs)))=true then z0 else (if ((((xs.getD (Int.toNat (w6 (z0+1))) 0).toNat:Int)==34)||(((xs.getD (Int.toNat (w6 (z0+1))) 0).toNat:Int)==92))=true then w6 (z0+1) else (if (((xs.getD (Int.toNat (w6 (z0+1))) 0).toNat:Int)==110)=true then w6 (z0+1) else (if (((xs.getD (Int.toNat (w6 (z0+1))) 0).toNat:Int)==116)=true then w6 (z0+1) else w6 ((w6 (z0+1))+2)))))+1)))] ?_)
  refine Ok.j (Ok.t ?_)
  exact fun _ _ u v=>⟨k9,nl,i0,c0.trans Q0,s0,w6 ((if (!(((xs.take (Int.toNat (w6 (z0+1)))).drop z0.toNat)==([92]:Bs)))=true then z0 else (if ((((xs.getD (Int.toNat (w6 (z0+1))) 0).toNat:Int)==34)||(((xs.getD (Int.toNat (w6 (z0+1))) 0).toNat:Int)==92))=true then w6 (z0+1) else (if (((xs.getD (Int.toNat (w6 (z0+1))) 0).toNat:Int)==110)=true then w6 (z0+1) else (if (((xs.getD (Int.toNat (w6 (z0+1))) 0).toNat:Int)==116)=true then w6 (z0+1) else w6 ((w6 (z0+1))+2)))))+1),fA u v hF⟩
 refine Ok.x (Ok.thenE (Ok.thenE (Ok.blockHit (Ok.t (Ok.sr (Ok.B 2 [(4,sv Bz),(5,iv (-1))] kr (Ok.nt (Ok.ret ?_))))))))
 exact Ok.resH (vs:=[sv Bz,iv (-1)]) (.inl rfl) rfl (.cons (.tmp rfl) (.cons (.tmp rfl) .nil)) c0 ⟨Bz,(-1),rfl,rfl,hF⟩
def rtaR (t:TK×Int×RD):Bs×Int:=if (t.2.1==0)=true then (t.1.2.2.2.1,t.2.2.2.1) else ([],-1)
def rtaS (s:Bs) (at_:Int):Bs×Int:=rtaR (txN s [] (s.length+1) (at_+1) [])
def rtaP (s:Bs) (at_:Int):Prop:=s.length≤1000000∧0≤at_∧at_<(s.length:Int)
theorem rta_F (s:Bs) (at_:Int) (hp:rtaP s at_):rtaF s at_ (fun r r1=>(r,r1)=rtaS s at_):=by
 obtain ⟨hl,hp0,hp1⟩:=hp
 have loop:∀ (k:Nat) (i:Int) (acc:Bs),(s.length:Int)≤i+k→0≤i→i≤(s.length:Int)→(acc.length:Int)≤i→rtaS s at_=rtaR (txN s [] (k+1) i (intsOf acc)) →
   rtal9 s (fun r r1=>(r,r1)=rtaS s at_) (k+1) acc i:=by
  intro k
  induction k with
  | zero =>
   intro i acc ha hb hc hd he
   have hn:decide (i<(s.length:Int))=false:=decide_eq_false om
   rw [txN,if_f hn] at he
   exact ⟨fun h=>(Bool.false_ne_true (hn.symm.trans h)).elim,fun _=>he.symm⟩
  | succ k ih =>
   intro i acc ha hb hc hd he
   rw [txN] at he
   refine ⟨fun hn=>?_,fun hn=>by rw [if_f hn] at he; exact he.symm⟩
   rw [if_t hn] at he
   have hlt:=of_decide_eq_true hn
   have w1:w6 (i+1)=i+1:=w64 om
   have hs:=sub1 s hb hlt
   have hlen:∀ t:Bs,t.length≤1→acc.length+t.length≤maxLen:=fun t ht=>by rw [maxLen_eq]; omega
   have g0:∀ c:UInt8,((acc++[c]).length:Int)≤i+1:=fun c=>by rw [List.length_append]; simp only [List.length_cons,List.length_nil]; omega
   rw [w1,hs,one34,one92]
   refine ⟨hb,by omega,by omega,fun hq=>?_,fun hq=>?_⟩
   ·rw [if_t hq] at he
    rw [he]
    show _=(bytesOf (intsOf acc),i+1)
    rw [bytesOf_intsOf]
   rw [if_f hq] at he
   refine ⟨hb,by omega,fun h5=>?_,fun h5=>?_⟩
   ·rw [if_t h5] at he; exact he.symm
   rw [if_f h5] at he
   refine ⟨fun hb1=>?_,fun hb1=>?_⟩
   ·have hb2:(((s.getD i.toNat 0).toNat:Int)==92)=false:=by simpa using hb1
    rw [if_f hb2] at he
    refine ⟨hlen _ (Nat.le_refl _),?_⟩
    unfold rtaj16
    rw [w1,hs,one92,if_t hb1,w1]
    exact ih (i+1) _ om om om (g0 _) (by rw [he,intsOf_app]; rfl)
   have hb2:(((s.getD i.toNat 0).toNat:Int)==92)=true:=by simpa using hb1
   rw [if_t hb2] at he
   refine ⟨fun hx=>?_,fun hx=>?_⟩
   ·have hx1:i+1=(s.length:Int):=beq_iff_eq.1 hx
    have hpk:(jpeekS (s,i+1,[]) 0).1=0:=by
     unfold jpeekS; exact if_f (decide_eq_false (by show ¬ (i+1+0<(s.length:Int)); omega))
    have hz:(jescS (s,i+1,[])).2.1=0:=by unfold jescS; rw [hpk]; rfl
    rw [if_t (by rw [hz]; rfl)] at he
    exact he.symm
   have hx1:¬ i+1=(s.length:Int):=fun h=>by rw [beq_iff_eq.2 h] at hx; cases hx
   have C0:i+1<(s.length:Int):=by omega
   have w2:w6 (i+1+1)=i+1+1:=w64 om
   have hs2:=sub1 s (i:=i+1) om C0
   have hpk:(jpeekS (s,i+1,[]) 0).1=((s.getD (i+1).toNat 0).toNat:Int):=by
    unfold jpeekS
    rw [show (((s,i+1,[]):RD).2.1+0)=i+1 from Int.add_zero _]
    exact if_t (decide_eq_true C0)
   have key:rtaj56 s (fun r r1=>(r,r1)=rtaS s at_) (s.getD (i+1).toNat 0) acc i (rtal9 s (fun r r1=>(r,r1)=rtaS s at_) (k+1)):=by
    unfold rtaj56
    rw [w1,w2,hs2]
    refine ⟨fun a=>⟨by omega,by omega,by omega,hlen _ (Nat.le_refl _),?_⟩,fun a=>⟨fun b=>⟨hlen _ (Nat.le_refl _),?_⟩,fun b=>⟨fun c=>⟨hlen _ (Nat.le_refl _),?_⟩,fun c=>⟨fun d=>?_,fun d=>?_⟩⟩⟩⟩
    ·have hj:jescS (s,i+1,[])=(((s.getD (i+1).toNat 0).toNat:Int),1,(s,i+1,[])):=by unfold jescS; rw [hpk,if_t a]
     rw [hj] at he
     replace he:rtaS s at_=rtaR (txN s [] (k+1) (i+1+1) (intsOf acc++[((s.getD (i+1).toNat 0).toNat:Int)])):=he
     unfold rtaj16
     rw [w1,hs,one92,if_f hb1,if_t a,w2]
     exact ih (i+1+1) _ om om om (by have:=g0 (s.getD (i+1).toNat 0); omega) (by rw [he,intsOf_app]; rfl)
    ·have hj:jescS (s,i+1,[])=(10,1,(s,i+1,[])):=by unfold jescS; rw [hpk,if_f a,if_t b]
     rw [hj] at he
     replace he:rtaS s at_=rtaR (txN s [] (k+1) (i+1+1) (intsOf acc++[10])):=he
     unfold rtaj16
     rw [w1,hs,one92,if_f hb1,if_f a,if_t b,w2]
     exact ih (i+1+1) _ om om om (by have:=g0 10; omega) (by rw [he,intsOf_app]; rfl)
    ·have hj:jescS (s,i+1,[])=(9,1,(s,i+1,[])):=by unfold jescS; rw [hpk,if_f a,if_f b,if_t c]
     rw [hj] at he
     replace he:rtaS s at_=rtaR (txN s [] (k+1) (i+1+1) (intsOf acc++[9])):=he
     unfold rtaj16
     rw [w1,hs,one92,if_f hb1,if_f a,if_f b,if_t c,w2]
     exact ih (i+1+1) _ om om om (by have:=g0 9; omega) (by rw [he,intsOf_app]; rfl)
    ·have hj:jescS (s,i+1,[])=(if (decide (hexI (s,i+1,[]) 1≥0)&&decide (hexI (s,i+1,[]) 2≥0))=true then (IntKind.wrap .u8 (bitOr .i64 (w6 (hexI (s,i+1,[]) 1 * 2 ^ 4)) (hexI (s,i+1,[]) 2)),3,(s,i+1,[])) else (0,0,(s,i+1,[]))):=by
      unfold jescS; rw [hpk,if_f a,if_f b,if_f c,if_t d]
     have hbad:(decide (hexI (s,i+1,[]) 1≥0)&&decide (hexI (s,i+1,[]) 2≥0))=false→([],-1)=rtaS s at_:=fun h=>by
      rw [hj,if_f h] at he
      exact he.symm
     have stp:∀ (x10 x11:Int) (C:Int→Int→Prop),x11=1∨x11=2→0≤x10→x10≤15→(hexI (s,i+1,[]) x11<0→([],-1)=rtaS s at_) →
       (0≤hexI (s,i+1,[]) x11→hexI (s,i+1,[]) x11<16→i+1+x11<(s.length:Int)→C (w6 (w6 (16 * x10)+hexI (s,i+1,[]) x11)) (x11+1)) →
       rtal81b s (fun r r1=>(r,r1)=rtaS s at_) acc i (rtal9 s (fun r r1=>(r,r1)=rtaS s at_) (k+1)) x10 x11 C:=by
      intro x10 x11 C h1 h2 h3 hneg hpos
      have w3:w6 (i+1+x11)=i+1+x11:=w64 om
      have w4:w6 (i+1+x11+1)=i+1+x11+1:=w64 om
      have w5:w6 (x11+1)=x11+1:=w64 om
      refine ⟨fun _=>?_,fun h=>oe h⟩
      rw [w1,w3,w4]
      by_cases hq2:i+1+x11<(s.length:Int)
      ·have hs3:=sub1 s (i:=i+1+x11) om hq2
       have hk:hexI (s,i+1,[]) x11=ibS HX ((s.getD (i+1+x11).toNat 0).toNat:Int):=by
        unfold hexI
        have:(jpeekS (s,i+1,[]) x11).1=((s.getD (i+1+x11).toNat 0).toNat:Int):=by
         unfold jpeekS
         exact if_t (decide_eq_true hq2)
        rw [this]; rfl
       have hh:=hex_ok (s.getD (i+1+x11).toNat 0)
       unfold hexOk at hh
       simp only [Bool.and_eq_true,beq_iff_eq,decide_eq_true_eq] at hh
       obtain ⟨⟨⟨g1,g2⟩,g3⟩,g4⟩:=hh
       rw [← hk] at g1 g2 g3 g4
       have j91:rtaj91 s (fun r r1=>(r,r1)=rtaS s at_) x10 x11 i C:=by
        unfold rtaj91
        rw [w1,w3,w4,w5,hs3]
        change ((decide (i+1+x11≥(s.length:Int))||(decide (((s.getD (i+1+x11).toNat 0).toNat:Int)>127)||(!scontS HX [s.getD (i+1+x11).toNat 0])))=true→_)∧((decide (i+1+x11≥(s.length:Int))||(decide (((s.getD (i+1+x11).toNat 0).toNat:Int)>127)||(!scontS HX [s.getD (i+1+x11).toNat 0])))=false→_∧_∧_∧_∧C (w6 (w6 (16 * x10)+idxS HX [s.getD (i+1+x11).toNat 0])) _)
        rw [g1,g2,decide_eq_false (show ¬ (i+1+x11≥(s.length:Int)) by omega),Bool.false_or]
        refine ⟨fun h=>hneg ?_,fun h=>⟨by omega,by omega,by omega,by unfold idxP; decide,hpos ?_ g4 hq2⟩⟩
        ·simp only [Bool.or_eq_true,Bool.not_eq_true',decide_eq_true_eq,decide_eq_false_iff_not] at h g3
         omega
        simp only [Bool.or_eq_false_iff,Bool.not_eq_false',decide_eq_true_eq,decide_eq_false_iff_not] at h
        omega
       exact ⟨fun h=>j91,fun h=>⟨by omega,by omega,fun _=>j91,fun _=>⟨by omega,by omega,by omega,by unfold scontP; decide,j91⟩⟩⟩
      have hk:hexI (s,i+1,[]) x11<0:=by
       unfold hexI
       have:(jpeekS (s,i+1,[]) x11).1=0:=by
        unfold jpeekS
        exact if_f (decide_eq_false hq2)
       rw [this]; decide
      have hge:decide (i+1+x11≥(s.length:Int))=true:=decide_eq_true om
      refine ⟨fun _=>?_,fun h=>(Bool.false_ne_true (h.symm.trans hge)).elim⟩
      unfold rtaj91
      rw [w1,w3,w4,w5,hge,Bool.true_or]
      exact ⟨fun _=>hneg hk,fun h=>by cases h⟩
     refine ⟨3,stp 0 1 _ (.inl rfl) om om (fun h=>hbad (by rw [decide_eq_false (show ¬ (hexI (s,i+1,[]) 1≥0) by omega)]; rfl)) fun p1 p2 _=>?_⟩
     have e1:w6 (w6 (16 * 0)+hexI (s,i+1,[]) 1)=hexI (s,i+1,[]) 1:=by
      rw [show w6 (16 * 0)=0 from rfl,Int.zero_add]; exact w6e om
     rw [e1]
     refine stp (hexI (s,i+1,[]) 1) 2 _ (.inr rfl) p1 om (fun h=>hbad (by rw [decide_eq_false (show ¬ (hexI (s,i+1,[]) 2≥0) by omega),Bool.and_false])) fun p3 p4 p5=>?_
     refine ⟨fun h=>absurd (of_decide_eq_true h) dc,fun _=>⟨hlen _ (Nat.le_refl _),?_⟩⟩
     have hj2:jescS (s,i+1,[])=(IntKind.wrap .u8 (bitOr .i64 (w6 (hexI (s,i+1,[]) 1 * 2 ^ 4)) (hexI (s,i+1,[]) 2)),3,(s,i+1,[])):=by
      rw [hj]; exact if_t (by rw [decide_eq_true (show hexI (s,i+1,[]) 1≥0 from p1),decide_eq_true (show hexI (s,i+1,[]) 2≥0 from p3)]; rfl)
     rw [hj2] at he
     replace he:rtaS s at_=rtaR (txN s [] (k+1) (i+1+3) (intsOf acc++[IntKind.wrap .u8 (bitOr .i64 (w6 (hexI (s,i+1,[]) 1 * 2 ^ 4)) (hexI (s,i+1,[]) 2))])):=he
     unfold rtaj16
     rw [w1,hs,one92,if_f hb1,if_f a,if_f b,if_f c,w6e (x:=i+1+2) om,w6e (x:=i+1+2+1) om]
     refine ih (i+1+2+1) _ om om om (by rw [List.length_append]; show ((acc.length+1:Nat):Int)≤_; omega) ?_
     have hb8:bytesOf [IntKind.wrap .u8 (w6 (w6 (16 * hexI (s,i+1,[]) 1)+hexI (s,i+1,[]) 2))]=bytesOf [IntKind.wrap .u8 (bitOr .i64 (w6 (hexI (s,i+1,[]) 1 * 2 ^ 4)) (hexI (s,i+1,[]) 2))]:=by
      show [UInt8.ofNat _]=[UInt8.ofNat _]
      rw [nib p1 p2 p3 p4]
     rw [he,hb8,intsOf_app]
     have hu:0≤IntKind.wrap .u8 (bitOr .i64 (w6 (hexI (s,i+1,[]) 1 * 2 ^ 4)) (hexI (s,i+1,[]) 2))∧IntKind.wrap .u8 (bitOr .i64 (w6 (hexI (s,i+1,[]) 1 * 2 ^ 4)) (hexI (s,i+1,[]) 2))<256:=by
      constructor
      ·exact Int.emod_nonneg _ dc
      exact Int.emod_lt_of_pos _ dc
     have hio:∀ z:Int,0≤z∧z<256→intsOf (bytesOf [z])=[z]:=fun z hz=>by
      show [((UInt8.ofNat z.toNat).toNat:Int)]=[z]
      rw [UInt8.toNat_ofNat',Nat.mod_eq_of_lt om,Int.toNat_of_nonneg hz.1]
     rw [hio _ hu]
     show rtaR (txN s [] (k+1) (i+1+3) _)=rtaR (txN s [] (k+1) (i+1+2+1) _)
     rw [show i+1+3=i+1+2+1 by omega]
    have hz:(jescS (s,i+1,[])).2.1=0:=by unfold jescS; rw [hpk,if_f a,if_f b,if_f c,if_f d]
    rw [if_t (by rw [hz]; rfl)] at he
    exact he.symm
   exact ⟨by omega,by omega,fun _=>key,fun _=>key⟩
 unfold rtaF
 rw [w6e om]
 exact ⟨_,loop s.length (at_+1) [] om om om (by show (0:Int)≤_; omega) rfl⟩
theorem rta_c {g:Ghost} (xs:Bs) (xat:Int) (hG1:SomeInt g 1)  (hp:rtaP xs xat):CallsG prog 21 #[sv xs,iv xat] g (.tuple #[sv ((rtaS xs xat).1),iv (rtaS xs xat).2]) :=
 (rta_ok xs xat hG1 _ (rta_F xs xat hp)).gives (by rintro g' H' v _ ⟨r0,r1,rfl,rfl,hK⟩; obtain ⟨rfl,rfl⟩:r0=(rtaS xs xat).1∧r1=(rtaS xs xat).2:=⟨congrArg (fun z=>z.1) hK,congrArg (fun z=>z.2) hK⟩; rfl)
def rsaj27 (xs:Bs) (K:Bs→Prop):Prop :=
 (((decide (((xs.getD (Int.toNat 0) 0).toNat:Int)<128))&&(scontS ([61,33,60,62,43,45,42,47,37,40,41,91,93,123,125,44,59,58,46,63]:Bs) (xs.take (Int.toNat 1))))=true→(0:Int)≤0∧(0:Int)≤1∧1≤(xs.length:Int)∧K (xs.take (Int.toNat 1)))∧(((decide (((xs.getD (Int.toNat 0) 0).toNat:Int)<128))&&(scontS ([61,33,60,62,43,45,42,47,37,40,41,91,93,123,125,44,59,58,46,63]:Bs) (xs.take (Int.toNat 1))))=false→K ([]:Bs))
def rsal7b (xs:Bs) (K:Bs→Prop) (u0:Int) (C7:Int→Prop):Prop :=
 ((decide (u0<(([([61,61]:Bs),([33,61]:Bs),([60,61]:Bs),([62,61]:Bs),([38,38]:Bs),([124,124]:Bs)]:List Bs).length:Int)))=true→0≤u0∧u0.toNat<([([61,61]:Bs),([33,61]:Bs),([60,61]:Bs),([62,61]:Bs),([38,38]:Bs),([124,124]:Bs)]:List Bs).length∧((hpM xs (([([61,61]:Bs),([33,61]:Bs),([60,61]:Bs),([62,61]:Bs),([38,38]:Bs),([124,124]:Bs)]:List Bs).getD u0.toNat default))=true→K (([([61,61]:Bs),([33,61]:Bs),([60,61]:Bs),([62,61]:Bs),([38,38]:Bs),([124,124]:Bs)]:List Bs).getD u0.toNat default))∧((hpM xs (([([61,61]:Bs),([33,61]:Bs),([60,61]:Bs),([62,61]:Bs),([38,38]:Bs),([124,124]:Bs)]:List Bs).getD u0.toNat default))=false→C7 (w6 (u0+1))))∧((decide (u0<(([([61,61]:Bs),([33,61]:Bs),([60,61]:Bs),([62,61]:Bs),([38,38]:Bs),([124,124]:Bs)]:List Bs).length:Int)))=false→(0:Int)≤0∧Int.toNat 0<xs.length∧((decide (((xs.getD (Int.toNat 0) 0).toNat:Int)<128))=true→(0:Int)≤0∧(0:Int)≤1∧1≤(xs.length:Int)∧scontP ([61,33,60,62,43,45,42,47,37,40,41,91,93,123,125,44,59,58,46,63]:Bs) (xs.take (Int.toNat 1))∧rsaj27 xs K)∧((decide (((xs.getD (Int.toNat 0) 0).toNat:Int)<128))=false→rsaj27 xs K))
def rsal7 (xs:Bs) (K:Bs→Prop):Nat→Int→Prop
 | 0,_=>False
 | k+1,u0=>rsal7b xs K u0 (rsal7 xs K k)
def rsaF (xs:Bs) (K:Bs→Prop):Prop :=
 ∃ k,rsal7 xs K k 0
theorem rsa_ok {g:Ghost} (xs:Bs) (hG1:SomeInt g 1) (K:Bs→Prop)
  (hF:rsaF xs K):CallsH prog 22 #[sv xs] g [] (fun g' H' v=>∃ (r0:Bs),v=sv r0∧H'=[]∧K r0):=by
 refine CallsH.en 26 func22 rfl fun w0=>?_
 refine Ok.sr (Ok.B 1 [(0,sv xs)] kr (Ok.nt (Ok.q (Ok.q (Ok.r ?_)))))
 have hL1:RepL g (.str) ([sv Bj,sv Bi,sv Bf,sv Be,sv Bl,sv Bm]:List Value) ([Bj,Bi,Bf,Be,Bl,Bm]:List Bs):=(RepL.flat kr kr)
 refine Ok.o (OpOk.li hL1 fun b1=>?_)
 refine Ok.b 2 [0] [(5,.slice (some ⟨b1,0,none⟩) ([Bj,Bi,Bf,Be,Bl,Bm]:List Bs).length 6),(6,iv (([Bj,Bi,Bf,Be,Bl,Bm]:List Bs).length:Int)),(7,iv 0)] ?_
 refine Ok.nt (Ok.block ?_)
 obtain ⟨k,hF⟩:=hF
 refine Ok.L (fun k a W=>∃ gl7:Ghost,Gext w0 g gl7∧∃ (u0:Int),StA 26 [(0,sv xs),(5,.slice (some ⟨b1,0,none⟩) ([Bj,Bi,Bf,Be,Bl,Bm]:List Bs).length 6),(6,iv (([Bj,Bi,Bf,Be,Bl,Bm]:List Bs).length:Int)),(7,iv u0)] a∧StW w0 [.own (.slice (some ⟨b1,0,none⟩) ([Bj,Bi,Bf,Be,Bl,Bm]:List Bs).length 6) 9 1 ([Bj,Bi,Bf,Be,Bl,Bm]:List Bs).length ([sv Bj,sv Bi,sv Bf,sv Be,sv Bl,sv Bm]:List Value)] gl7 W∧rsal7 xs K k u0) k ?_ ?_
 ·
  exact fun _ _ u v=>⟨g,Gext.r w0 g,0,fA u v hF⟩
 clear hF
 rintro (_ | k7) _ _ ⟨gl7,n0,u0,q⟩
 exact (q.2.2:False).elim
 refine jn (fun hF=>?_) _ _ q
 replace hL1:=hL1.mono n0.1
 replace hG1:=hG1.mono n0.1
 refine Ok.sr (Ok.b 1 [0,5,6,7] [(8,.bool (decide (u0<(([Bj,Bi,Bf,Be,Bl,Bm]:List Bs).length:Int))))] ?_)
 refine Ok.nt (Ok.q (Ok.cw hF (fun hc2 hF=>?_) (fun hc2 hF=>?_)))
 ·refine Ok.k (Ok.t (Ok.q (Ok.block (Ok.q (Ok.r ?_)))))
  obtain ⟨h04,h14,hF⟩:=hF
  have he4:=get_of (l:=([Bj,Bi,Bf,Be,Bl,Bm]:List Bs)) default h14
  generalize hg4:(([Bj,Bi,Bf,Be,Bl,Bm]:List Bs).getD u0.toNat default)=e4 at he4 hF ⊢
  refine Ok.o (OpOk.indexOwn (e:=.str) 0 rfl hL1 rfl rfl underlying71 kr kr h04 he4 rfl fun cs3 _ hr3 hc3=>?_)
  obtain rfl:=hr3
  replace hc3:∀ j v,([sv e4]:List Value)[j]? = some v→([sv Bj,sv Bi,sv Bf,sv Be,sv Bl,sv Bm]:List Value)[u0.toNat * 1+j]? = some v:=hc3
  refine Ok.o (OpOk.s (v:=sv e4) (Yields.loadOwn 0 0 rfl hc3 rfl underlying9 rfl kr) rfl rfl (Ok.b 1 [0,5,6,7] [(4,sv e4)] ?_))
  refine Ok.nt (Ok.sr (Ok.b 2 [0,4,5,6,7] [(11,sv xs),(12,sv e4)] ?_))
  refine Ok.o (OpOk.f enr (fun W hW=>hp_c xs e4) rfl ?_)
  refine Ok.nt (Ok.cn hF rfl (fun hc5=>?_) (fun hc5=>?_))
  ·replace hF:=hF.1 hc5
   refine Ok.sr (Ok.B 2 [(2,sv e4)] kr (Ok.nt (Ok.ret (Ok.kr (Ok.tr (Ok.tr (Ok.kr (Ok.tr ?_))))))))
   exact Ok.p1 (sv e4) n0 ⟨e4,rfl,rfl,hF⟩
  replace hF:=hF.2 hc5
  refine Ok.k (Ok.kn (Ok.t (Ok.r (Ok.b 2 [0,5,6] [(7,iv (w6 (u0+1)))] ?_))))
  refine Ok.j (Ok.t ?_)
  subst hg4
  exact fun _ _ u v=>⟨k7,nl,gl7,n0,w6 (u0+1),fA u v hF⟩
 refine Ok.x (Ok.thenE (Ok.thenE (Ok.blockHit (Ok.t (Ok.q (Ok.cg gl7 [(0,sv xs),(23,.bool ((decide (((xs.getD (Int.toNat 0) 0).toNat:Int)<128))&&(scontS BN (xs.take (Int.toNat 1)))))] [] (rsaj27 xs K) ?_ (fun gj27 a0 hF=>?_)))))))
 ·
  refine Ok.r (Ok.b 1 [0] [(16,sv xs)] ?_)
  obtain ⟨h08,h18,hF⟩:=hF
  have he8:=get_of (l:=xs) (0:UInt8) h18
  generalize hg8:(xs.getD (Int.toNat 0) 0)=e8 at he8 hF ⊢
  refine Ok.o (OpOk.s (v:=.int .u8 (e8.toNat:Int)) (Yields.ix (k:=.i64) (i:=0) (s:=xs) (b:=e8) kr kr underlying9 h08 he8) rfl rfl (Ok.b 2 [0] [(19,.bool (decide ((e8.toNat:Int)<128)))] ?_))
  refine Ok.a 19 (decide ((e8.toNat:Int)<128)) rfl (fun hc9=>?_) (fun hc9=>?_)
  ·replace hF:=hF.1 hc9
   refine Ok.b 1 [0] [(19,.bool true),(20,sv xs)] ?_
   obtain ⟨K0,Y0,U0,hF⟩:=hF
   refine Ok.oy (OpOk.s (Yields.ss (s:=xs) (l:=0) (h:=1) kr underlying9 (.inr ⟨rfl,rfl⟩) (.inl ⟨_,_,rfl,rfl⟩) K0 Y0 U0 (xs.take (Int.toNat 1)) (by simp)) rfl rfl ?_)
   obtain ⟨hp11,hF⟩:=hF
   refine Ok.rn 2 [.k (scont_c BN (xs.take (Int.toNat 1)) hG1 hp11)] [0] [(23,.bool (scontS BN (xs.take (Int.toNat 1))))] ?_
   refine Ok.j (Ok.t ?_)
   subst hg8
   refine Ok.rb 23 ((decide (((xs.getD (Int.toNat 0) 0).toNat:Int)<128))&&(scontS BN (xs.take (Int.toNat 1)))) (mand_t hc9) ?_
   exact fg hF
  replace hF:=hF.2 hc9
  refine Ok.b 4 [0] [(23,.bool false)] ?_
  refine Ok.j (Ok.t ?_)
  subst hg8
  refine Ok.rb 23 ((decide (((xs.getD (Int.toNat 0) 0).toNat:Int)<128))&&(scontS BN (xs.take (Int.toNat 1)))) (mand_f hc9) ?_
  exact fg hF
 refine Ok.cw hF (fun hc6 hF=>?_) (fun hc6 hF=>?_)
 ·refine Ok.sr (Ok.B 1 [(24,sv xs)] kr ?_)
  obtain ⟨h07,h17,h27,hF⟩:=hF
  refine Ok.o (OpOk.s (Yields.ss (s:=xs) (l:=0) (h:=1) kr underlying9 (.inr ⟨rfl,rfl⟩) (.inl ⟨_,_,rfl,rfl⟩) h07 h17 h27 (xs.take (Int.toNat 1)) (by simp)) rfl rfl (Ok.B 1 [(2,sv (xs.take (Int.toNat 1)))] kr (Ok.nt (Ok.ret (Ok.tr ?_)))))
  exact Ok.h1 (sv (xs.take (Int.toNat 1))) (n0.trans a0) ⟨xs.take (Int.toNat 1),rfl,rfl,hF⟩
 refine Ok.k (Ok.t (Ok.sr (Ok.B 1 [(2,sv Bz)] kr (Ok.nt (Ok.ret ?_)))))
 exact Ok.h1 (sv Bz) (n0.trans a0) ⟨Bz,rfl,rfl,hF⟩
def SGL:List Bs:=[[61,61],[33,61],[60,61],[62,61],[38,38],[124,124],[61],[33],[60],[62],[43],[45],[42],[47],[37],[40],[41],[91],[93],[123],[125],[44],[59],[58],[46],[63]]
theorem SG_l:fieldsS SG=SGL:=by decide +kernel
def SG2:List Bs:=[[61,61],[33,61],[60,61],[62,61],[38,38],[124,124]]
def rsaS (t:Bs):Bs:=if (decide (2≤t.length)&&SGL.contains (t.take 2))=true then t.take 2 else if SGL.contains (t.take 1)=true then t.take 1 else []
def rsaP (t:Bs):Prop:=1≤t.length
def SG1:Bs:=[61,33,60,62,43,45,42,47,37,40,41,91,93,123,125,44,59,58,46,63]
theorem sg1_ok (c:UInt8):(decide ((c.toNat:Int)<128)&&scontS SG1 [c])=SGL.contains [c]:=beq_iff_eq.1 (byte_all (p:=fun c=>(decide ((c.toNat:Int)<128)&&scontS SG1 [c])==SGL.contains [c]) dk c)
theorem sg2_ok (a b:UInt8):SGL.contains [a,b]=SG2.contains [a,b]:=by
 simp [SGL,SG2]
theorem hp2 (t:Bs) (x y:UInt8):hpM t [x,y]=(decide (2≤t.length)&&(t.take 2==[x,y])):=by
 show (decide ((t.length:Int)≥2)&&(t.take 2==[x,y]))=_
 congr 1
 rw [Bool.eq_iff_iff,decide_eq_true_eq,decide_eq_true_eq]; omega
theorem take2:∀ t:Bs,2≤t.length→∃ a b,t.take 2=[a,b]
 | [],h=>by simp at h
 | [_],h=>by simp at h
 | a::b::_,_=>⟨a,b,rfl⟩
theorem take1:∀ t:Bs,1≤t.length→t.take 1=[t.getD 0 0]
 | [],h=>by simp at h
 | a::_,_=>rfl
theorem rsa_F (t:Bs) (hp:rsaP t):rsaF t (fun r=>r=rsaS t):=by
 unfold rsaP at hp
 have hsub:∀ w ∈ SG2,w ∈ SGL:=by decide
 have hshape:∀ w ∈ SG2,∃ x y,w=[x,y]:=by
  intro w hw
  simp only [SG2,List.mem_cons,List.not_mem_nil,or_false] at hw
  rcases hw with rfl | rfl | rfl | rfl | rfl | rfl <;> exact ⟨_,_,rfl⟩
 have ok:∀ w ∈ SG2,hpM t w=true→w=rsaS t:=by
  intro w hw h
  obtain ⟨x,y,rfl⟩:=hshape w hw
  rw [hp2,Bool.and_eq_true,beq_iff_eq] at h
  unfold rsaS
  rw [h.1,h.2,if_t (show (true&&SGL.contains [x,y])=true by rw [Bool.true_and]; exact List.contains_iff_mem.2 (hsub _ hw))]
 have step:∀ (j:Nat) (w:Bs) (C:Int→Prop),j<6→SG2.getD j default=w→w ∈ SG2→(hpM t w=false→C ((j:Int)+1))→rsal7b t (fun r=>r=rsaS t) (j:Int) C:=by
  intro j w C hj hw hm hn
  refine ⟨fun _=>⟨by omega,by rw [tnc]; exact hj,?_,?_⟩,fun h=>absurd (show (j:Int)<6 by omega) (of_decide_eq_false h)⟩
  ·rw [tnc]
   change hpM t (SG2.getD j default)=true→SG2.getD j default=rsaS t
   rw [hw]; exact ok w hm
  rw [tnc]
  change hpM t (SG2.getD j default)=false→C (w6 ((j:Int)+1))
  rw [hw,w6e om]; exact hn
 refine ⟨7,step 0 [61,61] _ dc rfl dc fun f0=>step 1 [33,61] _ dc rfl dc fun f1=>step 2 [60,61] _ dc rfl dc fun f2=>step 3 [62,61] _ dc rfl dc fun f3=>step 4 [38,38] _ dc rfl dc fun f4=>step 5 [124,124] _ dc rfl dc fun f5=>?_⟩
 have hno:(decide (2≤t.length)&&SGL.contains (t.take 2))=false:=by
  cases h2:decide (2≤t.length)
  ·rfl
  rw [Bool.true_and]
  obtain ⟨a,b,hab⟩:=take2 t (of_decide_eq_true h2)
  rw [hab,sg2_ok]
  rw [hp2,h2,Bool.true_and,hab] at f0 f1 f2 f3 f4 f5
  have g:∀ x y:UInt8,([a,b]==[x,y])=false→([x,y]:Bs)≠[a,b]:=fun x y h e=>by rw [e] at h; simp at h
  rw [Bool.eq_false_iff]
  intro hc
  have hm:=List.contains_iff_mem.1 hc
  simp only [SG2,List.mem_cons,List.not_mem_nil,or_false] at hm
  rcases hm with h | h | h | h | h | h
  ·exact g _ _ f0 h.symm
  ·exact g _ _ f1 h.symm
  ·exact g _ _ f2 h.symm
  ·exact g _ _ f3 h.symm
  ·exact g _ _ f4 h.symm
  exact g _ _ f5 h.symm
 have key:rsaj27 t (fun r=>r=rsaS t):=by
  unfold rsaj27
  have e1:t.take (Int.toNat 1)=[t.getD 0 0]:=take1 t hp
  have e0:t.getD (Int.toNat 0) 0=t.getD 0 0:=rfl
  rw [e1,e0]
  change ((decide (((t.getD 0 0).toNat:Int)<128)&&scontS SG1 [t.getD 0 0])=true→_)∧((decide (((t.getD 0 0).toNat:Int)<128)&&scontS SG1 [t.getD 0 0])=false→_)
  rw [sg1_ok]
  have er:rsaS t=if SGL.contains [t.getD 0 0]=true then [t.getD 0 0] else []:=by
   unfold rsaS
   rw [if_f hno,show t.take 1=[t.getD 0 0] from e1]
  exact ⟨fun h=>⟨by omega,by omega,by omega,by rw [er,if_t h]⟩,fun h=>by rw [er,if_f h]⟩
 refine ⟨fun h=>absurd (of_decide_eq_true h) dc,fun _=>⟨by omega,by show 0<t.length; omega,fun _=>⟨by omega,by omega,by omega,by unfold scontP; decide,key⟩,fun _=>key⟩⟩
theorem rsa_c {g:Ghost} (xs:Bs) (hG1:SomeInt g 1)  (hp:rsaP xs):CallsG prog 22 #[sv xs] g (sv (rsaS xs)) :=
 (rsa_ok xs hG1 _ (rsa_F xs hp)).gv
end Go.Proofs.YtalnampdiegmoaaDoor.Jl
