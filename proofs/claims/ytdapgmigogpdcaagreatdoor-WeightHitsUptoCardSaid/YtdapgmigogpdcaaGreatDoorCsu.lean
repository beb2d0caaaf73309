/- strings.TrimLeft at a cutset of ASCII signs. -/
import Derived.Test.YtdapgmigogpdcaaGreatDoorBlw
import Derived.Test.YtdapgmigogpdcaaGreatDoorSha
import Derived.WalkKit
import Derived.WalkSpells
import Derived.WalkLawsBesides
import Derived.Test.YtdapgmigogpdcaaGreatDoorByt
set_option linter.unusedSimpArgs false
set_option linter.unusedVariables false
namespace Go.Proofs.YtdapgmigogpdcaaGreatDoor.BI
open _root_.Go.Proofs.Tryz Go Go.iT Go.RowKit
set_option maxHeartbeats 4000000
set_option maxRecDepth 100000
def mR (g:ak) (b:Nat) (f:UInt8→Bool):Prop:=∃ cs T fz,g b=some (.cells cs T fz)∧∀ x:UInt8,cs[x.toNat]? = some (.bool (f x))
theorem mR.mono {g g':ak} {b:Nat} {f:UInt8→Bool} (h:mR g b f) (hg:lG g g'):mR g' b f:=by
  obtain ⟨cs,T,fz,h1,h2⟩:=h;exact ⟨cs,T,fz,hg _ _ h1,h2⟩
def ZM (f:UInt8→Bool) (x:Int):Bool:=f (UInt8.ofNat x.toNat)
def inP (f:UInt8→Bool) (x:Int):Prop:=0≤x∧x≤255
theorem alf {g:ak} {b:Nat} (f:UInt8→Bool) (x:Int) (hO:mR g b f) (hp:inP f x):bC prog 177 #[pv b 0,.int .u8 x] g (.bool (ZM f x)):=fun W hW=>by
  obtain ⟨cs,T,fz,h1,h2⟩:=hO;have hb:=hW _ _ h1
  have hx:((UInt8.ofNat x.toNat).toNat:Int)=x:=by
    have:x.toNat<256:=by have:=hp.1; have:=hp.2; omega
    rw [UInt8.toNat_ofNat',Nat.mod_eq_of_lt (by simpa using this)];have:=hp.1;omega
  have:=Tryz.asciiSet_contains b (UInt8.ofNat x.toNat) (ZM f x) W (by rw [Lib.cell_of_heap hb]; exact h2 _);rw [hx] at this;exact this.mono fun e W' ⟨he,hw⟩=>⟨he,by subst hw; exact Below.refl _ _⟩
def RY (K:Bs→Prop) (v0:Bs):Prop :=
  K v0
def aaq (EJ:UInt8→Bool) (K:Bs→Prop) (z0:Bs) (C5:Bs→Prop):Prop :=
  ((decide ((z0.length:Int)>0))=true→(0:Int)≤0∧Int.toNat 0<z0.length∧inP EJ ((z0.getD (Int.toNat 0) 0).toNat:Int)∧((!(ZM EJ ((z0.getD (Int.toNat 0) 0).toNat:Int)))=true→RY K z0)∧((!(ZM EJ ((z0.getD (Int.toNat 0) 0).toNat:Int)))=false→(0:Int)≤1∧(1:Int)≤(z0.length:Int)∧(z0.length:Int)≤(z0.length:Int)∧C5 (z0.drop (Int.toNat 1))))∧((decide ((z0.length:Int)>0))=false→RY K z0)
def Ot (EJ:UInt8→Bool) (K:Bs→Prop):Nat→Bs→Prop
  | 0,_=>False
  | k+1,z0=>aaq EJ K z0 (Ot EJ K k)
def agO (xs:Bs) (EJ:UInt8→Bool) (K:Bs→Prop):Prop :=
  ∃ k,Ot EJ K k xs
theorem aar {g:ak} (xs:Bs) {Lj:Nat} (EJ:UInt8→Bool) (UX:mR g Lj EJ) (K:Bs→Prop)
    (hF:agO xs EJ K):az prog 132 #[sv xs,pv Lj 0] g [] (fun g' H' v=>∃ (r0:Bs),v=sv r0∧H'=[]∧K r0):=by
  refine aP 16 func132 rfl fun w0=>?_;refine ae (av 1 [(0,sv xs),(1,pv Lj 0)] kr (aa (Ok.cut (fun a W=>∃ (v0:Bs),fC 16 [(0,sv v0)] a∧dm w0 [] g W∧RY K v0) ?_ ?_)))
  ·
    refine Ok.block ?_;obtain ⟨k,hF⟩:=hF;refine fQ (fun k a W=>∃ (z0:Bs),fC 16 [(0,sv z0),(1,pv Lj 0)] a∧dm w0 [] g W∧Ot EJ K k z0) k ?_ ?_
    ·
      exact fun _ _ u v=>⟨xs,fA u v hF⟩
    clear hF;rintro (_ | k5) _ _ ⟨z0,q⟩;exact (q.2.2:False).elim;refine jn (fun hF=>?_) _ _ q;refine aF (ae (ag 3 [0,1] [(7,.bool (decide ((z0.length:Int)>0)))] ?_));refine aa (aJ hF (fun hc1 hF=>?_) (fun hc1 hF=>?_))
    · refine Ok.k (Ok.t (Ok.block (aF (ae (ag 2 [0,1] [(8,pv Lj 0),(9,sv z0)] ?_)))))
      obtain ⟨h02,h12,hF⟩:=hF;have he2:=aT (l:=z0) (0:UInt8) h12;generalize hg2:(z0.getD (Int.toNat 0) 0)=e2 at he2 hF ⊢;let A:=(e2.toNat:Int);refine ai (af.s (v:=.int .u8 A) (dQ (k:=.i64) (i:=0) (s:=z0) (b:=e2) kr kr underlying9 h02 he2) rfl rfl ?_);obtain ⟨hp3,hF⟩:=hF;refine aj 2 [.k (alf EJ A UX hp3)] [0,1] [(12,.bool (!(ZM EJ A)))] ?_;refine aa (Ok.c (b:=!(ZM EJ A)) rfl (fun hc4=>?_) (fun hc4=>?_))
      · replace hF:=hF.1 hc4
        refine fw (ay (yY rfl (ay (aM (Ok.t ?_)))));subst hg2;exact fun _ _ u v=>⟨z0,fA u v hF⟩
      replace hF:=hF.2 hc4;refine Ok.k (Ok.t (aR (ag 1 [1] [(13,sv z0)] ?_)));obtain ⟨Ep,IE,h25,hF⟩:=hF;refine ai (af.s (b_ (s:=z0) (l:=1) (h:=(z0.length:Int)) kr underlying9 (.inl ⟨_,_,rfl,rfl⟩) (.inr ⟨rfl,rfl⟩) Ep IE h25 (z0.drop (Int.toNat 1)) (by rw [show (z0.length:Int).toNat=z0.length from dR _,iX])) rfl rfl (ag 1 [1] [(0,sv (z0.drop (Int.toNat 1)))] ?_));refine bV (bG (Ok.t ?_));subst hg2;exact fun _ _ u v=>⟨k5,nl,z0.drop (Int.toNat 1),fA u v hF⟩
    refine fw (ay (ay (aM (Ok.t ?_))));exact fun _ _ u v=>⟨z0,fA u v hF⟩
  clear hF;rintro _ _ ⟨v0,q⟩;refine jn (fun hF=>?_) _ _ q;refine ae (av 2 [(4,sv v0)] kr (aa (Ok.ret ?_)));exact pO (sv v0) ⟨v0,rfl,rfl,hF⟩
def agN (s:Bs) (f:UInt8→Bool):Bs:=s.dropWhile f
theorem ab4 (f:UInt8→Bool) (x:UInt8):ZM f (x.toNat:Int)=f x:=by
  unfold ZM;rw [dR,UInt8.ofNat_toNat]
theorem Jw (f:UInt8→Bool) (K:Bs→Prop):∀ (s:Bs),K (s.dropWhile f)→Ot f K (s.length+1) s
  | [],hK=>⟨fun h=>by simp at h,fun _=>hK⟩
  | c::s,hK=>by
    refine ⟨fun _=>?_,fun h=>by simp at h⟩;have e0:(c::s).getD (Int.toNat 0) 0=c:=rfl;rw [e0,ab4];have hc:=UInt8.toNat_lt c;refine ⟨om,by simp,⟨om,om⟩,fun h=>?_,fun h=>?_⟩
    · rw [Eh (by simpa using h)] at hK
      exact hK
    rw [List.dropWhile_cons_of_pos (by simpa using h)] at hK;exact ⟨om,by simp only [di]; omega,om,Jw f K s hK⟩
theorem agM (s:Bs) (f:UInt8→Bool):agO s f (fun r=>r=agN s f):=⟨_,Jw f _ s rfl⟩
theorem agL {g:ak} (xs:Bs) {Lj:Nat} (EJ:UInt8→Bool) (UX:mR g Lj EJ)  : bC prog 132 #[sv xs,pv Lj 0] g (sv (agN xs EJ)) :=
  (aar xs EJ UX _ (agM xs EJ)).gv
theorem zz:∀ w,(zeroValue 153).run prog w=.ok (.agg (Array.replicate 256 (.bool false))) w:=fun w=>by rw [Tryz.zeroValue153]; exact aA (fun c=>Result.ok (Value.agg c) w) kr
theorem Ql {P:Program} (W:World) (o:Obj) (arr cs:Array Value) (T:TypeId) (hs:cs.size=arr.size) (hc:∀ v ∈ cs.toList,v.oneCell'=true) :
    (storeCells ⟨W.heap.size+1,0,none⟩ cs.toList).run P ((W.alloc o).alloc (.cells arr T))=.ok () (((W.alloc o).alloc (.cells arr T)).setRow (W.heap.size+1) cs) ∧
    (((W.alloc o).alloc (.cells arr T)).setRow (W.heap.size+1) cs).heap[W.heap.size+1]? = some (.cells cs T (0,0)) ∧
    Below W.heap.size W (((W.alloc o).alloc (.cells arr T)).setRow (W.heap.size+1) cs):=by
  have hsz:(W.alloc o).heap.size=W.heap.size+1:=by show (W.heap.push o).size=_; simp
  have hh:((W.alloc o).alloc (.cells arr T)).heap[W.heap.size+1]? = some (.cells arr T (0,0)):=by
    rw [← hsz]; exact heap_alloc_new _ _
  refine ⟨?_,setRow_heap _ _ arr _ T (0,0) hh,?_⟩
  · have h1:=run_storeCells_at (P:=P) (W.heap.size+1) 0 T cs.toList 0 arr _ hh (by simp; omega) hc
    rw [h1]
    have e:(List.take (0+0) arr.toList++cs.toList++List.drop (0+0+cs.toList.length) arr.toList).toArray=cs:=by
      rw [eD (by simp; omega)];simp
    rw [e]
  · refine (((Below.refl W.heap.size W).alloc (fP _) o).alloc (by rw [hsz]; omega) _).trans ⟨rfl,rfl,rfl,by simp [World.setRow],fun k hk=>setRow_other _ _ _ _ om⟩
theorem anm (s cut:Bs) (r:Bs) (W:World) (h2:2≤cut.length) (hs:cut.length<4294967281) (hascii:∀ (j:Nat) b,cut[j]? = some b→b.toNat<128) (hne:s≠[])
   (agK:∀ w b,W.heap.size≤b→w.heap[b]? = some (.cells (Lib.setCells cut) 153 (0,0))→Calls prog 132 #[sv s,pv b 0] w fun e w'=>e=.returned (sv r)∧Below w.heap.size w w') :
    Calls prog 87 #[sv s,sv cut] W fun e w'=>e=.returned (sv r)∧Below W.heap.size W w':=by
  have e197:∀ args w,(callFunc 130 args).run prog w=.ok (.enter 130 args) w:=enters_of func130 kr rfl;have avM:∀ args w,(callFunc 131 args).run prog w=.ok (.enter 131 args) w:=enters_of func131 kr rfl;have e199:∀ args w,(callFunc 132 args).run prog w=.ok (.enter 132 args) w:=enters_of func132 kr rfl;have avL:∀ args w,(callFunc 133 args).run prog w=.ok (.enter 133 args) w:=enters_of func133 kr rfl
  have c1:s.isEmpty=false:=by simpa using hne
  have c2:cut.isEmpty=false:=by cases cut <;> simp at h2 ⊢
  have c3:¬ ((cut.length:Int)=1):=om;have aur:=zz
  go_enter func87,ntmps87
  go_wp2_with (go_at_fn 131; refine (Tryz.strings_makeASCIISet zz ⟨⟨cut⟩⟩ _ hs hascii).mono ?_)
  rotate_left
  · exact absurd (Lib.setCells_size cut) asm
  obtain ⟨hst,hb2,hbl⟩:=Ql (P:=prog) W (.cells (Lib.setCells cut) 153) (Array.replicate 256 (.bool false)) (Lib.setCells cut) 153 (by rw [Lib.setCells_size,Array.size_replicate]) (fun v hv=>by
    have:=Lib.setCells_one cut;rw [Array.all_eq_true_iff_forall_mem] at this
    exact this v (Array.mem_toList_iff.1 hv))
  rw [hst];simp only [Result.andThen];rw [Oper.upon_skip];generalize (((W.alloc (.cells (Lib.setCells cut) 153)).alloc (.cells (Array.replicate 256 (.bool false)) 153)).setRow (W.heap.size+1) (Lib.setCells cut))=W2 at hb2 hbl ⊢
  go_wp2_with (go_at_fn 132; refine (agK _ _ (Nat.le_succ _) hb2).mono ?_)
  rintro e w3 ⟨rfl,hw3⟩
  go_wp2
  go_ret
  exact ⟨rfl,hbl.trans (hw3.mono hbl.size)⟩

theorem aas (cut:Bs) (W:World):Calls prog 87 #[sv [],sv cut] W fun e w'=>e=.returned (sv [])∧w'=W:=by
  go_enter func87,ntmps87
  go_wp2
  go_ret
  exact ⟨rfl,rfl⟩
def m_ (s cut:Bs):Bs:=s.dropWhile fun x=>cut.contains x
def tlP (s cut:Bs):Prop:=2≤cut.length∧cut.length<4294967281∧cut.all (fun x=>decide (x.toNat<128))=true
theorem aat {g:ak} (s cut:Bs) (hp:tlP s cut):bC prog 87 #[sv s,sv cut] g (sv (m_ s cut)):=fun W hW=>by
  obtain ⟨h2,h3,h4⟩:=hp
  by_cases hs:s=[]
  · subst hs
    exact (aas cut W).mono fun e w' ⟨he,hw⟩=>⟨he,by subst hw; exact Below.refl _ _⟩
  refine anm s cut (m_ s cut) W h2 h3 (fun j b hj=>?_) hs fun w b _ hb=>?_
  · have:=l7.1 h4 b (iq hj)
    simpa using this
  · exact agL (g:=eG w) s (fun x=>cut.contains x) ⟨_,_,_,hb,fun x=>Lib.setCells_at cut x⟩ w (pq w)
end Go.Proofs.YtdapgmigogpdcaaGreatDoor.BI
namespace Go.Proofs.YtdapgmigogpdcaaGreatDoor.tO
open _root_.Go.Proofs.Tryz Go Go.iT jN BI
set_option maxHeartbeats 4000000
set_option maxRecDepth 100000
def Co (xs:Bs) (aI:Bs) (K:Bool→Prop):Prop :=
 K ((decide ((xs.length:Int)≥(aI.length:Int)))&&((xs.take (Int.toNat (aI.length:Int)))==aI))
def OG (xs:Bs) (aI:Bs) (K:Bool→Prop):Prop :=
 ((decide ((xs.length:Int)≥(aI.length:Int)))=true→(0:Int)≤0∧0≤(aI.length:Int)∧(aI.length:Int)≤(xs.length:Int)∧Co xs aI K)∧((decide ((xs.length:Int)≥(aI.length:Int)))=false→Co xs aI K)
theorem WC {g:ak} (xs:Bs) (aI:Bs) (K:Bool→Prop)
  (hF:OG xs aI K):az prog 142 #[sv xs,sv aI] g [] (fun g' H' v=>∃ (r0:Bool),v=.bool r0∧H'=[]∧K r0):=by
 refine aP 18 func142 rfl fun w0=>?_;refine ae (av 1 [(0,sv xs),(1,sv aI)] kr (aa (gB [(4,.bool ((decide ((xs.length:Int)≥(aI.length:Int)))&&((xs.take (Int.toNat (aI.length:Int)))==aI)))] [] (Co xs aI K) ?_ (fun hF=>?_))))
 ·
  refine aR (ag 6 [0,1] [(10,.bool (decide ((xs.length:Int)≥(aI.length:Int))))] ?_);refine bP 10 hF (fun hc1 hF=>?_) (fun hc1 hF=>?_)
  ·refine ag 3 [1] [(10,.bool true),(11,sv xs),(13,iv (aI.length:Int))] ?_;obtain ⟨h02,h12,h22,hF⟩:=hF;refine dZ (af.s (b_ (s:=xs) (l:=0) (h:=(aI.length:Int)) kr underlying9 (.inr ⟨rfl,rfl⟩) (.inl ⟨_,_,rfl,rfl⟩) h02 h12 h22 (xs.take (Int.toNat (aI.length:Int))) (by simp)) rfl rfl (aj 4 [] [] [(4,.bool ((xs.take (Int.toNat (aI.length:Int)))==aI))] ?_));refine aa (aB 4 ((decide ((xs.length:Int)≥(aI.length:Int)))&&((xs.take (Int.toNat (aI.length:Int)))==aI)) (bn hc1) ?_);exact fz hF
  refine av 8 [(4,.bool false)] kr (aa (aB 4 ((decide ((xs.length:Int)≥(aI.length:Int)))&&((xs.take (Int.toNat (aI.length:Int)))==aI)) (bZ hc1) ?_));exact fz hF
 refine Ok.ret ?_;exact dE ((decide ((xs.length:Int)≥(aI.length:Int)))&&((xs.take (Int.toNat (aI.length:Int)))==aI)) hF
def rQ (xs:Bs) (aI:Bs):Bool:=((decide ((xs.length:Int)≥(aI.length:Int)))&&((xs.take (Int.toNat (aI.length:Int)))==aI))
theorem JG (xs:Bs) (aI:Bs) (P:Bool→Prop) (h:P (rQ xs aI)):Co xs aI (fun k0=>P k0):=by
 unfold rQ at h;unfold Co;exact h
def kH (xs:Bs) (aI:Bs):Bool:=(rQ xs aI)
theorem WE (xs:Bs) (aI:Bs) (P:Bool→Prop) (h:P (kH xs aI)):OG xs aI (fun k0=>P k0):=by
 unfold kH at h;unfold OG;refine ⟨fun hc0=>?_,fun hc0=>?_⟩
 ·skip;have hd0:=df hc0;refine ⟨?_,?_,?_,?_⟩
  ·first | omega | assumption | exact trivial | (have h0:=List.length_pos_iff.mpr asm; omega) | (simp; omega) | (simp at *; omega)
  ·first | omega | assumption | exact trivial | (have h0:=List.length_pos_iff.mpr asm; omega) | (simp; omega) | (simp at *; omega)
  ·first | omega | assumption | exact trivial | (have h0:=List.length_pos_iff.mpr asm; omega) | (simp; omega) | (simp at *; omega)
  exact JG xs aI _ h
 skip;have hd0:=fq hc0;exact JG xs aI _ h
theorem aaI (xs:Bs) (aI:Bs):OG xs aI (fun k0=>k0=kH xs aI) :=
 WE xs aI (fun z=>z=kH xs aI) rfl
theorem Sj {g:ak} (xs:Bs) (aI:Bs)  : bC prog 142 #[sv xs,sv aI] g (.bool (kH xs aI)) :=
 (WC xs aI _ (aaI xs aI)).gv
def hpF (xs:Bs) (aI:Bs) (K:Bool→Prop):Prop :=
 K (kH xs aI)
theorem ajG {g:ak} (xs:Bs) (aI:Bs) (K:Bool→Prop)
  (hF:hpF xs aI K):az prog 97 #[sv xs,sv aI] g [] (fun g' H' v=>∃ (r0:Bool),v=.bool r0∧H'=[]∧K r0):=by
 refine aP 8 func97 rfl fun w0=>?_;refine ae (av 1 [(0,sv xs),(1,sv aI)] kr (aa (ae (aj 4 [.k (Sj xs aI)] [] [(4,.bool (kH xs aI))] ?_))));refine aa (Ok.ret ?_);exact dE (kH xs aI) hF
def zC (xs:Bs) (aI:Bs):Bool:=(kH xs aI)
theorem ajH (xs:Bs) (aI:Bs) (P:Bool→Prop) (h:P (zC xs aI)):hpF xs aI (fun k0=>P k0):=by
 unfold zC at h;unfold hpF;exact h
theorem aog (xs:Bs) (aI:Bs):hpF xs aI (fun k0=>k0=zC xs aI) :=
 ajH xs aI (fun z=>z=zC xs aI) rfl
theorem acy {g:ak} (xs:Bs) (aI:Bs)  : bC prog 97 #[sv xs,sv aI] g (.bool (zC xs aI)) :=
 (ajG xs aI _ (aog xs aI)).gv
theorem nL {s p:Bs} (h:kH s p=true):p.length≤s.length:=by
 unfold kH rQ at h;simp at h;omega
def OH (xs:Bs) (aI:Bs) (K:Bs→Bool→Prop):Prop :=
 ((!(kH xs aI))=true→K xs false)∧((!(kH xs aI))=false→0≤(aI.length:Int)∧((aI.length:Int):Int)≤(xs.length:Int)∧(xs.length:Int)≤(xs.length:Int)∧K (xs.drop (Int.toNat (aI.length:Int))) true)
theorem WG {g:ak} (xs:Bs) (aI:Bs) (K:Bs→Bool→Prop)
  (hF:OH xs aI K):az prog 134 #[sv xs,sv aI] g [] (fun g' H' v=>∃ (r0:Bs),∃ (r1:Bool),v=.tuple #[sv r0,.bool r1]∧H'=[]∧K r0 r1):=by
 refine aP 15 func134 rfl fun w0=>?_;refine ae (av 2 [(0,sv xs),(1,sv aI)] kr (aa (aF (ae (aj 4 [.k (Sj xs aI)] [0,1] [(9,.bool (!(kH xs aI)))] ?_)))));refine aa (aJ hF (fun hc1 hF=>?_) (fun hc1 hF=>?_))
 ·refine ae (av 3 [(4,sv xs),(5,.bool false)] kr (aa (Ok.ret (aC ?_))));exact gZ (vs:=[sv xs,.bool false]) (.inl rfl) rfl (.cons (.tmp rfl) (.cons (.tmp rfl) .nil)) (bu w0 g) ⟨xs,false,rfl,rfl,hF⟩
 let B:=(aI.length:Int);refine Ok.k (Ok.t (ae (av 3 [(11,sv xs),(13,iv B)] kr ?_)));obtain ⟨h02,h12,h22,hF⟩:=hF;let A:=xs.drop (Int.toNat B);refine ai (af.s (b_ (s:=xs) (l:=B) (h:=(xs.length:Int)) kr underlying9 (.inl ⟨_,_,rfl,rfl⟩) (.inr ⟨rfl,rfl⟩) h02 h12 h22 A (RZ _ _)) rfl rfl (av 2 [(4,sv A),(5,.bool true)] kr (aa (Ok.ret ?_))));exact gZ (vs:=[sv A,.bool true]) (.inl rfl) rfl (.cons (.tmp rfl) (.cons (.tmp rfl) .nil)) (bu w0 g) ⟨A,true,rfl,rfl,hF⟩
def ky (xs:Bs) (aI:Bs):Bs×Bool:=(if (!(kH xs aI))=true then (xs,false) else (xs.drop (Int.toNat (aI.length:Int)),true))
theorem WH (xs:Bs) (aI:Bs) (P:Bs×Bool→Prop) (h:P (ky xs aI)):OH xs aI (fun k0 k1=>P (k0,k1)):=by
 unfold ky at h;unfold OH;refine ⟨fun hc0=>?_,fun hc0=>?_⟩
 ·rw [aU hc0] at h;exact h
 rw [aG hc0] at h;refine ⟨?_,?_,?_,?_⟩
 ·first | (have h7:=nL (by simpa using hc0); omega) | omega | assumption | exact trivial | (have h0:=List.length_pos_iff.mpr asm; omega) | (simp; omega) | (simp at *; omega)
 ·first | (have h7:=nL (by simpa using hc0); omega) | omega | assumption | exact trivial | (have h0:=List.length_pos_iff.mpr asm; omega) | (simp; omega) | (simp at *; omega)
 ·first | (have h7:=nL (by simpa using hc0); omega) | omega | assumption | exact trivial | (have h0:=List.length_pos_iff.mpr asm; omega) | (simp; omega) | (simp at *; omega)
 exact h
theorem aaK (xs:Bs) (aI:Bs):OH xs aI (fun k0 k1=>(k0,k1)=ky xs aI) :=
 WH xs aI (fun z=>z=ky xs aI) rfl
theorem aaJ {g:ak} (xs:Bs) (aI:Bs)  : bC prog 134 #[sv xs,sv aI] g (.tuple #[sv ((ky xs aI).1),.bool (ky xs aI).2]) :=
 (WG xs aI _ (aaK xs aI)).gives (by rintro g' H' v _ ⟨r0,r1,rfl,rfl,hK⟩; obtain ⟨rfl,rfl⟩:r0=(ky xs aI).1∧r1=(ky xs aI).2:=⟨aA (fun z=>z.1) hK,aA (fun z=>z.2) hK⟩; rfl)
def cpF (xs:Bs) (aI:Bs) (K:Bs→Bool→Prop):Prop :=
 K (ky xs aI).1 (ky xs aI).2
theorem ald {g:ak} (xs:Bs) (aI:Bs) (K:Bs→Bool→Prop)
  (hF:cpF xs aI K):az prog 88 #[sv xs,sv aI] g [] (fun g' H' v=>∃ (r0:Bs),∃ (r1:Bool),v=.tuple #[sv r0,.bool r1]∧H'=[]∧K r0 r1):=by
 refine aP 11 func88 rfl fun w0=>?_;refine ae (av 2 [(0,sv xs),(1,sv aI)] kr (aa (ae (aj 7 [.k (aaJ xs aI)] [] [(4,sv ((ky xs aI).1)),(5,.bool (ky xs aI).2)] ?_))));refine aa (Ok.ret ?_);exact gZ (vs:=[sv ((ky xs aI).1),.bool (ky xs aI).2]) (.inl rfl) rfl (.cons (.tmp rfl) (.cons (.tmp rfl) .nil)) (bu w0 g) ⟨(ky xs aI).1,(ky xs aI).2,rfl,rfl,hF⟩
def pV (xs:Bs) (aI:Bs):Bs×Bool:=((ky xs aI).1,(ky xs aI).2)
theorem ale (xs:Bs) (aI:Bs) (P:Bs×Bool→Prop) (h:P (pV xs aI)):cpF xs aI (fun k0 k1=>P (k0,k1)):=by
 unfold pV at h;unfold cpF;exact h
theorem arS (xs:Bs) (aI:Bs):cpF xs aI (fun k0 k1=>(k0,k1)=pV xs aI) :=
 ale xs aI (fun z=>z=pV xs aI) rfl
theorem arR {g:ak} (xs:Bs) (aI:Bs)  : bC prog 88 #[sv xs,sv aI] g (.tuple #[sv ((pV xs aI).1),.bool (pV xs aI).2]) :=
 (ald xs aI _ (arS xs aI)).gives (by rintro g' H' v _ ⟨r0,r1,rfl,rfl,hK⟩; obtain ⟨rfl,rfl⟩:r0=(pV xs aI).1∧r1=(pV xs aI).2:=⟨aA (fun z=>z.1) hK,aA (fun z=>z.2) hK⟩; rfl)
def Bz (xs:Bs) (K:Int→Prop):Prop :=
 tlP xs ([48,49,50,51,52,53,54,55,56,57]:Bs)∧K (w6 ((xs.length:Int) - ((m_ xs ([48,49,50,51,52,53,54,55,56,57]:Bs)).length:Int)))
theorem Q9 {g:ak} (xs:Bs) (K:Int→Prop)
  (hF:Bz xs K):az prog 139 #[sv xs] g [] (fun g' H' v=>∃ (r0:Int),v=iv r0∧H'=[]∧K r0):=by
 refine aP 9 func139 rfl fun w0=>?_;refine ae (av 1 [(0,sv xs)] kr (aa (aF (aR ?_))));obtain ⟨hp1,hF⟩:=hF;let B:=([48,49,50,51,52,53,54,55,56,57]:Bs);let A:=w6 ((xs.length:Int) - ((m_ xs B).length:Int));refine aj 7 [.k (aat xs B hp1)] [] [(2,iv A)] ?_;refine aa (Ok.ret ?_);exact pO (iv A) ⟨_,rfl,rfl,hF⟩
def bU (xs:Bs):Int:=(w6 ((xs.length:Int) - ((m_ xs ([48,49,50,51,52,53,54,55,56,57]:Bs)).length:Int)))
theorem Q_ (xs:Bs) (P:Int→Prop) (h:P (bU xs)):Bz xs (fun k0=>P k0):=by
 unfold bU at h;unfold Bz;refine ⟨?_,?_⟩
 ·first | exact ⟨by decide,by decide,by decide⟩ | omega | assumption | exact trivial | (have h0:=List.length_pos_iff.mpr asm; omega) | (simp; omega) | (simp at *; omega)
 exact h
theorem Vm (xs:Bs):Bz xs (fun k0=>k0=bU xs) :=
 Q_ xs (fun z=>z=bU xs) rfl
theorem Ld {g:ak} (xs:Bs)  : bC prog 139 #[sv xs] g (iv (bU xs)) :=
 (Q9 xs _ (Vm xs)).gv
def oW (xs:Bs):Bool :=
 ((!(xs==([]:Bs)))&&((((xs.getD (Int.toNat 0) 0).toNat:Int)==43)||(((xs.getD (Int.toNat 0) 0).toNat:Int)==45)))
def aY (xs:Bs):Int :=
 (if (oW xs)=true then 1 else 0)
def numbV2 (xs:Bs):Int :=
 (if (zC (xs.drop (Int.toNat (w6 ((aY xs)+(bU (xs.drop (Int.toNat (aY xs)))))))) ([46]:Bs))=true then (bU ((xs.drop (Int.toNat (w6 ((aY xs)+(bU (xs.drop (Int.toNat (aY xs)))))))).drop (Int.toNat 1))) else 0)
def lg (xs:Bs):Int :=
 (if (decide ((numbV2 xs)>0))=true then w6 ((w6 ((aY xs)+(bU (xs.drop (Int.toNat (aY xs))))))+(w6 (1+(numbV2 xs)))) else w6 ((aY xs)+(bU (xs.drop (Int.toNat (aY xs))))))
def kZ (xs:Bs):Bs :=
 (if (decide ((numbV2 xs)>0))=true then (xs.take (Int.toNat (w6 ((w6 ((w6 ((aY xs)+(bU (xs.drop (Int.toNat (aY xs))))))+1))+(numbV2 xs))))).drop (Int.toNat (w6 ((w6 ((aY xs)+(bU (xs.drop (Int.toNat (aY xs))))))+1))) else ([]:Bs))
def lX (xs:Bs) (v0:Int) (z0:Int):Int :=
 (if (decide (v0<((kZ xs).length:Int)))=true then (if 1000000000<(w6 ((w6 (10 * z0))+(w6 (IntKind.wrap .u8 ((((kZ xs).getD v0.toNat 0).toNat:Int) - 48))))) then 1000000000 else (w6 ((w6 (10 * z0))+(w6 (IntKind.wrap .u8 ((((kZ xs).getD v0.toNat 0).toNat:Int) - 48)))))) else (if 1000000000<(w6 ((w6 (10 * z0))+(w6 (IntKind.wrap .u8 (48 - 48))))) then 1000000000 else (w6 ((w6 (10 * z0))+(w6 (IntKind.wrap .u8 (48 - 48)))))))
def qA (xs:Bs) (z0:Int):Int :=
 (if (((xs.getD (Int.toNat 0) 0).toNat:Int)==45)=true then w6 (0 - z0) else z0)
def yl (xs:Bs) (v0:Int) (z0:Int) (C68:Int→Int→Prop):Prop :=
 C68 (w6 (v0+1)) (lX xs v0 z0)
def GV (xs:Bs) (K:Int→Int→Prop) (z0:Int):Prop :=
 K (qA xs z0) (lg xs)
def Td (xs:Bs) (K:Int→Int→Prop) (v0:Int) (z0:Int) (C68:Int→Int→Prop):Prop :=
 (decide (v0<3)=true→((decide (v0<((kZ xs).length:Int)))=true→0≤v0∧v0.toNat<(kZ xs).length∧yl xs v0 z0 C68)∧((decide (v0<((kZ xs).length:Int)))=false→yl xs v0 z0 C68))∧(decide (v0<3)=false→(0:Int)≤0∧Int.toNat 0<xs.length∧((((xs.getD (Int.toNat 0) 0).toNat:Int)==45)=true→GV xs K z0)∧((((xs.getD (Int.toNat 0) 0).toNat:Int)==45)=false→GV xs K z0))
def p9 (xs:Bs) (K:Int→Int→Prop):Nat→Int→Int→Prop
 | 0,_,_=>False
 | k+1,v0,z0=>Td xs K v0 z0 (p9 xs K k)
def ym (xs:Bs) (K:Int→Int→Prop) (q0:Int):Prop :=
 ∃ k,p9 xs K k 0 q0
def Te (xs:Bs) (K:Int→Int→Prop) (y0:Int) (q0:Int) (C39:Int→Int→Prop):Prop :=
 ((decide (y0<((intsOf ((xs.take (Int.toNat (w6 ((aY xs)+(bU (xs.drop (Int.toNat (aY xs)))))))).drop (Int.toNat (aY xs)))).length:Int)))=true→0≤y0∧y0.toNat<(intsOf ((xs.take (Int.toNat (w6 ((aY xs)+(bU (xs.drop (Int.toNat (aY xs)))))))).drop (Int.toNat (aY xs)))).length∧C39 (w6 (y0+1)) (if 1000000000<(w6 ((w6 (10 * q0))+(w6 (IntKind.wrap .u8 (((intsOf ((xs.take (Int.toNat (w6 ((aY xs)+(bU (xs.drop (Int.toNat (aY xs)))))))).drop (Int.toNat (aY xs)))).getD y0.toNat default) - 48))))) then 1000000000 else (w6 ((w6 (10 * q0))+(w6 (IntKind.wrap .u8 (((intsOf ((xs.take (Int.toNat (w6 ((aY xs)+(bU (xs.drop (Int.toNat (aY xs)))))))).drop (Int.toNat (aY xs)))).getD y0.toNat default) - 48)))))))∧((decide (y0<((intsOf ((xs.take (Int.toNat (w6 ((aY xs)+(bU (xs.drop (Int.toNat (aY xs)))))))).drop (Int.toNat (aY xs)))).length:Int)))=false→((decide ((numbV2 xs)>0))=true→0≤(w6 ((w6 ((aY xs)+(bU (xs.drop (Int.toNat (aY xs))))))+1))∧((w6 ((w6 ((aY xs)+(bU (xs.drop (Int.toNat (aY xs))))))+1)):Int)≤(w6 ((w6 ((w6 ((aY xs)+(bU (xs.drop (Int.toNat (aY xs))))))+1))+(numbV2 xs)))∧(w6 ((w6 ((w6 ((aY xs)+(bU (xs.drop (Int.toNat (aY xs))))))+1))+(numbV2 xs)))≤(xs.length:Int)∧ym xs K q0)∧((decide ((numbV2 xs)>0))=false→ym xs K q0))
def Bb (xs:Bs) (K:Int→Int→Prop):Nat→Int→Int→Prop
 | 0,_,_=>False
 | k+1,y0,q0=>Te xs K y0 q0 (Bb xs K k)
def Bc (xs:Bs) (K:Int→Int→Prop):Prop :=
 (((w6 ((bU (xs.drop (Int.toNat (aY xs))))+(numbV2 xs)))==0)=true→K 0 0)∧(((w6 ((bU (xs.drop (Int.toNat (aY xs))))+(numbV2 xs)))==0)=false→0≤aY xs∧((aY xs):Int)≤(w6 ((aY xs)+(bU (xs.drop (Int.toNat (aY xs))))))∧(w6 ((aY xs)+(bU (xs.drop (Int.toNat (aY xs))))))≤(xs.length:Int)∧((xs.take (Int.toNat (w6 ((aY xs)+(bU (xs.drop (Int.toNat (aY xs)))))))).drop (Int.toNat (aY xs))).length≤maxLen∧∃ k,Bb xs K k 0 0)
def GX (xs:Bs) (K:Int→Int→Prop):Prop :=
 0≤aY xs∧((aY xs):Int)≤(xs.length:Int)∧(xs.length:Int)≤(xs.length:Int)∧0≤(w6 ((aY xs)+(bU (xs.drop (Int.toNat (aY xs))))))∧((w6 ((aY xs)+(bU (xs.drop (Int.toNat (aY xs)))))):Int)≤(xs.length:Int)∧(xs.length:Int)≤(xs.length:Int)∧((zC (xs.drop (Int.toNat (w6 ((aY xs)+(bU (xs.drop (Int.toNat (aY xs)))))))) ([46]:Bs))=true→(0:Int)≤1∧(1:Int)≤((xs.drop (Int.toNat (w6 ((aY xs)+(bU (xs.drop (Int.toNat (aY xs)))))))).length:Int)∧((xs.drop (Int.toNat (w6 ((aY xs)+(bU (xs.drop (Int.toNat (aY xs)))))))).length:Int)≤((xs.drop (Int.toNat (w6 ((aY xs)+(bU (xs.drop (Int.toNat (aY xs)))))))).length:Int)∧Bc xs K)∧((zC (xs.drop (Int.toNat (w6 ((aY xs)+(bU (xs.drop (Int.toNat (aY xs)))))))) ([46]:Bs))=false→Bc xs K)
def CU (xs:Bs) (K:Int→Int→Prop):Prop :=
 (oW xs=true→GX xs K)∧(oW xs=false→GX xs K)
def ZA (xs:Bs) (K:Int→Int→Prop):Prop :=
 ((!(xs==([]:Bs)))=true→(0:Int)≤0∧Int.toNat 0<xs.length∧((((xs.getD (Int.toNat 0) 0).toNat:Int)==43)=true→CU xs K)∧((((xs.getD (Int.toNat 0) 0).toNat:Int)==43)=false→CU xs K))∧((!(xs==([]:Bs)))=false→CU xs K)
abbrev nd (xs:Bs):Bs:=xs.drop (Int.toNat (aY xs))
abbrev nw (xs:Bs):Int:=w6 ((aY xs)+(bU (nd xs)))
theorem Xk {g:ak} (xs:Bs) (K:Int→Int→Prop)
  (hF:ZA xs K):az prog 95 #[sv xs] g [] (fun g' H' v=>∃ (r0:Int),∃ (r1:Int),v=.tuple #[iv r0,iv r1]∧H'=[]∧K r0 r1):=by
 refine aP 101 func95 rfl fun w0=>?_;refine ae (av 2 [(0,sv xs)] kr (aa (ae (ag 1 [0] [(4,iv 0)] ?_))));refine aa (iK g [(0,sv xs),(4,iv (aY xs))] [] (GX xs K) ?_ (fun Ya i0 hF=>?_))
 ·
  refine iK g [(0,sv xs),(4,iv 0),(26,.bool (oW xs))] [] (CU xs K) ?_ (fun gj6 Z0 hF=>?_)
  ·
   refine aR (aj 3 [] [0,4] [(17,.bool (!(xs==([]:Bs))))] ?_);refine bP 17 hF (fun d0 hF=>?_) (fun d0 hF=>?_)
   ·refine ag 1 [0,4] [(17,.bool true),(18,sv xs)] ?_;obtain ⟨V0,ad9,hF⟩:=hF;have g0:=aT (l:=xs) (0:UInt8) ad9;generalize Q0:(xs.getD (Int.toNat 0) 0)=e21 at g0 hF ⊢;let D:=(e21.toNat:Int);refine dZ (af.s (v:=.int .u8 D) (dQ (k:=.i64) (i:=0) (s:=xs) (b:=e21) kr kr underlying9 V0 g0) rfl rfl (ag 2 [0,4,17] [(21,.bool (D==43))] ?_));refine Ok.a 21 (D==43) rfl (fun x0=>?_) (fun x0=>?_)
    ·replace hF:=hF.1 x0;refine ag 5 [0,4] [(26,.bool true)] ?_;refine bV (Ok.t ?_);subst Q0;refine aB 26 (oW xs) (au (cK x0) (bn d0)) ?_;exact fg hF
    replace hF:=hF.2 x0;refine ag 1 [0,4,17] [(21,.bool false),(22,sv xs)] ?_;refine dZ (af.s (v:=.int .u8 D) (dQ (k:=.i64) (i:=0) (s:=xs) (b:=e21) kr kr underlying9 V0 g0) rfl rfl (ag 3 [0,4] [(26,.bool (D==45))] ?_));refine bV (Ok.t ?_);subst Q0;refine aB 26 (oW xs) (au (bN x0) (bn d0)) ?_;exact fg hF
   refine ag 9 [0,4] [(26,.bool false)] ?_;refine aa (aB 26 (oW xs) (bZ d0) ?_);exact fg hF
  refine aJ hF (fun m0 hF=>?_) (fun m0 hF=>?_)
  ·refine aR (ag 1 [0] [(4,iv 1)] ?_);refine aa (gX 4 rfl (show (iv 1:Value)=iv (aY xs) from aA (Value.int .i64) ((aU m0).symm)) ?_);exact fun _ _ u v=>⟨gj6,Z0,fA u v hF⟩
  refine Ok.k (Ok.t (gX 4 rfl (show (iv 0:Value)=iv (aY xs) from aA (Value.int .i64) ((aG m0).symm)) ?_));exact fun _ _ u v=>⟨gj6,Z0,fA u v hF⟩
 refine ae (ag 2 [0,4] [(27,sv xs),(28,iv (aY xs))] ?_);obtain ⟨h01,h11,h21,hF⟩:=hF;refine ai (af.s (b_ (s:=xs) (l:=aY xs) (h:=(xs.length:Int)) kr underlying9 (.inl ⟨_,_,rfl,rfl⟩) (.inr ⟨rfl,rfl⟩) h01 h11 h21 (nd xs) (RZ _ _)) rfl rfl (aj 2 [.k (Ld (nd xs))] [0,4] [(5,iv (bU (nd xs)))] ?_));refine aa (ae (ag 1 [0,4,5] [(6,iv 0)] ?_));refine aa (iK Ya [(0,sv xs),(4,iv (aY xs)),(5,iv (bU (nd xs))),(6,iv (numbV2 xs))] [] (Bc xs K) ?_ (fun avC e0 hF=>?_))
 ·
  refine ae (ag 4 [0,4,5,6] [(31,sv xs),(34,iv (nw xs))] ?_);obtain ⟨Ns,h116,aqV,hF⟩:=hF;refine ai (af.s (b_ (s:=xs) (l:=nw xs) (h:=(xs.length:Int)) kr underlying9 (.inl ⟨_,_,rfl,rfl⟩) (.inr ⟨rfl,rfl⟩) Ns h116 aqV (xs.drop (Int.toNat (nw xs))) (RZ _ _)) rfl rfl (ag 1 [0,4,5,6] [(7,sv (xs.drop (Int.toNat (nw xs))))] ?_));refine aa (ae (ag 1 [0,4,5,6,7] [(36,sv (xs.drop (Int.toNat (nw xs))))] ?_));refine ai (af.f gU (fun W hW=>acy (xs.drop (Int.toNat (nw xs))) ([46]:Bs)) rfl ?_);refine aa (aJ hF (fun n0 hF=>?_) (fun n0 hF=>?_))
  ·refine aR (ag 1 [0,4,5] [(38,sv (xs.drop (Int.toNat (nw xs))))] ?_);obtain ⟨Nr,Nk,adX,hF⟩:=hF;refine ai (af.s (b_ (s:=(xs.drop (Int.toNat (nw xs)))) (l:=1) (h:=((xs.drop (Int.toNat (nw xs))).length:Int)) kr underlying9 (.inl ⟨_,_,rfl,rfl⟩) (.inr ⟨rfl,rfl⟩) Nr Nk adX ((xs.drop (Int.toNat (nw xs))).drop (Int.toNat 1)) (by rw [show ((xs.drop (Int.toNat (nw xs))).length:Int).toNat=(xs.drop (Int.toNat (nw xs))).length from dR _,iX])) rfl rfl (aj 2 [.k (Ld ((xs.drop (Int.toNat (nw xs))).drop (Int.toNat 1)))] [0,4,5] [(6,iv (bU ((xs.drop (Int.toNat (nw xs))).drop (Int.toNat 1))))] ?_));refine aa (gX 6 rfl (show (iv (bU ((xs.drop (Int.toNat (nw xs))).drop (Int.toNat 1))):Value)=iv (numbV2 xs) from aA (Value.int .i64) ((aU n0).symm)) ?_);exact fg hF
  refine Ok.k (Ok.t (gX 6 rfl (show (iv 0:Value)=iv (numbV2 xs) from aA (Value.int .i64) ((aG n0).symm)) ?_));exact fg hF
 refine aF (ae (ag 4 [0,4,5,6] [(44,.bool ((w6 ((bU (nd xs))+(numbV2 xs)))==0))] ?_));refine aa (aJ hF (fun hc2 hF=>?_) (fun hc2 hF=>?_))
 ·refine ae (av 2 [(2,iv 0),(3,iv 0)] kr (aa (Ok.ret (aC ?_))));exact gZ (vs:=[iv 0,iv 0]) (.inl rfl) rfl (.cons (.tmp rfl) (.cons (.tmp rfl) .nil)) (i0.trans e0) ⟨0,0,rfl,rfl,hF⟩
 refine Ok.k (Ok.t (ae (ai (af.a (z:=iv 0) (cs:=#[iv 0]) kr kr rfl fun pW=>?_))));refine ai (dA 0 ?_);refine aa (ae (ag 2 [0,4,5,6] [(8,pv pW 0),(9,.func (.func 140) #[] #[pv pW 0])] ?_));refine aa (aF (ae (ag 5 [0,4,5,6,8,9] [(46,sv xs),(47,iv (aY xs)),(50,iv (nw xs))] ?_)));obtain ⟨oo,pg,UZ,hF⟩:=hF;refine ai (af.s (b_ (s:=xs) (l:=aY xs) (h:=nw xs) kr underlying9 (.inl ⟨_,_,rfl,rfl⟩) (.inl ⟨_,_,rfl,rfl⟩) oo pg UZ ((xs.take (Int.toNat (nw xs))).drop (Int.toNat (aY xs))) rfl) rfl rfl ?_);obtain ⟨hm5,hF⟩:=hF;refine ai (oH (s:=(xs.take (Int.toNat (nw xs))).drop (Int.toNat (aY xs))) kr underlying9 underlying26 underlying5 hm5 rfl fun g5 a5 c5 hx5 Bp=>?_);refine ag 2 [0,4,5,6,8,9] [(52,.slice a5 (intsOf ((xs.take (Int.toNat (nw xs))).drop (Int.toNat (aY xs)))).length c5),(53,iv ((intsOf ((xs.take (Int.toNat (nw xs))).drop (Int.toNat (aY xs)))).length:Int)),(54,iv 0)] ?_;refine aa (Ok.block ?_);obtain ⟨k,hF⟩:=hF;refine fQ (fun k a W=>∃ j0:ak,bf w0 g5 j0∧∃ (y0:Int) (q0:Int),fC 101 [(0,sv xs),(4,iv (aY xs)),(5,iv (bU (nd xs))),(6,iv (numbV2 xs)),(8,pv pW 0),(9,.func (.func 140) #[] #[pv pW 0]),(52,.slice a5 (intsOf ((xs.take (Int.toNat (nw xs))).drop (Int.toNat (aY xs)))).length c5),(53,iv ((intsOf ((xs.take (Int.toNat (nw xs))).drop (Int.toNat (aY xs)))).length:Int)),(54,iv y0)] a∧dm w0 [.blk pW (.cells #[iv q0] 3)] j0 W∧Bb xs K k y0 q0) k ?_ ?_
 ·
  exact fun _ _ u v=>⟨g5,bu w0 g5,0,0,fA u v hF⟩
 clear hF;rintro (_ | k39) _ _ ⟨j0,s0,y0,q0,q⟩;exact (q.2.2:False).elim;refine jn (fun hF=>?_) _ _ q;replace Bp:=Bp.mono s0.1;refine ae (ag 1 [0,4,5,6,8,9,52,53,54] [(55,.bool (decide (y0<((intsOf ((xs.take (Int.toNat (nw xs))).drop (Int.toNat (aY xs)))).length:Int))))] ?_);refine aa (aF (aJ hF (fun hc6 hF=>?_) (fun hc6 hF=>?_)))
 ·refine Ok.k (Ok.t (aF (Ok.block (aF (aR ?_)))));obtain ⟨IK,h18,hF⟩:=hF;have EA:=aT (l:=(intsOf ((xs.take (Int.toNat (nw xs))).drop (Int.toNat (aY xs))))) default h18;generalize Ru:((intsOf ((xs.take (Int.toNat (w6 ((aY xs)+(bU (xs.drop (Int.toNat (aY xs)))))))).drop (Int.toNat (aY xs)))).getD y0.toNat default)=e8 at EA hF ⊢;refine ai (af.aX (e:=.int .u8) rfl rfl underlying26 kr Bp IK EA rfl fun q7 o7 cs7 _ o0 MX=>?_);obtain rfl:=MX;replace o0:At j0 q7 o7 [.int .u8 e8]:=o0;refine aj 2 [.a 0 o0] [0,4,5,6,8,9,52,53,54] [(11,.int .u8 e8)] ?_;refine aa (aR (ag 2 [0,4,5,6,8,9,52,53,54] [(58,.func (.func 140) #[] #[pv pW 0]),(59,.int .u8 e8)] ?_));let C:=w6 ((w6 (10 * q0))+(w6 (IntKind.wrap .u8 (e8 - 48))));refine ai (bO (args:=#[.int .u8 e8,pv pW 0]) 10 [(0,.int .u8 e8),(1,pv pW 0)] gU func140 rfl rfl rfl rfl (aR (aj 7 [.e 0] [] [(1,pv pW 0),(9,iv (if 1000000000<C then 1000000000 else C))] ?_)));refine ai (dA 0 ?_);let A:=intsOf ((xs.take (Int.toNat (nw xs))).drop (Int.toNat (aY xs)));refine bV (bA (vs:=[]) (.inr rfl) rfl .nil rfl (bV (bG (Ok.t (aR (av 2 [(0,sv xs),(4,iv (aY xs)),(5,iv (bU (nd xs))),(6,iv (numbV2 xs)),(8,pv pW 0),(9,.func (.func 140) #[] #[pv pW 0]),(52,.slice a5 A.length c5),(53,iv (A.length:Int)),(54,iv (w6 (y0+1)))] kr (bV (Ok.t ?_))))))));subst Ru;let B:=w6 ((w6 (10 * q0))+(w6 (IntKind.wrap .u8 ((A.getD y0.toNat default) - 48))));exact fun _ _ u v=>⟨k39,nl,j0,s0,w6 (y0+1),(if 1000000000<B then 1000000000 else B),fA u v hF⟩
 refine fw (ay (ay (aM (Ok.t (ae (ag 4 [0,6,8,9] [(12,iv (nw xs))] ?_))))));refine aa (ae (ag 1 [0,6,8,9,12] [(13,sv ([]:Bs))] ?_));refine aa (iK j0 [(0,sv xs),(8,pv pW 0),(9,.func (.func 140) #[] #[pv pW 0]),(12,iv (lg xs)),(13,sv (kZ xs))] [.blk pW (.cells #[iv q0] 3)] (ym xs K q0) ?_ (fun t0 ajp hF=>?_))
 ·
  refine ae (ag 2 [0,6,8,9,12,13] [(66,.bool (decide ((numbV2 xs)>0)))] ?_);refine aa (aJ hF (fun b0 hF=>?_) (fun b0 hF=>?_))
  ·refine ae (ag 7 [0,6,8,9,12] [(67,sv xs),(69,iv (w6 ((nw xs)+1))),(73,iv (w6 ((w6 ((nw xs)+1))+(numbV2 xs))))] ?_);obtain ⟨IL,Nl,Ni,hF⟩:=hF;refine ai (af.s (b_ (s:=xs) (l:=(w6 ((nw xs)+1))) (h:=(w6 ((w6 ((nw xs)+1))+(numbV2 xs)))) kr underlying9 (.inl ⟨_,_,rfl,rfl⟩) (.inl ⟨_,_,rfl,rfl⟩) IL Nl Ni ((xs.take (Int.toNat (w6 ((w6 ((nw xs)+1))+(numbV2 xs))))).drop (Int.toNat (w6 ((nw xs)+1)))) rfl) rfl rfl (ag 1 [0,6,8,9,12] [(13,sv ((xs.take (Int.toNat (w6 ((w6 ((nw xs)+1))+(numbV2 xs))))).drop (Int.toNat (w6 ((nw xs)+1)))))] ?_));refine aa (aR (ag 5 [0,8,9,13] [(12,iv (w6 ((nw xs)+(w6 (1+(numbV2 xs))))))] ?_));refine aa (gX 12 rfl (show (iv (w6 ((nw xs)+(w6 (1+(numbV2 xs))))):Value)=iv (lg xs) from aA (Value.int .i64) ((aU b0).symm)) (gX 13 rfl (show (sv ((xs.take (Int.toNat (w6 ((w6 ((nw xs)+1))+(numbV2 xs))))).drop (Int.toNat (w6 ((nw xs)+1)))):Value)=sv (kZ xs) from aA (fun s:Bs=>Value.string ⟨⟨s⟩⟩) ((aU b0).symm)) ?_));exact fg hF
  refine Ok.k (Ok.t (gX 12 rfl (show (iv (nw xs):Value)=iv (lg xs) from aA (Value.int .i64) ((aG b0).symm)) (gX 13 rfl (show (sv ([]:Bs):Value)=sv (kZ xs) from aA (fun s:Bs=>Value.string ⟨⟨s⟩⟩) ((aG b0).symm)) ?_)));exact fg hF
 refine aF (ae (ag 1 [0,8,9,12,13] [(79,iv 0)] ?_));refine aa (Ok.block ?_);obtain ⟨k,hF⟩:=hF;refine fQ (fun k a W=>∃ u0:ak,bf w0 t0 u0∧∃ (v0:Int) (z0:Int),fC 101 [(0,sv xs),(8,pv pW 0),(9,.func (.func 140) #[] #[pv pW 0]),(12,iv (lg xs)),(13,sv (kZ xs)),(79,iv v0)] a∧dm w0 [.blk pW (.cells #[iv z0] 3)] u0 W∧p9 xs K k v0 z0) k ?_ ?_
 ·
  exact fun _ _ u v=>⟨t0,bu w0 t0,0,q0,fA u v hF⟩
 clear hF;rintro (_ | k68) _ _ ⟨u0,f0,v0,z0,q⟩;exact (q.2.2:False).elim;refine jn (fun hF=>?_) _ _ q;refine ae (ag 1 [0,8,9,12,13,79] [(80,.bool (decide (v0<3)))] ?_);refine aa (aF (aJ hF (fun mq hF=>?_) (fun mq hF=>?_)))
 ·refine Ok.k (Ok.t (iK u0 [(0,sv xs),(8,pv pW 0),(9,.func (.func 140) #[] #[pv pW 0]),(12,iv (lg xs)),(13,sv (kZ xs)),(79,iv v0)] [.blk pW (.cells #[iv (lX xs v0 z0)] 3)] (yl xs v0 z0 (p9 xs K k68)) ?_ (fun arw ajo hF=>?_)))
  ·
   refine Ok.block (ae (ag 2 [0,8,9,12,13,79] [(14,iv v0)] ?_));refine aa (ae (ag 4 [0,8,9,12,13,14,79] [(85,.bool (decide (v0<((kZ xs).length:Int))))] ?_));refine aa (aJ hF (fun a0 hF=>?_) (fun a0 hF=>?_))
   ·refine aR (ag 3 [0,8,9,12,13,79] [(86,.func (.func 140) #[] #[pv pW 0]),(87,sv (kZ xs)),(88,iv v0)] ?_);obtain ⟨Nu,DK,hF⟩:=hF;have K0:=aT (l:=kZ xs) (0:UInt8) DK;generalize Ip:((kZ xs).getD v0.toNat 0)=e11 at K0 hF ⊢;refine ai (af.s (v:=.int .u8 (e11.toNat:Int)) (dQ (k:=.i64) (i:=v0) (s:=kZ xs) (b:=e11) kr kr underlying9 Nu K0) rfl rfl (ai (bO (args:=#[.int .u8 (e11.toNat:Int),pv pW 0]) 10 [(0,.int .u8 (e11.toNat:Int)),(1,pv pW 0)] gU func140 rfl rfl rfl rfl (aR (aj 7 [.e 0] [] [(1,pv pW 0),(9,iv (if 1000000000<(w6 ((w6 (10 * z0))+(w6 (IntKind.wrap .u8 ((e11.toNat:Int) - 48))))) then 1000000000 else (w6 ((w6 (10 * z0))+(w6 (IntKind.wrap .u8 ((e11.toNat:Int) - 48)))))))] ?_)))));refine ai (dA 0 ?_);refine bV (bA (vs:=[]) (.inr rfl) rfl .nil rfl (bV (bG (Ok.t ?_))));subst Ip;refine kg (E':=.blk pW (.cells #[iv (lX xs v0 z0)] 3)) 0 (aA (fun l:List Value=>cu.blk pW (.cells ⟨l⟩ 3)) (iy (aA (Value.int .i64) ((aU a0).symm)) rfl)) ?_;exact fg hF
   refine aR (ag 1 [0,8,9,12,13,79] [(91,.func (.func 140) #[] #[pv pW 0])] ?_);let E:=IntKind.wrap .u8 (48 - 48);refine ai (bO (args:=#[.int .u8 48,pv pW 0]) 10 [(0,.int .u8 48),(1,pv pW 0)] gU func140 rfl rfl rfl rfl (aR (aj 7 [.e 0] [] [(1,pv pW 0),(9,iv (if 1000000000<(w6 ((w6 (10 * z0))+(w6 E))) then 1000000000 else (w6 ((w6 (10 * z0))+(w6 E)))))] ?_)));refine ai (dA 0 ?_);refine bV (bA (vs:=[]) (.inr rfl) rfl .nil rfl (bV (bG (Ok.t (kg (E':=.blk pW (.cells #[iv (lX xs v0 z0)] 3)) 0 (aA (fun l:List Value=>cu.blk pW (.cells ⟨l⟩ 3)) (iy (aA (Value.int .i64) ((aG a0).symm)) rfl)) ?_)))));exact fg hF
  refine aR (ag 2 [0,8,9,12,13] [(79,iv (w6 (v0+1)))] ?_);refine bV (Ok.t ?_);exact fun _ _ u v=>⟨k68,nl,arw,f0.trans ajo,w6 (v0+1),lX xs v0 z0,fA u v hF⟩
 refine fw (ay (ay (aM (Ok.t (iK u0 [(8,pv pW 0),(12,iv (lg xs))] [.blk pW (.cells #[iv (qA xs z0)] 3)] (GV xs K z0) ?_ (fun avt ajn hF=>?_))))))
 ·
  refine ae (ag 1 [8,12] [(94,sv xs)] ?_);obtain ⟨U9,h112,hF⟩:=hF;have Y0:=aT (l:=xs) (0:UInt8) h112;generalize U0:(xs.getD (Int.toNat 0) 0)=e12 at Y0 hF ⊢;refine ai (af.s (v:=.int .u8 (e12.toNat:Int)) (dQ (k:=.i64) (i:=0) (s:=xs) (b:=e12) kr kr underlying9 U9 Y0) rfl rfl (ag 1 [8,12] [(96,.bool ((e12.toNat:Int)==45))] ?_));refine aa (dW hF rfl (fun c0=>?_) (fun c0=>?_))
  ·replace hF:=hF.1 c0;refine aR (aj 2 [.e 0] [8,12] [(98,iv (w6 (0 - z0)))] ?_);refine ai (dA 0 ?_);refine bV (Ok.t ?_);subst U0;refine kg (E':=.blk pW (.cells #[iv (qA xs z0)] 3)) 0 (aA (fun l:List Value=>cu.blk pW (.cells ⟨l⟩ 3)) (iy (aA (Value.int .i64) ((aU c0).symm)) rfl)) ?_;exact fg hF
  replace hF:=hF.2 c0;refine Ok.k (Ok.t ?_);subst U0;refine kg (E':=.blk pW (.cells #[iv (qA xs z0)] 3)) 0 (aA (fun l:List Value=>cu.blk pW (.cells ⟨l⟩ 3)) (iy (aA (Value.int .i64) ((aG c0).symm)) rfl)) ?_;exact fg hF
 refine ae (aj 4 [.e 0] [] [(2,iv (qA xs z0)),(3,iv (lg xs))] ?_);refine aa (Ok.ret ?_);exact FZ [] ((((((i0.trans e0).trans hx5).trans s0).trans ajp).trans f0).trans ajn) ⟨qA xs z0,lg xs,rfl,rfl,hF⟩
set_option maxHeartbeats 4000000
set_option maxRecDepth 100000
def jr (k0:Int) (z0:List Int):List Int :=
 (if ((decide (z0.getD k0.toNat default≥65))&&(decide (z0.getD k0.toNat default≤90)))=true then (z0.set k0.toNat (IntKind.wrap .u8 ((z0.getD k0.toNat default)+32))) else z0)
def uu (k0:Int) (z0:List Int) (C9:Int→List Int→Prop):Prop :=
 C9 (w6 (k0+1)) (jr k0 z0)
def TG (xs:Bs) (K:Bs→Prop) (k0:Int) (z0:List Int) (C9:Int→List Int→Prop):Prop :=
 ((decide (k0<((intsOf xs).length:Int)))=true→0≤k0∧k0.toNat<z0.length∧(((decide (z0.getD k0.toNat default≥65))&&(decide (z0.getD k0.toNat default≤90)))=true→uu k0 z0 C9)∧(((decide (z0.getD k0.toNat default≥65))&&(decide (z0.getD k0.toNat default≤90)))=false→uu k0 z0 C9))∧((decide (k0<((intsOf xs).length:Int)))=false→K (bytesOf z0))
def vC (xs:Bs) (K:Bs→Prop):Nat→Int→List Int→Prop
 | 0,_,_=>False
 | k+1,k0,z0=>TG xs K k0 z0 (vC xs K k)
def TI (xs:Bs) (K:Bs→Prop):Prop :=
 ∃ k,vC xs K k 0 (intsOf xs)
theorem TH {g:ak} (xs:Bs) (K:Bs→Prop)
  (hF:TI xs K):az prog 141 #[sv xs] g [] (fun g' H' v=>∃ (r0:Bs),v=sv r0∧H'=[]∧K r0):=by
 refine aP 29 func141 rfl fun w0=>?_;refine ae (av 1 [(0,sv xs)] kr (aa (ae (av 1 [(6,sv xs)] kr (ai (Ay (s:=xs) kr underlying9 underlying26 underlying5 rfl fun a1 c1 xs1 hL1=>?_))))));refine av 1 [(3,.slice a1 (intsOf xs).length c1)] kr (aa (aF (ae (ag 3 [3] [(8,.slice a1 (intsOf xs).length c1),(9,iv ((intsOf xs).length:Int)),(10,iv 0)] ?_))));refine aa (Ok.block ?_);obtain ⟨k,hF⟩:=hF;refine fQ (fun k a W=>∃ jP:ak,bf w0 g jP∧∃ (k0:Int) (v0:Option Addr) (q0:Nat) (z0:List Int) (y0:List Value),aW jP yb y0 z0∧fC 29 [(3,.slice v0 z0.length q0),(8,.slice v0 z0.length q0),(9,iv ((intsOf xs).length:Int)),(10,iv k0)] a∧dm w0 [.lV (.slice v0 z0.length q0) 5 z0.length y0] jP W∧vC xs K k k0 z0) k ?_ ?_
 ·
  exact fun _ _ u v=>⟨g,bu w0 g,0,a1,c1,intsOf xs,xs1,hL1,fA u v hF⟩
 clear hF;rintro (_ | k9) _ _ ⟨jP,c0,k0,v0,q0,z0,y0,u0,q⟩;exact (q.2.2:False).elim;refine jn (fun hF=>?_) _ _ q;refine ae (ag 1 [3,8,9,10] [(11,.bool (decide (k0<((intsOf xs).length:Int))))] ?_);refine aa (aF (aJ hF (fun hc2 hF=>?_) (fun hc2 hF=>?_)))
 ·refine Ok.k (Ok.t (Ok.cut (fun a W=>∃ b0:ak,bf w0 jP b0∧∃ (j0:Option Addr) (x0:Nat) (s0:List Value),aW b0 yb s0 (jr k0 z0)∧fC 29 [(3,.slice j0 (jr k0 z0).length x0),(8,.slice j0 (jr k0 z0).length x0),(9,iv ((intsOf xs).length:Int)),(10,iv k0)] a∧dm w0 [.lV (.slice j0 (jr k0 z0).length x0) 5 (jr k0 z0).length s0] b0 W∧uu k0 z0 (vC xs K k9)) ?_ ?_))
  ·
   refine Ok.block (ae (ag 1 [3,8,9,10] [(12,iv k0)] ?_));obtain ⟨oo,pg,hF⟩:=hF;have ny:=aT (l:=z0) default pg;generalize hg4:(z0.getD k0.toNat default)=e4 at ny hF ⊢;refine ai (qd (q:=k0) (el:=e4) 0 rfl u0 rfl rfl underlying26 kr oo ny rfl fun hc3=>?_);refine ai (af.s (v:=.int .u8 e4) (yV 0 0 rfl hc3 rfl underlying5 rfl kr) rfl rfl (ag 2 [3,8,9,10] [(4,iv k0),(5,.int .u8 e4)] ?_));refine aa (ae (ag 3 [3,4,5,8,9,10] [(17,.bool (decide (e4≥65)))] ?_));refine Ok.w 3 [(3,.slice v0 z0.length q0),(4,iv k0),(5,.int .u8 e4),(8,.slice v0 z0.length q0),(9,iv ((intsOf xs).length:Int)),(10,iv k0),(20,.bool (decide (e4≥65)&&decide (e4≤90)))] (fun Bp=>?_) ?_
   ·refine Ok.a 17 (decide (e4≥65)) rfl (fun hc6=>?_) (fun hc6=>?_)
    ·skip;refine ag 3 [3,4,5,8,9,10] [(20,.bool (decide (e4≤90)))] ?_;refine aB 20 (decide (e4≥65)&&decide (e4≤90)) (bn hc6) (ag 0 [3,4,5,8,9,10] [(20,.bool (decide (e4≥65)&&decide (e4≤90)))] ?_);exact Bp
    skip;refine ag 3 [3,4,5,8,9,10] [(20,.bool false)] ?_;refine aB 20 (decide (e4≥65)&&decide (e4≤90)) (bZ hc6) (ag 0 [3,4,5,8,9,10] [(20,.bool (decide (e4≥65)&&decide (e4≤90)))] ?_);exact Bp
   refine aa (dW hF rfl (fun iB=>?_) (fun iB=>?_))
   ·replace hF:=hF.1 iB;refine aR (ag 4 [3,8,9,10] [(21,.slice v0 z0.length q0),(22,iv k0),(24,.int .u8 (IntKind.wrap .u8 (e4+32)))] ?_);refine ai (qd (q:=k0) (el:=e4) 0 rfl u0 rfl rfl underlying26 kr oo ny rfl fun hc8=>?_);refine ai (Aw (q:=k0.toNat) (xG:=IntKind.wrap .u8 (e4+32)) 0 rfl u0 hc8 rfl rfl kr fun Ro hL9=>?_);rw [show z0.length=(z0.set k0.toNat (IntKind.wrap .u8 (e4+32))).length from (kP ..).symm];refine bV (bG (Ok.t ?_));subst hg4;refine gX 3 rfl (show (.slice v0 (z0.set k0.toNat (IntKind.wrap .u8 ((z0.getD k0.toNat default)+32))).length q0:Value)=.slice v0 (jr k0 z0).length q0 from aA (fun l:List Int=>Value.slice v0 l.length q0) ((aU iB).symm)) ?_;refine gX 8 rfl (show (.slice v0 (z0.set k0.toNat (IntKind.wrap .u8 ((z0.getD k0.toNat default)+32))).length q0:Value)=.slice v0 (jr k0 z0).length q0 from aA (fun l:List Int=>Value.slice v0 l.length q0) ((aU iB).symm)) ?_;refine kg (E':=.lV (.slice v0 (jr k0 z0).length q0) 5 (jr k0 z0).length Ro) 0 (aA (fun l:List Int=>cu.lV (.slice v0 l.length q0) 5  l.length Ro) ((aU iB).symm)) ?_;exact fun _ _ u v=>⟨jP,bu w0 jP,v0,q0,Ro,(Eq.mp (aA (fun l:List Int=>aW jP yb Ro l) ((aU iB).symm)) hL9),fA u v hF⟩
   replace hF:=hF.2 iB;refine Ok.k (bG (Ok.t ?_));subst hg4;refine gX 3 rfl (show (.slice v0 z0.length q0:Value)=.slice v0 (jr k0 z0).length q0 from aA (fun l:List Int=>Value.slice v0 l.length q0) ((aG iB).symm)) ?_;refine gX 8 rfl (show (.slice v0 z0.length q0:Value)=.slice v0 (jr k0 z0).length q0 from aA (fun l:List Int=>Value.slice v0 l.length q0) ((aG iB).symm)) ?_;refine kg (E':=.lV (.slice v0 (jr k0 z0).length q0) 5 (jr k0 z0).length y0) 0 (aA (fun l:List Int=>cu.lV (.slice v0 l.length q0) 5  l.length y0) ((aG iB).symm)) ?_;exact fun _ _ u v=>⟨jP,bu w0 jP,v0,q0,y0,(Eq.mp (aA (fun l:List Int=>aW jP yb y0 l) ((aG iB).symm)) u0),fA u v hF⟩
  clear hF;rintro _ _ ⟨b0,KR,j0,x0,s0,qC,q⟩;refine jn (fun hF=>?_) _ _ q;refine aR (ag 2 [3,8,9] [(10,iv (w6 (k0+1)))] ?_);refine bV (Ok.t ?_);exact fun _ _ u v=>⟨k9,nl,b0,c0.trans KR,w6 (k0+1),j0,x0,jr k0 z0,s0,qC,fA u v hF⟩
 refine fw (ay (ay (aM (Ok.t (ae (av 1 [(27,.slice v0 z0.length q0)] kr (ai (af.s (v:=sv (bytesOf z0)) (wB 0 kr rfl rfl u0 underlying26 underlying9 underlying5) rfl rfl (av 1 [(2,sv (bytesOf z0))] kr (aa (Ok.ret ?_)))))))))));exact jg (sv (bytesOf z0)) c0 ⟨bytesOf z0,rfl,rfl,hF⟩
end Go.Proofs.YtdapgmigogpdcaaGreatDoor.tO
namespace Go.Proofs.YtdapgmigogpdcaaGreatDoor.tO
open Go Go.iT jN BI
theorem pI (l:List Int) (c:UInt8):bytesOf (l++[(c.toNat:Int)])=bytesOf l++[c]:=by
 simp [bytesOf]
theorem AZ {l:List Int} (h:intsOf (bytesOf l)=l) (c:UInt8):intsOf (bytesOf (l++[(c.toNat:Int)]))=l++[(c.toNat:Int)]:=by
 rw [pI,show intsOf (bytesOf l++[c])=intsOf (bytesOf l)++[(c.toNat:Int)] from by simp [intsOf],h]
def xE:Nat→List UInt8→List UInt8×Nat
 | 0,_=>([],0)
 | _+1,[]=>([],0)
 | k+1,c::r=>if jJ (c::r)=true then (match r with
   | d::r'=>(d::(xE k r').1,(xE k r').2+2)
   | []=>([],0))
  else if kz (c.toNat:Int)=true then (c::(xE k r).1,(xE k r).2+1) else ([],0)
theorem mI (k:Nat) (c:UInt8) (r:List UInt8) (h:jJ (c::r)=false):xE (k+1) (c::r)=if kz (c.toNat:Int)=true then (c::(xE k r).1,(xE k r).2+1) else ([],0):=aG h
theorem Bg (k:Nat) (c d:UInt8) (r:List UInt8) (h:jJ (c::d::r)=true):xE (k+1) (c::d::r)=(d::(xE k r).1,(xE k r).2+2):=aU h
def ek (s:List UInt8):List UInt8×Int:=((xE s.length s).1,((xE s.length s).2:Int))
def fV (s:List UInt8):Prop:=s.length≤140737488351232
theorem Br {s:List UInt8} (h:jJ s=true):1<s.length:=by
 unfold jJ zI at h;simp at h;omega
theorem QK (xs:List UInt8) (hP:fV xs) (K:List UInt8→Int→Prop):∀ (k i:Nat) (acc:List Int),xs.length≤i+k→i≤xs.length→acc.length≤i→intsOf (bytesOf acc)=acc →
  K (bytesOf acc++(xE k (xs.drop i)).1) ((i+(xE k (xs.drop i)).2:Nat):Int)→G7 xs K (k+1) (i:Int) acc:=by
 unfold fV at hP;intro k
 induction k using Nat.strongRecOn with
 | _ k ih =>
 intro i acc h1 h2 h3 h4 hK;refine ⟨fun h=>?_,fun h=>?_⟩
 ·have hi:i<xs.length:=od h;obtain ⟨k,rfl⟩:∃ j,k=j+1:=⟨k - 1,om⟩;have hd:=bX (l:=xs) (0:UInt8) hi;rw [dR];refine ⟨om,om,om,fun he=>?_,fun he=>?_⟩
  ·have hl:=Br he;rw [gJ] at hl;have hd2:=bX (l:=xs) (0:UInt8) (show i+1<xs.length by omega);rw [hd,hd2] at hK he;rw [Bg k _ _ _ he] at hK;rw [fU om,fU om,show ((i:Int)+1).toNat=i+1 by omega];refine ⟨om,om,by unfold VW; omega,?_⟩;refine ih k om (i+2) (acc++[((xs.getD (i+1) 0).toNat:Int)]) om om (by simp; omega) (by rw [AZ h4]) ?_;rw [pI,dM];have e:((i+2+(xE k (xs.drop (i+2))).2:Nat):Int)=((i+((xE k (xs.drop (i+2))).2+2):Nat):Int):=om;rw [e];exact hK
  rw [hd] at hK he;rw [mI k _ _ he] at hK;refine ⟨om,om,fun hs=>?_,fun hs=>?_⟩
  ·rw [aU hs] at hK;rw [fU om];refine ⟨by unfold VW; omega,?_⟩;refine ih k om (i+1) (acc++[((xs.getD i 0).toNat:Int)]) om om (by simp; omega) (by rw [AZ h4]) ?_;rw [pI,dM];have e:((i+1+(xE k (xs.drop (i+1))).2:Nat):Int)=((i+((xE k (xs.drop (i+1))).2+1):Nat):Int):=om;rw [e];exact hK
  rw [aG hs] at hK;exact ⟨h4,by simpa using hK⟩
 have hi:i=xs.length:=oe h;subst hi;rw [List.drop_length] at hK
 have e:xE k []=([],0):=by cases k <;> rfl
 rw [e] at hK;exact ⟨h4,by simpa using hK⟩
theorem abF (s:List UInt8) (hp:fV s):ZF s (fun a b=>(a,b)=ek s) :=
 ⟨s.length+1,QK s hp _ s.length 0 [] om om (by simp) rfl (by simp [ek,bytesOf])⟩
theorem yn:∀ (k:Nat) (s:List UInt8),(xE k s).2≤s.length∧(xE k s).1.length≤(xE k s).2
 | 0,_=>⟨ik _,fP _⟩
 | _+1,[]=>⟨fP _,fP _⟩
 | k+1,c::r=>by
  cases he:jJ (c::r)
  ·rw [mI k c r he]
   split
   ·have:=yn k r;simp only [di];omega
   simp
  have hl:=Br he
  match r,he,hl with
  | d::r,he,_ =>
   rw [Bg k c d r he];have:=yn k r;simp only [di];omega
theorem Tv {g:ak} (xs:List UInt8)  (hp:fV xs):bC Tryz.prog 138 #[.string ⟨⟨xs⟩⟩] g (.tuple #[.string ⟨⟨(ek xs).1⟩⟩,.int .i64 (ek xs).2]) :=
 (Xr xs _ (abF xs hp)).gives (by rintro g' H' v _ ⟨r0,r1,rfl,rfl,hK⟩; obtain ⟨rfl,rfl⟩:r0=(ek xs).1∧r1=(ek xs).2:=⟨aA (fun z=>z.1) hK,aA (fun z=>z.2) hK⟩; rfl)
def AB (c:UInt8):UInt8:=if 65≤c.toNat∧c.toNat≤90 then c+32 else c
def aO (s:List UInt8):List UInt8:=s.map AB
theorem TJ (c:UInt8):(if ((decide ((c.toNat:Int)≥65))&&(decide ((c.toNat:Int)≤90)))=true then IntKind.wrap .u8 ((c.toNat:Int)+32) else (c.toNat:Int))=((AB c).toNat:Int):=by
 unfold AB
 by_cases h:65≤c.toNat∧c.toNat≤90
 ·rw [aU (by simp; omega),bB h,IntWalk.u8_in _ om,UInt8.toNat_add];have:(32:UInt8).toNat=32:=rfl;omega
 rw [aG (by simp; omega),aQ h]
theorem FE (l:List UInt8) (i:Nat) (h:i<l.length):(intsOf l).getD i default=((l.getD i 0).toNat:Int):=by
 simp [intsOf,gT,h]
theorem ints_set (l:List UInt8) (i:Nat) (c:UInt8):(intsOf l).set i (c.toNat:Int)=intsOf (l.set i c):=by
 simp [intsOf,List.map_set]
def iQ (xs:List UInt8) (i:Nat):List UInt8:=(xs.take i).map AB++xs.drop i
theorem MK {xs:List UInt8} {i:Nat} (h:i<xs.length):jr (i:Int) (intsOf (iQ xs i))=intsOf (iQ xs (i+1)):=by
 have hl:(iQ xs i).length=xs.length:=by simp [iQ]; omega
 have hg:(iQ xs i).getD i 0=xs.getD i 0:=by
  unfold iQ;rw [gT,List.getElem?_append_right (by simp; omega),gT,Ef];congr 2;simp; omega
 have hs:(iQ xs i).set i (AB (xs.getD i 0))=iQ xs (i+1):=by
  unfold iQ;rw [List.set_append_right _ _ (by simp; omega),iD (0:UInt8) h,bX (l:=xs) (0:UInt8) h,uT,dM];congr 1
  have e:i - ((xs.take i).map AB).length=0:=by simp; omega
  rw [e]; rfl
 have hn:(iQ xs i).set i (xs.getD i 0)=iQ xs i:=by
  rw [← hg,gT,gH om,uO,List.set_getElem_self]
 unfold jr;rw [dR,FE _ _ om,hg,← hs];have:=TJ (xs.getD i 0)
 split
 ·rename_i hc
  rw [aU hc] at this;rw [this,ints_set]
 rename_i hc
 rw [aQ hc] at this;have:AB (xs.getD i 0)=xs.getD i 0:=UInt8.toNat_inj.1 om;rw [this,hn]
theorem MJ (xs:List UInt8) (hP:xs.length≤140737488351232) (K:List UInt8→Prop) (hK:K (aO xs)):∀ (k i:Nat),xs.length=i+k→vC xs K (k+1) (i:Int) (intsOf (iQ xs i)):=by
 intro k
 induction k with
 | zero =>
  intro i h;refine ⟨fun hc=>?_,fun _=>?_⟩
  ·have:=df hc; rw [iA] at this; omega
  rw [kN,iQ,jU om,eD om,gK];exact hK
 | succ k ih =>
  intro i h;refine ⟨fun _=>?_,fun hc=>?_⟩
  ·have hl:(iQ xs i).length=xs.length:=by simp [iQ]; omega
   have key:uu (i:Int) (intsOf (iQ xs i)) (vC xs K (k+1)):=by
    unfold uu;rw [fU om,MK om];exact ih (i+1) om
   exact ⟨om,by rw [iA,hl]; omega,fun _=>key,fun _=>key⟩
  have:=fq hc; rw [iA] at this; omega
def ig (s:List UInt8):Prop:=s.length≤140737488351232
theorem XB (s:List UInt8) (hp:ig s):TI s (fun r=>r=aO s) :=
 ⟨s.length+1,MJ s hp (fun r=>r=aO s) rfl s.length 0 om⟩
theorem XA {g:ak} (xs:List UInt8)  (hp:ig xs):bC Tryz.prog 141 #[.string ⟨⟨xs⟩⟩] g (.string ⟨⟨(aO xs)⟩⟩) :=
 (TH xs _ (XB xs hp)).gives (by rintro g' H' v _ ⟨r0,rfl,rfl,hK⟩; subst hK; rfl)
end Go.Proofs.YtdapgmigogpdcaaGreatDoor.tO
namespace Go.Proofs.YtdapgmigogpdcaaGreatDoor.tO
open _root_.Go.Proofs.Tryz Go Go.iT jN BI
theorem wL {p:Prop} (h:p:=by first | exact hp.2.2 | exact hp.2.1 | exact (yU hp.1 hp.2.1 hp.2.2).2 | exact (yU hp.1 hp.2.1 hp.2.2).1 | exact iV hp.1 _ | omega | assumption | exact trivial | (have h0:=List.length_pos_iff.mpr asm; omega) | (simp; omega) | (simp at *; omega)):p:=h
set_option maxHeartbeats 4000000
set_option maxRecDepth 100000
def xL:Nat→UInt8→Bs→Bs×Nat×Nat
 | 0,_,_=>([],0,2)
 | _+1,_,[]=>([],0,2)
 | k+1,q,c::r=>if c=q then ([],0,0) else if c=10 then ([],0,1) else
  match decide (c=92),r with
  | true,d::r'=>(d::(xL k q r').1,(xL k q r').2.1+2,(xL k q r').2.2)
  | _,_=>(c::(xL k q r).1,(xL k q r).2.1+1,(xL k q r).2.2)
def Wh (s v:Bs) (n:Nat) (w:Nat):Int×Bs×Bs×Int :=
 if w=0 then (5,s.take (n+2),v,0) else if w=1 then (6,s.take (n+1),[],0) else (6,s,[],0)
def qM (s:Bs):Int×Bs×Bs×Int :=
 let t:=xL s.length (s.getD 0 0) (s.drop 1)
 Wh s t.1 t.2.1 t.2.2
theorem Zi (k:Nat) (q:UInt8) (r:Bs):xL (k+1) q (q::r)=([],0,0):=bB rfl
theorem agA (k:Nat) (q c:UInt8) (r:Bs) (h:c≠q) (h1:c=10):xL (k+1) q (c::r)=([],0,1):=by
 show (if c=q then _ else if c=10 then _ else _)=_;rw [aQ h,bB h1]
theorem Zj (k:Nat) (q c d:UInt8) (r:Bs) (h:c≠q) (h1:c≠10) (h2:c=92):xL (k+1) q (c::d::r)=(d::(xL k q r).1,(xL k q r).2.1+2,(xL k q r).2.2):=by
 subst h2;show (if _ then _ else if _ then _ else _)=_;rw [aQ h,aQ h1]; rfl
theorem Zk (k:Nat) (q c:UInt8) (r:Bs) (h:c≠q) (h1:c≠10) (h2:c≠92∨r=[]):xL (k+1) q (c::r)=(c::(xL k q r).1,(xL k q r).2.1+1,(xL k q r).2.2):=by
 show (if _ then _ else if _ then _ else _)=_;rw [aQ h,aQ h1]
 rcases h2 with h2 | rfl
 ·rw [l6 h2]
 cases decide (c=92) <;> rfl
def Oy (s:Bs):Prop:=s.length≤140737488351232∧s≠[]
theorem yO (a b:UInt8):(((a.toNat:Int)==(b.toNat:Int))=true↔a=b):=by
 rw [dJ];exact ⟨fun h=>UInt8.toNat_inj.1 om,fun h=>by rw [h]⟩
theorem Qo (xs:Bs) (hP:Oy xs) (K:KT→Prop):∀ (k i:Nat) (acc:List Int),xs.length≤i+k→1≤i→i≤xs.length→acc.length≤i→intsOf (bytesOf acc)=acc →
  K (Wh xs (bytesOf acc++(xL k (xs.getD 0 0) (xs.drop i)).1) (i - 1+(xL k (xs.getD 0 0) (xs.drop i)).2.1) (xL k (xs.getD 0 0) (xs.drop i)).2.2)→Ce xs K (k+1) (i:Int) acc:=by
 obtain ⟨hP,hne⟩:=hP;have hpos:=List.length_pos_iff.mpr hne;intro k
 induction k with
 | zero =>
  intro i acc h1 h0 h2 h3 h4 hK;refine ⟨fun h=>od h,fun h=>?_⟩;simpa [xL,Wh] using hK
 | succ k ih =>
  intro i acc h1 h0 h2 h3 h4 hK;refine ⟨fun h=>?_,fun h=>?_⟩
  ·have hi:i<xs.length:=od h;have hd:=bX (l:=xs) (0:UInt8) hi;rw [hd] at hK;rw [dR,Int.toNat_zero];refine ⟨om,om,om,om,fun hq=>?_,fun hq=>?_⟩
   ·have hq:=(yO _ _).1 hq;rw [hq,Zi] at hK;rw [fU om];refine ⟨om,om,om,h4,?_⟩;have e:((i:Int)+1).toNat=i - 1+0+2:=om;rw [e];simpa [Wh] using hK
   have hq:xs.getD i 0≠xs.getD 0 0:=fun e=>by rw [(yO _ _).2 e] at hq; cases hq
   refine ⟨fun hn=>?_,fun hn=>?_⟩
   ·have hn:xs.getD i 0=10:=(yO _ 10).1 hn;rw [agA _ _ _ _ hq hn] at hK;refine ⟨om,om,om,?_⟩;have e:i=i - 1+0+1:=om;rw [e];simpa [Wh] using hK
   have hn:xs.getD i 0≠10:=fun e=>by rw [e] at hn; exact absurd hn dc
   unfold AX;rw [dR];refine ⟨fun hc=>?_,fun hc=>?_⟩
   ·have hc':=hc;rw [aH] at hc';have Rx:xs.getD i 0=92:=(yO _ 92).1 hc'.1;have hlt:=df hc'.2;rw [fU om] at hlt;have hd2:=bX (l:=xs) (0:UInt8) (show i+1<xs.length by omega);rw [hd2,Zj _ _ _ _ _ hq hn Rx] at hK;rw [aU hc,aU hc,fU (x:=(i:Int)+1) om,fU om,show ((i:Int)+1).toNat=i+1 by omega];refine ⟨om,om,by unfold VW; omega,?_⟩;refine ih (i+2) (acc++[((xs.getD (i+1) 0).toNat:Int)]) om om om (by simp; omega) (by rw [AZ h4]) ?_;rw [pI,dM,show i+2 - 1+(xL k (xs.getD 0 0) (xs.drop (i+2))).2.1=i - 1+((xL k (xs.getD 0 0) (xs.drop (i+2))).2.1+2) by omega];exact hK
   have Rx:xs.getD i 0≠92∨xs.drop (i+1)=[]:=by
    rw [fF] at hc
    rcases hc with hc | hc
    ·exact .inl fun e=>by rw [e] at hc; exact absurd hc dc
    have:=fq hc;rw [fU om] at this;exact .inr (eD om)
   rw [Zk _ _ _ _ hq hn Rx] at hK;rw [aG hc,aG hc,fU om];refine ⟨by unfold VW; omega,?_⟩;refine ih (i+1) (acc++[((xs.getD i 0).toNat:Int)]) om om om (by simp; omega) (by rw [AZ h4]) ?_;rw [pI,dM,show i+1 - 1+(xL k (xs.getD 0 0) (xs.drop (i+1))).2.1=i - 1+((xL k (xs.getD 0 0) (xs.drop (i+1))).2.1+1) by omega];exact hK
  have hi:i=xs.length:=oe h;subst hi;rw [List.drop_length] at hK;simpa [xL,Wh] using hK
theorem aav (s:Bs) (hp:Oy s):Zm s (fun r=>r=qM s):=by
 have hpos:=List.length_pos_iff.mpr hp.2;exact ⟨s.length+1,Qo s hp (fun r=>r=qM s) s.length 1 [] om om om (by simp) rfl (by simp [qM,bytesOf])⟩
theorem aau {g:ak} (xs:Bs)  (hp:Oy xs):bC prog 90 #[sv xs] g (.agg (aK (qM xs))) :=
 (Wo xs _ (aav xs hp)).gv
def zn (_:Int) (s:Bs) (a:Int):Prop:=fV s∧0≤a∧a≤s.length
theorem iV {s:Bs} (h:fV s) (i:Nat):fV (s.drop i):=by unfold fV at h ⊢; rw [gJ]; omega
theorem vB {s:Bs} (h:fV s):0≤(ek s).2∧(ek s).2≤s.length:=by
 have:=yn s.length s;unfold ek;simp only;omega
theorem QL {s:Bs} (h:fV s):(ek s).1.length≤140737488351232:=by
 have:=yn s.length s;unfold fV at h;unfold ek;simp only;omega
theorem yU {s:Bs} {a:Int} (h:fV s) (h0:0≤a) (h1:a≤s.length):0≤w6 (a+(ek (s.drop a.toNat)).2)∧w6 (a+(ek (s.drop a.toNat)).2)≤s.length:=by
 have:=vB (iV h a.toNat);rw [gJ] at this;unfold fV at h;rw [fU om];omega
def G9 (bW:Int) (xs:Bs) (dH:Int) (K:KT→Prop):Prop :=
 0≤dH∧(dH:Int)≤(xs.length:Int)∧(xs.length:Int)≤(xs.length:Int)∧fV (xs.drop dH.toNat)∧(0:Int)≤0∧0≤(w6 (dH+(ek (xs.drop dH.toNat)).2))∧(w6 (dH+(ek (xs.drop dH.toNat)).2))≤(xs.length:Int)∧K (bW,xs.take (Int.toNat (w6 (dH+(ek (xs.drop dH.toNat)).2))),(ek (xs.drop dH.toNat)).1,0)
theorem Tq {g:ak} (bW:Int) (xs:Bs) (dH:Int) (K:KT→Prop)
  (hF:G9 bW xs dH K):az prog 93 #[iv bW,sv xs,iv dH] g [] (fun g' H' v=>∃ (r0:Int×Bs×Bs×Int),v=.agg (aK r0)∧H'=[]∧K r0):=by
 refine aP 24 func93 rfl fun w0=>?_;refine ae (ai (bI zK fun bs6=>?_));refine aa (ae (av 2 [(0,iv bW),(1,sv xs),(2,iv dH),(6,pv bs6 0),(10,sv xs),(11,iv dH)] kr ?_));obtain ⟨h02,h12,h22,hF⟩:=hF;refine ai (af.s (b_ (s:=xs) (l:=dH) (h:=(xs.length:Int)) kr underlying9 (.inl ⟨_,_,rfl,rfl⟩) (.inr ⟨rfl,rfl⟩) h02 h12 h22 (xs.drop dH.toNat) (RZ _ _)) rfl rfl ?_);obtain ⟨hp3,hF⟩:=hF;refine aj 6 [.k (Tv (xs.drop dH.toNat) hp3)] [0,1,2,6] [(7,sv ((ek (xs.drop dH.toNat)).1)),(8,iv (ek (xs.drop dH.toNat)).2)] ?_;refine aa (ae (ag 5 [6,7] [(16,iv bW),(17,sv xs),(20,iv (w6 (dH+(ek (xs.drop dH.toNat)).2)))] ?_));obtain ⟨oo,pg,UZ,hF⟩:=hF;refine ai (af.s (b_ (s:=xs) (l:=0) (h:=(w6 (dH+(ek (xs.drop dH.toNat)).2))) kr underlying9 (.inr ⟨rfl,rfl⟩) (.inl ⟨_,_,rfl,rfl⟩) oo pg UZ (xs.take (Int.toNat (w6 (dH+(ek (xs.drop dH.toNat)).2)))) (by simp)) rfl rfl (ag 2 [6] [(23,.agg #[iv bW,sv (xs.take (Int.toNat (w6 (dH+(ek (xs.drop dH.toNat)).2)))),sv ((ek (xs.drop dH.toNat)).1),iv 0])] ?_));refine ai (af.w 0 ?_);refine aa (Ok.ret ?_);exact jf 0 [] (bu w0 g) ⟨(bW,xs.take (Int.toNat (w6 (dH+(ek (xs.drop dH.toNat)).2))),(ek (xs.drop dH.toNat)).1,0),rfl,rfl,hF⟩
def cZ (bW:Int) (xs:Bs) (dH:Int):KT:=(bW,xs.take (Int.toNat (w6 (dH+(ek (xs.drop dH.toNat)).2))),(ek (xs.drop dH.toNat)).1,0)
theorem Tu (bW:Int) (xs:Bs) (dH:Int) (hp:zn bW xs dH) (P:KT→Prop) (h:P (cZ bW xs dH)):G9 bW xs dH (fun k0=>P k0):=by
 unfold cZ at h;unfold G9;refine ⟨?_,?_,?_,?_⟩
 ·exact wL
 ·exact wL
 ·exact wL
 refine ⟨?_,?_⟩
 ·exact wL
 refine ⟨?_,?_,?_,?_⟩
 ·exact wL
 ·exact wL
 ·exact wL
 exact h
theorem Xq (bW:Int) (xs:Bs) (dH:Int) (hp:zn bW xs dH):G9 bW xs dH (fun k0=>k0=cZ bW xs dH) :=
 Tu bW xs dH hp (fun z=>z=cZ bW xs dH) rfl
theorem G8 {g:ak} (bW:Int) (xs:Bs) (dH:Int)  (hp:zn bW xs dH):bC prog 93 #[iv bW,sv xs,iv dH] g (.agg (aK (cZ bW xs dH))) :=
 (Tq bW xs dH _ (Xq bW xs dH hp)).gv
theorem mE {p:Prop} (h:p:=by first | exact hp.2.2 | exact hp.2.1 | exact (Uw hc0 hp.2.1 hp.1).2 | exact (Uw hc0 hp.2.1 hp.1).1 | exact (yU hp.1 hp.2.1 hp.2.2).2 | exact (yU hp.1 hp.2.1 hp.2.2).1 | exact Ku (iV hp.1 _) | exact iV hp.1 _ | omega | assumption | exact trivial | (have h0:=List.length_pos_iff.mpr asm; omega) | (simp; omega) | (simp at *; omega)):p:=h
set_option maxHeartbeats 4000000
set_option maxRecDepth 100000
def Bd (s:Bs) (_:Int) (a:Int):Prop:=fV s∧0≤a∧a≤s.length
theorem Ku {s:Bs} (h:fV s):ig (ek s).1:=QL h
theorem Uw {s:Bs} {a:Int} (h:zC (s.drop a.toNat) ([37]:Bs)=true) (h0:0≤a) (h1:fV s):w6 (a+1)≤s.length∧0≤w6 (a+1):=by
 have:=nL (s:=s.drop a.toNat) (p:=[37]) h;rw [gJ] at this;simp at this;unfold fV at h1;rw [fU om];omega
def jq (xs:Bs) (xn:Int):Bs :=
 (if (zC (xs.drop xn.toNat) ([37]:Bs))=true then xs.take (Int.toNat (w6 (xn+1))) else (if (mM (xs.drop xn.toNat))=true then xs.take (Int.toNat (w6 (xn+(ek (xs.drop xn.toNat)).2))) else xs.take xn.toNat))
def mH (xs:Bs) (xn:Int):Bs :=
 (if (zC (xs.drop xn.toNat) ([37]:Bs))=true then ([37]:Bs) else (if (mM (xs.drop xn.toNat))=true then (aO (ek (xs.drop xn.toNat)).1) else ([]:Bs)))
def rq (xs:Bs) (jk:Int) (xn:Int) (K:KT→Prop):Prop :=
 K (7,jq xs xn,mH xs xn,jk)
def Be (xs:Bs) (jk:Int) (xn:Int) (K:KT→Prop):Prop :=
 (0:Int)≤0∧0≤xn∧xn≤(xs.length:Int)∧0≤xn∧(xn:Int)≤(xs.length:Int)∧(xs.length:Int)≤(xs.length:Int)∧((zC (xs.drop xn.toNat) ([37]:Bs))=true→(0:Int)≤0∧0≤w6 (xn+1)∧w6 (xn+1)≤(xs.length:Int)∧rq xs jk xn K)∧((zC (xs.drop xn.toNat) ([37]:Bs))=false→((mM (xs.drop xn.toNat))=true→fV (xs.drop xn.toNat)∧(0:Int)≤0∧0≤(w6 (xn+(ek (xs.drop xn.toNat)).2))∧(w6 (xn+(ek (xs.drop xn.toNat)).2))≤(xs.length:Int)∧ig (ek (xs.drop xn.toNat)).1∧rq xs jk xn K)∧((mM (xs.drop xn.toNat))=false→rq xs jk xn K))
theorem QG {g:ak} (xs:Bs) (jk:Int) (xn:Int) (K:KT→Prop)
  (hF:Be xs jk xn K):az prog 96 #[sv xs,iv jk,iv xn] g [] (fun g' H' v=>∃ (r0:Int×Bs×Bs×Int),v=.agg (aK r0)∧H'=[]∧K r0):=by
 refine aP 44 func96 rfl fun w0=>?_;refine ae (ai (bI zK fun bs6=>?_));refine aa (ae (av 2 [(0,sv xs),(1,iv jk),(2,iv xn),(6,pv bs6 0),(11,sv xs),(12,iv xn)] kr ?_));obtain ⟨h02,h12,h22,hF⟩:=hF;refine ai (af.s (b_ (s:=xs) (l:=0) (h:=xn) kr underlying9 (.inr ⟨rfl,rfl⟩) (.inl ⟨_,_,rfl,rfl⟩) h02 h12 h22 (xs.take xn.toNat) (by simp)) rfl rfl (ag 2 [0,2,6] [(15,.agg #[iv 7,sv (xs.take xn.toNat),sv ([]:Bs),iv jk])] ?_));refine ai (bI zK fun LM=>?_);refine ai (af.w 0 ?_);refine aa (gB [(6,pv bs6 0),(7,pv LM 0)] [.blk LM (.cells #[iv 7,sv (jq xs xn),sv (mH xs xn),iv jk] 98),.blk bs6 (.cells zK 98)] (rq xs jk xn K) ?_ (fun hF=>?_))
 ·
  refine ae (ag 2 [0,2,6] [(7,pv LM 0),(16,sv xs),(17,iv xn)] ?_);obtain ⟨oo,pg,UZ,hF⟩:=hF;refine ai (af.s (b_ (s:=xs) (l:=xn) (h:=(xs.length:Int)) kr underlying9 (.inl ⟨_,_,rfl,rfl⟩) (.inr ⟨rfl,rfl⟩) oo pg UZ (xs.drop xn.toNat) (RZ _ _)) rfl rfl (ag 1 [0,2,6,7] [(8,sv (xs.drop xn.toNat))] ?_));refine aa (ae (ag 1 [0,2,6,7,8] [(19,sv (xs.drop xn.toNat))] ?_));refine ai (af.f gU (fun W hW=>acy (xs.drop xn.toNat) ([37]:Bs)) rfl ?_);refine aa (aJ hF (fun jy hF=>?_) (fun jy hF=>?_))
  ·refine aR (ag 3 [6,7] [(21,sv xs),(23,iv (w6 (xn+1)))] ?_);obtain ⟨uA,h16,X9,hF⟩:=hF;refine ai (af.s (b_ (s:=xs) (l:=0) (h:=w6 (xn+1)) kr underlying9 (.inr ⟨rfl,rfl⟩) (.inl ⟨_,_,rfl,rfl⟩) uA h16 X9 (xs.take (Int.toNat (w6 (xn+1)))) (by simp)) rfl rfl (ag 1 [6,7] [(24,sv (xs.take (Int.toNat (w6 (xn+1))))),(25,pv LM 1)] ?_));refine ai (dA 0 ?_);refine ag 1 [6,7] [(26,pv LM 2)] ?_;refine ai (dA 0 ?_);refine aa (kg (E':=.blk LM (.cells #[iv 7,sv (jq xs xn),sv (mH xs xn),iv jk] 98)) 0 (aA (fun l:List Value=>cu.blk LM (.cells ⟨l⟩ 98)) (iy (rfl) (iy (aA (fun s:Bs=>Value.string ⟨⟨s⟩⟩) ((aU jy).symm)) (iy (aA (fun s:Bs=>Value.string ⟨⟨s⟩⟩) ((aU jy).symm)) (iy (rfl) rfl))))) ?_);exact fz hF
  refine ae (ag 1 [0,2,6,7,8] [(27,sv (xs.drop xn.toNat))] ?_);refine ai (af.f gU (fun W hW=>VJ (xs.drop xn.toNat)) rfl ?_);refine aa (aJ hF (fun iB hF=>?_) (fun iB hF=>?_))
  ·refine aF (aR ?_);obtain ⟨KV,hF⟩:=hF;refine aj 7 [.k (Tv (xs.drop xn.toNat) KV)] [0,2,6,7] [(9,sv ((ek (xs.drop xn.toNat)).1)),(10,iv (ek (xs.drop xn.toNat)).2)] ?_;refine aa (wH [] [] [0,1] [(0,true),(1,true),(2,true),(3,true),(4,true),(5,true),(6,true),(7,true),(8,false),(9,true),(10,false)] ?_);refine iJ 4 [6,7,9] [(34,sv xs),(37,iv (w6 (xn+(ek (xs.drop xn.toNat)).2)))] ?_;obtain ⟨Eo,h19,QX,hF⟩:=hF;refine eH.hd (fK.s (v:=sv (xs.take (Int.toNat (w6 (xn+(ek (xs.drop xn.toNat)).2))))) (b_ (s:=xs) (l:=0) (h:=(w6 (xn+(ek (xs.drop xn.toNat)).2))) kr underlying9 (.inr ⟨rfl,rfl⟩) (.inl ⟨_,_,rfl,rfl⟩) Eo h19 QX (xs.take (Int.toNat (w6 (xn+(ek (xs.drop xn.toNat)).2)))) (by simp)) rfl rfl ?_);refine iJ 1 [6,7] [(38,sv (xs.take (Int.toNat (w6 (xn+(ek (xs.drop xn.toNat)).2))))),(39,sv ((ek (xs.drop xn.toNat)).1))] ?_;obtain ⟨Dy,hF⟩:=hF;refine eH.hd (fK.f gU (fun W hW=>XA (ek (xs.drop xn.toNat)).1 Dy) rfl ?_);refine iJ 1 [6,7,38] [(40,sv (aO (ek (xs.drop xn.toNat)).1)),(41,pv LM 1)] ?_;refine eH.t rfl rfl (dA 0 ?_);refine h_ (lG.refl _) (iJ 1 [6,7,40] [(42,pv LM 2)] ?_);refine eH.t rfl rfl (dA 0 ?_);refine h_ (lG.refl _) (eH.nil (Ok.t (kg (E':=.blk LM (.cells #[iv 7,sv (jq xs xn),sv (mH xs xn),iv jk] 98)) 0 (aA (fun l:List Value=>cu.blk LM (.cells ⟨l⟩ 98)) (iy (rfl) (iy (aA (fun s:Bs=>Value.string ⟨⟨s⟩⟩) (au ((aU iB).symm) ((aG jy).symm))) (iy (aA (fun s:Bs=>Value.string ⟨⟨s⟩⟩) (au ((aU iB).symm) ((aG jy).symm))) (iy (rfl) rfl))))) ?_)));exact fz hF
  refine Ok.k (Ok.t (kg (E':=.blk LM (.cells #[iv 7,sv (jq xs xn),sv (mH xs xn),iv jk] 98)) 0 (aA (fun l:List Value=>cu.blk LM (.cells ⟨l⟩ 98)) (iy (rfl) (iy (aA (fun s:Bs=>Value.string ⟨⟨s⟩⟩) (au ((aG iB).symm) ((aG jy).symm))) (iy (aA (fun s:Bs=>Value.string ⟨⟨s⟩⟩) (au ((aG iB).symm) ((aG jy).symm))) (iy (rfl) rfl))))) ?_));exact fz hF
 refine ae (ai (af.s (v:=.agg #[iv 7,sv (jq xs xn),sv (mH xs xn),iv jk]) (aZ 0 4 #[iv 7,sv (jq xs xn),sv (mH xs xn),iv jk] rfl rfl underlying98 rfl kr kr kr) rfl rfl (ai (af.w 1 ?_))));refine aa (Ok.ret ?_);exact jf 1 [] (bu w0 g) ⟨(7,jq xs xn,mH xs xn,jk),rfl,rfl,hF⟩
def ng (xs:Bs) (jk:Int) (xn:Int):KT:=(7,jq xs xn,mH xs xn,jk)
theorem wW (xs:Bs) (jk:Int) (xn:Int) (P:KT→Prop) (h:P (ng xs jk xn)):rq xs jk xn (fun k0=>P k0):=by
 unfold ng at h;unfold rq;exact h
def kC (xs:Bs) (jk:Int) (xn:Int):KT:=(ng xs jk xn)
theorem QH (xs:Bs) (jk:Int) (xn:Int) (hp:Bd xs jk xn) (P:KT→Prop) (h:P (kC xs jk xn)):Be xs jk xn (fun k0=>P k0):=by
 unfold kC at h;unfold Be;refine ⟨?_,?_,?_,?_⟩
 ·exact mE
 ·exact mE
 ·exact mE
 refine ⟨?_,?_,?_,?_⟩
 ·exact mE
 ·exact mE
 ·exact mE
 refine ⟨fun hc0=>?_,fun hc0=>?_⟩
 ·skip;refine ⟨?_,?_,?_,?_⟩
  ·exact mE
  ·exact mE
  ·exact mE
  exact wW xs jk xn _ h
 skip;refine ⟨fun hc1=>?_,fun hc1=>?_⟩
 ·skip;refine ⟨?_,?_⟩
  ·exact mE
  refine ⟨?_,?_,?_,?_⟩
  ·exact mE
  ·exact mE
  ·exact mE
  refine ⟨?_,?_⟩
  ·exact mE
  exact wW xs jk xn _ h
 skip;exact wW xs jk xn _ h
theorem Tg (xs:Bs) (jk:Int) (xn:Int) (hp:Bd xs jk xn):Be xs jk xn (fun k0=>k0=kC xs jk xn) :=
 QH xs jk xn hp (fun z=>z=kC xs jk xn) rfl
theorem Tf {g:ak} (xs:Bs) (jk:Int) (xn:Int)  (hp:Bd xs jk xn):bC prog 96 #[sv xs,iv jk,iv xn] g (.agg (aK (kC xs jk xn))) :=
 (QG xs jk xn _ (Tg xs jk xn hp)).gv
set_option maxHeartbeats 4000000
set_option maxRecDepth 100000
theorem Gc (s c:Bs):(m_ s c).length≤s.length:=(List.dropWhile_sublist _).length_le
def aeI (s:Bs):Nat:=s.length - (m_ s [48,49,50,51,52,53,54,55,56,57]).length
theorem I4 (s:Bs):aeI s≤s.length:=Nat.sub_le _ _
theorem zM {s:Bs} (h:fV s):bU s=(aeI s:Int):=by
 have:=Gc s [48,49,50,51,52,53,54,55,56,57];unfold fV at h;unfold bU aeI;rw [fU om];omega
def OD (n x:Int):Int:=if 1000000000<(w6 ((w6 (10 * n))+(w6 (IntKind.wrap .u8 (x - 48))))) then 1000000000 else (w6 ((w6 (10 * n))+(w6 (IntKind.wrap .u8 (x - 48)))))
def wY (xs:Bs):List Int:=intsOf ((xs.take (Int.toNat (w6 ((aY xs)+(bU (xs.drop (Int.toNat (aY xs)))))))).drop (Int.toNat (aY xs)))
def jc (xs:Bs):Int×Int :=
 if (w6 ((bU (xs.drop (Int.toNat (aY xs))))+(numbV2 xs))==0)=true then (0,0) else
  (qA xs (lX xs 2 (lX xs 1 (lX xs 0 ((wY xs).foldl OD 0)))),lg xs)
theorem agy (xs:Bs):0≤aY xs∧aY xs≤xs.length:=by
 unfold aY;cases h:oW xs
 ·simp
 unfold oW at h;simp at h;have:=List.length_pos_iff.mpr h.1;simp;omega
theorem l68 (xs:Bs) (K:Int→Int→Prop) (h0:0<xs.length) (n:Int) (hK:K (qA xs (lX xs 2 (lX xs 1 (lX xs 0 n)))) (lg xs)):ym xs K n:=by
 have fin:∀ m,K (qA xs m) (lg xs)→p9 xs K 1 3 m:=fun m hm=>⟨fun h=>by simp at h,fun _=>⟨om,by simpa using h0,fun _=>hm,fun _=>hm⟩⟩
 have stp:∀ (k i:Nat) m,i<3→p9 xs K k ((i+1:Nat):Int) (lX xs (i:Int) m)→p9 xs K (k+1) (i:Int) m:=fun k i m hi h=>by
  have key:yl xs (i:Int) m (p9 xs K k):=by
   unfold yl;rw [fU om];exact h
  refine ⟨fun _=>⟨fun hc=>⟨om,?_,key⟩,fun _=>key⟩,fun h=>oe h⟩;have:=df hc;omega
 exact ⟨4,stp 3 0 n om (stp 2 1 _ om (stp 1 2 _ om (fin _ hK)))⟩
theorem NF {xs:Bs} (h:fV xs):0≤aY xs∧aY xs≤w6 ((aY xs)+(bU (xs.drop (Int.toNat (aY xs)))))∧w6 ((aY xs)+(bU (xs.drop (Int.toNat (aY xs)))))≤xs.length:=by
 have h1:=agy xs;have h2:=I4 (xs.drop (aY xs).toNat);rw [zM (iV h _)];rw [gJ] at h2;unfold fV at h;rw [fU om];omega
theorem Zh {xs:Bs} (h:fV xs):0≤numbV2 xs∧(0<numbV2 xs→w6 ((aY xs)+(bU (xs.drop (Int.toNat (aY xs)))))+1+numbV2 xs≤xs.length):=by
 have he:=NF h;unfold numbV2;generalize w6 ((aY xs)+(bU (xs.drop (Int.toNat (aY xs)))))=e at he ⊢
 split
 ·rename_i hc
  have h1:=nL (s:=xs.drop e.toNat) (p:=[46]) hc;have e1:Int.toNat 1=1:=rfl;rw [e1,zM (iV (iV h _) _)];have h2:=I4 ((xs.drop e.toNat).drop 1);rw [gJ,gJ] at h2;rw [gJ] at h1;simp at h1;omega
 omega
theorem abB (xs:Bs) (h:fV xs):ZA xs (fun a b=>(a,b)=jc xs):=by
 have he:=NF h;have hv:=Zh h;have h':=h;unfold fV at h'
 have j15:Bc xs (fun a b=>(a,b)=jc xs):=by
  refine ⟨fun hc=>?_,fun hc=>?_⟩
  ·unfold jc; rw [aU hc]
  have hK:jc xs=(qA xs (lX xs 2 (lX xs 1 (lX xs 0 ((wY xs).foldl OD 0)))),lg xs):=by unfold jc; rw [aG hc]
  have h0:0<xs.length:=by
   rcases Nat.eq_zero_or_pos xs.length with h0 | h0
   ·exfalso
    have e1:bU (xs.drop (Int.toNat (aY xs)))=0:=by
     rw [zM (iV h _)];have:=I4 (xs.drop (Int.toNat (aY xs)));rw [gJ] at this;omega
    have e2:numbV2 xs=0:=om;rw [e1,e2] at hc;exact absurd hc dc
   exact h0
  refine ⟨he.1,he.2.1,he.2.2,by rw [gJ,gG,ma]; omega,(wY xs).length+1,?_⟩
  have hB:(wY xs).length≤xs.length:=by unfold wY; rw [iA,gJ,gG]; omega
  have loop:∀ (k i:Nat) (n:Int),(wY xs).length=i+k→((wY xs).drop i).foldl OD n=(wY xs).foldl OD 0→Bb xs (fun a b=>(a,b)=jc xs) (k+1) (i:Int) n:=by
   intro k
   induction k with
   | zero =>
    intro i n hl hf;rw [eD om] at hf;have fin:ym xs (fun a b=>(a,b)=jc xs) n:=l68 xs _ h0 n (by rw [hK,← hf]; rfl);refine ⟨fun hc=>?_,fun _=>⟨fun h2=>?_,fun _=>fin⟩⟩
    ·have:=df hc;have e:(wY xs).length=i:=om;unfold wY at e;omega
    have h2:=df h2;have:=hv.2 h2;generalize w6 ((aY xs)+(bU (xs.drop (Int.toNat (aY xs)))))=e at he this ⊢;rw [fU (x:=e+1) om,fU om];exact ⟨om,om,om,fin⟩
   | succ k ih =>
    intro i n hl hf;refine ⟨fun _=>⟨om,?_,?_⟩,fun hc=>?_⟩
    ·show _<(wY xs).length;omega
    ·rw [fU om];have hd:=bX (l:=wY xs) (default:Int) (show i<(wY xs).length by omega);rw [hd,List.foldl_cons] at hf;exact ih (i+1) _ om hf
    have:=fq hc;have e:(wY xs).length=i+(k+1):=hl;unfold wY at e;omega
  exact loop _ 0 0 om rfl
 have j5:GX xs (fun a b=>(a,b)=jc xs):=by
  refine ⟨he.1,om,om,om,he.2.2,om,fun hc=>⟨om,?_,om,j15⟩,fun _=>j15⟩;have h1:=nL (s:=xs.drop _) (p:=[46]) hc;simp only [di,jW] at h1;omega
 have j6:CU xs (fun a b=>(a,b)=jc xs):=⟨fun _=>j5,fun _=>j5⟩;refine ⟨fun hc=>⟨om,?_,fun _=>j6,fun _=>j6⟩,fun _=>j6⟩;have:=List.length_pos_iff.mpr (show xs≠[] by simpa using hc);simpa using this
theorem abA {g:ak} (xs:Bs)  (hp:fV xs):bC prog 95 #[sv xs] g (.tuple #[iv (jc xs).1,iv (jc xs).2]) :=
 (Xk xs _ (abB xs hp)).gives (by rintro g' H' v _ ⟨r0,r1,rfl,rfl,hK⟩; obtain ⟨rfl,rfl⟩:r0=(jc xs).1∧r1=(jc xs).2:=⟨aA (fun z=>z.1) hK,aA (fun z=>z.2) hK⟩; rfl)
end Go.Proofs.YtdapgmigogpdcaaGreatDoor.tO
