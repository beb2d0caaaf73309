/- strings.TrimLeft at a cutset of ASCII signs. -/
import Derived.Test.YtdapgmigogpdcaaGreatDoorBlw
import Derived.Test.YtdapgmigogpdcaaGreatDoorSha
import Derived.WalkKit
import Derived.WalkSpells
import Derived.WalkLawsBesides
import Derived.Test.YtdapgmigogpdcaaGreatDoorByt
namespace Go.Proofs.YtdapgmigogpdcaaGreatDoor.BF
open _root_.Go.Proofs.Tryz Go Go.iQ Go.RowKit
set_option linter.unusedVariables false
set_option linter.unusedSimpArgs false
set_option maxHeartbeats 4000000
set_option maxRecDepth 100000
def mO (g:ak) (b:Nat) (f:UInt8→Bool):Prop:=∃ cs T fz,g b=some (.cells cs T fz)∧∀ x:UInt8,cs[x.toNat]? = some (.bool (f x))
theorem mO.mono {g g':ak} {b:Nat} {f:UInt8→Bool} (h:mO g b f) (hg:lC g g'):mO g' b f:=by
  obtain ⟨cs,T,fz,h1,h2⟩:=h
  exact ⟨cs,T,fz,hg _ _ h1,h2⟩
def YM (f:UInt8→Bool) (x:Int):Bool:=f (UInt8.ofNat x.toNat)
def inP (f:UInt8→Bool) (x:Int):Prop:=0≤x∧x≤255
theorem ajE {g:ak} {b:Nat} (f:UInt8→Bool) (x:Int) (hO:mO g b f) (hp:inP f x):bE prog 177 #[pv b 0,.int .u8 x] g (.bool (YM f x)):=fun W hW=>by
  obtain ⟨cs,T,fz,h1,h2⟩:=hO
  have hb:=hW _ _ h1
  have hx:((UInt8.ofNat x.toNat).toNat:Int)=x:=by
    have:x.toNat<256:=by have:=hp.1; have:=hp.2; omega
    rw [UInt8.toNat_ofNat',Nat.mod_eq_of_lt (by simpa using this)]
    have:=hp.1
    omega
  have:=Tryz.asciiSet_contains b (UInt8.ofNat x.toNat) (YM f x) W (by rw [Lib.cell_of_heap hb]; exact h2 _)
  rw [hx] at this
  exact this.mono fun e W' ⟨he,hw⟩=>⟨he,by subst hw; exact Below.refl _ _⟩
def QV (K:Bs→Prop) (v0:Bs):Prop :=
  K v0
def Zm (EC:UInt8→Bool) (K:Bs→Prop) (z0:Bs) (C5:Bs→Prop):Prop :=
  ((decide ((z0.length:Int)>0))=true→(0:Int)≤0∧Int.toNat 0<z0.length∧inP EC ((z0.getD (Int.toNat 0) 0).toNat:Int)∧((!(YM EC ((z0.getD (Int.toNat 0) 0).toNat:Int)))=true→QV K z0)∧((!(YM EC ((z0.getD (Int.toNat 0) 0).toNat:Int)))=false→(0:Int)≤1∧(1:Int)≤(z0.length:Int)∧(z0.length:Int)≤(z0.length:Int)∧C5 (z0.drop (Int.toNat 1))))∧((decide ((z0.length:Int)>0))=false→QV K z0)
def NA (EC:UInt8→Bool) (K:Bs→Prop):Nat→Bs→Prop
  | 0,_=>False
  | k+1,z0=>Zm EC K z0 (NA EC K k)
def afo (xs:Bs) (EC:UInt8→Bool) (K:Bs→Prop):Prop :=
  ∃ k,NA EC K k xs
theorem Zn {g:ak} (xs:Bs) {KF:Nat} (EC:UInt8→Bool) (TR:mO g KF EC) (K:Bs→Prop)
    (hF:afo xs EC K):az prog 132 #[sv xs,pv KF 0] g [] (fun g' H' v=>∃ (r0:Bs),v=sv r0∧H'=[]∧K r0):=by
  refine aP 16 func132 rfl fun w0=>?_
  refine ae (av 1 [(0,sv xs),(1,pv KF 0)] kr (aa (Ok.cut (fun a W=>∃ (v0:Bs),fJ 16 [(0,sv v0)] a∧dh w0 [] g W∧QV K v0) ?_ ?_)))
  ·
    refine Ok.block ?_
    obtain ⟨k,hF⟩:=hF
    refine gF (fun k a W=>∃ (z0:Bs),fJ 16 [(0,sv z0),(1,pv KF 0)] a∧dh w0 [] g W∧NA EC K k z0) k ?_ ?_
    ·
      exact fun _ _ u v=>⟨xs,fA u v hF⟩
    clear hF
    rintro (_ | k5) _ _ ⟨z0,q⟩
    exact (q.2.2:False).elim
    refine jn (fun hF=>?_) _ _ q
    refine aH (ae (ag 3 [0,1] [(7,.bool (decide ((z0.length:Int)>0)))] ?_))
    refine aa (aM hF (fun hc1 hF=>?_) (fun hc1 hF=>?_))
    · refine Ok.k (Ok.t (Ok.block (aH (ae (ag 2 [0,1] [(8,pv KF 0),(9,sv z0)] ?_)))))
      obtain ⟨h02,h12,hF⟩:=hF
      have he2:=aV (l:=z0) (0:UInt8) h12
      generalize hg2:(z0.getD (Int.toNat 0) 0)=e2 at he2 hF ⊢
      let A:=(e2.toNat:Int)
      refine ai (af.s (v:=.int .u8 A) (dO (k:=.i64) (i:=0) (s:=z0) (b:=e2) kr kr underlying9 h02 he2) rfl rfl ?_)
      obtain ⟨hp3,hF⟩:=hF
      refine aj 2 [.k (ajE EC A TR hp3)] [0,1] [(12,.bool (!(YM EC A)))] ?_
      refine aa (Ok.c (b:=!(YM EC A)) rfl (fun hc4=>?_) (fun hc4=>?_))
      · replace hF:=hF.1 hc4
        refine fU (aA (yQ rfl (aA (aO (Ok.t ?_)))))
        subst hg2
        exact fun _ _ u v=>⟨z0,fA u v hF⟩
      replace hF:=hF.2 hc4
      refine Ok.k (Ok.t (aS (ag 1 [1] [(13,sv z0)] ?_)))
      obtain ⟨Ei,H_,h25,hF⟩:=hF
      refine ai (af.s (bZ (s:=z0) (l:=1) (h:=(z0.length:Int)) kr underlying9 (.inl ⟨_,_,rfl,rfl⟩) (.inr ⟨rfl,rfl⟩) Ei H_ h25 (z0.drop (Int.toNat 1)) (by rw [show (z0.length:Int).toNat=z0.length from eB _,iV])) rfl rfl (ag 1 [1] [(0,sv (z0.drop (Int.toNat 1)))] ?_))
      refine bY (bJ (Ok.t ?_))
      subst hg2
      exact fun _ _ u v=>⟨k5,nl,z0.drop (Int.toNat 1),fA u v hF⟩
    refine fU (aA (aA (aO (Ok.t ?_))))
    exact fun _ _ u v=>⟨z0,fA u v hF⟩
  clear hF
  rintro _ _ ⟨v0,q⟩
  refine jn (fun hF=>?_) _ _ q
  refine ae (av 2 [(4,sv v0)] kr (aa (Ok.ret ?_)))
  exact rG (sv v0) ⟨v0,rfl,rfl,hF⟩
def afn (s:Bs) (f:UInt8→Bool):Bs:=s.dropWhile f
theorem aa2 (f:UInt8→Bool) (x:UInt8):YM f (x.toNat:Int)=f x:=by
  unfold YM
  rw [eB,UInt8.ofNat_toNat]
theorem I6 (f:UInt8→Bool) (K:Bs→Prop):∀ (s:Bs),K (s.dropWhile f)→NA f K (s.length+1) s
  | [],hK=>⟨fun h=>by simp at h,fun _=>hK⟩
  | c::s,hK=>by
    refine ⟨fun _=>?_,fun h=>by simp at h⟩
    have e0:(c::s).getD (Int.toNat 0) 0=c:=rfl
    rw [e0,aa2]
    have hc:=UInt8.toNat_lt c
    refine ⟨om,by simp,⟨om,om⟩,fun h=>?_,fun h=>?_⟩
    · rw [Eb (by simpa using h)] at hK
      exact hK
    rw [List.dropWhile_cons_of_pos (by simpa using h)] at hK
    exact ⟨om,by simp only [cK]; omega,om,I6 f K s hK⟩
theorem afm (s:Bs) (f:UInt8→Bool):afo s f (fun r=>r=afn s f):=⟨_,I6 f _ s rfl⟩
theorem afl {g:ak} (xs:Bs) {KF:Nat} (EC:UInt8→Bool) (TR:mO g KF EC)  : bE prog 132 #[sv xs,pv KF 0] g (sv (afn xs EC)) :=
  (Zn xs EC TR _ (afm xs EC)).gv
theorem zz:∀ w,(zeroValue 153).run prog w=.ok (.agg (Array.replicate 256 (.bool false))) w:=fun w=>by rw [Tryz.zeroValue153]; exact ay (fun c=>Result.ok (Value.agg c) w) kr
theorem Pp {P:Program} (W:World) (o:Obj) (arr cs:Array Value) (T:TypeId) (hs:cs.size=arr.size) (hc:∀ v ∈ cs.toList,v.oneCell'=true) :
    (storeCells ⟨W.heap.size+1,0,none⟩ cs.toList).run P ((W.alloc o).alloc (.cells arr T))=.ok () (((W.alloc o).alloc (.cells arr T)).setRow (W.heap.size+1) cs) ∧
    (((W.alloc o).alloc (.cells arr T)).setRow (W.heap.size+1) cs).heap[W.heap.size+1]? = some (.cells cs T (0,0)) ∧
    Below W.heap.size W (((W.alloc o).alloc (.cells arr T)).setRow (W.heap.size+1) cs):=by
  have hsz:(W.alloc o).heap.size=W.heap.size+1:=by show (W.heap.push o).size=_; simp
  have hh:((W.alloc o).alloc (.cells arr T)).heap[W.heap.size+1]? = some (.cells arr T (0,0)):=by
    rw [← hsz]; exact heap_alloc_new _ _
  refine ⟨?_,setRow_heap _ _ arr _ T (0,0) hh,?_⟩
  · have h1:=run_storeCells_at (P:=P) (W.heap.size+1) 0 T cs.toList 0 arr _ hh (by simp; omega) hc
    rw [h1]
    have e:(List.take (0+0) arr.toList++cs.toList++List.drop (0+0+cs.toList.length) arr.toList).toArray=cs:=by
      rw [fF (by simp; omega)]
      simp
    rw [e]
  · refine (((Below.refl W.heap.size W).alloc (fK _) o).alloc (by rw [hsz]; omega) _).trans ⟨rfl,rfl,rfl,by simp [World.setRow],fun k hk=>setRow_other _ _ _ _ om⟩
theorem alJ (s cut:Bs) (r:Bs) (W:World) (h2:2≤cut.length) (hs:cut.length<4294967281) (hascii:∀ (j:Nat) b,cut[j]? = some b→b.toNat<128) (hne:s≠[])
   (afk:∀ w b,W.heap.size≤b→w.heap[b]? = some (.cells (Lib.setCells cut) 153 (0,0))→Calls prog 132 #[sv s,pv b 0] w fun e w'=>e=.returned (sv r)∧Below w.heap.size w w') :
    Calls prog 87 #[sv s,sv cut] W fun e w'=>e=.returned (sv r)∧Below W.heap.size W w':=by
  have e197:∀ args w,(callFunc 130 args).run prog w=.ok (.enter 130 args) w:=enters_of func130 kr rfl
  have aub:∀ args w,(callFunc 131 args).run prog w=.ok (.enter 131 args) w:=enters_of func131 kr rfl
  have e199:∀ args w,(callFunc 132 args).run prog w=.ok (.enter 132 args) w:=enters_of func132 kr rfl
  have aua:∀ args w,(callFunc 133 args).run prog w=.ok (.enter 133 args) w:=enters_of func133 kr rfl
  have c1:s.isEmpty=false:=by simpa using hne
  have c2:cut.isEmpty=false:=by cases cut <;> simp at h2 ⊢
  have c3:¬ ((cut.length:Int)=1):=om
  have asH:=zz
  go_enter func87,ntmps87
  go_wp2_with (go_at_fn 131; refine (Tryz.strings_makeASCIISet zz ⟨⟨cut⟩⟩ _ hs hascii).mono ?_)
  rotate_left
  · exact absurd (Lib.setCells_size cut) asm
  obtain ⟨hst,hb2,hbl⟩:=Pp (P:=prog) W (.cells (Lib.setCells cut) 153) (Array.replicate 256 (.bool false)) (Lib.setCells cut) 153 (by rw [Lib.setCells_size,Array.size_replicate]) (fun v hv=>by
    have:=Lib.setCells_one cut
    rw [Array.all_eq_true_iff_forall_mem] at this
    exact this v (Array.mem_toList_iff.1 hv))
  rw [hst]
  simp only [Result.andThen]
  rw [Oper.upon_skip]
  generalize (((W.alloc (.cells (Lib.setCells cut) 153)).alloc (.cells (Array.replicate 256 (.bool false)) 153)).setRow (W.heap.size+1) (Lib.setCells cut))=W2 at hb2 hbl ⊢
  go_wp2_with (go_at_fn 132; refine (afk _ _ (Nat.le_succ _) hb2).mono ?_)
  rintro e w3 ⟨rfl,hw3⟩
  go_wp2
  go_ret
  exact ⟨rfl,hbl.trans (hw3.mono hbl.size)⟩

theorem Zo (cut:Bs) (W:World):Calls prog 87 #[sv [],sv cut] W fun e w'=>e=.returned (sv [])∧w'=W:=by
  go_enter func87,ntmps87
  go_wp2
  go_ret
  exact ⟨rfl,rfl⟩
def mZ (s cut:Bs):Bs:=s.dropWhile fun x=>cut.contains x
def tlP (s cut:Bs):Prop:=2≤cut.length∧cut.length<4294967281∧cut.all (fun x=>decide (x.toNat<128))=true
theorem Zp {g:ak} (s cut:Bs) (hp:tlP s cut):bE prog 87 #[sv s,sv cut] g (sv (mZ s cut)):=fun W hW=>by
  obtain ⟨h2,h3,h4⟩:=hp
  by_cases hs:s=[]
  · subst hs
    exact (Zo cut W).mono fun e w' ⟨he,hw⟩=>⟨he,by subst hw; exact Below.refl _ _⟩
  refine alJ s cut (mZ s cut) W h2 h3 (fun j b hj=>?_) hs fun w b _ hb=>?_
  · have:=l5.1 h4 b (iq hj)
    simpa using this
  · exact afl (g:=eD w) s (fun x=>cut.contains x) ⟨_,_,_,hb,fun x=>Lib.setCells_at cut x⟩ w (oZ w)
end Go.Proofs.YtdapgmigogpdcaaGreatDoor.BF
namespace Go.Proofs.YtdapgmigogpdcaaGreatDoor.tF
open _root_.Go.Proofs.Tryz Go Go.iQ jL BF
set_option linter.unusedVariables false
set_option linter.unusedSimpArgs false
set_option maxHeartbeats 4000000
set_option maxRecDepth 100000
def Ci (xs:Bs) (aI:Bs) (K:Bool→Prop):Prop :=
 K ((decide ((xs.length:Int)≥(aI.length:Int)))&&((xs.take (Int.toNat (aI.length:Int)))==aI))
def NP (xs:Bs) (aI:Bs) (K:Bool→Prop):Prop :=
 ((decide ((xs.length:Int)≥(aI.length:Int)))=true→(0:Int)≤0∧0≤(aI.length:Int)∧(aI.length:Int)≤(xs.length:Int)∧Ci xs aI K)∧((decide ((xs.length:Int)≥(aI.length:Int)))=false→Ci xs aI K)
theorem VA {g:ak} (xs:Bs) (aI:Bs) (K:Bool→Prop)
  (hF:NP xs aI K):az prog 142 #[sv xs,sv aI] g [] (fun g' H' v=>∃ (r0:Bool),v=.bool r0∧H'=[]∧K r0):=by
 refine aP 18 func142 rfl fun w0=>?_
 refine ae (av 1 [(0,sv xs),(1,sv aI)] kr (aa (gD [(4,.bool ((decide ((xs.length:Int)≥(aI.length:Int)))&&((xs.take (Int.toNat (aI.length:Int)))==aI)))] [] (Ci xs aI K) ?_ (fun hF=>?_))))
 ·
  refine aS (ag 6 [0,1] [(10,.bool (decide ((xs.length:Int)≥(aI.length:Int))))] ?_)
  refine bN 10 hF (fun hc1 hF=>?_) (fun hc1 hF=>?_)
  ·refine ag 3 [1] [(10,.bool true),(11,sv xs),(13,iv (aI.length:Int))] ?_
   obtain ⟨h02,h12,h22,hF⟩:=hF
   refine dW (af.s (bZ (s:=xs) (l:=0) (h:=(aI.length:Int)) kr underlying9 (.inr ⟨rfl,rfl⟩) (.inl ⟨_,_,rfl,rfl⟩) h02 h12 h22 (xs.take (Int.toNat (aI.length:Int))) (by simp)) rfl rfl (aj 4 [] [] [(4,.bool ((xs.take (Int.toNat (aI.length:Int)))==aI))] ?_))
   refine aa (aB 4 ((decide ((xs.length:Int)≥(aI.length:Int)))&&((xs.take (Int.toNat (aI.length:Int)))==aI)) (aZ hc1) ?_)
   exact fz hF
  refine av 8 [(4,.bool false)] kr (aa (aB 4 ((decide ((xs.length:Int)≥(aI.length:Int)))&&((xs.take (Int.toNat (aI.length:Int)))==aI)) (bW hc1) ?_))
  exact fz hF
 refine Ok.ret ?_
 exact dD ((decide ((xs.length:Int)≥(aI.length:Int)))&&((xs.take (Int.toNat (aI.length:Int)))==aI)) hF
def rM (xs:Bs) (aI:Bs):Bool:=((decide ((xs.length:Int)≥(aI.length:Int)))&&((xs.take (Int.toNat (aI.length:Int)))==aI))
theorem Je (xs:Bs) (aI:Bs) (P:Bool→Prop) (h:P (rM xs aI)):Ci xs aI (fun k0=>P k0):=by
 unfold rM at h
 unfold Ci
 exact h
def kE (xs:Bs) (aI:Bs):Bool:=(rM xs aI)
theorem VB (xs:Bs) (aI:Bs) (P:Bool→Prop) (h:P (kE xs aI)):NP xs aI (fun k0=>P k0):=by
 unfold kE at h
 unfold NP
 refine ⟨fun hc0=>?_,fun hc0=>?_⟩
 ·skip
  have hd0:=dn hc0
  refine ⟨?_,?_,?_,?_⟩
  ·first | omega | assumption | exact trivial | (have h0:=List.length_pos_iff.mpr asm; omega) | (simp; omega) | (simp at *; omega)
  ·first | omega | assumption | exact trivial | (have h0:=List.length_pos_iff.mpr asm; omega) | (simp; omega) | (simp at *; omega)
  ·first | omega | assumption | exact trivial | (have h0:=List.length_pos_iff.mpr asm; omega) | (simp; omega) | (simp at *; omega)
  exact Je xs aI _ h
 skip
 have hd0:=fZ hc0
 exact Je xs aI _ h
theorem ZG (xs:Bs) (aI:Bs):NP xs aI (fun k0=>k0=kE xs aI) :=
 VB xs aI (fun z=>z=kE xs aI) rfl
theorem Rf {g:ak} (xs:Bs) (aI:Bs)  : bE prog 142 #[sv xs,sv aI] g (.bool (kE xs aI)) :=
 (VA xs aI _ (ZG xs aI)).gv
def hpF (xs:Bs) (aI:Bs) (K:Bool→Prop):Prop :=
 K (kE xs aI)
theorem aib {g:ak} (xs:Bs) (aI:Bs) (K:Bool→Prop)
  (hF:hpF xs aI K):az prog 97 #[sv xs,sv aI] g [] (fun g' H' v=>∃ (r0:Bool),v=.bool r0∧H'=[]∧K r0):=by
 refine aP 8 func97 rfl fun w0=>?_
 refine ae (av 1 [(0,sv xs),(1,sv aI)] kr (aa (ae (aj 4 [.k (Rf xs aI)] [] [(4,.bool (kE xs aI))] ?_))))
 refine aa (Ok.ret ?_)
 exact dD (kE xs aI) hF
def zw (xs:Bs) (aI:Bs):Bool:=(kE xs aI)
theorem aic (xs:Bs) (aI:Bs) (P:Bool→Prop) (h:P (zw xs aI)):hpF xs aI (fun k0=>P k0):=by
 unfold zw at h
 unfold hpF
 exact h
theorem amD (xs:Bs) (aI:Bs):hpF xs aI (fun k0=>k0=zw xs aI) :=
 aic xs aI (fun z=>z=zw xs aI) rfl
theorem abv {g:ak} (xs:Bs) (aI:Bs)  : bE prog 97 #[sv xs,sv aI] g (.bool (zw xs aI)) :=
 (aib xs aI _ (amD xs aI)).gv
theorem nJ {s p:Bs} (h:kE s p=true):p.length≤s.length:=by
 unfold kE rM at h
 simp at h
 omega
def NQ (xs:Bs) (aI:Bs) (K:Bs→Bool→Prop):Prop :=
 ((!(kE xs aI))=true→K xs false)∧((!(kE xs aI))=false→0≤(aI.length:Int)∧((aI.length:Int):Int)≤(xs.length:Int)∧(xs.length:Int)≤(xs.length:Int)∧K (xs.drop (Int.toNat (aI.length:Int))) true)
theorem VC {g:ak} (xs:Bs) (aI:Bs) (K:Bs→Bool→Prop)
  (hF:NQ xs aI K):az prog 134 #[sv xs,sv aI] g [] (fun g' H' v=>∃ (r0:Bs),∃ (r1:Bool),v=.tuple #[sv r0,.bool r1]∧H'=[]∧K r0 r1):=by
 refine aP 15 func134 rfl fun w0=>?_
 refine ae (av 2 [(0,sv xs),(1,sv aI)] kr (aa (aH (ae (aj 4 [.k (Rf xs aI)] [0,1] [(9,.bool (!(kE xs aI)))] ?_)))))
 refine aa (aM hF (fun hc1 hF=>?_) (fun hc1 hF=>?_))
 ·refine ae (av 3 [(4,sv xs),(5,.bool false)] kr (aa (Ok.ret (aC ?_))))
  exact gH (vs:=[sv xs,.bool false]) (.inl rfl) rfl (.cons (.tmp rfl) (.cons (.tmp rfl) .nil)) (bq w0 g) ⟨xs,false,rfl,rfl,hF⟩
 let B:=(aI.length:Int)
 refine Ok.k (Ok.t (ae (av 3 [(11,sv xs),(13,iv B)] kr ?_)))
 obtain ⟨h02,h12,h22,hF⟩:=hF
 let A:=xs.drop (Int.toNat B)
 refine ai (af.s (bZ (s:=xs) (l:=B) (h:=(xs.length:Int)) kr underlying9 (.inl ⟨_,_,rfl,rfl⟩) (.inr ⟨rfl,rfl⟩) h02 h12 h22 A (QW _ _)) rfl rfl (av 2 [(4,sv A),(5,.bool true)] kr (aa (Ok.ret ?_))))
 exact gH (vs:=[sv A,.bool true]) (.inl rfl) rfl (.cons (.tmp rfl) (.cons (.tmp rfl) .nil)) (bq w0 g) ⟨A,true,rfl,rfl,hF⟩
def ku (xs:Bs) (aI:Bs):Bs×Bool:=(if (!(kE xs aI))=true then (xs,false) else (xs.drop (Int.toNat (aI.length:Int)),true))
theorem VD (xs:Bs) (aI:Bs) (P:Bs×Bool→Prop) (h:P (ku xs aI)):NQ xs aI (fun k0 k1=>P (k0,k1)):=by
 unfold ku at h
 unfold NQ
 refine ⟨fun hc0=>?_,fun hc0=>?_⟩
 ·rw [aT hc0] at h
  exact h
 rw [aF hc0] at h
 refine ⟨?_,?_,?_,?_⟩
 ·first | (have h7:=nJ (by simpa using hc0); omega) | omega | assumption | exact trivial | (have h0:=List.length_pos_iff.mpr asm; omega) | (simp; omega) | (simp at *; omega)
 ·first | (have h7:=nJ (by simpa using hc0); omega) | omega | assumption | exact trivial | (have h0:=List.length_pos_iff.mpr asm; omega) | (simp; omega) | (simp at *; omega)
 ·first | (have h7:=nJ (by simpa using hc0); omega) | omega | assumption | exact trivial | (have h0:=List.length_pos_iff.mpr asm; omega) | (simp; omega) | (simp at *; omega)
 exact h
theorem ZI (xs:Bs) (aI:Bs):NQ xs aI (fun k0 k1=>(k0,k1)=ku xs aI) :=
 VD xs aI (fun z=>z=ku xs aI) rfl
theorem ZH {g:ak} (xs:Bs) (aI:Bs)  : bE prog 134 #[sv xs,sv aI] g (.tuple #[sv ((ku xs aI).1),.bool (ku xs aI).2]) :=
 (VC xs aI _ (ZI xs aI)).gives (by rintro g' H' v _ ⟨r0,r1,rfl,rfl,hK⟩; obtain ⟨rfl,rfl⟩:r0=(ku xs aI).1∧r1=(ku xs aI).2:=⟨ay (fun z=>z.1) hK,ay (fun z=>z.2) hK⟩; rfl)
def cpF (xs:Bs) (aI:Bs) (K:Bs→Bool→Prop):Prop :=
 K (ku xs aI).1 (ku xs aI).2
theorem ajC {g:ak} (xs:Bs) (aI:Bs) (K:Bs→Bool→Prop)
  (hF:cpF xs aI K):az prog 88 #[sv xs,sv aI] g [] (fun g' H' v=>∃ (r0:Bs),∃ (r1:Bool),v=.tuple #[sv r0,.bool r1]∧H'=[]∧K r0 r1):=by
 refine aP 11 func88 rfl fun w0=>?_
 refine ae (av 2 [(0,sv xs),(1,sv aI)] kr (aa (ae (aj 7 [.k (ZH xs aI)] [] [(4,sv ((ku xs aI).1)),(5,.bool (ku xs aI).2)] ?_))))
 refine aa (Ok.ret ?_)
 exact gH (vs:=[sv ((ku xs aI).1),.bool (ku xs aI).2]) (.inl rfl) rfl (.cons (.tmp rfl) (.cons (.tmp rfl) .nil)) (bq w0 g) ⟨(ku xs aI).1,(ku xs aI).2,rfl,rfl,hF⟩
def pO (xs:Bs) (aI:Bs):Bs×Bool:=((ku xs aI).1,(ku xs aI).2)
theorem ajD (xs:Bs) (aI:Bs) (P:Bs×Bool→Prop) (h:P (pO xs aI)):cpF xs aI (fun k0 k1=>P (k0,k1)):=by
 unfold pO at h
 unfold cpF
 exact h
theorem aqd (xs:Bs) (aI:Bs):cpF xs aI (fun k0 k1=>(k0,k1)=pO xs aI) :=
 ajD xs aI (fun z=>z=pO xs aI) rfl
theorem aqc {g:ak} (xs:Bs) (aI:Bs)  : bE prog 88 #[sv xs,sv aI] g (.tuple #[sv ((pO xs aI).1),.bool (pO xs aI).2]) :=
 (ajC xs aI _ (aqd xs aI)).gives (by rintro g' H' v _ ⟨r0,r1,rfl,rfl,hK⟩; obtain ⟨rfl,rfl⟩:r0=(pO xs aI).1∧r1=(pO xs aI).2:=⟨ay (fun z=>z.1) hK,ay (fun z=>z.2) hK⟩; rfl)
def Bu (xs:Bs) (K:Int→Prop):Prop :=
 tlP xs ([48,49,50,51,52,53,54,55,56,57]:Bs)∧K (w6 ((xs.length:Int) - ((mZ xs ([48,49,50,51,52,53,54,55,56,57]:Bs)).length:Int)))
theorem Qg {g:ak} (xs:Bs) (K:Int→Prop)
  (hF:Bu xs K):az prog 139 #[sv xs] g [] (fun g' H' v=>∃ (r0:Int),v=iv r0∧H'=[]∧K r0):=by
 refine aP 9 func139 rfl fun w0=>?_
 refine ae (av 1 [(0,sv xs)] kr (aa (aH (aS ?_))))
 obtain ⟨hp1,hF⟩:=hF
 let B:=([48,49,50,51,52,53,54,55,56,57]:Bs)
 let A:=w6 ((xs.length:Int) - ((mZ xs B).length:Int))
 refine aj 7 [.k (Zp xs B hp1)] [] [(2,iv A)] ?_
 refine aa (Ok.ret ?_)
 exact rG (iv A) ⟨_,rfl,rfl,hF⟩
def bS (xs:Bs):Int:=(w6 ((xs.length:Int) - ((mZ xs ([48,49,50,51,52,53,54,55,56,57]:Bs)).length:Int)))
theorem Qh (xs:Bs) (P:Int→Prop) (h:P (bS xs)):Bu xs (fun k0=>P k0):=by
 unfold bS at h
 unfold Bu
 refine ⟨?_,?_⟩
 ·first | exact ⟨by decide,by decide,by decide⟩ | omega | assumption | exact trivial | (have h0:=List.length_pos_iff.mpr asm; omega) | (simp; omega) | (simp at *; omega)
 exact h
theorem Un (xs:Bs):Bu xs (fun k0=>k0=bS xs) :=
 Qh xs (fun z=>z=bS xs) rfl
theorem Ky {g:ak} (xs:Bs)  : bE prog 139 #[sv xs] g (iv (bS xs)) :=
 (Qg xs _ (Un xs)).gv
def oU (xs:Bs):Bool :=
 ((!(xs==([]:Bs)))&&((((xs.getD (Int.toNat 0) 0).toNat:Int)==43)||(((xs.getD (Int.toNat 0) 0).toNat:Int)==45)))
def aX (xs:Bs):Int :=
 (if (oU xs)=true then 1 else 0)
def numbV2 (xs:Bs):Int :=
 (if (zw (xs.drop (Int.toNat (w6 ((aX xs)+(bS (xs.drop (Int.toNat (aX xs)))))))) ([46]:Bs))=true then (bS ((xs.drop (Int.toNat (w6 ((aX xs)+(bS (xs.drop (Int.toNat (aX xs)))))))).drop (Int.toNat 1))) else 0)
def kX (xs:Bs):Int :=
 (if (decide ((numbV2 xs)>0))=true then w6 ((w6 ((aX xs)+(bS (xs.drop (Int.toNat (aX xs))))))+(w6 (1+(numbV2 xs)))) else w6 ((aX xs)+(bS (xs.drop (Int.toNat (aX xs))))))
def kW (xs:Bs):Bs :=
 (if (decide ((numbV2 xs)>0))=true then (xs.take (Int.toNat (w6 ((w6 ((w6 ((aX xs)+(bS (xs.drop (Int.toNat (aX xs))))))+1))+(numbV2 xs))))).drop (Int.toNat (w6 ((w6 ((aX xs)+(bS (xs.drop (Int.toNat (aX xs))))))+1))) else ([]:Bs))
def lV (xs:Bs) (v0:Int) (z0:Int):Int :=
 (if (decide (v0<((kW xs).length:Int)))=true then (if 1000000000<(w6 ((w6 (10 * z0))+(w6 (IntKind.wrap .u8 ((((kW xs).getD v0.toNat 0).toNat:Int) - 48))))) then 1000000000 else (w6 ((w6 (10 * z0))+(w6 (IntKind.wrap .u8 ((((kW xs).getD v0.toNat 0).toNat:Int) - 48)))))) else (if 1000000000<(w6 ((w6 (10 * z0))+(w6 (IntKind.wrap .u8 (48 - 48))))) then 1000000000 else (w6 ((w6 (10 * z0))+(w6 (IntKind.wrap .u8 (48 - 48)))))))
def qx (xs:Bs) (z0:Int):Int :=
 (if (((xs.getD (Int.toNat 0) 0).toNat:Int)==45)=true then w6 (0 - z0) else z0)
def x9 (xs:Bs) (v0:Int) (z0:Int) (C68:Int→Int→Prop):Prop :=
 C68 (w6 (v0+1)) (lV xs v0 z0)
def Gp (xs:Bs) (K:Int→Int→Prop) (z0:Int):Prop :=
 K (qx xs z0) (kX xs)
def RO (xs:Bs) (K:Int→Int→Prop) (v0:Int) (z0:Int) (C68:Int→Int→Prop):Prop :=
 (decide (v0<3)=true→((decide (v0<((kW xs).length:Int)))=true→0≤v0∧v0.toNat<(kW xs).length∧x9 xs v0 z0 C68)∧((decide (v0<((kW xs).length:Int)))=false→x9 xs v0 z0 C68))∧(decide (v0<3)=false→(0:Int)≤0∧Int.toNat 0<xs.length∧((((xs.getD (Int.toNat 0) 0).toNat:Int)==45)=true→Gp xs K z0)∧((((xs.getD (Int.toNat 0) 0).toNat:Int)==45)=false→Gp xs K z0))
def pY (xs:Bs) (K:Int→Int→Prop):Nat→Int→Int→Prop
 | 0,_,_=>False
 | k+1,v0,z0=>RO xs K v0 z0 (pY xs K k)
def x_ (xs:Bs) (K:Int→Int→Prop) (q0:Int):Prop :=
 ∃ k,pY xs K k 0 q0
def RP (xs:Bs) (K:Int→Int→Prop) (y0:Int) (q0:Int) (C39:Int→Int→Prop):Prop :=
 ((decide (y0<((intsOf ((xs.take (Int.toNat (w6 ((aX xs)+(bS (xs.drop (Int.toNat (aX xs)))))))).drop (Int.toNat (aX xs)))).length:Int)))=true→0≤y0∧y0.toNat<(intsOf ((xs.take (Int.toNat (w6 ((aX xs)+(bS (xs.drop (Int.toNat (aX xs)))))))).drop (Int.toNat (aX xs)))).length∧C39 (w6 (y0+1)) (if 1000000000<(w6 ((w6 (10 * q0))+(w6 (IntKind.wrap .u8 (((intsOf ((xs.take (Int.toNat (w6 ((aX xs)+(bS (xs.drop (Int.toNat (aX xs)))))))).drop (Int.toNat (aX xs)))).getD y0.toNat default) - 48))))) then 1000000000 else (w6 ((w6 (10 * q0))+(w6 (IntKind.wrap .u8 (((intsOf ((xs.take (Int.toNat (w6 ((aX xs)+(bS (xs.drop (Int.toNat (aX xs)))))))).drop (Int.toNat (aX xs)))).getD y0.toNat default) - 48)))))))∧((decide (y0<((intsOf ((xs.take (Int.toNat (w6 ((aX xs)+(bS (xs.drop (Int.toNat (aX xs)))))))).drop (Int.toNat (aX xs)))).length:Int)))=false→((decide ((numbV2 xs)>0))=true→0≤(w6 ((w6 ((aX xs)+(bS (xs.drop (Int.toNat (aX xs))))))+1))∧((w6 ((w6 ((aX xs)+(bS (xs.drop (Int.toNat (aX xs))))))+1)):Int)≤(w6 ((w6 ((w6 ((aX xs)+(bS (xs.drop (Int.toNat (aX xs))))))+1))+(numbV2 xs)))∧(w6 ((w6 ((w6 ((aX xs)+(bS (xs.drop (Int.toNat (aX xs))))))+1))+(numbV2 xs)))≤(xs.length:Int)∧x_ xs K q0)∧((decide ((numbV2 xs)>0))=false→x_ xs K q0))
def A8 (xs:Bs) (K:Int→Int→Prop):Nat→Int→Int→Prop
 | 0,_,_=>False
 | k+1,y0,q0=>RP xs K y0 q0 (A8 xs K k)
def A9 (xs:Bs) (K:Int→Int→Prop):Prop :=
 (((w6 ((bS (xs.drop (Int.toNat (aX xs))))+(numbV2 xs)))==0)=true→K 0 0)∧(((w6 ((bS (xs.drop (Int.toNat (aX xs))))+(numbV2 xs)))==0)=false→0≤aX xs∧((aX xs):Int)≤(w6 ((aX xs)+(bS (xs.drop (Int.toNat (aX xs))))))∧(w6 ((aX xs)+(bS (xs.drop (Int.toNat (aX xs))))))≤(xs.length:Int)∧((xs.take (Int.toNat (w6 ((aX xs)+(bS (xs.drop (Int.toNat (aX xs)))))))).drop (Int.toNat (aX xs))).length≤maxLen∧∃ k,A8 xs K k 0 0)
def Gq (xs:Bs) (K:Int→Int→Prop):Prop :=
 0≤aX xs∧((aX xs):Int)≤(xs.length:Int)∧(xs.length:Int)≤(xs.length:Int)∧0≤(w6 ((aX xs)+(bS (xs.drop (Int.toNat (aX xs))))))∧((w6 ((aX xs)+(bS (xs.drop (Int.toNat (aX xs)))))):Int)≤(xs.length:Int)∧(xs.length:Int)≤(xs.length:Int)∧((zw (xs.drop (Int.toNat (w6 ((aX xs)+(bS (xs.drop (Int.toNat (aX xs)))))))) ([46]:Bs))=true→(0:Int)≤1∧(1:Int)≤((xs.drop (Int.toNat (w6 ((aX xs)+(bS (xs.drop (Int.toNat (aX xs)))))))).length:Int)∧((xs.drop (Int.toNat (w6 ((aX xs)+(bS (xs.drop (Int.toNat (aX xs)))))))).length:Int)≤((xs.drop (Int.toNat (w6 ((aX xs)+(bS (xs.drop (Int.toNat (aX xs)))))))).length:Int)∧A9 xs K)∧((zw (xs.drop (Int.toNat (w6 ((aX xs)+(bS (xs.drop (Int.toNat (aX xs)))))))) ([46]:Bs))=false→A9 xs K)
def CQ (xs:Bs) (K:Int→Int→Prop):Prop :=
 (oU xs=true→Gq xs K)∧(oU xs=false→Gq xs K)
def YD (xs:Bs) (K:Int→Int→Prop):Prop :=
 ((!(xs==([]:Bs)))=true→(0:Int)≤0∧Int.toNat 0<xs.length∧((((xs.getD (Int.toNat 0) 0).toNat:Int)==43)=true→CQ xs K)∧((((xs.getD (Int.toNat 0) 0).toNat:Int)==43)=false→CQ xs K))∧((!(xs==([]:Bs)))=false→CQ xs K)
abbrev nd (xs:Bs):Bs:=xs.drop (Int.toNat (aX xs))
abbrev nw (xs:Bs):Int:=w6 ((aX xs)+(bS (nd xs)))
theorem We {g:ak} (xs:Bs) (K:Int→Int→Prop)
  (hF:YD xs K):az prog 95 #[sv xs] g [] (fun g' H' v=>∃ (r0:Int),∃ (r1:Int),v=.tuple #[iv r0,iv r1]∧H'=[]∧K r0 r1):=by
 refine aP 101 func95 rfl fun w0=>?_
 refine ae (av 2 [(0,sv xs)] kr (aa (ae (ag 1 [0] [(4,iv 0)] ?_))))
 refine aa (iO g [(0,sv xs),(4,iv (aX xs))] [] (Gq xs K) ?_ (fun Xf i0 hF=>?_))
 ·
  refine iO g [(0,sv xs),(4,iv 0),(26,.bool (oU xs))] [] (CQ xs K) ?_ (fun gj6 Z0 hF=>?_)
  ·
   refine aS (aj 3 [] [0,4] [(17,.bool (!(xs==([]:Bs))))] ?_)
   refine bN 17 hF (fun d0 hF=>?_) (fun d0 hF=>?_)
   ·refine ag 1 [0,4] [(17,.bool true),(18,sv xs)] ?_
    obtain ⟨V0,ac5,hF⟩:=hF
    have g0:=aV (l:=xs) (0:UInt8) ac5
    generalize Q0:(xs.getD (Int.toNat 0) 0)=e21 at g0 hF ⊢
    let D:=(e21.toNat:Int)
    refine dW (af.s (v:=.int .u8 D) (dO (k:=.i64) (i:=0) (s:=xs) (b:=e21) kr kr underlying9 V0 g0) rfl rfl (ag 2 [0,4,17] [(21,.bool (D==43))] ?_))
    refine Ok.a 21 (D==43) rfl (fun x0=>?_) (fun x0=>?_)
    ·replace hF:=hF.1 x0
     refine ag 5 [0,4] [(26,.bool true)] ?_
     refine bY (Ok.t ?_)
     subst Q0
     refine aB 26 (oU xs) (au (df x0) (aZ d0)) ?_
     exact fg hF
    replace hF:=hF.2 x0
    refine ag 1 [0,4,17] [(21,.bool false),(22,sv xs)] ?_
    refine dW (af.s (v:=.int .u8 D) (dO (k:=.i64) (i:=0) (s:=xs) (b:=e21) kr kr underlying9 V0 g0) rfl rfl (ag 3 [0,4] [(26,.bool (D==45))] ?_))
    refine bY (Ok.t ?_)
    subst Q0
    refine aB 26 (oU xs) (au (bR x0) (aZ d0)) ?_
    exact fg hF
   refine ag 9 [0,4] [(26,.bool false)] ?_
   refine aa (aB 26 (oU xs) (bW d0) ?_)
   exact fg hF
  refine aM hF (fun m0 hF=>?_) (fun m0 hF=>?_)
  ·refine aS (ag 1 [0] [(4,iv 1)] ?_)
   refine aa (gW 4 rfl (show (iv 1:Value)=iv (aX xs) from ay (Value.int .i64) ((aT m0).symm)) ?_)
   exact fun _ _ u v=>⟨gj6,Z0,fA u v hF⟩
  refine Ok.k (Ok.t (gW 4 rfl (show (iv 0:Value)=iv (aX xs) from ay (Value.int .i64) ((aF m0).symm)) ?_))
  exact fun _ _ u v=>⟨gj6,Z0,fA u v hF⟩
 refine ae (ag 2 [0,4] [(27,sv xs),(28,iv (aX xs))] ?_)
 obtain ⟨h01,h11,h21,hF⟩:=hF
 refine ai (af.s (bZ (s:=xs) (l:=aX xs) (h:=(xs.length:Int)) kr underlying9 (.inl ⟨_,_,rfl,rfl⟩) (.inr ⟨rfl,rfl⟩) h01 h11 h21 (nd xs) (QW _ _)) rfl rfl (aj 2 [.k (Ky (nd xs))] [0,4] [(5,iv (bS (nd xs)))] ?_))
 refine aa (ae (ag 1 [0,4,5] [(6,iv 0)] ?_))
 refine aa (iO Xf [(0,sv xs),(4,iv (aX xs)),(5,iv (bS (nd xs))),(6,iv (numbV2 xs))] [] (A9 xs K) ?_ (fun atV e0 hF=>?_))
 ·
  refine ae (ag 4 [0,4,5,6] [(31,sv xs),(34,iv (nw xs))] ?_)
  obtain ⟨MK,h116,apk,hF⟩:=hF
  refine ai (af.s (bZ (s:=xs) (l:=nw xs) (h:=(xs.length:Int)) kr underlying9 (.inl ⟨_,_,rfl,rfl⟩) (.inr ⟨rfl,rfl⟩) MK h116 apk (xs.drop (Int.toNat (nw xs))) (QW _ _)) rfl rfl (ag 1 [0,4,5,6] [(7,sv (xs.drop (Int.toNat (nw xs))))] ?_))
  refine aa (ae (ag 1 [0,4,5,6,7] [(36,sv (xs.drop (Int.toNat (nw xs))))] ?_))
  refine ai (af.f gT (fun W hW=>abv (xs.drop (Int.toNat (nw xs))) ([46]:Bs)) rfl ?_)
  refine aa (aM hF (fun n0 hF=>?_) (fun n0 hF=>?_))
  ·refine aS (ag 1 [0,4,5] [(38,sv (xs.drop (Int.toNat (nw xs))))] ?_)
   obtain ⟨MJ,MC,acV,hF⟩:=hF
   refine ai (af.s (bZ (s:=(xs.drop (Int.toNat (nw xs)))) (l:=1) (h:=((xs.drop (Int.toNat (nw xs))).length:Int)) kr underlying9 (.inl ⟨_,_,rfl,rfl⟩) (.inr ⟨rfl,rfl⟩) MJ MC acV ((xs.drop (Int.toNat (nw xs))).drop (Int.toNat 1)) (by rw [show ((xs.drop (Int.toNat (nw xs))).length:Int).toNat=(xs.drop (Int.toNat (nw xs))).length from eB _,iV])) rfl rfl (aj 2 [.k (Ky ((xs.drop (Int.toNat (nw xs))).drop (Int.toNat 1)))] [0,4,5] [(6,iv (bS ((xs.drop (Int.toNat (nw xs))).drop (Int.toNat 1))))] ?_))
   refine aa (gW 6 rfl (show (iv (bS ((xs.drop (Int.toNat (nw xs))).drop (Int.toNat 1))):Value)=iv (numbV2 xs) from ay (Value.int .i64) ((aT n0).symm)) ?_)
   exact fg hF
  refine Ok.k (Ok.t (gW 6 rfl (show (iv 0:Value)=iv (numbV2 xs) from ay (Value.int .i64) ((aF n0).symm)) ?_))
  exact fg hF
 refine aH (ae (ag 4 [0,4,5,6] [(44,.bool ((w6 ((bS (nd xs))+(numbV2 xs)))==0))] ?_))
 refine aa (aM hF (fun hc2 hF=>?_) (fun hc2 hF=>?_))
 ·refine ae (av 2 [(2,iv 0),(3,iv 0)] kr (aa (Ok.ret (aC ?_))))
  exact gH (vs:=[iv 0,iv 0]) (.inl rfl) rfl (.cons (.tmp rfl) (.cons (.tmp rfl) .nil)) (i0.trans e0) ⟨0,0,rfl,rfl,hF⟩
 refine Ok.k (Ok.t (ae (ai (af.a (z:=iv 0) (cs:=#[iv 0]) kr kr rfl fun pQ=>?_))))
 refine ai (dz 0 ?_)
 refine aa (ae (ag 2 [0,4,5,6] [(8,pv pQ 0),(9,.func (.func 140) #[] #[pv pQ 0])] ?_))
 refine aa (aH (ae (ag 5 [0,4,5,6,8,9] [(46,sv xs),(47,iv (aX xs)),(50,iv (nw xs))] ?_)))
 obtain ⟨qA,ru,TU,hF⟩:=hF
 refine ai (af.s (bZ (s:=xs) (l:=aX xs) (h:=nw xs) kr underlying9 (.inl ⟨_,_,rfl,rfl⟩) (.inl ⟨_,_,rfl,rfl⟩) qA ru TU ((xs.take (Int.toNat (nw xs))).drop (Int.toNat (aX xs))) rfl) rfl rfl ?_)
 obtain ⟨hm5,hF⟩:=hF
 refine ai (oG (s:=(xs.take (Int.toNat (nw xs))).drop (Int.toNat (aX xs))) kr underlying9 underlying26 underlying5 hm5 rfl fun g5 a5 c5 hx5 Bl=>?_)
 refine ag 2 [0,4,5,6,8,9] [(52,.slice a5 (intsOf ((xs.take (Int.toNat (nw xs))).drop (Int.toNat (aX xs)))).length c5),(53,iv ((intsOf ((xs.take (Int.toNat (nw xs))).drop (Int.toNat (aX xs)))).length:Int)),(54,iv 0)] ?_
 refine aa (Ok.block ?_)
 obtain ⟨k,hF⟩:=hF
 refine gF (fun k a W=>∃ j0:ak,aY w0 g5 j0∧∃ (y0:Int) (q0:Int),fJ 101 [(0,sv xs),(4,iv (aX xs)),(5,iv (bS (nd xs))),(6,iv (numbV2 xs)),(8,pv pQ 0),(9,.func (.func 140) #[] #[pv pQ 0]),(52,.slice a5 (intsOf ((xs.take (Int.toNat (nw xs))).drop (Int.toNat (aX xs)))).length c5),(53,iv ((intsOf ((xs.take (Int.toNat (nw xs))).drop (Int.toNat (aX xs)))).length:Int)),(54,iv y0)] a∧dh w0 [.blk pQ (.cells #[iv q0] 3)] j0 W∧A8 xs K k y0 q0) k ?_ ?_
 ·
  exact fun _ _ u v=>⟨g5,bq w0 g5,0,0,fA u v hF⟩
 clear hF
 rintro (_ | k39) _ _ ⟨j0,s0,y0,q0,q⟩
 exact (q.2.2:False).elim
 refine jn (fun hF=>?_) _ _ q
 replace Bl:=Bl.mono s0.1
 refine ae (ag 1 [0,4,5,6,8,9,52,53,54] [(55,.bool (decide (y0<((intsOf ((xs.take (Int.toNat (nw xs))).drop (Int.toNat (aX xs)))).length:Int))))] ?_)
 refine aa (aH (aM hF (fun hc6 hF=>?_) (fun hc6 hF=>?_)))
 ·refine Ok.k (Ok.t (aH (Ok.block (aH (aS ?_)))))
  obtain ⟨MG,h18,hF⟩:=hF
  have Ml:=aV (l:=(intsOf ((xs.take (Int.toNat (nw xs))).drop (Int.toNat (aX xs))))) default h18
  generalize YP:((intsOf ((xs.take (Int.toNat (w6 ((aX xs)+(bS (xs.drop (Int.toNat (aX xs)))))))).drop (Int.toNat (aX xs)))).getD y0.toNat default)=e8 at Ml hF ⊢
  refine ai (af.bf (e:=.int .u8) rfl rfl underlying26 kr Bl MG Ml rfl fun q7 o7 cs7 _ o0 S9=>?_)
  obtain rfl:=S9
  replace o0:At j0 q7 o7 [.int .u8 e8]:=o0
  refine aj 2 [.a 0 o0] [0,4,5,6,8,9,52,53,54] [(11,.int .u8 e8)] ?_
  refine aa (aS (ag 2 [0,4,5,6,8,9,52,53,54] [(58,.func (.func 140) #[] #[pv pQ 0]),(59,.int .u8 e8)] ?_))
  let C:=w6 ((w6 (10 * q0))+(w6 (IntKind.wrap .u8 (e8 - 48))))
  refine ai (bM (args:=#[.int .u8 e8,pv pQ 0]) 10 [(0,.int .u8 e8),(1,pv pQ 0)] gT func140 rfl rfl rfl rfl (aS (aj 7 [.e 0] [] [(1,pv pQ 0),(9,iv (if 1000000000<C then 1000000000 else C))] ?_)))
  refine ai (dz 0 ?_)
  let A:=intsOf ((xs.take (Int.toNat (nw xs))).drop (Int.toNat (aX xs)))
  refine bY (bu (vs:=[]) (.inr rfl) rfl .nil rfl (bY (bJ (Ok.t (aS (av 2 [(0,sv xs),(4,iv (aX xs)),(5,iv (bS (nd xs))),(6,iv (numbV2 xs)),(8,pv pQ 0),(9,.func (.func 140) #[] #[pv pQ 0]),(52,.slice a5 A.length c5),(53,iv (A.length:Int)),(54,iv (w6 (y0+1)))] kr (bY (Ok.t ?_))))))))
  subst YP
  let B:=w6 ((w6 (10 * q0))+(w6 (IntKind.wrap .u8 ((A.getD y0.toNat default) - 48))))
  exact fun _ _ u v=>⟨k39,nl,j0,s0,w6 (y0+1),(if 1000000000<B then 1000000000 else B),fA u v hF⟩
 refine fU (aA (aA (aO (Ok.t (ae (ag 4 [0,6,8,9] [(12,iv (nw xs))] ?_))))))
 refine aa (ae (ag 1 [0,6,8,9,12] [(13,sv ([]:Bs))] ?_))
 refine aa (iO j0 [(0,sv xs),(8,pv pQ 0),(9,.func (.func 140) #[] #[pv pQ 0]),(12,iv (kX xs)),(13,sv (kW xs))] [.blk pQ (.cells #[iv q0] 3)] (x_ xs K q0) ?_ (fun t0 ahW hF=>?_))
 ·
  refine ae (ag 2 [0,6,8,9,12,13] [(66,.bool (decide ((numbV2 xs)>0)))] ?_)
  refine aa (aM hF (fun b0 hF=>?_) (fun b0 hF=>?_))
  ·refine ae (ag 7 [0,6,8,9,12] [(67,sv xs),(69,iv (w6 ((nw xs)+1))),(73,iv (w6 ((w6 ((nw xs)+1))+(numbV2 xs))))] ?_)
   obtain ⟨Ie,ME,Mx,hF⟩:=hF
   refine ai (af.s (bZ (s:=xs) (l:=(w6 ((nw xs)+1))) (h:=(w6 ((w6 ((nw xs)+1))+(numbV2 xs)))) kr underlying9 (.inl ⟨_,_,rfl,rfl⟩) (.inl ⟨_,_,rfl,rfl⟩) Ie ME Mx ((xs.take (Int.toNat (w6 ((w6 ((nw xs)+1))+(numbV2 xs))))).drop (Int.toNat (w6 ((nw xs)+1)))) rfl) rfl rfl (ag 1 [0,6,8,9,12] [(13,sv ((xs.take (Int.toNat (w6 ((w6 ((nw xs)+1))+(numbV2 xs))))).drop (Int.toNat (w6 ((nw xs)+1)))))] ?_))
   refine aa (aS (ag 5 [0,8,9,13] [(12,iv (w6 ((nw xs)+(w6 (1+(numbV2 xs))))))] ?_))
   refine aa (gW 12 rfl (show (iv (w6 ((nw xs)+(w6 (1+(numbV2 xs))))):Value)=iv (kX xs) from ay (Value.int .i64) ((aT b0).symm)) (gW 13 rfl (show (sv ((xs.take (Int.toNat (w6 ((w6 ((nw xs)+1))+(numbV2 xs))))).drop (Int.toNat (w6 ((nw xs)+1)))):Value)=sv (kW xs) from ay (fun s:Bs=>Value.string ⟨⟨s⟩⟩) ((aT b0).symm)) ?_))
   exact fg hF
  refine Ok.k (Ok.t (gW 12 rfl (show (iv (nw xs):Value)=iv (kX xs) from ay (Value.int .i64) ((aF b0).symm)) (gW 13 rfl (show (sv ([]:Bs):Value)=sv (kW xs) from ay (fun s:Bs=>Value.string ⟨⟨s⟩⟩) ((aF b0).symm)) ?_)))
  exact fg hF
 refine aH (ae (ag 1 [0,8,9,12,13] [(79,iv 0)] ?_))
 refine aa (Ok.block ?_)
 obtain ⟨k,hF⟩:=hF
 refine gF (fun k a W=>∃ u0:ak,aY w0 t0 u0∧∃ (v0:Int) (z0:Int),fJ 101 [(0,sv xs),(8,pv pQ 0),(9,.func (.func 140) #[] #[pv pQ 0]),(12,iv (kX xs)),(13,sv (kW xs)),(79,iv v0)] a∧dh w0 [.blk pQ (.cells #[iv z0] 3)] u0 W∧pY xs K k v0 z0) k ?_ ?_
 ·
  exact fun _ _ u v=>⟨t0,bq w0 t0,0,q0,fA u v hF⟩
 clear hF
 rintro (_ | k68) _ _ ⟨u0,f0,v0,z0,q⟩
 exact (q.2.2:False).elim
 refine jn (fun hF=>?_) _ _ q
 refine ae (ag 1 [0,8,9,12,13,79] [(80,.bool (decide (v0<3)))] ?_)
 refine aa (aH (aM hF (fun mW hF=>?_) (fun mW hF=>?_)))
 ·refine Ok.k (Ok.t (iO u0 [(0,sv xs),(8,pv pQ 0),(9,.func (.func 140) #[] #[pv pQ 0]),(12,iv (kX xs)),(13,sv (kW xs)),(79,iv v0)] [.blk pQ (.cells #[iv (lV xs v0 z0)] 3)] (x9 xs v0 z0 (pY xs K k68)) ?_ (fun apS ahV hF=>?_)))
  ·
   refine Ok.block (ae (ag 2 [0,8,9,12,13,79] [(14,iv v0)] ?_))
   refine aa (ae (ag 4 [0,8,9,12,13,14,79] [(85,.bool (decide (v0<((kW xs).length:Int))))] ?_))
   refine aa (aM hF (fun a0 hF=>?_) (fun a0 hF=>?_))
   ·refine aS (ag 3 [0,8,9,12,13,79] [(86,.func (.func 140) #[] #[pv pQ 0]),(87,sv (kW xs)),(88,iv v0)] ?_)
    obtain ⟨MM,Dz,hF⟩:=hF
    have K0:=aV (l:=kW xs) (0:UInt8) Dz
    generalize Hy:((kW xs).getD v0.toNat 0)=e11 at K0 hF ⊢
    refine ai (af.s (v:=.int .u8 (e11.toNat:Int)) (dO (k:=.i64) (i:=v0) (s:=kW xs) (b:=e11) kr kr underlying9 MM K0) rfl rfl (ai (bM (args:=#[.int .u8 (e11.toNat:Int),pv pQ 0]) 10 [(0,.int .u8 (e11.toNat:Int)),(1,pv pQ 0)] gT func140 rfl rfl rfl rfl (aS (aj 7 [.e 0] [] [(1,pv pQ 0),(9,iv (if 1000000000<(w6 ((w6 (10 * z0))+(w6 (IntKind.wrap .u8 ((e11.toNat:Int) - 48))))) then 1000000000 else (w6 ((w6 (10 * z0))+(w6 (IntKind.wrap .u8 ((e11.toNat:Int) - 48)))))))] ?_)))))
    refine ai (dz 0 ?_)
    refine bY (bu (vs:=[]) (.inr rfl) rfl .nil rfl (bY (bJ (Ok.t ?_))))
    subst Hy
    refine jZ (E':=.blk pQ (.cells #[iv (lV xs v0 z0)] 3)) 0 (ay (fun l:List Value=>b_.blk pQ (.cells ⟨l⟩ 3)) (iw (ay (Value.int .i64) ((aT a0).symm)) rfl)) ?_
    exact fg hF
   refine aS (ag 1 [0,8,9,12,13,79] [(91,.func (.func 140) #[] #[pv pQ 0])] ?_)
   let E:=IntKind.wrap .u8 (48 - 48)
   refine ai (bM (args:=#[.int .u8 48,pv pQ 0]) 10 [(0,.int .u8 48),(1,pv pQ 0)] gT func140 rfl rfl rfl rfl (aS (aj 7 [.e 0] [] [(1,pv pQ 0),(9,iv (if 1000000000<(w6 ((w6 (10 * z0))+(w6 E))) then 1000000000 else (w6 ((w6 (10 * z0))+(w6 E)))))] ?_)))
   refine ai (dz 0 ?_)
   refine bY (bu (vs:=[]) (.inr rfl) rfl .nil rfl (bY (bJ (Ok.t (jZ (E':=.blk pQ (.cells #[iv (lV xs v0 z0)] 3)) 0 (ay (fun l:List Value=>b_.blk pQ (.cells ⟨l⟩ 3)) (iw (ay (Value.int .i64) ((aF a0).symm)) rfl)) ?_)))))
   exact fg hF
  refine aS (ag 2 [0,8,9,12,13] [(79,iv (w6 (v0+1)))] ?_)
  refine bY (Ok.t ?_)
  exact fun _ _ u v=>⟨k68,nl,apS,f0.trans ahV,w6 (v0+1),lV xs v0 z0,fA u v hF⟩
 refine fU (aA (aA (aO (Ok.t (iO u0 [(8,pv pQ 0),(12,iv (kX xs))] [.blk pQ (.cells #[iv (qx xs z0)] 3)] (Gp xs K z0) ?_ (fun atL ahU hF=>?_))))))
 ·
  refine ae (ag 1 [8,12] [(94,sv xs)] ?_)
  obtain ⟨Ua,h112,hF⟩:=hF
  have Y0:=aV (l:=xs) (0:UInt8) h112
  generalize U0:(xs.getD (Int.toNat 0) 0)=e12 at Y0 hF ⊢
  refine ai (af.s (v:=.int .u8 (e12.toNat:Int)) (dO (k:=.i64) (i:=0) (s:=xs) (b:=e12) kr kr underlying9 Ua Y0) rfl rfl (ag 1 [8,12] [(96,.bool ((e12.toNat:Int)==45))] ?_))
  refine aa (ed hF rfl (fun c0=>?_) (fun c0=>?_))
  ·replace hF:=hF.1 c0
   refine aS (aj 2 [.e 0] [8,12] [(98,iv (w6 (0 - z0)))] ?_)
   refine ai (dz 0 ?_)
   refine bY (Ok.t ?_)
   subst U0
   refine jZ (E':=.blk pQ (.cells #[iv (qx xs z0)] 3)) 0 (ay (fun l:List Value=>b_.blk pQ (.cells ⟨l⟩ 3)) (iw (ay (Value.int .i64) ((aT c0).symm)) rfl)) ?_
   exact fg hF
  replace hF:=hF.2 c0
  refine Ok.k (Ok.t ?_)
  subst U0
  refine jZ (E':=.blk pQ (.cells #[iv (qx xs z0)] 3)) 0 (ay (fun l:List Value=>b_.blk pQ (.cells ⟨l⟩ 3)) (iw (ay (Value.int .i64) ((aF c0).symm)) rfl)) ?_
  exact fg hF
 refine ae (aj 4 [.e 0] [] [(2,iv (qx xs z0)),(3,iv (kX xs))] ?_)
 refine aa (Ok.ret ?_)
 exact Au [] ((((((i0.trans e0).trans hx5).trans s0).trans ahW).trans f0).trans ahU) ⟨qx xs z0,kX xs,rfl,rfl,hF⟩
set_option linter.unusedVariables false
set_option linter.unusedSimpArgs false
set_option maxHeartbeats 4000000
set_option maxRecDepth 100000
def jo (k0:Int) (z0:List Int):List Int :=
 (if ((decide (z0.getD k0.toNat default≥65))&&(decide (z0.getD k0.toNat default≤90)))=true then (z0.set k0.toNat (IntKind.wrap .u8 ((z0.getD k0.toNat default)+32))) else z0)
def uj (k0:Int) (z0:List Int) (C9:Int→List Int→Prop):Prop :=
 C9 (w6 (k0+1)) (jo k0 z0)
def Si (xs:Bs) (K:Bs→Prop) (k0:Int) (z0:List Int) (C9:Int→List Int→Prop):Prop :=
 ((decide (k0<((intsOf xs).length:Int)))=true→0≤k0∧k0.toNat<z0.length∧(((decide (z0.getD k0.toNat default≥65))&&(decide (z0.getD k0.toNat default≤90)))=true→uj k0 z0 C9)∧(((decide (z0.getD k0.toNat default≥65))&&(decide (z0.getD k0.toNat default≤90)))=false→uj k0 z0 C9))∧((decide (k0<((intsOf xs).length:Int)))=false→K (bytesOf z0))
def vg (xs:Bs) (K:Bs→Prop):Nat→Int→List Int→Prop
 | 0,_,_=>False
 | k+1,k0,z0=>Si xs K k0 z0 (vg xs K k)
def Sk (xs:Bs) (K:Bs→Prop):Prop :=
 ∃ k,vg xs K k 0 (intsOf xs)
theorem Sj {g:ak} (xs:Bs) (K:Bs→Prop)
  (hF:Sk xs K):az prog 141 #[sv xs] g [] (fun g' H' v=>∃ (r0:Bs),v=sv r0∧H'=[]∧K r0):=by
 refine aP 29 func141 rfl fun w0=>?_
 refine ae (av 1 [(0,sv xs)] kr (aa (ae (av 1 [(6,sv xs)] kr (ai (Ar (s:=xs) kr underlying9 underlying26 underlying5 rfl fun a1 c1 xs1 hL1=>?_))))))
 refine av 1 [(3,.slice a1 (intsOf xs).length c1)] kr (aa (aH (ae (ag 3 [3] [(8,.slice a1 (intsOf xs).length c1),(9,iv ((intsOf xs).length:Int)),(10,iv 0)] ?_))))
 refine aa (Ok.block ?_)
 obtain ⟨k,hF⟩:=hF
 refine gF (fun k a W=>∃ kC:ak,aY w0 g kC∧∃ (k0:Int) (v0:Option Addr) (q0:Nat) (z0:List Int) (y0:List Value),aW kC yb y0 z0∧fJ 29 [(3,.slice v0 z0.length q0),(8,.slice v0 z0.length q0),(9,iv ((intsOf xs).length:Int)),(10,iv k0)] a∧dh w0 [.lT (.slice v0 z0.length q0) 5 z0.length y0] kC W∧vg xs K k k0 z0) k ?_ ?_
 ·
  exact fun _ _ u v=>⟨g,bq w0 g,0,a1,c1,intsOf xs,xs1,hL1,fA u v hF⟩
 clear hF
 rintro (_ | k9) _ _ ⟨kC,c0,k0,v0,q0,z0,y0,u0,q⟩
 exact (q.2.2:False).elim
 refine jn (fun hF=>?_) _ _ q
 refine ae (ag 1 [3,8,9,10] [(11,.bool (decide (k0<((intsOf xs).length:Int))))] ?_)
 refine aa (aH (aM hF (fun hc2 hF=>?_) (fun hc2 hF=>?_)))
 ·refine Ok.k (Ok.t (Ok.cut (fun a W=>∃ b0:ak,aY w0 kC b0∧∃ (j0:Option Addr) (x0:Nat) (s0:List Value),aW b0 yb s0 (jo k0 z0)∧fJ 29 [(3,.slice j0 (jo k0 z0).length x0),(8,.slice j0 (jo k0 z0).length x0),(9,iv ((intsOf xs).length:Int)),(10,iv k0)] a∧dh w0 [.lT (.slice j0 (jo k0 z0).length x0) 5 (jo k0 z0).length s0] b0 W∧uj k0 z0 (vg xs K k9)) ?_ ?_))
  ·
   refine Ok.block (ae (ag 1 [3,8,9,10] [(12,iv k0)] ?_))
   obtain ⟨qA,ru,hF⟩:=hF
   have pR:=aV (l:=z0) default ru
   generalize hg4:(z0.getD k0.toNat default)=e4 at pR hF ⊢
   refine ai (qb (q:=k0) (el:=e4) 0 rfl u0 rfl rfl underlying26 kr qA pR rfl fun hc3=>?_)
   refine ai (af.s (v:=.int .u8 e4) (yM 0 0 rfl hc3 rfl underlying5 rfl kr) rfl rfl (ag 2 [3,8,9,10] [(4,iv k0),(5,.int .u8 e4)] ?_))
   refine aa (ae (ag 3 [3,4,5,8,9,10] [(17,.bool (decide (e4≥65)))] ?_))
   refine Ok.w 3 [(3,.slice v0 z0.length q0),(4,iv k0),(5,.int .u8 e4),(8,.slice v0 z0.length q0),(9,iv ((intsOf xs).length:Int)),(10,iv k0),(20,.bool (decide (e4≥65)&&decide (e4≤90)))] (fun Bl=>?_) ?_
   ·refine Ok.a 17 (decide (e4≥65)) rfl (fun hc6=>?_) (fun hc6=>?_)
    ·skip
     refine ag 3 [3,4,5,8,9,10] [(20,.bool (decide (e4≤90)))] ?_
     refine aB 20 (decide (e4≥65)&&decide (e4≤90)) (aZ hc6) (ag 0 [3,4,5,8,9,10] [(20,.bool (decide (e4≥65)&&decide (e4≤90)))] ?_)
     exact Bl
    skip
    refine ag 3 [3,4,5,8,9,10] [(20,.bool false)] ?_
    refine aB 20 (decide (e4≥65)&&decide (e4≤90)) (bW hc6) (ag 0 [3,4,5,8,9,10] [(20,.bool (decide (e4≥65)&&decide (e4≤90)))] ?_)
    exact Bl
   refine aa (ed hF rfl (fun iC=>?_) (fun iC=>?_))
   ·replace hF:=hF.1 iC
    refine aS (ag 4 [3,8,9,10] [(21,.slice v0 z0.length q0),(22,iv k0),(24,.int .u8 (IntKind.wrap .u8 (e4+32)))] ?_)
    refine ai (qb (q:=k0) (el:=e4) 0 rfl u0 rfl rfl underlying26 kr qA pR rfl fun hc8=>?_)
    refine ai (Aq (q:=k0.toNat) (xy:=IntKind.wrap .u8 (e4+32)) 0 rfl u0 hc8 rfl rfl kr fun Qy hL9=>?_)
    rw [show z0.length=(z0.set k0.toNat (IntKind.wrap .u8 (e4+32))).length from (kK ..).symm]
    refine bY (bJ (Ok.t ?_))
    subst hg4
    refine gW 3 rfl (show (.slice v0 (z0.set k0.toNat (IntKind.wrap .u8 ((z0.getD k0.toNat default)+32))).length q0:Value)=.slice v0 (jo k0 z0).length q0 from ay (fun l:List Int=>Value.slice v0 l.length q0) ((aT iC).symm)) ?_
    refine gW 8 rfl (show (.slice v0 (z0.set k0.toNat (IntKind.wrap .u8 ((z0.getD k0.toNat default)+32))).length q0:Value)=.slice v0 (jo k0 z0).length q0 from ay (fun l:List Int=>Value.slice v0 l.length q0) ((aT iC).symm)) ?_
    refine jZ (E':=.lT (.slice v0 (jo k0 z0).length q0) 5 (jo k0 z0).length Qy) 0 (ay (fun l:List Int=>b_.lT (.slice v0 l.length q0) 5  l.length Qy) ((aT iC).symm)) ?_
    exact fun _ _ u v=>⟨kC,bq w0 kC,v0,q0,Qy,(Eq.mp (ay (fun l:List Int=>aW kC yb Qy l) ((aT iC).symm)) hL9),fA u v hF⟩
   replace hF:=hF.2 iC
   refine Ok.k (bJ (Ok.t ?_))
   subst hg4
   refine gW 3 rfl (show (.slice v0 z0.length q0:Value)=.slice v0 (jo k0 z0).length q0 from ay (fun l:List Int=>Value.slice v0 l.length q0) ((aF iC).symm)) ?_
   refine gW 8 rfl (show (.slice v0 z0.length q0:Value)=.slice v0 (jo k0 z0).length q0 from ay (fun l:List Int=>Value.slice v0 l.length q0) ((aF iC).symm)) ?_
   refine jZ (E':=.lT (.slice v0 (jo k0 z0).length q0) 5 (jo k0 z0).length y0) 0 (ay (fun l:List Int=>b_.lT (.slice v0 l.length q0) 5  l.length y0) ((aF iC).symm)) ?_
   exact fun _ _ u v=>⟨kC,bq w0 kC,v0,q0,y0,(Eq.mp (ay (fun l:List Int=>aW kC yb y0 l) ((aF iC).symm)) u0),fA u v hF⟩
  clear hF
  rintro _ _ ⟨b0,Ki,j0,x0,s0,qz,q⟩
  refine jn (fun hF=>?_) _ _ q
  refine aS (ag 2 [3,8,9] [(10,iv (w6 (k0+1)))] ?_)
  refine bY (Ok.t ?_)
  exact fun _ _ u v=>⟨k9,nl,b0,c0.trans Ki,w6 (k0+1),j0,x0,jo k0 z0,s0,qz,fA u v hF⟩
 refine fU (aA (aA (aO (Ok.t (ae (av 1 [(27,.slice v0 z0.length q0)] kr (ai (af.s (v:=sv (bytesOf z0)) (v_ 0 kr rfl rfl u0 underlying26 underlying9 underlying5) rfl rfl (av 1 [(2,sv (bytesOf z0))] kr (aa (Ok.ret ?_)))))))))))
 exact jd (sv (bytesOf z0)) c0 ⟨bytesOf z0,rfl,rfl,hF⟩
end Go.Proofs.YtdapgmigogpdcaaGreatDoor.tF
namespace Go.Proofs.YtdapgmigogpdcaaGreatDoor.tF
open Go Go.iQ jL BF
set_option linter.unusedVariables false
theorem pE (l:List Int) (c:UInt8):bytesOf (l++[(c.toNat:Int)])=bytesOf l++[c]:=by
 simp [bytesOf]
theorem AU {l:List Int} (h:intsOf (bytesOf l)=l) (c:UInt8):intsOf (bytesOf (l++[(c.toNat:Int)]))=l++[(c.toNat:Int)]:=by
 rw [pE,show intsOf (bytesOf l++[c])=intsOf (bytesOf l)++[(c.toNat:Int)] from by simp [intsOf],h]
def xu:Nat→List UInt8→List UInt8×Nat
 | 0,_=>([],0)
 | _+1,[]=>([],0)
 | k+1,c::r=>if jG (c::r)=true then (match r with
   | d::r'=>(d::(xu k r').1,(xu k r').2+2)
   | []=>([],0))
  else if kv (c.toNat:Int)=true then (c::(xu k r).1,(xu k r).2+1) else ([],0)
theorem mG (k:Nat) (c:UInt8) (r:List UInt8) (h:jG (c::r)=false):xu (k+1) (c::r)=if kv (c.toNat:Int)=true then (c::(xu k r).1,(xu k r).2+1) else ([],0):=aF h
theorem Bc (k:Nat) (c d:UInt8) (r:List UInt8) (h:jG (c::d::r)=true):xu (k+1) (c::d::r)=(d::(xu k r).1,(xu k r).2+2):=aT h
def d_ (s:List UInt8):List UInt8×Int:=((xu s.length s).1,((xu s.length s).2:Int))
def fP (s:List UInt8):Prop:=s.length≤140737488351232
theorem Bo {s:List UInt8} (h:jG s=true):1<s.length:=by
 unfold jG zB at h
 simp at h
 omega
theorem PS (xs:List UInt8) (hP:fP xs) (K:List UInt8→Int→Prop):∀ (k i:Nat) (acc:List Int),xs.length≤i+k→i≤xs.length→acc.length≤i→intsOf (bytesOf acc)=acc →
  K (bytesOf acc++(xu k (xs.drop i)).1) ((i+(xu k (xs.drop i)).2:Nat):Int)→Gv xs K (k+1) (i:Int) acc:=by
 unfold fP at hP
 intro k
 induction k using Nat.strongRecOn with
 | _ k ih =>
 intro i acc h1 h2 h3 h4 hK
 refine ⟨fun h=>?_,fun h=>?_⟩
 ·have hi:i<xs.length:=od h
  obtain ⟨k,rfl⟩:∃ j,k=j+1:=⟨k - 1,om⟩
  have hd:=dm (l:=xs) (0:UInt8) hi
  rw [eB]
  refine ⟨om,om,om,fun he=>?_,fun he=>?_⟩
  ·have hl:=Bo he
   rw [gJ] at hl
   have hd2:=dm (l:=xs) (0:UInt8) (show i+1<xs.length by omega)
   rw [hd,hd2] at hK he
   rw [Bc k _ _ _ he] at hK
   rw [gp om,gp om,show ((i:Int)+1).toNat=i+1 by omega]
   refine ⟨om,om,by unfold U8; omega,?_⟩
   refine ih k om (i+2) (acc++[((xs.getD (i+1) 0).toNat:Int)]) om om (by simp; omega) (by rw [AU h4]) ?_
   rw [pE,dL]
   have e:((i+2+(xu k (xs.drop (i+2))).2:Nat):Int)=((i+((xu k (xs.drop (i+2))).2+2):Nat):Int):=om
   rw [e]
   exact hK
  rw [hd] at hK he
  rw [mG k _ _ he] at hK
  refine ⟨om,om,fun hs=>?_,fun hs=>?_⟩
  ·rw [aT hs] at hK
   rw [gp om]
   refine ⟨by unfold U8; omega,?_⟩
   refine ih k om (i+1) (acc++[((xs.getD i 0).toNat:Int)]) om om (by simp; omega) (by rw [AU h4]) ?_
   rw [pE,dL]
   have e:((i+1+(xu k (xs.drop (i+1))).2:Nat):Int)=((i+((xu k (xs.drop (i+1))).2+1):Nat):Int):=om
   rw [e]
   exact hK
  rw [aF hs] at hK
  exact ⟨h4,by simpa using hK⟩
 have hi:i=xs.length:=oe h
 subst hi
 rw [List.drop_length] at hK
 have e:xu k []=([],0):=by cases k <;> rfl
 rw [e] at hK
 exact ⟨h4,by simpa using hK⟩
theorem aaC (s:List UInt8) (hp:fP s):YH s (fun a b=>(a,b)=d_ s) :=
 ⟨s.length+1,PS s hp _ s.length 0 [] om om (by simp) rfl (by simp [d_,bytesOf])⟩
theorem yc:∀ (k:Nat) (s:List UInt8),(xu k s).2≤s.length∧(xu k s).1.length≤(xu k s).2
 | 0,_=>⟨ik _,fK _⟩
 | _+1,[]=>⟨fK _,fK _⟩
 | k+1,c::r=>by
  cases he:jG (c::r)
  ·rw [mG k c r he]
   split
   ·have:=yc k r
    simp only [cK]
    omega
   simp
  have hl:=Bo he
  match r,he,hl with
  | d::r,he,_ =>
   rw [Bc k c d r he]
   have:=yc k r
   simp only [cK]
   omega
theorem R5 {g:ak} (xs:List UInt8)  (hp:fP xs):bE Tryz.prog 138 #[.string ⟨⟨xs⟩⟩] g (.tuple #[.string ⟨⟨(d_ xs).1⟩⟩,.int .i64 (d_ xs).2]) :=
 (Wo xs _ (aaC xs hp)).gives (by rintro g' H' v _ ⟨r0,r1,rfl,rfl,hK⟩; obtain ⟨rfl,rfl⟩:r0=(d_ xs).1∧r1=(d_ xs).2:=⟨ay (fun z=>z.1) hK,ay (fun z=>z.2) hK⟩; rfl)
def Ay (c:UInt8):UInt8:=if 65≤c.toNat∧c.toNat≤90 then c+32 else c
def aJ (s:List UInt8):List UInt8:=s.map Ay
theorem Sl (c:UInt8):(if ((decide ((c.toNat:Int)≥65))&&(decide ((c.toNat:Int)≤90)))=true then IntKind.wrap .u8 ((c.toNat:Int)+32) else (c.toNat:Int))=((Ay c).toNat:Int):=by
 unfold Ay
 by_cases h:65≤c.toNat∧c.toNat≤90
 ·rw [aT (by simp; omega),bn h,IntWalk.u8_in _ om,UInt8.toNat_add]
  have:(32:UInt8).toNat=32:=rfl
  omega
 rw [aF (by simp; omega),aQ h]
theorem Fh (l:List UInt8) (i:Nat) (h:i<l.length):(intsOf l).getD i default=((l.getD i 0).toNat:Int):=by
 simp [intsOf,gN,h]
theorem ints_set (l:List UInt8) (i:Nat) (c:UInt8):(intsOf l).set i (c.toNat:Int)=intsOf (l.set i c):=by
 simp [intsOf,List.map_set]
def iN (xs:List UInt8) (i:Nat):List UInt8:=(xs.take i).map Ay++xs.drop i
theorem LW {xs:List UInt8} {i:Nat} (h:i<xs.length):jo (i:Int) (intsOf (iN xs i))=intsOf (iN xs (i+1)):=by
 have hl:(iN xs i).length=xs.length:=by simp [iN]; omega
 have hg:(iN xs i).getD i 0=xs.getD i 0:=by
  unfold iN
  rw [gN,List.getElem?_append_right (by simp; omega),gN,D_]
  congr 2
  simp; omega
 have hs:(iN xs i).set i (Ay (xs.getD i 0))=iN xs (i+1):=by
  unfold iN
  rw [List.set_append_right _ _ (by simp; omega),iA (0:UInt8) h,dm (l:=xs) (0:UInt8) h,uN,dL]
  congr 1
  have e:i - ((xs.take i).map Ay).length=0:=by simp; omega
  rw [e]; rfl
 have hn:(iN xs i).set i (xs.getD i 0)=iN xs i:=by
  rw [← hg,gN,gB om,uI,List.set_getElem_self]
 unfold jo
 rw [eB,Fh _ _ om,hg,← hs]
 have:=Sl (xs.getD i 0)
 split
 ·rename_i hc
  rw [aT hc] at this
  rw [this,ints_set]
 rename_i hc
 rw [aQ hc] at this
 have:Ay (xs.getD i 0)=xs.getD i 0:=UInt8.toNat_inj.1 om
 rw [this,hn]
theorem LV (xs:List UInt8) (hP:xs.length≤140737488351232) (K:List UInt8→Prop) (hK:K (aJ xs)):∀ (k i:Nat),xs.length=i+k→vg xs K (k+1) (i:Int) (intsOf (iN xs i)):=by
 intro k
 induction k with
 | zero =>
  intro i h
  refine ⟨fun hc=>?_,fun _=>?_⟩
  ·have:=dn hc; rw [iy] at this; omega
  rw [kJ,iN,jR om,fF om,gK]
  exact hK
 | succ k ih =>
  intro i h
  refine ⟨fun _=>?_,fun hc=>?_⟩
  ·have hl:(iN xs i).length=xs.length:=by simp [iN]; omega
   have key:uj (i:Int) (intsOf (iN xs i)) (vg xs K (k+1)):=by
    unfold uj
    rw [gp om,LW om]
    exact ih (i+1) om
   exact ⟨om,by rw [iy,hl]; omega,fun _=>key,fun _=>key⟩
  have:=fZ hc; rw [iy] at this; omega
def ig (s:List UInt8):Prop:=s.length≤140737488351232
theorem Wx (s:List UInt8) (hp:ig s):Sk s (fun r=>r=aJ s) :=
 ⟨s.length+1,LV s hp (fun r=>r=aJ s) rfl s.length 0 om⟩
theorem Ww {g:ak} (xs:List UInt8)  (hp:ig xs):bE Tryz.prog 141 #[.string ⟨⟨xs⟩⟩] g (.string ⟨⟨(aJ xs)⟩⟩) :=
 (Sj xs _ (Wx xs hp)).gives (by rintro g' H' v _ ⟨r0,rfl,rfl,hK⟩; subst hK; rfl)
end Go.Proofs.YtdapgmigogpdcaaGreatDoor.tF
namespace Go.Proofs.YtdapgmigogpdcaaGreatDoor.tF
open _root_.Go.Proofs.Tryz Go Go.iQ jL BF
set_option linter.unusedVariables false
set_option linter.unusedSimpArgs false
theorem wG {p:Prop} (h:p:=by first | exact hp.2.2 | exact hp.2.1 | exact (yL hp.1 hp.2.1 hp.2.2).2 | exact (yL hp.1 hp.2.1 hp.2.2).1 | exact iT hp.1 _ | omega | assumption | exact trivial | (have h0:=List.length_pos_iff.mpr asm; omega) | (simp; omega) | (simp at *; omega)):p:=h
set_option maxHeartbeats 4000000
set_option maxRecDepth 100000
def xD:Nat→UInt8→Bs→Bs×Nat×Nat
 | 0,_,_=>([],0,2)
 | _+1,_,[]=>([],0,2)
 | k+1,q,c::r=>if c=q then ([],0,0) else if c=10 then ([],0,1) else
  match decide (c=92),r with
  | true,d::r'=>(d::(xD k q r').1,(xD k q r').2.1+2,(xD k q r').2.2)
  | _,_=>(c::(xD k q r).1,(xD k q r).2.1+1,(xD k q r).2.2)
def Vh (s v:Bs) (n:Nat) (w:Nat):Int×Bs×Bs×Int :=
 if w=0 then (5,s.take (n+2),v,0) else if w=1 then (6,s.take (n+1),[],0) else (6,s,[],0)
def qJ (s:Bs):Int×Bs×Bs×Int :=
 let t:=xD s.length (s.getD 0 0) (s.drop 1)
 Vh s t.1 t.2.1 t.2.2
theorem Yn (k:Nat) (q:UInt8) (r:Bs):xD (k+1) q (q::r)=([],0,0):=bn rfl
theorem afa (k:Nat) (q c:UInt8) (r:Bs) (h:c≠q) (h1:c=10):xD (k+1) q (c::r)=([],0,1):=by
 show (if c=q then _ else if c=10 then _ else _)=_
 rw [aQ h,bn h1]
theorem Yo (k:Nat) (q c d:UInt8) (r:Bs) (h:c≠q) (h1:c≠10) (h2:c=92):xD (k+1) q (c::d::r)=(d::(xD k q r).1,(xD k q r).2.1+2,(xD k q r).2.2):=by
 subst h2
 show (if _ then _ else if _ then _ else _)=_
 rw [aQ h,aQ h1]; rfl
theorem Yp (k:Nat) (q c:UInt8) (r:Bs) (h:c≠q) (h1:c≠10) (h2:c≠92∨r=[]):xD (k+1) q (c::r)=(c::(xD k q r).1,(xD k q r).2.1+1,(xD k q r).2.2):=by
 show (if _ then _ else if _ then _ else _)=_
 rw [aQ h,aQ h1]
 rcases h2 with h2 | rfl
 ·rw [lZ h2]
 cases decide (c=92) <;> rfl
def NH (s:Bs):Prop:=s.length≤140737488351232∧s≠[]
theorem yF (a b:UInt8):(((a.toNat:Int)==(b.toNat:Int))=true↔a=b):=by
 rw [dI]
 exact ⟨fun h=>UInt8.toNat_inj.1 om,fun h=>by rw [h]⟩
theorem Ps (xs:Bs) (hP:NH xs) (K:KT→Prop):∀ (k i:Nat) (acc:List Int),xs.length≤i+k→1≤i→i≤xs.length→acc.length≤i→intsOf (bytesOf acc)=acc →
  K (Vh xs (bytesOf acc++(xD k (xs.getD 0 0) (xs.drop i)).1) (i - 1+(xD k (xs.getD 0 0) (xs.drop i)).2.1) (xD k (xs.getD 0 0) (xs.drop i)).2.2)→BZ xs K (k+1) (i:Int) acc:=by
 obtain ⟨hP,hne⟩:=hP
 have hpos:=List.length_pos_iff.mpr hne
 intro k
 induction k with
 | zero =>
  intro i acc h1 h0 h2 h3 h4 hK
  refine ⟨fun h=>od h,fun h=>?_⟩
  simpa [xD,Vh] using hK
 | succ k ih =>
  intro i acc h1 h0 h2 h3 h4 hK
  refine ⟨fun h=>?_,fun h=>?_⟩
  ·have hi:i<xs.length:=od h
   have hd:=dm (l:=xs) (0:UInt8) hi
   rw [hd] at hK
   rw [eB,Int.toNat_zero]
   refine ⟨om,om,om,om,fun hq=>?_,fun hq=>?_⟩
   ·have hq:=(yF _ _).1 hq
    rw [hq,Yn] at hK
    rw [gp om]
    refine ⟨om,om,om,h4,?_⟩
    have e:((i:Int)+1).toNat=i - 1+0+2:=om
    rw [e]
    simpa [Vh] using hK
   have hq:xs.getD i 0≠xs.getD 0 0:=fun e=>by rw [(yF _ _).2 e] at hq; cases hq
   refine ⟨fun hn=>?_,fun hn=>?_⟩
   ·have hn:xs.getD i 0=10:=(yF _ 10).1 hn
    rw [afa _ _ _ _ hq hn] at hK
    refine ⟨om,om,om,?_⟩
    have e:i=i - 1+0+1:=om
    rw [e]
    simpa [Vh] using hK
   have hn:xs.getD i 0≠10:=fun e=>by rw [e] at hn; exact absurd hn dc
   unfold AQ
   rw [eB]
   refine ⟨fun hc=>?_,fun hc=>?_⟩
   ·have hc':=hc
    rw [aG] at hc'
    have QE:xs.getD i 0=92:=(yF _ 92).1 hc'.1
    have hlt:=dn hc'.2
    rw [gp om] at hlt
    have hd2:=dm (l:=xs) (0:UInt8) (show i+1<xs.length by omega)
    rw [hd2,Yo _ _ _ _ _ hq hn QE] at hK
    rw [aT hc,aT hc,gp (x:=(i:Int)+1) om,gp om,show ((i:Int)+1).toNat=i+1 by omega]
    refine ⟨om,om,by unfold U8; omega,?_⟩
    refine ih (i+2) (acc++[((xs.getD (i+1) 0).toNat:Int)]) om om om (by simp; omega) (by rw [AU h4]) ?_
    rw [pE,dL,show i+2 - 1+(xD k (xs.getD 0 0) (xs.drop (i+2))).2.1=i - 1+((xD k (xs.getD 0 0) (xs.drop (i+2))).2.1+2) by omega]
    exact hK
   have QE:xs.getD i 0≠92∨xs.drop (i+1)=[]:=by
    rw [fw] at hc
    rcases hc with hc | hc
    ·exact .inl fun e=>by rw [e] at hc; exact absurd hc dc
    have:=fZ hc
    rw [gp om] at this
    exact .inr (fF om)
   rw [Yp _ _ _ _ hq hn QE] at hK
   rw [aF hc,aF hc,gp om]
   refine ⟨by unfold U8; omega,?_⟩
   refine ih (i+1) (acc++[((xs.getD i 0).toNat:Int)]) om om om (by simp; omega) (by rw [AU h4]) ?_
   rw [pE,dL,show i+1 - 1+(xD k (xs.getD 0 0) (xs.drop (i+1))).2.1=i - 1+((xD k (xs.getD 0 0) (xs.drop (i+1))).2.1+1) by omega]
   exact hK
  have hi:i=xs.length:=oe h
  subst hi
  rw [List.drop_length] at hK
  simpa [xD,Vh] using hK
theorem Zr (s:Bs) (hp:NH s):Yr s (fun r=>r=qJ s):=by
 have hpos:=List.length_pos_iff.mpr hp.2
 exact ⟨s.length+1,Ps s hp (fun r=>r=qJ s) s.length 1 [] om om om (by simp) rfl (by simp [qJ,bytesOf])⟩
theorem Zq {g:ak} (xs:Bs)  (hp:NH xs):bE prog 90 #[sv xs] g (.agg (aK (qJ xs))) :=
 (Vn xs _ (Zr xs hp)).gv
def zi (_:Int) (s:Bs) (a:Int):Prop:=fP s∧0≤a∧a≤s.length
theorem iT {s:Bs} (h:fP s) (i:Nat):fP (s.drop i):=by unfold fP at h ⊢; rw [gJ]; omega
theorem ve {s:Bs} (h:fP s):0≤(d_ s).2∧(d_ s).2≤s.length:=by
 have:=yc s.length s
 unfold d_
 simp only
 omega
theorem PT {s:Bs} (h:fP s):(d_ s).1.length≤140737488351232:=by
 have:=yc s.length s
 unfold fP at h
 unfold d_
 simp only
 omega
theorem yL {s:Bs} {a:Int} (h:fP s) (h0:0≤a) (h1:a≤s.length):0≤w6 (a+(d_ (s.drop a.toNat)).2)∧w6 (a+(d_ (s.drop a.toNat)).2)≤s.length:=by
 have:=ve (iT h a.toNat)
 rw [gJ] at this
 unfold fP at h
 rw [gp om]
 omega
def Gx (bV:Int) (xs:Bs) (dG:Int) (K:KT→Prop):Prop :=
 0≤dG∧(dG:Int)≤(xs.length:Int)∧(xs.length:Int)≤(xs.length:Int)∧fP (xs.drop dG.toNat)∧(0:Int)≤0∧0≤(w6 (dG+(d_ (xs.drop dG.toNat)).2))∧(w6 (dG+(d_ (xs.drop dG.toNat)).2))≤(xs.length:Int)∧K (bV,xs.take (Int.toNat (w6 (dG+(d_ (xs.drop dG.toNat)).2))),(d_ (xs.drop dG.toNat)).1,0)
theorem RZ {g:ak} (bV:Int) (xs:Bs) (dG:Int) (K:KT→Prop)
  (hF:Gx bV xs dG K):az prog 93 #[iv bV,sv xs,iv dG] g [] (fun g' H' v=>∃ (r0:Int×Bs×Bs×Int),v=.agg (aK r0)∧H'=[]∧K r0):=by
 refine aP 24 func93 rfl fun w0=>?_
 refine ae (ai (bK zK fun bs6=>?_))
 refine aa (ae (av 2 [(0,iv bV),(1,sv xs),(2,iv dG),(6,pv bs6 0),(10,sv xs),(11,iv dG)] kr ?_))
 obtain ⟨h02,h12,h22,hF⟩:=hF
 refine ai (af.s (bZ (s:=xs) (l:=dG) (h:=(xs.length:Int)) kr underlying9 (.inl ⟨_,_,rfl,rfl⟩) (.inr ⟨rfl,rfl⟩) h02 h12 h22 (xs.drop dG.toNat) (QW _ _)) rfl rfl ?_)
 obtain ⟨hp3,hF⟩:=hF
 refine aj 6 [.k (R5 (xs.drop dG.toNat) hp3)] [0,1,2,6] [(7,sv ((d_ (xs.drop dG.toNat)).1)),(8,iv (d_ (xs.drop dG.toNat)).2)] ?_
 refine aa (ae (ag 5 [6,7] [(16,iv bV),(17,sv xs),(20,iv (w6 (dG+(d_ (xs.drop dG.toNat)).2)))] ?_))
 obtain ⟨qA,ru,TU,hF⟩:=hF
 refine ai (af.s (bZ (s:=xs) (l:=0) (h:=(w6 (dG+(d_ (xs.drop dG.toNat)).2))) kr underlying9 (.inr ⟨rfl,rfl⟩) (.inl ⟨_,_,rfl,rfl⟩) qA ru TU (xs.take (Int.toNat (w6 (dG+(d_ (xs.drop dG.toNat)).2)))) (by simp)) rfl rfl (ag 2 [6] [(23,.agg #[iv bV,sv (xs.take (Int.toNat (w6 (dG+(d_ (xs.drop dG.toNat)).2)))),sv ((d_ (xs.drop dG.toNat)).1),iv 0])] ?_))
 refine ai (af.w 0 ?_)
 refine aa (Ok.ret ?_)
 exact jc 0 [] (bq w0 g) ⟨(bV,xs.take (Int.toNat (w6 (dG+(d_ (xs.drop dG.toNat)).2))),(d_ (xs.drop dG.toNat)).1,0),rfl,rfl,hF⟩
def cz (bV:Int) (xs:Bs) (dG:Int):KT:=(bV,xs.take (Int.toNat (w6 (dG+(d_ (xs.drop dG.toNat)).2))),(d_ (xs.drop dG.toNat)).1,0)
theorem R4 (bV:Int) (xs:Bs) (dG:Int) (hp:zi bV xs dG) (P:KT→Prop) (h:P (cz bV xs dG)):Gx bV xs dG (fun k0=>P k0):=by
 unfold cz at h
 unfold Gx
 refine ⟨?_,?_,?_,?_⟩
 ·exact wG
 ·exact wG
 ·exact wG
 refine ⟨?_,?_⟩
 ·exact wG
 refine ⟨?_,?_,?_,?_⟩
 ·exact wG
 ·exact wG
 ·exact wG
 exact h
theorem Wn (bV:Int) (xs:Bs) (dG:Int) (hp:zi bV xs dG):Gx bV xs dG (fun k0=>k0=cz bV xs dG) :=
 R4 bV xs dG hp (fun z=>z=cz bV xs dG) rfl
theorem Gw {g:ak} (bV:Int) (xs:Bs) (dG:Int)  (hp:zi bV xs dG):bE prog 93 #[iv bV,sv xs,iv dG] g (.agg (aK (cz bV xs dG))) :=
 (RZ bV xs dG _ (Wn bV xs dG hp)).gv
set_option linter.unusedVariables false
set_option linter.unusedSimpArgs false
theorem mq {p:Prop} (h:p:=by first | exact hp.2.2 | exact hp.2.1 | exact (Tm hc0 hp.2.1 hp.1).2 | exact (Tm hc0 hp.2.1 hp.1).1 | exact (yL hp.1 hp.2.1 hp.2.2).2 | exact (yL hp.1 hp.2.1 hp.2.2).1 | exact JU (iT hp.1 _) | exact iT hp.1 _ | omega | assumption | exact trivial | (have h0:=List.length_pos_iff.mpr asm; omega) | (simp; omega) | (simp at *; omega)):p:=h
set_option maxHeartbeats 4000000
set_option maxRecDepth 100000
def A_ (s:Bs) (_:Int) (a:Int):Prop:=fP s∧0≤a∧a≤s.length
theorem JU {s:Bs} (h:fP s):ig (d_ s).1:=PT h
theorem Tm {s:Bs} {a:Int} (h:zw (s.drop a.toNat) ([37]:Bs)=true) (h0:0≤a) (h1:fP s):w6 (a+1)≤s.length∧0≤w6 (a+1):=by
 have:=nJ (s:=s.drop a.toNat) (p:=[37]) h
 rw [gJ] at this
 simp at this
 unfold fP at h1
 rw [gp om]
 omega
def jm (xs:Bs) (xn:Int):Bs :=
 (if (zw (xs.drop xn.toNat) ([37]:Bs))=true then xs.take (Int.toNat (w6 (xn+1))) else (if (mJ (xs.drop xn.toNat))=true then xs.take (Int.toNat (w6 (xn+(d_ (xs.drop xn.toNat)).2))) else xs.take xn.toNat))
def mF (xs:Bs) (xn:Int):Bs :=
 (if (zw (xs.drop xn.toNat) ([37]:Bs))=true then ([37]:Bs) else (if (mJ (xs.drop xn.toNat))=true then (aJ (d_ (xs.drop xn.toNat)).1) else ([]:Bs)))
def qY (xs:Bs) (jh:Int) (xn:Int) (K:KT→Prop):Prop :=
 K (7,jm xs xn,mF xs xn,jh)
def Ba (xs:Bs) (jh:Int) (xn:Int) (K:KT→Prop):Prop :=
 (0:Int)≤0∧0≤xn∧xn≤(xs.length:Int)∧0≤xn∧(xn:Int)≤(xs.length:Int)∧(xs.length:Int)≤(xs.length:Int)∧((zw (xs.drop xn.toNat) ([37]:Bs))=true→(0:Int)≤0∧0≤w6 (xn+1)∧w6 (xn+1)≤(xs.length:Int)∧qY xs jh xn K)∧((zw (xs.drop xn.toNat) ([37]:Bs))=false→((mJ (xs.drop xn.toNat))=true→fP (xs.drop xn.toNat)∧(0:Int)≤0∧0≤(w6 (xn+(d_ (xs.drop xn.toNat)).2))∧(w6 (xn+(d_ (xs.drop xn.toNat)).2))≤(xs.length:Int)∧ig (d_ (xs.drop xn.toNat)).1∧qY xs jh xn K)∧((mJ (xs.drop xn.toNat))=false→qY xs jh xn K))
theorem PN {g:ak} (xs:Bs) (jh:Int) (xn:Int) (K:KT→Prop)
  (hF:Ba xs jh xn K):az prog 96 #[sv xs,iv jh,iv xn] g [] (fun g' H' v=>∃ (r0:Int×Bs×Bs×Int),v=.agg (aK r0)∧H'=[]∧K r0):=by
 refine aP 44 func96 rfl fun w0=>?_
 refine ae (ai (bK zK fun bs6=>?_))
 refine aa (ae (av 2 [(0,sv xs),(1,iv jh),(2,iv xn),(6,pv bs6 0),(11,sv xs),(12,iv xn)] kr ?_))
 obtain ⟨h02,h12,h22,hF⟩:=hF
 refine ai (af.s (bZ (s:=xs) (l:=0) (h:=xn) kr underlying9 (.inr ⟨rfl,rfl⟩) (.inl ⟨_,_,rfl,rfl⟩) h02 h12 h22 (xs.take xn.toNat) (by simp)) rfl rfl (ag 2 [0,2,6] [(15,.agg #[iv 7,sv (xs.take xn.toNat),sv ([]:Bs),iv jh])] ?_))
 refine ai (bK zK fun M6=>?_)
 refine ai (af.w 0 ?_)
 refine aa (gD [(6,pv bs6 0),(7,pv M6 0)] [.blk M6 (.cells #[iv 7,sv (jm xs xn),sv (mF xs xn),iv jh] 98),.blk bs6 (.cells zK 98)] (qY xs jh xn K) ?_ (fun hF=>?_))
 ·
  refine ae (ag 2 [0,2,6] [(7,pv M6 0),(16,sv xs),(17,iv xn)] ?_)
  obtain ⟨qA,ru,TU,hF⟩:=hF
  refine ai (af.s (bZ (s:=xs) (l:=xn) (h:=(xs.length:Int)) kr underlying9 (.inl ⟨_,_,rfl,rfl⟩) (.inr ⟨rfl,rfl⟩) qA ru TU (xs.drop xn.toNat) (QW _ _)) rfl rfl (ag 1 [0,2,6,7] [(8,sv (xs.drop xn.toNat))] ?_))
  refine aa (ae (ag 1 [0,2,6,7,8] [(19,sv (xs.drop xn.toNat))] ?_))
  refine ai (af.f gT (fun W hW=>abv (xs.drop xn.toNat) ([37]:Bs)) rfl ?_)
  refine aa (aM hF (fun j4 hF=>?_) (fun j4 hF=>?_))
  ·refine aS (ag 3 [6,7] [(21,sv xs),(23,iv (w6 (xn+1)))] ?_)
   obtain ⟨vY,h16,Xd,hF⟩:=hF
   refine ai (af.s (bZ (s:=xs) (l:=0) (h:=w6 (xn+1)) kr underlying9 (.inr ⟨rfl,rfl⟩) (.inl ⟨_,_,rfl,rfl⟩) vY h16 Xd (xs.take (Int.toNat (w6 (xn+1)))) (by simp)) rfl rfl (ag 1 [6,7] [(24,sv (xs.take (Int.toNat (w6 (xn+1))))),(25,pv M6 1)] ?_))
   refine ai (dz 0 ?_)
   refine ag 1 [6,7] [(26,pv M6 2)] ?_
   refine ai (dz 0 ?_)
   refine aa (jZ (E':=.blk M6 (.cells #[iv 7,sv (jm xs xn),sv (mF xs xn),iv jh] 98)) 0 (ay (fun l:List Value=>b_.blk M6 (.cells ⟨l⟩ 98)) (iw (rfl) (iw (ay (fun s:Bs=>Value.string ⟨⟨s⟩⟩) ((aT j4).symm)) (iw (ay (fun s:Bs=>Value.string ⟨⟨s⟩⟩) ((aT j4).symm)) (iw (rfl) rfl))))) ?_)
   exact fz hF
  refine ae (ag 1 [0,2,6,7,8] [(27,sv (xs.drop xn.toNat))] ?_)
  refine ai (af.f gT (fun W hW=>UN (xs.drop xn.toNat)) rfl ?_)
  refine aa (aM hF (fun iC hF=>?_) (fun iC hF=>?_))
  ·refine aH (aS ?_)
   obtain ⟨Mc,hF⟩:=hF
   refine aj 7 [.k (R5 (xs.drop xn.toNat) Mc)] [0,2,6,7] [(9,sv ((d_ (xs.drop xn.toNat)).1)),(10,iv (d_ (xs.drop xn.toNat)).2)] ?_
   refine aa (wz [] [] [0,1] [(0,true),(1,true),(2,true),(3,true),(4,true),(5,true),(6,true),(7,true),(8,false),(9,true),(10,false)] ?_)
   refine iI 4 [6,7,9] [(34,sv xs),(37,iv (w6 (xn+(d_ (xs.drop xn.toNat)).2)))] ?_
   obtain ⟨Eh,h19,P_,hF⟩:=hF
   refine eF.hd (fM.s (v:=sv (xs.take (Int.toNat (w6 (xn+(d_ (xs.drop xn.toNat)).2))))) (bZ (s:=xs) (l:=0) (h:=(w6 (xn+(d_ (xs.drop xn.toNat)).2))) kr underlying9 (.inr ⟨rfl,rfl⟩) (.inl ⟨_,_,rfl,rfl⟩) Eh h19 P_ (xs.take (Int.toNat (w6 (xn+(d_ (xs.drop xn.toNat)).2)))) (by simp)) rfl rfl ?_)
   refine iI 1 [6,7] [(38,sv (xs.take (Int.toNat (w6 (xn+(d_ (xs.drop xn.toNat)).2))))),(39,sv ((d_ (xs.drop xn.toNat)).1))] ?_
   obtain ⟨Hw,hF⟩:=hF
   refine eF.hd (fM.f gT (fun W hW=>Ww (d_ (xs.drop xn.toNat)).1 Hw) rfl ?_)
   refine iI 1 [6,7,38] [(40,sv (aJ (d_ (xs.drop xn.toNat)).1)),(41,pv M6 1)] ?_
   refine eF.t rfl rfl (dz 0 ?_)
   refine g_ (lC.refl _) (iI 1 [6,7,40] [(42,pv M6 2)] ?_)
   refine eF.t rfl rfl (dz 0 ?_)
   refine g_ (lC.refl _) (eF.nil (Ok.t (jZ (E':=.blk M6 (.cells #[iv 7,sv (jm xs xn),sv (mF xs xn),iv jh] 98)) 0 (ay (fun l:List Value=>b_.blk M6 (.cells ⟨l⟩ 98)) (iw (rfl) (iw (ay (fun s:Bs=>Value.string ⟨⟨s⟩⟩) (au ((aT iC).symm) ((aF j4).symm))) (iw (ay (fun s:Bs=>Value.string ⟨⟨s⟩⟩) (au ((aT iC).symm) ((aF j4).symm))) (iw (rfl) rfl))))) ?_)))
   exact fz hF
  refine Ok.k (Ok.t (jZ (E':=.blk M6 (.cells #[iv 7,sv (jm xs xn),sv (mF xs xn),iv jh] 98)) 0 (ay (fun l:List Value=>b_.blk M6 (.cells ⟨l⟩ 98)) (iw (rfl) (iw (ay (fun s:Bs=>Value.string ⟨⟨s⟩⟩) (au ((aF iC).symm) ((aF j4).symm))) (iw (ay (fun s:Bs=>Value.string ⟨⟨s⟩⟩) (au ((aF iC).symm) ((aF j4).symm))) (iw (rfl) rfl))))) ?_))
  exact fz hF
 refine ae (ai (af.s (v:=.agg #[iv 7,sv (jm xs xn),sv (mF xs xn),iv jh]) (a_ 0 4 #[iv 7,sv (jm xs xn),sv (mF xs xn),iv jh] rfl rfl underlying98 rfl kr kr kr) rfl rfl (ai (af.w 1 ?_))))
 refine aa (Ok.ret ?_)
 exact jc 1 [] (bq w0 g) ⟨(7,jm xs xn,mF xs xn,jh),rfl,rfl,hF⟩
def m_ (xs:Bs) (jh:Int) (xn:Int):KT:=(7,jm xs xn,mF xs xn,jh)
theorem wR (xs:Bs) (jh:Int) (xn:Int) (P:KT→Prop) (h:P (m_ xs jh xn)):qY xs jh xn (fun k0=>P k0):=by
 unfold m_ at h
 unfold qY
 exact h
def ky (xs:Bs) (jh:Int) (xn:Int):KT:=(m_ xs jh xn)
theorem PO (xs:Bs) (jh:Int) (xn:Int) (hp:A_ xs jh xn) (P:KT→Prop) (h:P (ky xs jh xn)):Ba xs jh xn (fun k0=>P k0):=by
 unfold ky at h
 unfold Ba
 refine ⟨?_,?_,?_,?_⟩
 ·exact mq
 ·exact mq
 ·exact mq
 refine ⟨?_,?_,?_,?_⟩
 ·exact mq
 ·exact mq
 ·exact mq
 refine ⟨fun hc0=>?_,fun hc0=>?_⟩
 ·skip
  refine ⟨?_,?_,?_,?_⟩
  ·exact mq
  ·exact mq
  ·exact mq
  exact wR xs jh xn _ h
 skip
 refine ⟨fun hc1=>?_,fun hc1=>?_⟩
 ·skip
  refine ⟨?_,?_⟩
  ·exact mq
  refine ⟨?_,?_,?_,?_⟩
  ·exact mq
  ·exact mq
  ·exact mq
  refine ⟨?_,?_⟩
  ·exact mq
  exact wR xs jh xn _ h
 skip
 exact wR xs jh xn _ h
theorem RS (xs:Bs) (jh:Int) (xn:Int) (hp:A_ xs jh xn):Ba xs jh xn (fun k0=>k0=ky xs jh xn) :=
 PO xs jh xn hp (fun z=>z=ky xs jh xn) rfl
theorem RQ {g:ak} (xs:Bs) (jh:Int) (xn:Int)  (hp:A_ xs jh xn):bE prog 96 #[sv xs,iv jh,iv xn] g (.agg (aK (ky xs jh xn))) :=
 (PN xs jh xn _ (RS xs jh xn hp)).gv
set_option linter.unusedVariables false
set_option linter.unusedSimpArgs false
set_option maxHeartbeats 4000000
set_option maxRecDepth 100000
theorem FQ (s c:Bs):(mZ s c).length≤s.length:=(List.dropWhile_sublist _).length_le
def adG (s:Bs):Nat:=s.length - (mZ s [48,49,50,51,52,53,54,55,56,57]).length
theorem Iq (s:Bs):adG s≤s.length:=Nat.sub_le _ _
theorem zF {s:Bs} (h:fP s):bS s=(adG s:Int):=by
 have:=FQ s [48,49,50,51,52,53,54,55,56,57]
 unfold fP at h
 unfold bS adG
 rw [gp om]
 omega
def NM (n x:Int):Int:=if 1000000000<(w6 ((w6 (10 * n))+(w6 (IntKind.wrap .u8 (x - 48))))) then 1000000000 else (w6 ((w6 (10 * n))+(w6 (IntKind.wrap .u8 (x - 48)))))
def wT (xs:Bs):List Int:=intsOf ((xs.take (Int.toNat (w6 ((aX xs)+(bS (xs.drop (Int.toNat (aX xs)))))))).drop (Int.toNat (aX xs)))
def iY (xs:Bs):Int×Int :=
 if (w6 ((bS (xs.drop (Int.toNat (aX xs))))+(numbV2 xs))==0)=true then (0,0) else
  (qx xs (lV xs 2 (lV xs 1 (lV xs 0 ((wT xs).foldl NM 0)))),kX xs)
theorem ae8 (xs:Bs):0≤aX xs∧aX xs≤xs.length:=by
 unfold aX
 cases h:oU xs
 ·simp
 unfold oU at h
 simp at h
 have:=List.length_pos_iff.mpr h.1
 simp
 omega
theorem l68 (xs:Bs) (K:Int→Int→Prop) (h0:0<xs.length) (n:Int) (hK:K (qx xs (lV xs 2 (lV xs 1 (lV xs 0 n)))) (kX xs)):x_ xs K n:=by
 have fin:∀ m,K (qx xs m) (kX xs)→pY xs K 1 3 m:=fun m hm=>⟨fun h=>by simp at h,fun _=>⟨om,by simpa using h0,fun _=>hm,fun _=>hm⟩⟩
 have stp:∀ (k i:Nat) m,i<3→pY xs K k ((i+1:Nat):Int) (lV xs (i:Int) m)→pY xs K (k+1) (i:Int) m:=fun k i m hi h=>by
  have key:x9 xs (i:Int) m (pY xs K k):=by
   unfold x9
   rw [gp om]
   exact h
  refine ⟨fun _=>⟨fun hc=>⟨om,?_,key⟩,fun _=>key⟩,fun h=>oe h⟩
  have:=dn hc
  omega
 exact ⟨4,stp 3 0 n om (stp 2 1 _ om (stp 1 2 _ om (fin _ hK)))⟩
theorem MV {xs:Bs} (h:fP xs):0≤aX xs∧aX xs≤w6 ((aX xs)+(bS (xs.drop (Int.toNat (aX xs)))))∧w6 ((aX xs)+(bS (xs.drop (Int.toNat (aX xs)))))≤xs.length:=by
 have h1:=ae8 xs
 have h2:=Iq (xs.drop (aX xs).toNat)
 rw [zF (iT h _)]
 rw [gJ] at h2
 unfold fP at h
 rw [gp om]
 omega
theorem Ym {xs:Bs} (h:fP xs):0≤numbV2 xs∧(0<numbV2 xs→w6 ((aX xs)+(bS (xs.drop (Int.toNat (aX xs)))))+1+numbV2 xs≤xs.length):=by
 have he:=MV h
 unfold numbV2
 generalize w6 ((aX xs)+(bS (xs.drop (Int.toNat (aX xs)))))=e at he ⊢
 split
 ·rename_i hc
  have h1:=nJ (s:=xs.drop e.toNat) (p:=[46]) hc
  have e1:Int.toNat 1=1:=rfl
  rw [e1,zF (iT (iT h _) _)]
  have h2:=Iq ((xs.drop e.toNat).drop 1)
  rw [gJ,gJ] at h2
  rw [gJ] at h1
  simp at h1
  omega
 omega
theorem aay (xs:Bs) (h:fP xs):YD xs (fun a b=>(a,b)=iY xs):=by
 have he:=MV h
 have hv:=Ym h
 have h':=h
 unfold fP at h'
 have j15:A9 xs (fun a b=>(a,b)=iY xs):=by
  refine ⟨fun hc=>?_,fun hc=>?_⟩
  ·unfold iY; rw [aT hc]
  have hK:iY xs=(qx xs (lV xs 2 (lV xs 1 (lV xs 0 ((wT xs).foldl NM 0)))),kX xs):=by unfold iY; rw [aF hc]
  have h0:0<xs.length:=by
   rcases Nat.eq_zero_or_pos xs.length with h0 | h0
   ·exfalso
    have e1:bS (xs.drop (Int.toNat (aX xs)))=0:=by
     rw [zF (iT h _)]
     have:=Iq (xs.drop (Int.toNat (aX xs)))
     rw [gJ] at this
     omega
    have e2:numbV2 xs=0:=om
    rw [e1,e2] at hc
    exact absurd hc dc
   exact h0
  refine ⟨he.1,he.2.1,he.2.2,by rw [gJ,gz,l9]; omega,(wT xs).length+1,?_⟩
  have hB:(wT xs).length≤xs.length:=by unfold wT; rw [iy,gJ,gz]; omega
  have loop:∀ (k i:Nat) (n:Int),(wT xs).length=i+k→((wT xs).drop i).foldl NM n=(wT xs).foldl NM 0→A8 xs (fun a b=>(a,b)=iY xs) (k+1) (i:Int) n:=by
   intro k
   induction k with
   | zero =>
    intro i n hl hf
    rw [fF om] at hf
    have fin:x_ xs (fun a b=>(a,b)=iY xs) n:=l68 xs _ h0 n (by rw [hK,← hf]; rfl)
    refine ⟨fun hc=>?_,fun _=>⟨fun h2=>?_,fun _=>fin⟩⟩
    ·have:=dn hc
     have e:(wT xs).length=i:=om
     unfold wT at e
     omega
    have h2:=dn h2
    have:=hv.2 h2
    generalize w6 ((aX xs)+(bS (xs.drop (Int.toNat (aX xs)))))=e at he this ⊢
    rw [gp (x:=e+1) om,gp om]
    exact ⟨om,om,om,fin⟩
   | succ k ih =>
    intro i n hl hf
    refine ⟨fun _=>⟨om,?_,?_⟩,fun hc=>?_⟩
    ·show _<(wT xs).length
     omega
    ·rw [gp om]
     have hd:=dm (l:=wT xs) (default:Int) (show i<(wT xs).length by omega)
     rw [hd,List.foldl_cons] at hf
     exact ih (i+1) _ om hf
    have:=fZ hc
    have e:(wT xs).length=i+(k+1):=hl
    unfold wT at e
    omega
  exact loop _ 0 0 om rfl
 have j5:Gq xs (fun a b=>(a,b)=iY xs):=by
  refine ⟨he.1,om,om,om,he.2.2,om,fun hc=>⟨om,?_,om,j15⟩,fun _=>j15⟩
  have h1:=nJ (s:=xs.drop _) (p:=[46]) hc
  simp only [cK,jT] at h1
  omega
 have j6:CQ xs (fun a b=>(a,b)=iY xs):=⟨fun _=>j5,fun _=>j5⟩
 refine ⟨fun hc=>⟨om,?_,fun _=>j6,fun _=>j6⟩,fun _=>j6⟩
 have:=List.length_pos_iff.mpr (show xs≠[] by simpa using hc)
 simpa using this
theorem aax {g:ak} (xs:Bs)  (hp:fP xs):bE prog 95 #[sv xs] g (.tuple #[iv (iY xs).1,iv (iY xs).2]) :=
 (We xs _ (aay xs hp)).gives (by rintro g' H' v _ ⟨r0,r1,rfl,rfl,hK⟩; obtain ⟨rfl,rfl⟩:r0=(iY xs).1∧r1=(iY xs).2:=⟨ay (fun z=>z.1) hK,ay (fun z=>z.2) hK⟩; rfl)
end Go.Proofs.YtdapgmigogpdcaaGreatDoor.tF
