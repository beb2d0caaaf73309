/- strings.TrimLeft at a cutset of ASCII signs. -/
import Derived.Test.YtdapgmigogpdcaaGreatDoorBlc
import Derived.Test.YtdapgmigogpdcaaGreatDoorShelf
import Derived.WalkKit
import Derived.WalkSpells
import Derived.WalkLawsBesides
namespace Go.Proofs.YtdapgmigogpdcaaGreatDoor.Trm
open _root_.Go.Proofs.Tryz Go Go.Eng Go.RowKit
set_option linter.unusedVariables false
set_option linter.unusedSimpArgs false
set_option maxHeartbeats 4000000
set_option maxRecDepth 100000
/-- a block that holds of each byte whether it is in a set -/
def SetAt (g:Ghost) (b:Nat) (f:UInt8→Bool):Prop:=∃ cs T fz,g b=some (.cells cs T fz)∧∀ x:UInt8,cs[x.toNat]? = some (.bool (f x))
theorem SetAt.mono {g g':Ghost} {b:Nat} {f:UInt8→Bool} (h:SetAt g b f) (hg:Gle g g'):SetAt g' b f:=by
  obtain ⟨cs,T,fz,h1,h2⟩:=h
  exact ⟨cs,T,fz,hg _ _ h1,h2⟩
def inS (f:UInt8→Bool) (x:Int):Bool:=f (UInt8.ofNat x.toNat)
def inP (f:UInt8→Bool) (x:Int):Prop:=0≤x∧x≤255
theorem con_c {g:Ghost} {b:Nat} (f:UInt8→Bool) (x:Int) (hO:SetAt g b f) (hp:inP f x):CallsG prog 177 #[pv b 0,.int .u8 x] g (.bool (inS f x)):=fun W hW=>by
  obtain ⟨cs,T,fz,h1,h2⟩:=hO
  have hb:=hW _ _ h1
  have hx:((UInt8.ofNat x.toNat).toNat:Int)=x:=by
    have:x.toNat<256:=by have:=hp.1; have:=hp.2; omega
    rw [UInt8.toNat_ofNat',Nat.mod_eq_of_lt (by simpa using this)]
    have:=hp.1
    omega
  have:=Tryz.asciiSet_contains b (UInt8.ofNat x.toNat) (inS f x) W (by rw [Lib.cell_of_heap hb]; exact h2 _)
  rw [hx] at this
  exact this.mono fun e W' ⟨he,hw⟩=>⟨he,by subst hw; exact Below.refl _ _⟩
def tlaj3 (K:Bs→Prop) (v0:Bs):Prop :=
  K v0
def tlal5b (xas:UInt8→Bool) (K:Bs→Prop) (z0:Bs) (C5:Bs→Prop):Prop :=
  ((decide ((z0.length:Int)>0))=true→(0:Int)≤0∧Int.toNat 0<z0.length∧inP xas ((z0.getD (Int.toNat 0) 0).toNat:Int)∧((!(inS xas ((z0.getD (Int.toNat 0) 0).toNat:Int)))=true→tlaj3 K z0)∧((!(inS xas ((z0.getD (Int.toNat 0) 0).toNat:Int)))=false→(0:Int)≤1∧(1:Int)≤(z0.length:Int)∧(z0.length:Int)≤(z0.length:Int)∧C5 (z0.drop (Int.toNat 1))))∧((decide ((z0.length:Int)>0))=false→tlaj3 K z0)
def tlal5 (xas:UInt8→Bool) (K:Bs→Prop):Nat→Bs→Prop
  | 0,_=>False
  | k+1,z0=>tlal5b xas K z0 (tlal5 xas K k)
def tlaF (xs:Bs) (xas:UInt8→Bool) (K:Bs→Prop):Prop :=
  ∃ k,tlal5 xas K k xs
theorem tla_ok {g:Ghost} (xs:Bs) {bxas:Nat} (xas:UInt8→Bool) (hOxas:SetAt g bxas xas) (K:Bs→Prop)
    (hF:tlaF xs xas K):CallsH prog 132 #[sv xs,pv bxas 0] g [] (fun g' H' v=>∃ (r0:Bs),v=sv r0∧H'=[]∧K r0):=by
  refine CallsH.en 16 func132 rfl fun w0=>?_
  refine Ok.sr (Ok.B 1 [(0,sv xs),(1,pv bxas 0)] kr (Ok.nt (Ok.cut (fun a W=>∃ (v0:Bs),StA 16 [(0,sv v0)] a∧StW w0 [] g W∧tlaj3 K v0) ?_ ?_)))
  ·
    refine Ok.block ?_
    obtain ⟨k,hF⟩:=hF
    refine Ok.L (fun k a W=>∃ (z0:Bs),StA 16 [(0,sv z0),(1,pv bxas 0)] a∧StW w0 [] g W∧tlal5 xas K k z0) k ?_ ?_
    ·
      exact fun _ _ u v=>⟨xs,fA u v hF⟩
    clear hF
    rintro (_ | k5) _ _ ⟨z0,q⟩
    exact (q.2.2:False).elim
    refine jn (fun hF=>?_) _ _ q
    refine Ok.q (Ok.sr (Ok.b 3 [0,1] [(7,.bool (decide ((z0.length:Int)>0)))] ?_))
    refine Ok.nt (Ok.cw hF (fun hc1 hF=>?_) (fun hc1 hF=>?_))
    · refine Ok.k (Ok.t (Ok.block (Ok.q (Ok.sr (Ok.b 2 [0,1] [(8,pv bxas 0),(9,sv z0)] ?_)))))
      obtain ⟨h02,h12,hF⟩:=hF
      have he2:=get_of (l:=z0) (0:UInt8) h12
      generalize hg2:(z0.getD (Int.toNat 0) 0)=e2 at he2 hF ⊢
      refine Ok.o (OpOk.s (v:=.int .u8 (e2.toNat:Int)) (Yields.ix (k:=.i64) (i:=0) (s:=z0) (b:=e2) kr kr underlying9 h02 he2) rfl rfl ?_)
      obtain ⟨hp3,hF⟩:=hF
      refine Ok.rn 2 [.k (con_c xas (e2.toNat:Int) hOxas hp3)] [0,1] [(12,.bool (!(inS xas (e2.toNat:Int))))] ?_
      refine Ok.nt (Ok.c (b:=!(inS xas (e2.toNat:Int))) rfl (fun hc4=>?_) (fun hc4=>?_))
      · replace hF:=hF.1 hc4
        refine Ok.x (Ok.thenE (Ok.blockMiss rfl (Ok.thenE (Ok.blockHit (Ok.t ?_)))))
        subst hg2
        exact fun _ _ u v=>⟨z0,fA u v hF⟩
      replace hF:=hF.2 hc4
      refine Ok.k (Ok.t (Ok.r (Ok.b 1 [1] [(13,sv z0)] ?_)))
      obtain ⟨h05,h15,h25,hF⟩:=hF
      refine Ok.o (OpOk.s (Yields.ss (s:=z0) (l:=1) (h:=(z0.length:Int)) kr underlying9 (.inl ⟨_,_,rfl,rfl⟩) (.inr ⟨rfl,rfl⟩) h05 h15 h25 (z0.drop (Int.toNat 1)) (by rw [show (z0.length:Int).toNat=z0.length from tnc _,List.take_length])) rfl rfl (Ok.b 1 [1] [(0,sv (z0.drop (Int.toNat 1)))] ?_))
      refine Ok.j (Ok.kn (Ok.t ?_))
      subst hg2
      exact fun _ _ u v=>⟨k5,nl,z0.drop (Int.toNat 1),fA u v hF⟩
    refine Ok.x (Ok.thenE (Ok.thenE (Ok.blockHit (Ok.t ?_))))
    exact fun _ _ u v=>⟨z0,fA u v hF⟩
  clear hF
  rintro _ _ ⟨v0,q⟩
  refine jn (fun hF=>?_) _ _ q
  refine Ok.sr (Ok.B 2 [(4,sv v0)] kr (Ok.nt (Ok.ret ?_)))
  exact Ok.h0 (sv v0) ⟨v0,rfl,rfl,hF⟩
def tlaS (s:Bs) (f:UInt8→Bool):Bs:=s.dropWhile f
theorem inS_at (f:UInt8→Bool) (x:UInt8):inS f (x.toNat:Int)=f x:=by
  unfold inS
  rw [tnc,UInt8.ofNat_toNat]
theorem tla_loop (f:UInt8→Bool) (K:Bs→Prop):∀ (s:Bs),K (s.dropWhile f)→tlal5 f K (s.length+1) s
  | [],hK=>⟨fun h=>by simp at h,fun _=>hK⟩
  | c::s,hK=>by
    refine ⟨fun _=>?_,fun h=>by simp at h⟩
    have e0:(c::s).getD (Int.toNat 0) 0=c:=rfl
    rw [e0,inS_at]
    have hc:=UInt8.toNat_lt c
    refine ⟨by omega,by simp,⟨by omega,by omega⟩,fun h=>?_,fun h=>?_⟩
    · rw [List.dropWhile_cons_of_neg (by simpa using h)] at hK
      exact hK
    rw [List.dropWhile_cons_of_pos (by simpa using h)] at hK
    exact ⟨by omega,by simp only [List.length_cons]; omega,by omega,tla_loop f K s hK⟩
theorem tla_F (s:Bs) (f:UInt8→Bool):tlaF s f (fun r=>r=tlaS s f):=⟨_,tla_loop f _ s rfl⟩
theorem tla_c {g:Ghost} (xs:Bs) {bxas:Nat} (xas:UInt8→Bool) (hOxas:SetAt g bxas xas)  : CallsG prog 132 #[sv xs,pv bxas 0] g (sv (tlaS xs xas)) :=
  (tla_ok xs xas hOxas _ (tla_F xs xas)).gv
theorem zz:∀ w,(zeroValue 153).run prog w=.ok (.agg (Array.replicate 256 (.bool false))) w:=fun w=>by rw [Tryz.zeroValue153]; exact congrArg (fun c=>Result.ok (Value.agg c) w) kr
theorem two_alloc {P:Program} (W:World) (o:Obj) (arr cs:Array Value) (T:TypeId) (hs:cs.size=arr.size) (hc:∀ v ∈ cs.toList,v.oneCell'=true) :
    (storeCells ⟨W.heap.size+1,0,none⟩ cs.toList).run P ((W.alloc o).alloc (.cells arr T))=.ok () (((W.alloc o).alloc (.cells arr T)).setRow (W.heap.size+1) cs) ∧
    (((W.alloc o).alloc (.cells arr T)).setRow (W.heap.size+1) cs).heap[W.heap.size+1]? = some (.cells cs T (0,0)) ∧
    Below W.heap.size W (((W.alloc o).alloc (.cells arr T)).setRow (W.heap.size+1) cs):=by
  have hsz:(W.alloc o).heap.size=W.heap.size+1:=by show (W.heap.push o).size=_; simp
  have hh:((W.alloc o).alloc (.cells arr T)).heap[W.heap.size+1]? = some (.cells arr T (0,0)):=by
    rw [← hsz]; exact heap_alloc_new _ _
  refine ⟨?_,setRow_heap _ _ arr _ T (0,0) hh,?_⟩
  · have h1:=run_storeCells_at (P:=P) (W.heap.size+1) 0 T cs.toList 0 arr _ hh (by simp; omega) hc
    rw [h1]
    have e:(List.take (0+0) arr.toList++cs.toList++List.drop (0+0+cs.toList.length) arr.toList).toArray=cs:=by
      rw [List.drop_of_length_le (by simp; omega)]
      simp
    rw [e]
  · refine (((Below.refl W.heap.size W).alloc (Nat.le_refl _) o).alloc (by rw [hsz]; omega) _).trans ⟨rfl,rfl,rfl,by simp [World.setRow],fun k hk=>setRow_other _ _ _ _ om⟩
theorem tl_w (s cut:Bs) (r:Bs) (W:World) (h2:2≤cut.length) (hs:cut.length<4294967281) (hascii:∀ (j:Nat) b,cut[j]? = some b→b.toNat<128) (hne:s≠[])
   (trimA:∀ w b,W.heap.size≤b→w.heap[b]? = some (.cells (Lib.setCells cut) 153 (0,0))→Calls prog 132 #[sv s,pv b 0] w fun e w'=>e=.returned (sv r)∧Below w.heap.size w w') :
    Calls prog 87 #[sv s,sv cut] W fun e w'=>e=.returned (sv r)∧Below W.heap.size W w':=by
  have e197:∀ args w,(callFunc 130 args).run prog w=.ok (.enter 130 args) w:=enters_of func130 kr rfl
  have e198:∀ args w,(callFunc 131 args).run prog w=.ok (.enter 131 args) w:=enters_of func131 kr rfl
  have e199:∀ args w,(callFunc 132 args).run prog w=.ok (.enter 132 args) w:=enters_of func132 kr rfl
  have e200:∀ args w,(callFunc 133 args).run prog w=.ok (.enter 133 args) w:=enters_of func133 kr rfl
  have c1:s.isEmpty=false:=by simpa using hne
  have c2:cut.isEmpty=false:=by cases cut <;> simp at h2 ⊢
  have c3:¬ ((cut.length:Int)=1):=by omega
  have z224:=zz
  go_enter func87,ntmps87
  go_wp2_with (go_at_fn 131; refine (Tryz.strings_makeASCIISet zz ⟨⟨cut⟩⟩ _ hs hascii).mono ?_)
  rotate_left
  · exact absurd (Lib.setCells_size cut) asm
  obtain ⟨hst,hb2,hbl⟩:=two_alloc (P:=prog) W (.cells (Lib.setCells cut) 153) (Array.replicate 256 (.bool false)) (Lib.setCells cut) 153 (by rw [Lib.setCells_size,Array.size_replicate]) (fun v hv=>by
    have:=Lib.setCells_one cut
    rw [Array.all_eq_true_iff_forall_mem] at this
    exact this v (Array.mem_toList_iff.1 hv))
  rw [hst]
  simp only [Result.andThen]
  rw [Oper.upon_skip]
  generalize (((W.alloc (.cells (Lib.setCells cut) 153)).alloc (.cells (Array.replicate 256 (.bool false)) 153)).setRow (W.heap.size+1) (Lib.setCells cut))=W2 at hb2 hbl ⊢
  go_wp2_with (go_at_fn 132; refine (trimA _ _ (Nat.le_succ _) hb2).mono ?_)
  rintro e w3 ⟨rfl,hw3⟩
  go_wp2
  go_ret
  exact ⟨rfl,hbl.trans (hw3.mono hbl.size)⟩

theorem tl_nil (cut:Bs) (W:World):Calls prog 87 #[sv [],sv cut] W fun e w'=>e=.returned (sv [])∧w'=W:=by
  go_enter func87,ntmps87
  go_wp2
  go_ret
  exact ⟨rfl,rfl⟩
def tlS (s cut:Bs):Bs:=s.dropWhile fun x=>cut.contains x
def tlP (s cut:Bs):Prop:=2≤cut.length∧cut.length<4294967281∧cut.all (fun x=>decide (x.toNat<128))=true
theorem tl_c {g:Ghost} (s cut:Bs) (hp:tlP s cut):CallsG prog 87 #[sv s,sv cut] g (sv (tlS s cut)):=fun W hW=>by
  obtain ⟨h2,h3,h4⟩:=hp
  by_cases hs:s=[]
  · subst hs
    exact (tl_nil cut W).mono fun e w' ⟨he,hw⟩=>⟨he,by subst hw; exact Below.refl _ _⟩
  refine tl_w s cut (tlS s cut) W h2 h3 (fun j b hj=>?_) hs fun w b _ hb=>?_
  · have:=List.all_eq_true.1 h4 b (List.mem_of_getElem? hj)
    simpa using this
  · exact tla_c (g:=ghostOf w) s (fun x=>cut.contains x) ⟨_,_,_,hb,fun x=>Lib.setCells_at cut x⟩ w (gh_ghostOf w)
end Go.Proofs.YtdapgmigogpdcaaGreatDoor.Trm
