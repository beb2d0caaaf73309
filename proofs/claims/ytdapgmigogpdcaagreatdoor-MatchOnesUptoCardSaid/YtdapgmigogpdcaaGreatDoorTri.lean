/-
 A slice of the call's own is cut at its end and kept. No program in sight.
-/
import Derived.Test.YtdapgmigogpdcaaGreatDoorSto
import Derived.Test.YtdapgmigogpdcaaGreatDoorEng
import Derived.Test.YtdapgmigogpdcaaGreatDoorPl
import Derived.Test.YtdapgmigogpdcaaGreatDoorShelf
import Derived.Shelf.Strings.SlTrimAscii
namespace Go.Eng
open Go.RowKit (Below)
set_option linter.unusedVariables false
section
variable {P:Program} {n:Fsz} {w0:Base} {m:Env} {H:List Ent} {g:Ghost} {R:Act→World→Prop} {Q:Exit→Act→World→Prop} {ops:Array Oper}
theorem RepL.take {e:Ty}:∀ {l:List e.den} {xs:List Value} (k:Nat),RepL g e xs l→RepL g e (xs.take (k * e.size)) (l.take k)
 | l,xs,0,_=>by rw [Nat.zero_mul,List.take_zero,List.take_zero]; rfl
 | [],xs,k+1,h=>by rw [show xs=[] from h]; simp; rfl
 | x::l,xs,k+1,⟨c,r,h1,h2,h3⟩=>by
  refine ⟨c,r.take (k * e.size),?_,h2,RepL.take k h3⟩
  rw [h1,Nat.succ_mul,Nat.add_comm,← h2.size,List.take_length_add_append]
theorem OpOk.cutOwn {K:Act→World→Prop} {d:Nat} {T E ty:TypeId} {x o:Operand} {pos:String} {after:Array Edge} {gd:Option (Nat×Bool)} {k:IntKind} {h:Int} {e:Ty} {l:List e.den} {xs:List Value} {a:Option Addr} {c:Nat}
  (i:Nat) (hx:val m x=some (.slice a l.length c)) (ho:val m o=some (.int k h)) (hi:H[i]? = some (.own (.slice a l.length c) E e.size l.length xs)) (hR:RepL g e xs l)
  (hu:P.underlying T=some (.slice E)) (hs:(P.info? E).map (·.size)=some e.size) (h0:0≤h) (h2:h≤(l.length:Int)) (hn:Nat.ble (d+1) n=true)
  (hk:∀ xs2,RepL g e xs2 (l.take h.toNat)→Ok n w0 ((d,.slice a (l.take h.toNat).length c)::m) (H.set i (.own (.slice a (l.take h.toNat).length c) E e.size (l.take h.toNat).length xs2)) g K) :
  OpOk P K Q ⟨some d,.slice T x none (some o) none,ty,pos,after,gd⟩ n w0 m H g:=fun ac W hA hW=>by
 have hok:W.ownsRow 0 E e.size (.slice a l.length c) l.length xs:=hW.ents _ (List.mem_of_getElem? hi)
 have hlen:(l.take h.toNat).length=h.toNat:=by rw [List.length_take]; omega
 have hl:(l.length:Int)≤c:=by
  rcases hok.2 with ⟨he,hl⟩ | ⟨b,cap,cur,he,hB,hh,hcap,hmax,hsize,htake⟩
  ·simp only [Value.slice.injEq] at he; omega
  simp only [Value.slice.injEq] at he; omega
 have e1:((h.toNat:Nat):Int)=h:=by omega
 have hcap:h≤(c:Int):=by omega
 show Oper.upon P _ ac _ Q (Sem.run P (execOp ac.eval _) W)
 have ev:(execOp ac.eval ⟨some d,.slice T x none (some o) none,ty,pos,after,gd⟩).run P W=.ok (.value (.slice a h.toNat c)) W:=by
  cases hinf:P.info? E with
  | none=>simp [hinf] at hs
  | some inf =>
   simp only [hinf,Option.map_some,Option.some.injEq] at hs
   simp only [execOp,hA.eval hx,hA.eval ho,Option.map_some,Option.map_none]
   simp [Instr.sliceAt,underlying,hu,Instr.slice,Instr.sliceBounds,Instr.sliceBound,asIntOf,h0,hcap,sizeOf,typeInfo,hinf,go_sem]
 rw [ev,Oper.upon_value]
 have hk:=hk _ (RepL.take h.toNat hR)
 rw [hlen] at hk
 refine hk _ W (hA.put (Nat.le_of_ble_eq_true hn) _) (hW.grown (e':=.own (.slice a h.toNat c) E e.size h.toNat (xs.take (h.toNat * e.size))) hi ⟨rfl,rfl,rfl,Nat.le_refl _,fun _ _ _=>rfl⟩ ?_ (.inl ?_))
 ·show W.ownsRow 0 E e.size (.slice a h.toNat c) h.toNat (xs.take (h.toNat * e.size))
  have hlx:=hok.1
  refine ⟨?_,?_⟩
  ·rw [List.length_take,hlx]
   exact Nat.min_eq_left (Nat.mul_le_mul_right _ (by omega))
  rcases hok.2 with ⟨he,hl⟩ | ⟨b,cap,cur,he,hB,hh,hcap,hmax,hsize,htake⟩
  ·simp only [Value.slice.injEq] at he
   obtain ⟨rfl,-,rfl⟩:=he
   exact .inl ⟨by rw [show h.toNat=0 by omega],by omega⟩
  simp only [Value.slice.injEq,true_and] at he
  obtain ⟨rfl,rfl⟩:=he
  refine .inr ⟨b,c,cur,rfl,hB,hh,by omega,hmax,hsize,?_⟩
  rw [← htake,List.take_take,Nat.min_eq_left (Nat.mul_le_mul_right _ (by omega))]
 show (Value.slice a h.toNat c).ownBlock=(Value.slice a l.length c).ownBlock
 cases a <;> rfl
end
end Go.Eng
namespace Go.Eng
open Go.RowKit (Below)
section
variable {P:Program} {ops:Array Oper} {Q:Exit→Act→World→Prop}
section
variable {B:Type} {C:B→World→Prop} {S:Nat→B→Prop} {T:Nat→B→Prop} {md:Region.Mode} {Qn:Act→World→Prop}
end
variable {n:Fsz} {w0:Base} {m:Env} {H:List Ent} {g:Ghost} {g0:Ghost} {R:Act→World→Prop}

/-- Hf: what is left alone by the operations of soft, some of which may write -/
theorem Ok.mixs {id:Nat} {l:List Oper} (pre soft:List Nat) (Hf H0:List Ent) (os:List (Nat×Bool)) (hm:P.follows .mixedOrders=true) (hB:mixOk l.toArray pre soft os=true) (hs:List.Sublist H0 Hf) (hf:List.Sublist Hf H)
  (h:OkM P l.toArray n w0 g pre soft Hf H0 m H g (Q .normal) os):Ok n w0 m H g ((Code.region id l.toArray true).wp P Q) :=
 fun a _ hA hW=>wp_region_mix (C:=fun c W=>StW w0 c.2 c.1 W) (S:=fun i c=>Gle g c.1∧List.Sublist (bif soft.contains i then Hf else H0) c.2) (T:=Asks g pre Hf H0) (c:=(g,H)) os hm hB (fun c i j h hp=>⟨h.1,by
  have h2:=h.2
  rcases hp with hp | hp
  ·rw [hp] at h2
   cases pre.contains i
   ·exact hs.trans h2
   exact h2
  ·rw [hp]
   cases hj:soft.contains j
   ·rw [hj] at h2; exact h2
   rw [hj] at h2; exact hs.trans h2⟩) (fun i=>⟨Gle.refl g,by
  cases pre.contains i
  ·exact hs.trans hf
  exact hf⟩) (hW.of_below ((Below.refl _ _).drew)) (h a hA)

end
end Go.Eng
namespace Go.Proofs.YtdapgmigogpdcaaGreatDoor.Ti
open Go Go.Eng Go.RowKit Go.Shelf Go.Proofs
def ibS (s:Bs) (c:Int):Int:=Lib.indexByte s c.toNat.toUInt8
theorem ib_c {g:Ghost} (s:Bs) (c:Int):CallsG Tryz.prog 65 #[.string ⟨⟨s⟩⟩,.int .u8 c] g (.int .i64 (ibS s c)):=fun W hW =>
 (Tryz.strings_IndexByte ⟨⟨s⟩⟩ c W).mono fun e W' ⟨he,hw⟩=>⟨he,by subst hw; exact Below.refl _ _⟩
def trimP (s cut:Bs):Prop:=s.length≤9223372036854775807∧cut.length<4294967281∧cut.all (fun x=>decide (x.toNat<128))=true
def trimS (s cut:Bs):Bs:=Lib.trimS s cut
theorem trim_c {g:Ghost} (s cut:Bs) (hp:trimP s cut):CallsG Tryz.prog 101 #[.string ⟨⟨s⟩⟩,.string ⟨⟨cut⟩⟩] g (.string ⟨⟨trimS s cut⟩⟩):=fun W hW=>by
 obtain ⟨h1,h2,h3⟩:=hp
 exact (Any.strings_Trim_laid Tryz.lays160 kr ⟨⟨s⟩⟩ ⟨⟨cut⟩⟩ W h1 h2 (ascii_of_all h3)).mono fun e w' ⟨he,hw⟩=>⟨he,hw⟩
end Go.Proofs.YtdapgmigogpdcaaGreatDoor.Ti
