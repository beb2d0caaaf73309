/- strings.Builder: what its methods do to a builder of the call's own (after the kit's worked contracts, with the frame that the engine needs). -/
import Derived.Test.YtdapgmigogpdcaaGreatDoorExi
import Derived.Test.YtdapgmigogpdcaaGreatDoorProg
import Derived.Shelf.Strings.Builder1
import Derived.Maps.AppendAt
namespace Go.Proofs.YtdapgmigogpdcaaGreatDoor.jL
open Go.iQ
set_option maxHeartbeats 2000000
set_option linter.unusedVariables false
set_option maxRecDepth 100000
open Go Go.iQ Go.RowKit Go.Shelf Go.Proofs
def ren:Ren:=⟨fun
 | 240=>80 | 276=>123
 | 167=>46
 | 166=>48
 | 169=>50
 | n=>n,fun | 0=>0 | 3=>3 | 4=>4 | 5=>5 | 9=>9 | 20=>20 | 37=>26 | 70=>85 | 72=>87 | 75=>89 | 80=>95 | 127=>121 | 164=>145 | n=>n,fun n=>n⟩
theorem ahG:Lays.n240 Tryz.prog ren:={
 mixed:=by kernel_rfl
 f240:=Tryz.func80.trans (ay some kr)
 f276:=Tryz.func123.trans (ay some kr)
 t0:=Tryz.underlying0
 a0:=Tryz.isAgg0
 z0:=Tryz.sizeOf0
 v0:=Tryz.zeroValue0
 t4:=Tryz.underlying4
 a4:=Tryz.isAgg4
 z4:=Tryz.sizeOf4
 v4:=Tryz.zeroValue4
 t9:=Tryz.underlying9
 a9:=Tryz.isAgg9
 z9:=Tryz.sizeOf9
 v9:=Tryz.zeroValue9
 t20:=Tryz.underlying20
 a20:=Tryz.isAgg20
 z20:=Tryz.sizeOf20
 v20:=Tryz.zeroValue20
 t70:=Tryz.underlying85
 a70:=Tryz.isAgg85
 z70:=Tryz.sizeOf85
 v70:=Tryz.zeroValue85
 t72:=Tryz.underlying87
 a72:=Tryz.isAgg87
 z72:=Tryz.sizeOf87
 v72:=Tryz.zeroValue87
 t164:=Tryz.underlying145
 a164:=Tryz.isAgg145
 z164:=Tryz.sizeOf145
 v164:=Tryz.zeroValue145 }
theorem ahH:Lays.n167 Tryz.prog ren:={
 mixed:=by kernel_rfl
 f167:=Tryz.func46.trans (ay some kr)
 f240:=Tryz.func80.trans (ay some kr)
 f276:=Tryz.func123.trans (ay some kr)
 t0:=Tryz.underlying0
 a0:=Tryz.isAgg0
 z0:=Tryz.sizeOf0
 v0:=Tryz.zeroValue0
 t4:=Tryz.underlying4
 a4:=Tryz.isAgg4
 z4:=Tryz.sizeOf4
 v4:=Tryz.zeroValue4
 t5:=Tryz.underlying5
 a5:=Tryz.isAgg5
 z5:=Tryz.sizeOf5
 v5:=Tryz.zeroValue5
 t9:=Tryz.underlying9
 a9:=Tryz.isAgg9
 z9:=Tryz.sizeOf9
 v9:=Tryz.zeroValue9
 t20:=Tryz.underlying20
 a20:=Tryz.isAgg20
 z20:=Tryz.sizeOf20
 v20:=Tryz.zeroValue20
 t37:=Tryz.underlying26
 a37:=Tryz.isAgg26
 z37:=Tryz.sizeOf26
 v37:=Tryz.zeroValue26
 t70:=Tryz.underlying85
 a70:=Tryz.isAgg85
 z70:=Tryz.sizeOf85
 v70:=Tryz.zeroValue85
 t72:=Tryz.underlying87
 a72:=Tryz.isAgg87
 z72:=Tryz.sizeOf87
 v72:=Tryz.zeroValue87
 t75:=Tryz.underlying89
 a75:=Tryz.isAgg89
 z75:=Tryz.sizeOf89
 v75:=Tryz.zeroValue89
 t164:=Tryz.underlying145
 a164:=Tryz.isAgg145
 z164:=Tryz.sizeOf145
 v164:=Tryz.zeroValue145 }
theorem al6:Lays.n166 Tryz.prog ren:={
 mixed:=by kernel_rfl
 f166:=Tryz.func48.trans (ay some kr)
 f240:=Tryz.func80.trans (ay some kr)
 f276:=Tryz.func123.trans (ay some kr)
 t0:=Tryz.underlying0
 a0:=Tryz.isAgg0
 z0:=Tryz.sizeOf0
 v0:=Tryz.zeroValue0
 t3:=Tryz.underlying3
 a3:=Tryz.isAgg3
 z3:=Tryz.sizeOf3
 v3:=Tryz.zeroValue3
 t4:=Tryz.underlying4
 a4:=Tryz.isAgg4
 z4:=Tryz.sizeOf4
 v4:=Tryz.zeroValue4
 t9:=Tryz.underlying9
 a9:=Tryz.isAgg9
 z9:=Tryz.sizeOf9
 v9:=Tryz.zeroValue9
 t20:=Tryz.underlying20
 a20:=Tryz.isAgg20
 z20:=Tryz.sizeOf20
 v20:=Tryz.zeroValue20
 t37:=Tryz.underlying26
 a37:=Tryz.isAgg26
 z37:=Tryz.sizeOf26
 v37:=Tryz.zeroValue26
 t70:=Tryz.underlying85
 a70:=Tryz.isAgg85
 z70:=Tryz.sizeOf85
 v70:=Tryz.zeroValue85
 t72:=Tryz.underlying87
 a72:=Tryz.isAgg87
 z72:=Tryz.sizeOf87
 v72:=Tryz.zeroValue87
 t75:=Tryz.underlying89
 a75:=Tryz.isAgg89
 z75:=Tryz.sizeOf89
 v75:=Tryz.zeroValue89
 t164:=Tryz.underlying145
 a164:=Tryz.isAgg145
 z164:=Tryz.sizeOf145
 v164:=Tryz.zeroValue145 }
theorem al5:Lays.n169 Tryz.prog ren:={
 mixed:=by kernel_rfl
 f169:=Tryz.func50.trans (ay some kr)
 t0:=Tryz.underlying0
 a0:=Tryz.isAgg0
 z0:=Tryz.sizeOf0
 v0:=Tryz.zeroValue0
 t3:=Tryz.underlying3
 a3:=Tryz.isAgg3
 z3:=Tryz.sizeOf3
 v3:=Tryz.zeroValue3
 t9:=Tryz.underlying9
 a9:=Tryz.isAgg9
 z9:=Tryz.sizeOf9
 v9:=Tryz.zeroValue9
 t37:=Tryz.underlying26
 a37:=Tryz.isAgg26
 z37:=Tryz.sizeOf26
 v37:=Tryz.zeroValue26
 t70:=Tryz.underlying85
 a70:=Tryz.isAgg85
 z70:=Tryz.sizeOf85
 v70:=Tryz.zeroValue85
 t72:=Tryz.underlying87
 a72:=Tryz.isAgg87
 z72:=Tryz.sizeOf87
 v72:=Tryz.zeroValue87
 t127:=Tryz.underlying121
 a127:=Tryz.isAgg121
 z127:=Tryz.sizeOf121
 v127:=Tryz.zeroValue121 }
theorem X:Builder.Extra Tryz.prog ren:={
 sizeBuilder:=by kernel_rfl
 liesBuilder:=by kernel_rfl
 t5:=Tryz.underlying5
 a5:=Tryz.isAgg5
 z5:=Tryz.sizeOf5
 v5:=Tryz.zeroValue5
 infoByte:=by kernel_rfl
 cellsByte:=by kernel_rfl
 sizeByte:=by kernel_rfl
 neB5:=by decide }

structure Fr (b:Nat) (row:Option Nat) (w w':World):Prop where
 os:w'.os=w.os
 tape:w'.tape=w.tape
 output:w'.output=w.output
 size:w.heap.size≤w'.heap.size
 block:∀ k,k<w.heap.size→k≠b→some k≠row→w'.heap[k]? = w.heap[k]?

theorem uZ (w:World) (b i:Nat) (u:Value):w.grownBy (w.setCell ⟨b,i,none⟩ u) (some b) :=
 ⟨rfl,rfl,rfl,by simp [World.setCell],fun k _ hk=>Below.heap_setCell _ _ _ _ (fun e=>hk (by simp [e]))⟩

theorem cc (b:Nat) (v p:Value) (w:World) (hp:p=.pointer none∨p=.pointer (some ⟨b,0,none⟩)) (hbk:w.heap[b]? = some (.cells #[p,v] (ren.t 72) (0,0))) :
  Calls Tryz.prog (ren.f 240) #[.pointer (some ⟨b,0,none⟩)] w fun e w'=>e=.returned (.tuple #[])∧w'.heap[b]? = some (.cells #[.pointer (some ⟨b,0,none⟩),v] (ren.t 72) (0,0))∧w.grownBy w' (some b):=by
 rcases hp with rfl | rfl
 ·refine (Any.Builder_copyCheck_fresh ahG X.toX72 b w (by rw [Lib.cell_of_heap hbk]; rfl) (by simp [World.shape?,hbk]) (by simp [World.frozen?,hbk])).mono ?_
  rintro e w' ⟨rfl,rfl⟩
  exact ⟨rfl,by simp [World.setCell,xq,hbk],uZ w b 0 _⟩
 refine (Any.Builder_copyCheck_used ahG X.toX72 b w (by rw [Lib.cell_of_heap hbk]; rfl)).mono ?_
 rintro e w' ⟨rfl,rfl⟩
 exact ⟨rfl,hbk,rfl,rfl,rfl,fK _,fun _ _ _=>rfl⟩

theorem lt_of_heap {w:World} {b:Nat} {o:Obj} (h:w.heap[b]? = some o):b<w.heap.size:=(Array.getElem?_eq_some_iff.1 h).1

theorem wb (b:Nat) (v p:Value) (n:Nat) (bs:List Value) (c:Int) (w:World) (hp:p=.pointer none∨p=.pointer (some ⟨b,0,none⟩)) (hbk:w.heap[b]? = some (.cells #[p,v] (ren.t 72) (0,0)))
  (hown:w.ownsRow 0 (ren.t 5) 1 v n bs) (hlen:n+1≤140737488355328) :
  Calls Tryz.prog (ren.f 167) #[.pointer (some ⟨b,0,none⟩),.int .u8 c] w fun e w'=>e=.returned .nilIface∧∃ v',w'.heap[b]? = some (.cells #[.pointer (some ⟨b,0,none⟩),v'] (ren.t 72) (0,0)) ∧
   w'.ownsRow 0 (ren.t 5) 1 v' (n+1) (bs++[.int .u8 c])∧(v'.ownBlock=v.ownBlock∨∃ k,v'.ownBlock=some k∧w.heap.size≤k)∧Fr b v.ownBlock w w':=by
 have L:=ahH
 obtain ⟨i0,hi,hz0,hz1,hz2⟩:=info_parts X.infoByte
 have mixed:=L.mixed
 have t72:=L.t72; have a72:=L.a72; have z72:=L.z72; have v72:=L.v72; have u72:=run_underlying L.t72
 have t70:=L.t70; have a70:=L.a70; have z70:=L.z70; have v70:=L.v70; have u70:=run_underlying L.t70
 have t5:=L.t5; have a5:=L.a5; have z5:=L.z5; have v5:=L.v5; have u5:=run_underlying L.t5
 have t37:=L.t37; have a37:=L.a37; have z37:=L.z37; have v37:=L.v37; have u37:=run_underlying L.t37
 have t9:=L.t9; have a9:=L.a9; have z9:=L.z9; have v9:=L.v9; have u9:=run_underlying L.t9
 have t4:=L.t4; have a4:=L.a4; have z4:=L.z4; have v4:=L.v4; have u4:=run_underlying L.t4
 have t164:=L.t164; have a164:=L.a164; have z164:=L.z164; have v164:=L.v164; have u164:=run_underlying L.t164
 have e240:∀ args w,(callFunc (ren.f 240) args).run Tryz.prog w=.ok (.enter (ren.f 240) args) w:=enters_of L.f240 kr rfl
 have hne:v.ownBlock≠some b:=Lib.ownBlock_ne hown hbk X.neB5
 go_enter L.f167,Body.n167_ntmps ren
 go_wp2_with (go_at_fn (ren.f 240); refine (cc b v p _ hp hbk).mono ?_)
 rintro e w1 ⟨rfl,hbk1,hg1⟩
 have hown1:=hown.kept hg1 (Or.inr hne)
 have c0:w1.cell? ⟨b,0,none⟩=some (.pointer (some ⟨b,0,none⟩)):=by rw [Lib.cell_of_heap hbk1]; rfl
 have c1:w1.cell? ⟨b,1,none⟩=some v:=by rw [Lib.cell_of_heap hbk1]; rfl
 have hlt:=lt_of_heap hbk1
 go_wp2_with (at_builtin; refine wpList_append_own_at _ rfl _ _ (ren.t 37) rfl 0 (ren.t 5) i0 (.int .u8 0) 1 1 L.t37 hi hz0 hz1 hz2 rfl dc _ _ _ rfl (hown1.alloc _) ⟨w1.heap.size,0,none⟩ 1 1 [.int .u8 c] rfl rfl ?c1 ?c2 ?c3 ?c4 ?c5 ?_)
 case c1 =>
  intro j u hj
  match j,hj with
  | 0,hj=>simp at hj; subst hj; simp [Addr.add]
 case c2=>intro u hu; simp at hu; subst hu; rfl
 case c3=>unfold maxLen; omega
 case c4=>omega
 case c5=>exact ik _
 intro v' w2 hown' hgrow _ hblk
 have hb2:w2.heap[b]? = some (.cells #[.pointer (some ⟨b,0,none⟩),v] (ren.t 72) (0,0)):=by
  rw [hgrow.block b (by simp; omega) (fun e=>hne e.symm),Lib.alloc_old w1 _ b hlt]
  exact hbk1
 have d0:w2.cell? ⟨b,0,none⟩=some (.pointer (some ⟨b,0,none⟩)):=by rw [Lib.cell_of_heap hb2]; rfl
 have d1:w2.cell? ⟨b,1,none⟩=some v:=by rw [Lib.cell_of_heap hb2]; rfl
 have f1:w2.frozen? ⟨b,1,none⟩=false:=Lib.frozen_of_heap hb2 1
 have hne':v'.ownBlock≠some b:=Lib.ownBlock_ne hown' hb2 X.neB5
 obtain ⟨g,cap,hv⟩:∃ g cap,v'=.slice (some ⟨g,0,none⟩) (n+1) cap:=by
  rcases hown'.2 with ⟨_,h0⟩ | ⟨g,cap,cur,hv,_⟩
  ·omega
  exact ⟨g,cap,hv⟩
 subst hv
 go_wp2
 go_ret
 refine ⟨rfl,_,by simp [World.setCell,xq,hb2],hown'.kept (uZ w2 b 1 _) (Or.inr hne'),?_,?_⟩
 ·rcases hblk with h | h
  ·exact .inl h
  refine .inr ⟨_,h,?_⟩
  have:=hg1.size
  simp
  omega
 refine ⟨?_,?_,?_,?_,fun k hk hkb hkr=>?_⟩
 ·exact hgrow.os.trans hg1.os
 ·exact hgrow.tape.trans hg1.tape
 ·exact hgrow.output.trans hg1.output
 ·have h1:=hg1.size
  have h2:=hgrow.size
  simp [World.setCell] at h2 ⊢
  omega
 have h1:=hg1.size
 rw [Below.heap_setCell _ _ _ _ (show k≠b from hkb),hgrow.block k (by simp; omega) hkr,Lib.alloc_old w1 _ k om,hg1.block k hk (by simpa using hkb)]
theorem Pv {P:Program} {w:World} (t u ty e:TypeId) (i:TypeInfo) (ht:P.underlying t=some (.slice e)) (hu:P.underlying u=some .string) (hi:P.info? e=some i) (hz:i.zero=some (.int .u8 0))
  (hsize:i.size=1) (hby:i.bytes=1) (v:Value) (n:Nat) (xs:List Value) (hown:w.ownsRow 0 e 1 v n xs) (s:ByteArray)
  (h63:n+s.size≤maxLen) (hbytes:n+s.size≤140737488355328) {v':Value} {w':World} (hr:(Builtin.append_ #[t,u] ty #[v,.string s]).run P w=.ok v' w')
  (h4:v'=.slice none 0 0↔v=.slice none 0 0∧s.size=0):v'.ownBlock=v.ownBlock∨v'.ownBlock=some w.heap.size:=by
 have hsmall:n+s.size≤9223372036854775807:=by simp only [maxLen] at h63; omega
 have hxl:xs.length=n:=by simpa using hown.1
 rcases hown.2 with ⟨rfl,rfl⟩ | ⟨g,cap,cur,rfl,hbg,hg,hnc,hcm,hcs,htake⟩
 ·by_cases hm:s.size=0
  ·rw [h4.2 ⟨rfl,hm⟩]; exact .inl rfl
  have h1:=run_append_nil_string (P:=P) w t u ty e i (.int .u8 0) ht hu hi hz s om om (by rw [hby]; omega)
  rw [hr] at h1
  injection h1 with h1 _
  rw [h1]; exact .inr rfl
 by_cases hroom:n+s.size≤cap
 ·have h1:=Lib.run_append_room_string (P:=P) w t u ty e i ht hu hi hsize g n cap cur hg s hroom om
  rw [hr] at h1
  injection h1 with h1 _
  rw [h1]; exact .inl rfl
 have holds:∀ j u,xs[j]? = some u→w.cell? ((⟨g,0,none⟩:Addr).add j)=some u:=hown.cells (g:=g) rfl
 have h1:=Lib.run_append_grow_string (P:=P) w t u ty e i (.int .u8 0) ht hu hi hz ⟨g,0,none⟩ n cap xs (by rw [hsize]; simpa using hxl) holds s om om (by rw [hby]; exact growslice_fits om om)
 rw [hr] at h1
 injection h1 with h1 _
 rw [h1]; exact .inr rfl

theorem Na {P:Program} {w:World} {ops:Array Oper} {rest:List Oper} {o:Oper} {a:Act} {Q:Exit→Act→World→Prop} (hgd:o.guard=none) (sl x:Operand) (t u:TypeId)
  (ho:o.op=.call { callee:=.builtin .append,args:=#[sl,x],argTypes:=#[t,u] })
  (e:TypeId) (i:TypeInfo) (ht:P.underlying t=some (.slice e)) (hu:P.underlying u=some .string) (hi:P.info? e=some i) (hz:i.zero=some (.int .u8 0))
  (hsize:i.size=1) (hby:i.bytes=1)
  (v:Value) (n:Nat) (xs:List Value) (hs:a.eval sl=v) (hown:w.ownsRow 0 e 1 v n xs) (s:ByteArray) (hx:a.eval x=.string s)
  (h63:n+s.size≤maxLen) (hbytes:n+s.size≤140737488355328)
  (h:∀ v' w',w'.ownsRow 0 e 1 v' (n+s.size) (xs++Lib.strCells s)→w.grownBy w' v.ownBlock→(v'.ownBlock=v.ownBlock∨v'.ownBlock=some w.heap.size)→wpList P ops Q rest (a.put o.dst v') w'):wpList P ops Q (o::rest) a w:=by
 refine wpList_plain hgd fun K hK=>?_
 obtain ⟨v',w',hr,h2,h3,h4⟩:=Lib.run_append_own_string (P:=P) w 0 t u o.type e i ht hu hi hz hsize hby v n xs hown s h63 hbytes (ik _)
 have h5:=Pv t u o.type e i ht hu hi hz hsize hby v n xs hown s h63 hbytes hr h4
 unfold Oper.wp execOp
 simp only [ho,resolve,invoke,builtin,Sem.run_bind,Sem.run_pure,Result.andThen_ok,uM,jJ,qF,hs,hx,hr]
 exact hK _ _ (h v' w' h2 h3 h5)

theorem ws (b:Nat) (v p:Value) (n:Nat) (bs:List Value) (s:ByteArray) (w:World) (hp:p=.pointer none∨p=.pointer (some ⟨b,0,none⟩)) (hbk:w.heap[b]? = some (.cells #[p,v] (ren.t 72) (0,0)))
  (hown:w.ownsRow 0 (ren.t 5) 1 v n bs) (hlen:n+s.size≤140737488355328) :
  Calls Tryz.prog (ren.f 166) #[.pointer (some ⟨b,0,none⟩),.string s] w fun e w'=>e=.returned (.tuple #[.int .i64 s.size,.nilIface])∧∃ v',w'.heap[b]? = some (.cells #[.pointer (some ⟨b,0,none⟩),v'] (ren.t 72) (0,0)) ∧
   w'.ownsRow 0 (ren.t 5) 1 v' (n+s.size) (bs++Lib.strCells s)∧(v'.ownBlock=v.ownBlock∨∃ k,v'.ownBlock=some k∧w.heap.size≤k)∧Fr b v.ownBlock w w':=by
 have L:=al6
 obtain ⟨i0,hi,hz0,hz1,hz2⟩:=info_parts X.infoByte
 have mixed:=L.mixed
 have t72:=L.t72; have a72:=L.a72; have z72:=L.z72; have v72:=L.v72; have u72:=run_underlying L.t72
 have t70:=L.t70; have a70:=L.a70; have z70:=L.z70; have v70:=L.v70; have u70:=run_underlying L.t70
 have t37:=L.t37; have a37:=L.a37; have z37:=L.z37; have v37:=L.v37; have u37:=run_underlying L.t37
 have t3:=L.t3; have a3:=L.a3; have z3:=L.z3; have v3:=L.v3; have u3:=run_underlying L.t3
 have t9:=L.t9; have a9:=L.a9; have z9:=L.z9; have v9:=L.v9; have u9:=run_underlying L.t9
 have t4:=L.t4; have a4:=L.a4; have z4:=L.z4; have v4:=L.v4; have u4:=run_underlying L.t4
 have t164:=L.t164; have a164:=L.a164; have z164:=L.z164; have v164:=L.v164; have u164:=run_underlying L.t164
 have t5:=X.t5; have a5:=X.a5; have z5:=X.z5; have v5:=X.v5; have u5:=run_underlying X.t5
 have e240:∀ args w,(callFunc (ren.f 240) args).run Tryz.prog w=.ok (.enter (ren.f 240) args) w:=enters_of L.f240 kr rfl
 have hne:v.ownBlock≠some b:=Lib.ownBlock_ne hown hbk X.neB5
 go_enter L.f166,Body.n166_ntmps ren
 go_wp2_with (go_at_fn (ren.f 240); refine (cc b v p _ hp hbk).mono ?_)
 rintro e w1 ⟨rfl,hbk1,hg1⟩
 have hown1:=hown.kept hg1 (Or.inr hne)
 have c0:w1.cell? ⟨b,0,none⟩=some (.pointer (some ⟨b,0,none⟩)):=by rw [Lib.cell_of_heap hbk1]; rfl
 have c1:w1.cell? ⟨b,1,none⟩=some v:=by rw [Lib.cell_of_heap hbk1]; rfl
 have hlt:=lt_of_heap hbk1
 go_wp2_with (at_builtin; refine Na rfl _ _ (ren.t 37) (ren.t 9) rfl (ren.t 5) i0 L.t37 L.t9 hi hz0 hz1 hz2 _ _ _ rfl hown1 s rfl ?c3 ?c4 ?_)
 case c3=>unfold maxLen; omega
 case c4=>omega
 intro v' w2 hown' hgrow hblk
 have hb2:w2.heap[b]? = some (.cells #[.pointer (some ⟨b,0,none⟩),v] (ren.t 72) (0,0)):=by
  rw [hgrow.block b hlt (fun e=>hne e.symm)]
  exact hbk1
 have d0:w2.cell? ⟨b,0,none⟩=some (.pointer (some ⟨b,0,none⟩)):=by rw [Lib.cell_of_heap hb2]; rfl
 have d1:w2.cell? ⟨b,1,none⟩=some v:=by rw [Lib.cell_of_heap hb2]; rfl
 have f1:w2.frozen? ⟨b,1,none⟩=false:=Lib.frozen_of_heap hb2 1
 have hne':v'.ownBlock≠some b:=Lib.ownBlock_ne hown' hb2 X.neB5
 obtain ⟨ao,n',cap,hv⟩:∃ ao n' cap,v'=.slice ao n' cap:=by
  rcases hown'.2 with ⟨hv,_⟩ | ⟨g,cap,cur,hv,_⟩
  ·exact ⟨_,_,_,hv⟩
  exact ⟨_,_,_,hv⟩
 subst hv
 go_wp2
 go_ret2
 refine ⟨rfl,_,by simp [World.setCell,xq,hb2],hown'.kept (uZ w2 b 1 _) (Or.inr hne'),?_,?_⟩
 ·rcases hblk with h | h
  ·exact .inl h
  exact .inr ⟨_,h,hg1.size⟩
 refine ⟨?_,?_,?_,?_,fun k hk hkb hkr=>?_⟩
 ·exact hgrow.os.trans hg1.os
 ·exact hgrow.tape.trans hg1.tape
 ·exact hgrow.output.trans hg1.output
 ·have h1:=hg1.size
  have h2:=hgrow.size
  simp [World.setCell] at h2 ⊢
  omega
 have h1:=hg1.size
 rw [Below.heap_setCell _ _ _ _ (show k≠b from hkb),hgrow.block k om hkr,hg1.block k hk (by simpa using hkb)]
theorem Ii (w:World) (g n:Nat):w.grownBy (w.drew.freeze ⟨g,0,none⟩ n) (some g):=by
 unfold World.freeze
 split
 ·exact ⟨rfl,rfl,rfl,fK _,fun _ _ _=>rfl⟩
 refine ⟨rfl,rfl,rfl,by simp,fun k _ hk=>?_⟩
 simp only [xq]
 rw [aQ (fun e=>hk (by rw [← e]))]; rfl

theorem below_grown {w w':World} (h:Below w.heap.size w w') (row:Option Nat):w.grownBy w' row:=⟨h.os,h.tape,h.output,h.size,fun k hk _=>h.block k hk⟩

theorem st (b:Nat) (v p:Value) (l:Bs) (w:World) (hbk:w.heap[b]? = some (.cells #[p,v] (ren.t 72) (0,0)))
  (hown:w.ownsRow 0 (ren.t 5) 1 v l.length (Lib.byteCells l)) :
  Calls Tryz.prog (ren.f 169) #[.pointer (some ⟨b,0,none⟩)] w fun e w'=>e=.returned (.string ⟨l.toArray⟩)∧w.grownBy w' v.ownBlock:=by
 have L:=al5
 have X:=X
 by_cases hl:l=[]
 ·subst hl
  rcases hown.2 with ⟨rfl,_⟩ | ⟨g,cap,cur,rfl,hbg,hg,_,_,_,_⟩
  ·exact (Any.Builder_String_nil L X w.heap.size b p w hbk).mono fun e w' ⟨h1,h2⟩=>⟨h1,below_grown h2 _⟩
  by_cases hc0:cap=0
  ·subst hc0
   exact (Any.Builder_String_noroom L X w.heap.size b g p cur w (fK _) hbk hg).mono fun e w' ⟨h1,h2⟩=>⟨h1,below_grown h2 _⟩
  exact (Any.Builder_String_room L X w.heap.size b g cap p w hc0 hbk).mono fun e w' ⟨h1,h2⟩=>⟨h1,below_grown h2 _⟩
 have hl0:l.length≠0:=by simpa using hl
 obtain ⟨g,cap,cur,rfl,hbg,hg,hnc,hcm,hcs,htake⟩:∃ g cap cur,v=.slice (some ⟨g,0,none⟩) l.length cap∧0≤g∧w.heap[g]? = some (.cells cur (ren.t 5) (0,0))∧l.length≤cap∧cap≤maxLen∧cur.size=cap * 1∧cur.toList.take (l.length * 1)=Lib.byteCells l:=by
  rcases hown.2 with ⟨_,hz⟩ | ⟨g,cap,cur,hv,r⟩
  ·exact absurd hz hl0
  exact ⟨g,cap,cur,hv,r⟩
 have c1:w.drew.cell? ⟨b,1,none⟩=some (.slice (some ⟨g,0,none⟩) l.length cap):=by
  have:w.drew.heap[b]? = some (.cells #[p,.slice (some ⟨g,0,none⟩) l.length cap] (ren.t 72) (0,0)):=hbk
  rw [Lib.cell_of_heap this]; rfl
 have hSD:(Builtin.unsafeSliceData_ #[(ren.t 37)] (ren.t 127) #[.slice (some ⟨g,0,none⟩) l.length cap]).run Tryz.prog w.drew=.ok (.pointer (some ⟨g,0,none⟩)) w.drew :=
  Lib.run_unsafeSliceData_row _ _ _ _ _ _ om
 have hUS:(Builtin.unsafeString_ #[(ren.t 127),(ren.t 3)] (ren.t 9) #[.pointer (some ⟨g,0,none⟩),.int .i64 l.length]).run Tryz.prog w.drew=.ok (.string ⟨l.toArray⟩) (w.drew.freeze ⟨g,0,none⟩ l.length):=by
  refine Lib.run_unsafeString_row w.drew (ren.t 127) (ren.t 3) (ren.t 9) (ren.t 5) L.t127 X.cellsByte g cur.size (by have hg':w.drew.heap[g]? = some (.cells cur (ren.t 5) (0,0)):=hg; simp [World.shape?,hg']) l hl om (by unfold maxLen at hcm; omega) ?_
  intro j x hx
  have:=hown.cells (g:=g) rfl j (.int .u8 x.toNat) (by simp [Lib.byteCells,hx])
  exact this
 have mixed:=L.mixed
 have t72:=L.t72; have a72:=L.a72; have z72:=L.z72; have v72:=L.v72; have u72:=run_underlying L.t72
 have t70:=L.t70; have a70:=L.a70; have z70:=L.z70; have v70:=L.v70; have u70:=run_underlying L.t70
 have t37:=L.t37; have a37:=L.a37; have z37:=L.z37; have v37:=L.v37; have u37:=run_underlying L.t37
 have t127:=L.t127; have a127:=L.a127; have z127:=L.z127; have v127:=L.v127; have u127:=run_underlying L.t127
 have t3:=L.t3; have a3:=L.a3; have z3:=L.z3; have v3:=L.v3; have u3:=run_underlying L.t3
 have t9:=L.t9; have a9:=L.a9; have z9:=L.z9; have v9:=L.v9; have u9:=run_underlying L.t9
 have t5:=X.t5; have a5:=X.a5; have z5:=X.z5; have v5:=X.v5; have u5:=run_underlying X.t5
 go_enter L.f169,Body.n169_ntmps ren
 go_wp2
 go_region_o
 all_goals (go_wp2; go_ret; exact ⟨rfl,Ii w g _⟩)
end Go.Proofs.YtdapgmigogpdcaaGreatDoor.jL
namespace Go.Proofs.YtdapgmigogpdcaaGreatDoor.jL
open Go Go.iQ Go.RowKit Go.Shelf Go.Proofs
set_option linter.unusedVariables false
theorem IK {w0:Base} {g:ak} {W W':World} {b:Nat} {T E:TypeId} {v v':Value} {n n':Nat} {xs xs':List Value} (h:dh w0 [.qH b T v,.own v E 1 n xs] g W)
  (hb':∃ p,(p=.pointer none∨p=.pointer (some ⟨b,0,none⟩))∧W'.heap[b]? = some (.cells #[p,v'] T)) (hown':W'.ownsRow 0 E 1 v' n' xs') (hTE:T≠E)
  (hblk:v'.ownBlock=v.ownBlock∨∃ k,v'.ownBlock=some k∧W.heap.size≤k) (hF:Fr b v.ownBlock W W'):dh w0 [.qH b T v',.own v' E 1 n' xs'] g W':=by
 have hmb:=h.mine (.qH b T v) (by simp) b rfl
 have hgb:g b=none:=h.apart (.qH b T v) (by simp) b rfl
 have hnew:∀ k,W.heap.size≤k→g k=none:=fun k hk=>by
  cases hc:g k with
  | none=>rfl
  | some o=>exact absurd (lt_of_heap (h.ghost _ _ hc)) om
 have hv':∀ k,v'.ownBlock=some k→g k=none∧(w0.w.heap.size≤k∨k ∈ w0.JV):=fun k hk=>by
  rcases hblk with e | ⟨j,e,hj⟩
  ·exact ⟨h.apart (.own v E 1 n xs) (by simp) k (e.symm.trans hk),h.mine (.own v E 1 n xs) (by simp) k (e.symm.trans hk)⟩
  rw [e] at hk
  injection hk with hk
  subst hk
  exact ⟨hnew _ hj,.inl (gV h.below.size hj)⟩
 have hne':v'.ownBlock≠some b:=by
  obtain ⟨p,_,hb⟩:=hb'
  exact Lib.ownBlock_ne hown' hb hTE
 refine ⟨fun e he=>?_,?_,fun k o hk=>?_,fun e he k hk=>?_,fun e he k hk=>?_,?_⟩
 ·simp at he
  rcases he with rfl | rfl
  ·exact hb'
  exact hown'
 ·cases hc:v'.ownBlock with
  | none=>simp [b_.block,hc]
  | some k=>simp only [xe,b_.block,hc,List.filterMap_nil,zL,il,List.not_mem_nil,not_false_eq_true,List.nodup_nil,ny]; exact fun e=>hne' (by rw [hc,e])
 ·have h1:=h.ghost k o hk
  rw [hF.block k (lt_of_heap h1) (fun e=>by rw [e,hgb] at hk; cases hk) (fun e=>by rw [h.apart (.own v E 1 n xs) (by simp) k e.symm] at hk; cases hk)]
  exact h1
 ·simp at he
  rcases he with rfl | rfl
  ·simp only [b_.block,jy] at hk; subst hk; exact hgb
  exact (hv' k hk).1
 ·simp at he
  rcases he with rfl | rfl
  ·simp only [b_.block,jy] at hk; subst hk; exact hmb
  exact (hv' k hk).2
 have hk0:=h.below
 refine ⟨hF.os.trans hk0.os,hF.tape.trans hk0.tape,hF.output.trans hk0.output,gV hk0.size hF.size,fun k hk hl=>?_⟩
 rw [hF.block k (Nat.lt_of_lt_of_le hk hk0.size) ?_ ?_,hk0.block k hk hl]
 ·intro e; subst e; exact hmb.elim (fun h=>absurd hk (Nat.not_lt.2 h)) hl
 intro e; exact (h.mine (.own v E 1 n xs) (by simp) k e.symm).elim (fun h=>absurd hk (Nat.not_lt.2 h)) hl

theorem KR {w0:Base} {g:ak} {W W':World} {b:Nat} {T E:TypeId} {v:Value} {n:Nat} {xs:List Value} (h:dh w0 [.qH b T v,.own v E 1 n xs] g W) (hg:W.grownBy W' v.ownBlock):dh w0 [] g W':=by
 refine ⟨fun e he=>(by cases he),List.nodup_nil,fun k o hk=>?_,fun e he=>(by cases he),fun e he=>(by cases he),?_⟩
 ·have h1:=h.ghost k o hk
  rw [hg.block k (lt_of_heap h1) (fun e=>by rw [h.apart (.own v E 1 n xs) (by simp) k e.symm] at hk; cases hk)]
  exact h1
 exact h.below.grown hg fun k hk=>h.mine (.own v E 1 n xs) (by simp) k hk

theorem LZ (s:Bs):Lib.strCells ⟨⟨s⟩⟩=(intsOf s).map (Value.int .u8):=by
 simp [Lib.strCells,intsOf,Function.comp_def]
theorem L6 (s:Bs):Lib.byteCells s=(intsOf s).map (Value.int .u8):=by
 simp [Lib.byteCells,intsOf,Function.comp_def]
theorem Cw {g:ak}:∀ (l:List Int),aW g (.int .u8) (l.map (Value.int .u8)) l
 | []=>rfl
 | x::l=>⟨[.int .u8 x],l.map (Value.int .u8),rfl,rfl,Cw l⟩

def sO (l:List Int) (x:Int):Unit×List Int:=((),l++[x])
def U8 (l:List Int) (x:Int):Prop:=l.length+1≤140737488355328
theorem QM {g:ak} {b:Nat} {a:Option Addr} {c:Nat} {xs:List Value} (l:List Int) (x:Int) (hL:aW g (.int .u8) xs l) (hp:U8 l x) :
  az Tryz.prog 46 #[.pointer (some ⟨b,0,none⟩),.int .u8 x] g [.qH b 87 (.slice a l.length c),.own (.slice a l.length c) 5 1 l.length xs]
   (fun g' H' r=>∃ (a':Option Addr) (c':Nat) (xs':List Value),r=.nilIface∧aW g' (.int .u8) xs' (sO l x).2∧H'=[.qH b 87 (.slice a' (sO l x).2.length c'),.own (.slice a' (sO l x).2.length c') 5 1 (sO l x).2.length xs']):=fun W hW=>by
 obtain ⟨p,hp0,hbk⟩:=hW.fT (.qH b 87 (.slice a l.length c)) (by simp)
 have hown:=hW.fT (.own (.slice a l.length c) 5 1 l.length xs) (by simp)
 refine (wb b (.slice a l.length c) p l.length xs x W hp0 hbk hown hp).mono fun e W' ⟨he,v',hb',hown',hblk,hF⟩=>?_
 obtain ⟨a',c',rfl⟩:=qW hown'
 have hl:(sO l x).2.length=l.length+1:=by simp [sO]
 refine ⟨_,g,_,he,⟨a',c',xs++[.int .u8 x],rfl,hL.append (Cw [x]),rfl⟩,bq _ g,?_⟩
 rw [hl]
 exact IK hW ⟨_,.inr rfl,hb'⟩ hown' dc hblk hF
def Vg (l:List Int) (s:Bs):Int×Unit×List Int:=((s.length:Int),(),l++intsOf s)
def wsP (l:List Int) (s:Bs):Prop:=l.length+s.length≤140737488355328
theorem alF {g:ak} {b:Nat} {a:Option Addr} {c:Nat} {xs:List Value} (l:List Int) (s:Bs) (hL:aW g (.int .u8) xs l) (hp:wsP l s) :
  az Tryz.prog 48 #[.pointer (some ⟨b,0,none⟩),.string ⟨⟨s⟩⟩] g [.qH b 87 (.slice a l.length c),.own (.slice a l.length c) 5 1 l.length xs]
   (fun g' H' r=>∃ (a':Option Addr) (c':Nat) (xs':List Value),r=.tuple #[.int .i64 (Vg l s).1,.nilIface]∧aW g' (.int .u8) xs' (Vg l s).2.2∧H'=[.qH b 87 (.slice a' (Vg l s).2.2.length c'),.own (.slice a' (Vg l s).2.2.length c') 5 1 (Vg l s).2.2.length xs']):=fun W hW=>by
 obtain ⟨p,hp0,hbk⟩:=hW.fT (.qH b 87 (.slice a l.length c)) (by simp)
 have hown:=hW.fT (.own (.slice a l.length c) 5 1 l.length xs) (by simp)
 refine (ws b (.slice a l.length c) p l.length xs ⟨⟨s⟩⟩ W hp0 hbk hown hp).mono fun e W' ⟨he,v',hb',hown',hblk,hF⟩=>?_
 obtain ⟨a',c',rfl⟩:=qW hown'
 have hl:(Vg l s).2.2.length=l.length+s.length:=by simp [Vg,iy]
 refine ⟨_,g,_,he,⟨a',c',xs++Lib.strCells ⟨⟨s⟩⟩,rfl,hL.append (by rw [LZ]; exact Cw _),rfl⟩,bq _ g,?_⟩
 rw [hl]
 exact IK hW ⟨_,.inr rfl,hb'⟩ hown' dc hblk hF
def stP (l:List Int):Prop:=intsOf (bytesOf l)=l
theorem Vu {g:ak} {b:Nat} {a:Option Addr} {c:Nat} {xs:List Value} (l:List Int) (hL:aW g (.int .u8) xs l) (hp:stP l) :
  az Tryz.prog 50 #[.pointer (some ⟨b,0,none⟩)] g [.qH b 87 (.slice a l.length c),.own (.slice a l.length c) 5 1 l.length xs]
   (fun g' H' r=>r=.string ⟨⟨bytesOf l⟩⟩∧H'=[]):=fun W hW=>by
 obtain ⟨p,hp0,hbk⟩:=hW.fT (.qH b 87 (.slice a l.length c)) (by simp)
 have hown:W.ownsRow 0 _ 1 (.slice a l.length c) l.length xs:=hW.fT (.own (.slice a l.length c) 5 1 l.length xs) (by simp)
 have hl:(bytesOf l).length=l.length:=by simp [bytesOf]
 have hxs:xs=Lib.byteCells (bytesOf l):=by rw [L6,hp]; exact kM hL
 refine (st b (.slice a l.length c) p (bytesOf l) W hbk (by rw [hl,← hxs]; exact hown)).mono fun e W' ⟨he,hg⟩=>?_
 exact ⟨_,g,[],he,⟨rfl,rfl⟩,bq _ g,KR hW hg⟩
end Go.Proofs.YtdapgmigogpdcaaGreatDoor.jL
namespace Go.Proofs.YtdapgmigogpdcaaGreatDoor.tF
open _root_.Go.Proofs.Tryz Go Go.iQ jL
set_option linter.unusedVariables false
set_option linter.unusedSimpArgs false
theorem oQ {p:Prop} (h:p:=by first | omega | assumption | exact trivial | (have h0:=List.length_pos_iff.mpr asm; omega) | (simp; omega) | (simp at *; omega)):p:=h
set_option maxHeartbeats 4000000
set_option maxRecDepth 100000
def Ip (xc:Int) (K:Bool→Prop):Prop :=
 K (decide (xc≥48)&&decide (xc≤57))
theorem Uo {g:ak} (xc:Int) (K:Bool→Prop)
  (hF:Ip xc K):az prog 137 #[.int .u8 xc] g [] (fun g' H' v=>∃ (r0:Bool),v=.bool r0∧H'=[]∧K r0):=by
 refine aP 9 func137 rfl fun w0=>?_
 refine ae (av 1 [(0,.int .u8 xc)] kr (aa (ae (ag 3 [0] [(5,.bool (decide (xc≥48)))] ?_))))
 let A:=decide (xc≥48)&&decide (xc≤57)
 refine Ok.w 3 [(8,.bool A)] (fun AA=>?_) ?_
 ·refine Ok.a 5 (decide (xc≥48)) rfl (fun hc2=>?_) (fun hc2=>?_)
  ·skip
   refine av 3 [(8,.bool (decide (xc≤57)))] kr (aB 8 A (aZ hc2) (av 0 [(8,.bool A)] kr ?_))
   exact AA
  skip
  refine av 3 [(8,.bool false)] kr (aB 8 A (bW hc2) (av 0 [(8,.bool A)] kr ?_))
  exact AA
 refine av 1 [(2,.bool A)] kr (aa (Ok.ret ?_))
 exact dD A hF
def jP (xc:Int):Bool:=(decide (xc≥48)&&decide (xc≤57))
theorem Uq (xc:Int) (P:Bool→Prop) (h:P (jP xc)):Ip xc (fun k0=>P k0):=by
 unfold jP at h
 unfold Ip
 exact h
theorem Xy (xc:Int):Ip xc (fun k0=>k0=jP xc) :=
 Uq xc (fun z=>z=jP xc) rfl
theorem Xx {g:ak} (xc:Int)  : bE prog 137 #[.int .u8 xc] g (.bool (jP xc)) :=
 (Uo xc _ (Xy xc)).gv
def AR (xc:Int) (K:Bool→Prop):Prop :=
 K ((decide (xc≥128)||(xc==95))||((decide (iH .u8 xc 32≥97))&&(decide (iH .u8 xc 32≤122))))
theorem Px {g:ak} (xc:Int) (K:Bool→Prop)
  (hF:AR xc K):az prog 136 #[.int .u8 xc] g [] (fun g' H' v=>∃ (r0:Bool),v=.bool r0∧H'=[]∧K r0):=by
 refine aP 19 func136 rfl fun w0=>?_
 refine ae (av 1 [(0,.int .u8 xc)] kr (aa (ae (ag 3 [0] [(5,.bool (decide (xc≥128)))] ?_))))
 let B:=decide (xc≥128)||(xc==95)
 refine Ok.w 3 [(0,.int .u8 xc),(8,.bool B)] (fun AA=>?_) ?_
 ·refine Ok.a 5 (decide (xc≥128)) rfl (fun hc2=>?_) (fun hc2=>?_)
  ·skip
   refine ag 3 [0] [(8,.bool true)] ?_
   refine aB 8 B (df hc2) (ag 0 [0] [(8,.bool B)] ?_)
   exact AA
  skip
  refine ag 3 [0] [(8,.bool (xc==95))] ?_
  refine aB 8 B (bR hc2) (ag 0 [0] [(8,.bool B)] ?_)
  exact AA
 refine ag 1 [0] [(9,.bool B)] ?_
 let C:=decide (iH .u8 xc 32≥97)
 let D:=decide (iH .u8 xc 32≤122)
 let A:=C&&D
 refine Ok.w 9 [(18,.bool (B||A))] (fun HY=>?_) ?_
 ·refine Ok.a 9 B rfl (fun hc4=>?_) (fun hc4=>?_)
  ·skip
   refine av 9 [(18,.bool true)] kr (aB 18 (B||A) (df hc4) (av 0 [(18,.bool (B||A))] kr ?_))
   exact HY
  skip
  refine ag 4 [0] [(9,.bool false),(13,.bool C)] ?_
  refine Ok.w 4 [(9,.bool false),(17,.bool A)] (fun Bl=>?_) ?_
  ·refine Ok.a 13 C rfl (fun hc6=>?_) (fun hc6=>?_)
   ·skip
    refine ag 4 [9] [(17,.bool D)] ?_
    refine aB 17 A (aZ hc6) (ag 0 [9] [(17,.bool A)] ?_)
    exact Bl
   skip
   refine ag 4 [9] [(17,.bool false)] ?_
   refine aB 17 A (bW hc6) (ag 0 [9] [(17,.bool A)] ?_)
   exact Bl
  refine av 1 [(18,.bool A)] kr (aB 18 (B||A) (bR hc4) (av 0 [(18,.bool (B||A))] kr ?_))
  exact HY
 refine av 1 [(2,.bool (B||A))] kr (aa (Ok.ret ?_))
 exact dD (B||A) hF
def dE (xc:Int):Bool:=((decide (xc≥128)||(xc==95))||((decide (iH .u8 xc 32≥97))&&(decide (iH .u8 xc 32≤122))))
theorem Py (xc:Int) (P:Bool→Prop) (h:P (dE xc)):AR xc (fun k0=>P k0):=by
 unfold dE at h
 unfold AR
 exact h
theorem Q_ (xc:Int):AR xc (fun k0=>k0=dE xc) :=
 Py xc (fun z=>z=dE xc) rfl
theorem Cf {g:ak} (xc:Int)  : bE prog 136 #[.int .u8 xc] g (.bool (dE xc)) :=
 (Px xc _ (Q_ xc)).gv
def Cj (xc:Int) (K:Bool→Prop):Prop :=
 K (dE xc||(jP xc||(xc==45)))
def NS (xc:Int) (K:Bool→Prop):Prop :=
 (dE xc=true→Cj xc K)∧(dE xc=false→Cj xc K)
theorem VF {g:ak} (xc:Int) (K:Bool→Prop)
  (hF:NS xc K):az prog 91 #[.int .u8 xc] g [] (fun g' H' v=>∃ (r0:Bool),v=.bool r0∧H'=[]∧K r0):=by
 refine aP 13 func91 rfl fun w0=>?_
 let A:=jP xc||(xc==45)
 refine ae (av 1 [(0,.int .u8 xc)] kr (aa (gD [(2,.bool (dE xc||A))] [] (Cj xc K) ?_ (fun hF=>?_))))
 ·
  refine aS (aj 3 [.k (Cf xc)] [0] [(5,.bool (dE xc))] ?_)
  refine bN 5 hF (fun hc1 hF=>?_) (fun hc1 hF=>?_)
  ·refine av 8 [(2,.bool true)] kr (aa (aB 2 (dE xc||A) (df hc1) ?_))
   exact fz hF
  refine aj 4 [.k (Xx xc)] [0] [(9,.bool (jP xc))] ?_
  refine Ok.w 3 [(12,.bool A)] (fun hR2=>?_) ?_
  ·refine Ok.a 9 (jP xc) rfl (fun hc3=>?_) (fun hc3=>?_)
   ·skip
    refine av 3 [(12,.bool true)] kr (aB 12 A (df hc3) (av 0 [(12,.bool A)] kr ?_))
    exact hR2
   skip
   refine av 3 [(12,.bool (xc==45))] kr (aB 12 A (bR hc3) (av 0 [(12,.bool A)] kr ?_))
   exact hR2
  refine av 1 [(2,.bool A)] kr (aa (aB 2 (dE xc||A) (bR hc1) ?_))
  exact fz hF
 refine Ok.ret ?_
 exact dD (dE xc||A) hF
def AV (xc:Int):Bool:=(dE xc||(jP xc||(xc==45)))
theorem Jh (xc:Int) (P:Bool→Prop) (h:P (AV xc)):Cj xc (fun k0=>P k0):=by
 unfold AV at h
 unfold Cj
 exact h
def kv (xc:Int):Bool:=(AV xc)
theorem VG (xc:Int) (P:Bool→Prop) (h:P (kv xc)):NS xc (fun k0=>P k0):=by
 unfold kv at h
 unfold NS
 refine ⟨fun hc0=>?_,fun hc0=>?_⟩
 ·skip
  exact Jh xc _ h
 skip
 exact Jh xc _ h
theorem ZL (xc:Int):NS xc (fun k0=>k0=kv xc) :=
 VG xc (fun z=>z=kv xc) rfl
theorem Rh {g:ak} (xc:Int)  : bE prog 91 #[.int .u8 xc] g (.bool (kv xc)) :=
 (VF xc _ (ZL xc)).gv
def Fs (xs:Bs) (K:Bool→Prop):Prop :=
 K ((decide ((xs.length:Int)>1))&&((((xs.getD (Int.toNat 0) 0).toNat:Int)==92)&&(((xs.getD (Int.toNat 1) 0).toNat:Int) != 10)))
def Xl (xs:Bs) (K:Bool→Prop):Prop :=
 ((decide ((xs.length:Int)>1))=true→(0:Int)≤0∧Int.toNat 0<xs.length∧((((xs.getD (Int.toNat 0) 0).toNat:Int)==92)=true→(0:Int)≤1∧Int.toNat 1<xs.length∧Fs xs K)∧((((xs.getD (Int.toNat 0) 0).toNat:Int)==92)=false→Fs xs K))∧((decide ((xs.length:Int)>1))=false→Fs xs K)
theorem ads {g:ak} (xs:Bs) (K:Bool→Prop)
  (hF:Xl xs K):az prog 92 #[sv xs] g [] (fun g' H' v=>∃ (r0:Bool),v=.bool r0∧H'=[]∧K r0):=by
 refine aP 16 func92 rfl fun w0=>?_
 refine ae (av 1 [(0,sv xs)] kr (aa (gD [(2,.bool ((decide ((xs.length:Int)>1))&&((((xs.getD (Int.toNat 0) 0).toNat:Int)==92)&&(((xs.getD (Int.toNat 1) 0).toNat:Int) != 10))))] [] (Fs xs K) ?_ (fun hF=>?_))))
 ·
  refine aS (ag 4 [0] [(6,.bool (decide ((xs.length:Int)>1)))] ?_)
  refine bN 6 hF (fun hc1 hF=>?_) (fun hc1 hF=>?_)
  ·refine ag 1 [0] [(6,.bool true),(7,sv xs)] ?_
   obtain ⟨h02,h12,hF⟩:=hF
   have he2:=aV (l:=xs) (0:UInt8) h12
   generalize hg2:(xs.getD (Int.toNat 0) 0)=e2 at he2 hF ⊢
   let A:=(e2.toNat:Int)
   refine dW (af.s (v:=.int .u8 A) (dO (k:=.i64) (i:=0) (s:=xs) (b:=e2) kr kr underlying9 h02 he2) rfl rfl (ag 3 [0] [(11,.bool (A==92))] ?_))
   refine Ok.a 11 (A==92) rfl (fun hc3=>?_) (fun hc3=>?_)
   ·replace hF:=hF.1 hc3
    refine av 1 [(11,.bool true),(12,sv xs)] kr ?_
    obtain ⟨qA,ru,hF⟩:=hF
    have pR:=aV (l:=xs) (0:UInt8) ru
    generalize hg4:(xs.getD (Int.toNat 1) 0)=e4 at pR hF ⊢
    refine dW (af.s (v:=.int .u8 (e4.toNat:Int)) (dO (k:=.i64) (i:=1) (s:=xs) (b:=e4) kr kr underlying9 qA pR) rfl rfl (av 3 [(2,.bool ((e4.toNat:Int) != 10))] kr (bY (Ok.t ?_))))
    subst hg4
    subst hg2
    refine aB 2 ((decide ((xs.length:Int)>1))&&((((xs.getD (Int.toNat 0) 0).toNat:Int)==92)&&(((xs.getD (Int.toNat 1) 0).toNat:Int) != 10))) (au (aZ hc3) (aZ hc1)) ?_
    exact fz hF
   replace hF:=hF.2 hc3
   refine av 5 [(2,.bool false)] kr (bY (Ok.t ?_))
   subst hg2
   refine aB 2 ((decide ((xs.length:Int)>1))&&((((xs.getD (Int.toNat 0) 0).toNat:Int)==92)&&(((xs.getD (Int.toNat 1) 0).toNat:Int) != 10))) (au (bW hc3) (aZ hc1)) ?_
   exact fz hF
  refine av 10 [(2,.bool false)] kr (aa (aB 2 ((decide ((xs.length:Int)>1))&&((((xs.getD (Int.toNat 0) 0).toNat:Int)==92)&&(((xs.getD (Int.toNat 1) 0).toNat:Int) != 10))) (bW hc1) ?_))
  exact fz hF
 refine Ok.ret ?_
 exact dD ((decide ((xs.length:Int)>1))&&((((xs.getD (Int.toNat 0) 0).toNat:Int)==92)&&(((xs.getD (Int.toNat 1) 0).toNat:Int) != 10))) hF
def zB (xs:Bs):Bool:=((decide ((xs.length:Int)>1))&&((((xs.getD (Int.toNat 0) 0).toNat:Int)==92)&&(((xs.getD (Int.toNat 1) 0).toNat:Int) != 10)))
theorem Il (xs:Bs) (P:Bool→Prop) (h:P (zB xs)):Fs xs (fun k0=>P k0):=by
 unfold zB at h
 unfold Fs
 exact h
def jG (xs:Bs):Bool:=(zB xs)
theorem adt (xs:Bs) (P:Bool→Prop) (h:P (jG xs)):Xl xs (fun k0=>P k0):=by
 unfold jG at h
 unfold Xl
 refine ⟨fun hc0=>?_,fun hc0=>?_⟩
 ·skip
  have hd0:=dn hc0
  refine ⟨?_,?_,?_⟩
  ·exact oQ
  ·exact oQ
  refine ⟨fun hc1=>?_,fun hc1=>?_⟩
  ·skip
   have hd1:=hc1; try simp only [aG,dU,fw,dC,dA,eT,dH,eQ,dI,dR,fV] at hd1
   refine ⟨?_,?_,?_⟩
   ·exact oQ
   ·exact oQ
   exact Il xs _ h
  skip
  have hd1:=hc1; try simp only [aG,dU,fw,dC,dA,eT,dH,eQ,dI,dR,fV] at hd1
  exact Il xs _ h
 skip
 have hd0:=fZ hc0
 exact Il xs _ h
theorem ajf (xs:Bs):Xl xs (fun k0=>k0=jG xs) :=
 adt xs (fun z=>z=jG xs) rfl
theorem OM {g:ak} (xs:Bs)  : bE prog 92 #[sv xs] g (.bool (jG xs)) :=
 (ads xs _ (ajf xs)).gv
def zI (xs:Bs) (K:Bool→Prop):Prop :=
 K ((((xs.getD (Int.toNat 1) 0).toNat:Int)==45)||((dE ((xs.getD (Int.toNat 1) 0).toNat:Int))||(jG (xs.drop (Int.toNat 1)))))
def D5 (xs:Bs) (K:Bool→Prop) (e2:UInt8):Prop :=
 K (dE (e2.toNat:Int)||jG xs)
def X7 (xs:Bs) (K:Bool→Prop):Prop :=
 ((xs==([]:Bs))=true→K false)∧((xs==([]:Bs))=false→(0:Int)≤0∧Int.toNat 0<xs.length∧(((((xs.getD (Int.toNat 0) 0).toNat:Int)==45)&&(decide ((xs.length:Int)>1)))=true→(0:Int)≤1∧Int.toNat 1<xs.length∧((((xs.getD (Int.toNat 1) 0).toNat:Int)==45)=true→zI xs K)∧((((xs.getD (Int.toNat 1) 0).toNat:Int)==45)=false→((dE ((xs.getD (Int.toNat 1) 0).toNat:Int))=true→zI xs K)∧((dE ((xs.getD (Int.toNat 1) 0).toNat:Int))=false→(0:Int)≤1∧(1:Int)≤(xs.length:Int)∧(xs.length:Int)≤(xs.length:Int)∧zI xs K)))∧(((((xs.getD (Int.toNat 0) 0).toNat:Int)==45)&&(decide ((xs.length:Int)>1)))=false→((dE ((xs.getD (Int.toNat 0) 0).toNat:Int))=true→D5 xs K (xs.getD (Int.toNat 0) 0))∧((dE ((xs.getD (Int.toNat 0) 0).toNat:Int))=false→D5 xs K (xs.getD (Int.toNat 0) 0))))
theorem aeE {g:ak} (xs:Bs) (K:Bool→Prop)
  (hF:X7 xs K):az prog 94 #[sv xs] g [] (fun g' H' v=>∃ (r0:Bool),v=.bool r0∧H'=[]∧K r0):=by
 refine aP 33 func94 rfl fun w0=>?_
 refine ae (av 1 [(0,sv xs)] kr (aa (aH (ae (ag 1 [0] [(3,sv xs)] ?_)))))
 refine ai (af.s (v:=.bool (xs==([]:Bs))) (iE (f:=.eql) (a:=xs) (b:=([]:Bs)) kr kr rfl) rfl rfl (aa (aM hF (fun hc1 hF=>?_) (fun hc1 hF=>?_))))
 ·refine ae (av 1 [(2,.bool false)] kr (aa (Ok.ret (aC ?_))))
  exact dD false hF
 refine Ok.k (Ok.t (aH (ae (ag 1 [0] [(5,sv xs)] ?_))))
 obtain ⟨h02,h12,hF⟩:=hF
 have he2:=aV (l:=xs) (0:UInt8) h12
 generalize hg2:(xs.getD (Int.toNat 0) 0)=e2 at he2 hF ⊢
 let D:=(e2.toNat:Int)
 refine ai (af.s (v:=.int .u8 D) (dO (k:=.i64) (i:=0) (s:=xs) (b:=e2) kr kr underlying9 h02 he2) rfl rfl (ag 2 [0] [(8,.bool (D==45))] ?_))
 let E:=decide ((xs.length:Int)>1)
 let A:=(D==45)&&E
 refine Ok.w 4 [(0,sv xs),(12,.bool A)] (fun HY=>?_) ?_
 ·refine Ok.a 8 (D==45) rfl (fun hc4=>?_) (fun hc4=>?_)
  ·skip
   refine ag 4 [0] [(12,.bool E)] ?_
   refine aB 12 A (aZ hc4) (ag 0 [0] [(12,.bool A)] ?_)
   exact HY
  skip
  refine ag 4 [0] [(12,.bool false)] ?_
  refine aB 12 A (bW hc4) (ag 0 [0] [(12,.bool A)] ?_)
  exact HY
 refine aa (aM hF (fun j4 hF=>?_) (fun j4 hF=>?_))
 ·refine gD [(2,.bool ((((xs.getD (Int.toNat 1) 0).toNat:Int)==45)||((dE ((xs.getD (Int.toNat 1) 0).toNat:Int))||(jG (xs.drop (Int.toNat 1))))))] [] (zI xs K) ?_ (fun hF=>?_)
  ·
   refine aS (ag 1 [0] [(13,sv xs)] ?_)
   obtain ⟨vY,h16,hF⟩:=hF
   have wW:=aV (l:=xs) (0:UInt8) h16
   generalize Bi:(xs.getD (Int.toNat 1) 0)=e6 at wW hF ⊢
   let B:=(e6.toNat:Int)
   refine ai (af.s (v:=.int .u8 B) (dO (k:=.i64) (i:=1) (s:=xs) (b:=e6) kr kr underlying9 vY wW) rfl rfl (ag 2 [0] [(16,.bool (B==45))] ?_))
   refine Ok.a 16 (B==45) rfl (fun iC=>?_) (fun iC=>?_)
   ·replace hF:=hF.1 iC
    refine av 10 [(2,.bool true)] kr (bY (Ok.t ?_))
    subst Bi
    refine aB 2 ((((xs.getD (Int.toNat 1) 0).toNat:Int)==45)||((dE ((xs.getD (Int.toNat 1) 0).toNat:Int))||(jG (xs.drop (Int.toNat 1))))) (df iC) ?_
    exact fz hF
   replace hF:=hF.2 iC
   refine ag 1 [0] [(16,.bool false),(17,sv xs)] ?_
   refine dW (af.s (v:=.int .u8 B) (dO (k:=.i64) (i:=1) (s:=xs) (b:=e6) kr kr underlying9 vY wW) rfl rfl (aj 3 [.k (Cf B)] [0] [(21,.bool (dE B))] ?_))
   refine Ok.a 21 (dE B) rfl (fun hc8=>?_) (fun hc8=>?_)
   ·replace hF:=hF.1 hc8
    refine av 5 [(2,.bool true)] kr (bY (Ok.t ?_))
    subst Bi
    refine aB 2 ((((xs.getD (Int.toNat 1) 0).toNat:Int)==45)||((dE ((xs.getD (Int.toNat 1) 0).toNat:Int))||(jG (xs.drop (Int.toNat 1))))) (au (df hc8) (bR iC)) ?_
    exact fz hF
   replace hF:=hF.2 hc8
   refine av 1 [(21,.bool false),(22,sv xs)] kr ?_
   obtain ⟨Eh,h19,P_,hF⟩:=hF
   let C:=xs.drop (Int.toNat 1)
   refine dW (af.s (bZ (s:=xs) (l:=1) (h:=(xs.length:Int)) kr underlying9 (.inl ⟨_,_,rfl,rfl⟩) (.inr ⟨rfl,rfl⟩) Eh h19 P_ C (QW _ _)) rfl rfl (aj 3 [.k (OM C)] [] [(2,.bool (jG C))] ?_))
   refine bY (Ok.t ?_)
   subst Bi
   refine aB 2 ((((xs.getD (Int.toNat 1) 0).toNat:Int)==45)||((dE ((xs.getD (Int.toNat 1) 0).toNat:Int))||(jG C))) (au (bR hc8) (bR iC)) ?_
   exact fz hF
  refine Ok.ret (aC ?_)
  exact dD ((((xs.getD (Int.toNat 1) 0).toNat:Int)==45)||((dE ((xs.getD (Int.toNat 1) 0).toNat:Int))||(jG (xs.drop (Int.toNat 1))))) hF
 refine Ok.k (Ok.t (gD [(2,.bool (dE (e2.toNat:Int)||jG xs))] [] (D5 xs K e2) ?_ (fun hF=>?_)))
 ·
  refine aS (ag 1 [0] [(26,sv xs)] ?_)
  refine ai (af.s (v:=.int .u8 (e2.toNat:Int)) (dO (k:=.i64) (i:=0) (s:=xs) (b:=e2) kr kr underlying9 h02 he2) rfl rfl (aj 2 [.k (Cf (e2.toNat:Int))] [0] [(29,.bool (dE (e2.toNat:Int)))] ?_))
  refine bN 29 hF (fun K0 hF=>?_) (fun K0 hF=>?_)
  ·refine av 4 [(2,.bool true)] kr (aa (aB 2 (dE (e2.toNat:Int)||jG xs) (df K0) ?_))
   exact fz hF
  refine aj 4 [.k (OM xs)] [] [(2,.bool (jG xs))] ?_
  refine aa (aB 2 (dE (e2.toNat:Int)||jG xs) (bR K0) ?_)
  exact fz hF
 refine Ok.ret ?_
 exact dD (dE (e2.toNat:Int)||jG xs) hF
def vG (xs:Bs):Bool:=((((xs.getD (Int.toNat 1) 0).toNat:Int)==45)||((dE ((xs.getD (Int.toNat 1) 0).toNat:Int))||(jG (xs.drop (Int.toNat 1)))))
theorem D6 (xs:Bs) (P:Bool→Prop) (h:P (vG xs)):zI xs (fun k0=>P k0):=by
 unfold vG at h
 unfold zI
 exact h
def qa (xs:Bs) (e2:UInt8):Bool:=(dE (e2.toNat:Int)||jG xs)
theorem KG (xs:Bs) (e2:UInt8) (P:Bool→Prop) (h:P (qa xs e2)):D5 xs (fun k0=>P k0) e2:=by
 unfold qa at h
 unfold D5
 exact h
def mJ (xs:Bs):Bool:=(if (xs==([]:Bs))=true then false else (if ((((xs.getD (Int.toNat 0) 0).toNat:Int)==45)&&(decide ((xs.length:Int)>1)))=true then (vG xs) else (qa xs (xs.getD (Int.toNat 0) 0))))
theorem aeF (xs:Bs) (P:Bool→Prop) (h:P (mJ xs)):X7 xs (fun k0=>P k0):=by
 unfold mJ at h
 unfold X7
 refine ⟨fun hc0=>?_,fun hc0=>?_⟩
 ·rw [aT hc0] at h
  have hd0:=hc0; try simp only [aG,dU,fw,dC,dA,eT,dH,eQ,dI,dR,fV] at hd0
  exact h
 rw [aF hc0] at h
 have hd0:=hc0; try simp only [aG,dU,fw,dC,dA,eT,dH,eQ,dI,dR,fV] at hd0
 refine ⟨?_,?_,?_⟩
 ·exact oQ
 ·exact oQ
 refine ⟨fun hc1=>?_,fun hc1=>?_⟩
 ·rw [aT hc1] at h
  have hd1:=hc1; try simp only [aG,dU,fw,dC,dA,eT,dH,eQ,dI,dR,fV] at hd1
  refine ⟨?_,?_,?_⟩
  ·exact oQ
  ·exact oQ
  refine ⟨fun hc2=>?_,fun hc2=>?_⟩
  ·skip
   have hd2:=hc2; try simp only [aG,dU,fw,dC,dA,eT,dH,eQ,dI,dR,fV] at hd2
   exact D6 xs _ h
  skip
  have hd2:=hc2; try simp only [aG,dU,fw,dC,dA,eT,dH,eQ,dI,dR,fV] at hd2
  refine ⟨fun hc3=>?_,fun hc3=>?_⟩
  ·skip
   exact D6 xs _ h
  skip
  refine ⟨?_,?_,?_,?_⟩
  ·exact oQ
  ·exact oQ
  ·exact oQ
  exact D6 xs _ h
 rw [aF hc1] at h
 have hd1:=hc1; try simp only [aG,dU,fw,dC,dA,eT,dH,eQ,dI,dR,fV] at hd1
 refine ⟨fun hc2=>?_,fun hc2=>?_⟩
 ·skip
  exact KG xs (xs.getD (Int.toNat 0) 0) _ h
 skip
 exact KG xs (xs.getD (Int.toNat 0) 0) _ h
theorem akj (xs:Bs):X7 xs (fun k0=>k0=mJ xs) :=
 aeF xs (fun z=>z=mJ xs) rfl
theorem UN {g:ak} (xs:Bs)  : bE prog 94 #[sv xs] g (.bool (mJ xs)) :=
 (aeE xs _ (akj xs)).gv
def Wm (xs:Bs) (K:Bs→Int→Prop) (y0:Int) (q0:List Int) (C9:Int→List Int→Prop):Prop :=
 ((decide (y0<(xs.length:Int)))=true→0≤y0∧(y0:Int)≤(xs.length:Int)∧(xs.length:Int)≤(xs.length:Int)∧((jG (xs.drop y0.toNat))=true→0≤w6 (y0+1)∧Int.toNat (w6 (y0+1))<xs.length∧jL.U8 q0 ((xs.getD (Int.toNat (w6 (y0+1))) 0).toNat:Int)∧C9 (w6 (y0+2)) (jL.sO q0 ((xs.getD (Int.toNat (w6 (y0+1))) 0).toNat:Int)).2)∧((jG (xs.drop y0.toNat))=false→0≤y0∧y0.toNat<xs.length∧((kv ((xs.getD y0.toNat 0).toNat:Int))=true→jL.U8 q0 ((xs.getD y0.toNat 0).toNat:Int)∧C9 (w6 (y0+1)) (jL.sO q0 ((xs.getD y0.toNat 0).toNat:Int)).2)∧((kv ((xs.getD y0.toNat 0).toNat:Int))=false→jL.stP q0∧K (bytesOf q0) y0)))∧((decide (y0<(xs.length:Int)))=false→jL.stP q0∧K (bytesOf q0) y0)
def Gv (xs:Bs) (K:Bs→Int→Prop):Nat→Int→List Int→Prop
 | 0,_,_=>False
 | k+1,y0,q0=>Wm xs K y0 q0 (Gv xs K k)
def YH (xs:Bs) (K:Bs→Int→Prop):Prop :=
 ∃ k,Gv xs K k 0 ([]:List Int)
theorem Wo {g:ak} (xs:Bs) (K:Bs→Int→Prop)
  (hF:YH xs K):az prog 138 #[sv xs] g [] (fun g' H' v=>∃ (r0:Bs),∃ (r1:Int),v=.tuple #[sv r0,iv r1]∧H'=[]∧K r0 r1):=by
 refine aP 37 func138 rfl fun w0=>?_
 refine ae (av 2 [(0,sv xs)] kr (aa (aH (aS ?_))))
 have hL1:aW g yb [] []:=rfl
 refine fO 5 1 (ai (bK #[.pointer none,.slice none 0 0] fun b2=>?_))
 refine Ok.qH (aa (ae (av 1 [(0,sv xs),(4,pv b2 0),(5,iv 0)] kr (aa (aH (Ok.block ?_))))))
 obtain ⟨k,hF⟩:=hF
 refine gF (fun k a W=>∃ kC:ak,aY w0 g kC∧∃ (y0:Int) (e0:Option Addr) (f0:Nat) (q0:List Int) (b0:List Value),aW kC yb b0 q0∧fJ 37 [(0,sv xs),(4,pv b2 0),(5,iv y0)] a∧dh w0 [.qH b2 87 (.slice e0 q0.length f0),.own (.slice e0 q0.length f0) 5 1 q0.length b0] kC W∧Gv xs K k y0 q0) k ?_ ?_
 ·
  exact fun _ _ u v=>⟨g,bq w0 g,0,none,0,([]:List Int),[],hL1,fA u v hF⟩
 clear hF
 rintro (_ | k9) _ _ ⟨kC,o0,y0,e0,f0,q0,b0,j0,q⟩
 exact (q.2.2:False).elim
 refine jn (fun hF=>?_) _ _ q
 refine aH (ae (ag 4 [0,4,5] [(9,.bool (decide (y0<(xs.length:Int))))] ?_))
 refine aa (aM hF (fun hc3 hF=>?_) (fun hc3 hF=>?_))
 ·refine Ok.k (Ok.t (Ok.block (Ok.block (ae (ag 2 [0,4,5] [(13,sv xs),(14,iv y0)] ?_)))))
  obtain ⟨qA,ru,TU,hF⟩:=hF
  let A:=xs.drop y0.toNat
  refine ai (af.s (bZ (s:=xs) (l:=y0) (h:=(xs.length:Int)) kr underlying9 (.inl ⟨_,_,rfl,rfl⟩) (.inr ⟨rfl,rfl⟩) qA ru TU A (QW _ _)) rfl rfl (aj 2 [.k (OM A)] [0,4,5] [(12,.bool (jG A))] ?_))
  refine aa (aM hF (fun j4 hF=>?_) (fun j4 hF=>?_))
  ·refine ae (ag 3 [0,4,5] [(17,sv xs),(19,iv (w6 (y0+1)))] ?_)
   obtain ⟨vY,h16,hF⟩:=hF
   have wW:=aV (l:=xs) (0:UInt8) h16
   generalize Bi:(xs.getD (Int.toNat (w6 (y0+1))) 0)=e6 at wW hF ⊢
   refine ai (af.s (v:=.int .u8 (e6.toNat:Int)) (dO (k:=.i64) (i:=w6 (y0+1)) (s:=xs) (b:=e6) kr kr underlying9 vY wW) rfl rfl ?_)
   obtain ⟨Md,hF⟩:=hF
   refine ai (bQ (jL.QM q0 (e6.toNat:Int) j0 Md) fun g8 _ _ hx8 hV8=>?_)
   obtain ⟨aqs,aqh,ae5,rfl,ai9,rfl⟩:=hV8
   refine aa (aS (ag 3 [0,4] [(5,iv (w6 (y0+2)))] ?_))
   refine bY (bJ (bJ (Ok.t ?_)))
   subst Bi
   exact fun _ _ u v=>⟨k9,nl,g8,o0.trans hx8,w6 (y0+2),aqs,aqh,(jL.sO q0 ((xs.getD (Int.toNat (w6 (y0+1))) 0).toNat:Int)).2,ae5,ai9,fA u v hF⟩
  refine ae (ag 2 [0,4,5] [(25,sv xs),(26,iv y0)] ?_)
  obtain ⟨Eh,h19,hF⟩:=hF
  have QD:=aV (l:=xs) (0:UInt8) h19
  generalize hg9:(xs.getD y0.toNat 0)=e9 at QD hF ⊢
  refine ai (af.s (v:=.int .u8 (e9.toNat:Int)) (dO (k:=.i64) (i:=y0) (s:=xs) (b:=e9) kr kr underlying9 Eh QD) rfl rfl (aj 2 [.k (Rh (e9.toNat:Int))] [0,4,5] [(24,.bool (kv (e9.toNat:Int)))] ?_))
  refine aa (ed hF rfl (fun K0=>?_) (fun K0=>?_))
  ·replace hF:=hF.1 K0
   refine ae (ag 2 [0,4,5] [(29,sv xs),(30,iv y0)] ?_)
   refine ai (af.s (v:=.int .u8 (e9.toNat:Int)) (dO (k:=.i64) (i:=y0) (s:=xs) (b:=e9) kr kr underlying9 Eh QD) rfl rfl ?_)
   obtain ⟨Mh,hF⟩:=hF
   refine ai (bQ (jL.QM q0 (e9.toNat:Int) j0 Mh) fun g12 _ _ aml aoi=>?_)
   obtain ⟨akP,akb,Zf,rfl,acM,rfl⟩:=aoi
   refine aa (aS (ag 3 [0,4] [(5,iv (w6 (y0+1)))] ?_))
   refine bY (bJ (bJ (Ok.t ?_)))
   subst hg9
   exact fun _ _ u v=>⟨k9,nl,g12,o0.trans aml,w6 (y0+1),akP,akb,(jL.sO q0 ((xs.getD y0.toNat 0).toNat:Int)).2,Zf,acM,fA u v hF⟩
  replace hF:=hF.2 K0
  refine aH (aS ?_)
  obtain ⟨zx,hF⟩:=hF
  refine ai (bQ (jL.Vu q0 j0 zx) fun g14 _ _ amk ab8=>?_)
  obtain ⟨rfl,rfl⟩:=ab8
  refine av 3 [(2,sv (bytesOf q0)),(3,iv y0)] kr (aa (Ok.ret (aU (aU (aC (aU (aC ?_)))))))
  exact gH (vs:=[sv (bytesOf q0),iv y0]) (.inl rfl) rfl (.cons (.tmp rfl) (.cons (.tmp rfl) .nil)) (o0.trans amk) ⟨bytesOf q0,y0,rfl,rfl,hF⟩
 refine fU (aA (aA (aO (Ok.t (aH (aS ?_))))))
 obtain ⟨abC,hF⟩:=hF
 refine ai (bQ (jL.Vu q0 j0 abC) fun g16 _ _ hx16 ab7=>?_)
 obtain ⟨rfl,rfl⟩:=ab7
 refine av 3 [(2,sv (bytesOf q0)),(3,iv y0)] kr (aa (Ok.ret ?_))
 exact gH (vs:=[sv (bytesOf q0),iv y0]) (.inl rfl) rfl (.cons (.tmp rfl) (.cons (.tmp rfl) .nil)) (o0.trans hx16) ⟨bytesOf q0,y0,rfl,rfl,hF⟩
def AQ (xs:Bs) (v0:Int) (z0:List Int) (C9:Int→List Int→Prop):Prop :=
 C9 (w6 ((if ((((xs.getD v0.toNat 0).toNat:Int)==92)&&(decide (w6 (v0+1)<(xs.length:Int))))=true then w6 (v0+1) else v0)+1)) (if ((((xs.getD v0.toNat 0).toNat:Int)==92)&&(decide (w6 (v0+1)<(xs.length:Int))))=true then (jL.sO z0 ((xs.getD (Int.toNat (w6 (v0+1))) 0).toNat:Int)).2 else (jL.sO z0 ((xs.getD v0.toNat 0).toNat:Int)).2)
def Vm (xs:Bs) (K:KT→Prop) (v0:Int) (z0:List Int) (C9:Int→List Int→Prop):Prop :=
 ((decide (v0<(xs.length:Int)))=true→0≤v0∧v0.toNat<xs.length∧(0:Int)≤0∧Int.toNat 0<xs.length∧((((xs.getD v0.toNat 0).toNat:Int)==((xs.getD (Int.toNat 0) 0).toNat:Int))=true→(0:Int)≤0∧0≤w6 (v0+1)∧w6 (v0+1)≤(xs.length:Int)∧jL.stP z0∧K (5,xs.take (Int.toNat (w6 (v0+1))),bytesOf z0,0))∧((((xs.getD v0.toNat 0).toNat:Int)==((xs.getD (Int.toNat 0) 0).toNat:Int))=false→((((xs.getD v0.toNat 0).toNat:Int)==10)=true→(0:Int)≤0∧0≤v0∧v0≤(xs.length:Int)∧K (6,xs.take v0.toNat,([]:Bs),0))∧((((xs.getD v0.toNat 0).toNat:Int)==10)=false→(((((xs.getD v0.toNat 0).toNat:Int)==92)&&(decide (w6 (v0+1)<(xs.length:Int))))=true→0≤w6 (v0+1)∧Int.toNat (w6 (v0+1))<xs.length∧jL.U8 z0 ((xs.getD (Int.toNat (w6 (v0+1))) 0).toNat:Int)∧AQ xs v0 z0 C9)∧(((((xs.getD v0.toNat 0).toNat:Int)==92)&&(decide (w6 (v0+1)<(xs.length:Int))))=false→jL.U8 z0 ((xs.getD v0.toNat 0).toNat:Int)∧AQ xs v0 z0 C9))))∧((decide (v0<(xs.length:Int)))=false→K (6,xs,([]:Bs),0))
def BZ (xs:Bs) (K:KT→Prop):Nat→Int→List Int→Prop
 | 0,_,_=>False
 | k+1,v0,z0=>Vm xs K v0 z0 (BZ xs K k)
def Yr (xs:Bs) (K:KT→Prop):Prop :=
 ∃ k,BZ xs K k 1 ([]:List Int)
theorem Vn {g:ak} (xs:Bs) (K:KT→Prop)
  (hF:Yr xs K):az prog 90 #[sv xs] g [] (fun g' H' v=>∃ (r0:Int×Bs×Bs×Int),v=.agg (aK r0)∧H'=[]∧K r0):=by
 refine aP 53 func90 rfl fun w0=>?_
 refine ae (ai (bK zK fun eO=>?_))
 refine aa (aH (aS ?_))
 have hL2:aW g yb [] []:=rfl
 refine fO 5 1 (ai (bK #[.pointer none,.slice none 0 0] fun b3=>?_))
 refine Ok.qH (aa (aH (ae (av 1 [(0,sv xs),(2,pv eO 0),(3,pv b3 0),(4,iv 1)] kr (aa (Ok.block ?_))))))
 obtain ⟨k,hF⟩:=hF
 refine gF (fun k a W=>∃ kC:ak,aY w0 g kC∧∃ (v0:Int) (g0:Option Addr) (m0:Nat) (z0:List Int) (c0:List Value),aW kC yb c0 z0∧fJ 53 [(0,sv xs),(2,pv eO 0),(3,pv b3 0),(4,iv v0)] a∧dh w0 [.qH b3 87 (.slice g0 z0.length m0),.own (.slice g0 z0.length m0) 5 1 z0.length c0,.blk eO (.cells zK 98)] kC W∧BZ xs K k v0 z0) k ?_ ?_
 ·
  exact fun _ _ u v=>⟨g,bq w0 g,1,none,0,([]:List Int),[],hL2,fA u v hF⟩
 clear hF
 rintro (_ | k9) _ _ ⟨kC,o0,v0,g0,m0,z0,c0,d0,q⟩
 exact (q.2.2:False).elim
 refine jn (fun hF=>?_) _ _ q
 refine aH (ae (ag 4 [0,2,3,4] [(9,.bool (decide (v0<(xs.length:Int))))] ?_))
 refine aa (aM hF (fun hc4 hF=>?_) (fun hc4 hF=>?_))
 ·refine Ok.k (Ok.t (Ok.cut (fun a W=>∃ Y0:ak,aY w0 kC Y0∧∃ (x0:Option Addr) (s0:Nat) (u0:List Value),aW Y0 yb u0 (if ((((xs.getD v0.toNat 0).toNat:Int)==92)&&(decide (w6 (v0+1)<(xs.length:Int))))=true then (jL.sO z0 ((xs.getD (Int.toNat (w6 (v0+1))) 0).toNat:Int)).2 else (jL.sO z0 ((xs.getD v0.toNat 0).toNat:Int)).2)∧fJ 53 [(0,sv xs),(2,pv eO 0),(3,pv b3 0),(4,iv (if ((((xs.getD v0.toNat 0).toNat:Int)==92)&&(decide (w6 (v0+1)<(xs.length:Int))))=true then w6 (v0+1) else v0))] a∧dh w0 [.qH b3 87 (.slice x0 (if ((((xs.getD v0.toNat 0).toNat:Int)==92)&&(decide (w6 (v0+1)<(xs.length:Int))))=true then (jL.sO z0 ((xs.getD (Int.toNat (w6 (v0+1))) 0).toNat:Int)).2 else (jL.sO z0 ((xs.getD v0.toNat 0).toNat:Int)).2).length s0),.own (.slice x0 (if ((((xs.getD v0.toNat 0).toNat:Int)==92)&&(decide (w6 (v0+1)<(xs.length:Int))))=true then (jL.sO z0 ((xs.getD (Int.toNat (w6 (v0+1))) 0).toNat:Int)).2 else (jL.sO z0 ((xs.getD v0.toNat 0).toNat:Int)).2).length s0) 5 1 (if ((((xs.getD v0.toNat 0).toNat:Int)==92)&&(decide (w6 (v0+1)<(xs.length:Int))))=true then (jL.sO z0 ((xs.getD (Int.toNat (w6 (v0+1))) 0).toNat:Int)).2 else (jL.sO z0 ((xs.getD v0.toNat 0).toNat:Int)).2).length u0,.blk eO (.cells zK 98)] Y0 W∧AQ xs v0 z0 (BZ xs K k9)) ?_ ?_))
  ·
   refine Ok.block (ae (ag 2 [0,2,3,4] [(12,sv xs),(13,iv v0)] ?_))
   obtain ⟨Ei,H_,hF⟩:=hF
   have Dx:=aV (l:=xs) (0:UInt8) H_
   generalize hg5:(xs.getD v0.toNat 0)=e5 at Dx hF ⊢
   refine ai (af.s (v:=.int .u8 (e5.toNat:Int)) (dO (k:=.i64) (i:=v0) (s:=xs) (b:=e5) kr kr underlying9 Ei Dx) rfl rfl (ag 1 [0,2,3,4] [(5,.int .u8 (e5.toNat:Int))] ?_))
   refine aa (Ok.block (ae (ag 2 [0,2,3,4,5] [(18,.int .u8 (e5.toNat:Int)),(19,sv xs)] ?_)))
   obtain ⟨vY,h16,hF⟩:=hF
   have wW:=aV (l:=xs) (0:UInt8) h16
   generalize Bi:(xs.getD (Int.toNat 0) 0)=e6 at wW hF ⊢
   refine ai (af.s (v:=.int .u8 (e6.toNat:Int)) (dO (k:=.i64) (i:=0) (s:=xs) (b:=e6) kr kr underlying9 vY wW) rfl rfl (ag 2 [0,2,3,4,5] [(17,.bool ((e5.toNat:Int)==(e6.toNat:Int)))] ?_))
   refine aa (ed hF rfl (fun iC=>?_) (fun iC=>?_))
   ·replace hF:=hF.1 iC
    refine aH (wz [] [] [0,0,0] [(0,true),(1,true),(2,true),(3,true),(4,false),(5,true),(6,false)] ?_)
    refine iI 3 [2,3] [(22,sv xs),(24,iv (w6 (v0+1)))] ?_
    obtain ⟨MG,h18,h28,hF⟩:=hF
    refine eF.hd (fM.s (v:=sv (xs.take (Int.toNat (w6 (v0+1))))) (bZ (s:=xs) (l:=0) (h:=w6 (v0+1)) kr underlying9 (.inr ⟨rfl,rfl⟩) (.inl ⟨_,_,rfl,rfl⟩) MG h18 h28 (xs.take (Int.toNat (w6 (v0+1)))) (by simp)) rfl rfl ?_)
    obtain ⟨Tn,hF⟩:=hF
    refine eF.t rfl rfl (bQ (jL.Vu z0 d0 Tn) fun g10 _ _ U0 ab9=>?_)
    obtain ⟨rfl,rfl⟩:=ab9
    refine g_ U0.1 (iI 1 [2] [(27,.agg #[iv 5,sv (xs.take (Int.toNat (w6 (v0+1)))),sv (bytesOf z0),iv 0])] ?_)
    refine eF.t rfl rfl (af.w 0 ?_)
    refine g_ U0.1 (eF.nil (Ok.t (Ok.ret (aU (aU (aC (aC (aU (aC ?_)))))))))
    exact jc 0 [] (o0.trans U0) ⟨(5,xs.take (Int.toNat (w6 (v0+1))),bytesOf z0,0),rfl,rfl,hF⟩
   replace hF:=hF.2 iC
   refine ae (ag 3 [0,2,3,4,5] [(28,.bool ((e5.toNat:Int)==10))] ?_)
   refine aa (ed hF rfl (fun J0=>?_) (fun J0=>?_))
   ·replace hF:=hF.1 J0
    refine ae (ag 2 [2] [(31,sv xs),(32,iv v0)] ?_)
    obtain ⟨Ua,h112,apm,hF⟩:=hF
    refine ai (af.s (bZ (s:=xs) (l:=0) (h:=v0) kr underlying9 (.inr ⟨rfl,rfl⟩) (.inl ⟨_,_,rfl,rfl⟩) Ua h112 apm (xs.take v0.toNat) (by simp)) rfl rfl (ag 1 [2] [(34,.agg #[iv 6,sv (xs.take v0.toNat),sv ([]:Bs),iv 0])] ?_))
    refine ai (af.w 2 ?_)
    refine aa (Ok.ret (aU (aU (aC (aC (aU (aC ?_)))))))
    exact jc 2 [] o0 ⟨(6,xs.take v0.toNat,([]:Bs),0),rfl,rfl,hF⟩
   replace hF:=hF.2 J0
   refine ae (ag 3 [0,2,3,4,5] [(38,.bool ((e5.toNat:Int)==92))] ?_)
   refine Ok.w 6 [(0,sv xs),(2,pv eO 0),(3,pv b3 0),(4,iv v0),(5,.int .u8 (e5.toNat:Int)),(44,.bool (((e5.toNat:Int)==92)&&(decide (w6 (v0+1)<(xs.length:Int)))))] (fun X0=>?_) ?_
   ·refine Ok.a 38 ((e5.toNat:Int)==92) rfl (fun W0=>?_) (fun W0=>?_)
    ·skip
     refine ag 6 [0,2,3,4,5] [(44,.bool (decide (w6 (v0+1)<(xs.length:Int))))] ?_
     refine aB 44 (((e5.toNat:Int)==92)&&(decide (w6 (v0+1)<(xs.length:Int)))) (aZ W0) (ag 0 [0,2,3,4,5] [(44,.bool (((e5.toNat:Int)==92)&&(decide (w6 (v0+1)<(xs.length:Int)))))] ?_)
     exact X0
    skip
    refine ag 6 [0,2,3,4,5] [(44,.bool false)] ?_
    refine aB 44 (((e5.toNat:Int)==92)&&(decide (w6 (v0+1)<(xs.length:Int)))) (bW W0) (ag 0 [0,2,3,4,5] [(44,.bool (((e5.toNat:Int)==92)&&(decide (w6 (v0+1)<(xs.length:Int)))))] ?_)
    exact X0
   refine ag 1 [0,2,3,4,5] [(35,.bool (((e5.toNat:Int)==92)&&(decide (w6 (v0+1)<(xs.length:Int)))))] ?_
   refine aa (ed hF rfl (fun n0=>?_) (fun n0=>?_))
   ·replace hF:=hF.1 n0
    refine ae (ag 3 [0,2,3] [(4,iv (w6 (v0+1)))] ?_)
    refine aa (aS (ag 2 [0,2,3,4] [(47,sv xs),(48,iv (w6 (v0+1)))] ?_))
    obtain ⟨MK,h116,hF⟩:=hF
    have S0:=aV (l:=xs) (0:UInt8) h116
    generalize ane:(xs.getD (Int.toNat (w6 (v0+1))) 0)=e16 at S0 hF ⊢
    refine ai (af.s (v:=.int .u8 (e16.toNat:Int)) (dO (k:=.i64) (i:=w6 (v0+1)) (s:=xs) (b:=e16) kr kr underlying9 MK S0) rfl rfl ?_)
    obtain ⟨Tw,hF⟩:=hF
    refine ai (bQ (jL.QM z0 (e16.toNat:Int) d0 Tw) fun g18 _ _ amj TJ=>?_)
    obtain ⟨i0,Z0,t0,rfl,Mw,rfl⟩:=TJ
    refine bY (bJ (bJ (Ok.t ?_)))
    subst ane
    subst Bi
    subst hg5
    refine gW 4 rfl (show (iv (w6 (v0+1)):Value)=iv (if ((((xs.getD v0.toNat 0).toNat:Int)==92)&&(decide (w6 (v0+1)<(xs.length:Int))))=true then w6 (v0+1) else v0) from ay (Value.int .i64) ((aT n0).symm)) (nA (H':=[.qH b3 87 (.slice i0 (if ((((xs.getD v0.toNat 0).toNat:Int)==92)&&(decide (w6 (v0+1)<(xs.length:Int))))=true then (jL.sO z0 ((xs.getD (Int.toNat (w6 (v0+1))) 0).toNat:Int)).2 else (jL.sO z0 ((xs.getD v0.toNat 0).toNat:Int)).2).length Z0),.own (.slice i0 (if ((((xs.getD v0.toNat 0).toNat:Int)==92)&&(decide (w6 (v0+1)<(xs.length:Int))))=true then (jL.sO z0 ((xs.getD (Int.toNat (w6 (v0+1))) 0).toNat:Int)).2 else (jL.sO z0 ((xs.getD v0.toNat 0).toNat:Int)).2).length Z0) 5 1 (if ((((xs.getD v0.toNat 0).toNat:Int)==92)&&(decide (w6 (v0+1)<(xs.length:Int))))=true then (jL.sO z0 ((xs.getD (Int.toNat (w6 (v0+1))) 0).toNat:Int)).2 else (jL.sO z0 ((xs.getD v0.toNat 0).toNat:Int)).2).length t0,.blk eO (.cells zK 98)]) (ib (ay (fun l:Value=>b_.qH b3 87 l) (ay (fun l:List Int=>Value.slice i0 l.length Z0) ((aT n0).symm))) (ib (ay (fun l:List Int=>b_.own (.slice i0 l.length Z0) 5 1 l.length t0) ((aT n0).symm)) (ib (rfl) rfl))) ?_)
    exact fun _ _ u v=>⟨g18,amj,i0,Z0,t0,(Eq.mp (ay (fun l:List Int=>aW g18 yb t0 l) ((aT n0).symm)) Mw),fA u v hF⟩
   replace hF:=hF.2 n0
   refine aS (ag 1 [0,2,3,4] [(15,.int .u8 (e5.toNat:Int))] ?_)
   obtain ⟨Tv,hF⟩:=hF
   refine ai (bQ (jL.QM z0 (e5.toNat:Int) d0 Tv) fun g20 _ _ ami aoe=>?_)
   obtain ⟨V0,Q0,a0,rfl,acJ,rfl⟩:=aoe
   refine bY (bJ (bJ (Ok.t ?_)))
   subst Bi
   subst hg5
   refine gW 4 rfl (show (iv v0:Value)=iv (if ((((xs.getD v0.toNat 0).toNat:Int)==92)&&(decide (w6 (v0+1)<(xs.length:Int))))=true then w6 (v0+1) else v0) from ay (Value.int .i64) ((aF n0).symm)) (nA (H':=[.qH b3 87 (.slice V0 (if ((((xs.getD v0.toNat 0).toNat:Int)==92)&&(decide (w6 (v0+1)<(xs.length:Int))))=true then (jL.sO z0 ((xs.getD (Int.toNat (w6 (v0+1))) 0).toNat:Int)).2 else (jL.sO z0 ((xs.getD v0.toNat 0).toNat:Int)).2).length Q0),.own (.slice V0 (if ((((xs.getD v0.toNat 0).toNat:Int)==92)&&(decide (w6 (v0+1)<(xs.length:Int))))=true then (jL.sO z0 ((xs.getD (Int.toNat (w6 (v0+1))) 0).toNat:Int)).2 else (jL.sO z0 ((xs.getD v0.toNat 0).toNat:Int)).2).length Q0) 5 1 (if ((((xs.getD v0.toNat 0).toNat:Int)==92)&&(decide (w6 (v0+1)<(xs.length:Int))))=true then (jL.sO z0 ((xs.getD (Int.toNat (w6 (v0+1))) 0).toNat:Int)).2 else (jL.sO z0 ((xs.getD v0.toNat 0).toNat:Int)).2).length a0,.blk eO (.cells zK 98)]) (ib (ay (fun l:Value=>b_.qH b3 87 l) (ay (fun l:List Int=>Value.slice V0 l.length Q0) ((aF n0).symm))) (ib (ay (fun l:List Int=>b_.own (.slice V0 l.length Q0) 5 1 l.length a0) ((aF n0).symm)) (ib (rfl) rfl))) ?_)
   exact fun _ _ u v=>⟨g20,ami,V0,Q0,a0,(Eq.mp (ay (fun l:List Int=>aW g20 yb a0 l) ((aF n0).symm)) acJ),fA u v hF⟩
  clear hF
  rintro _ _ ⟨Y0,Ki,x0,s0,u0,H9,q⟩
  refine jn (fun hF=>?_) _ _ q
  refine aS (ag 3 [0,2,3] [(4,iv (w6 ((if ((((xs.getD v0.toNat 0).toNat:Int)==92)&&(decide (w6 (v0+1)<(xs.length:Int))))=true then w6 (v0+1) else v0)+1)))] ?_)
  refine bY (Ok.t ?_)
  exact fun _ _ u v=>⟨k9,nl,Y0,o0.trans Ki,w6 ((if ((((xs.getD v0.toNat 0).toNat:Int)==92)&&(decide (w6 (v0+1)<(xs.length:Int))))=true then w6 (v0+1) else v0)+1),x0,s0,(if ((((xs.getD v0.toNat 0).toNat:Int)==92)&&(decide (w6 (v0+1)<(xs.length:Int))))=true then (jL.sO z0 ((xs.getD (Int.toNat (w6 (v0+1))) 0).toNat:Int)).2 else (jL.sO z0 ((xs.getD v0.toNat 0).toNat:Int)).2),u0,H9,fA u v hF⟩
 refine fU (aA (aA (aO (Ok.t (ae (ag 2 [2] [(52,.agg #[iv 6,sv xs,sv ([]:Bs),iv 0])] ?_))))))
 refine ai (af.w 2 ?_)
 refine aa (Ok.ret ?_)
 exact jc 2 [] o0 ⟨(6,xs,([]:Bs),0),rfl,rfl,hF⟩
end Go.Proofs.YtdapgmigogpdcaaGreatDoor.tF
namespace Go.Proofs.YtdapgmigogpdcaaGreatDoor.jL
open Go Go.iQ Go.RowKit Go.Shelf Go.Proofs
set_option maxHeartbeats 2000000
set_option maxRecDepth 100000
set_option linter.unusedVariables false
theorem wr (b:Nat) (v p:Value) (n:Nat) (bs src:List Value) (sa:Addr) (k c2:Nat) (w:World) (hp:p=.pointer none∨p=.pointer (some ⟨b,0,none⟩)) (hbk:w.heap[b]? = some (.cells #[p,v] (ren.t 72) (0,0)))
  (hown:w.ownsRow 0 (ren.t 5) 1 v n bs) (hk:src.length=k) (h0:0<k) (hs:∀ j u,src[j]? = some u→w.cell? (sa.add j)=some u) (hsb:(sa.add 0).block≠b) (hadd:∀ j,(sa.add j).block=(sa.add 0).block) (hone:∀ u ∈ src,u.oneCell'=true) (hlen:n+k≤140737488355328) :
  Calls Tryz.prog 47 #[.pointer (some ⟨b,0,none⟩),.slice (some sa) k c2] w fun e w'=>e=.returned (.tuple #[.int .i64 (k:Int),.nilIface])∧∃ v',w'.heap[b]? = some (.cells #[.pointer (some ⟨b,0,none⟩),v'] (ren.t 72) (0,0)) ∧
   w'.ownsRow 0 (ren.t 5) 1 v' (n+k) (bs++src)∧(v'.ownBlock=v.ownBlock∨∃ k,v'.ownBlock=some k∧w.heap.size≤k)∧Fr b v.ownBlock w w':=by
 have L:=ahH
 obtain ⟨i0,hi,hz0,hz1,hz2⟩:=info_parts X.infoByte
 have hcc:Calls Tryz.prog 80 #[.pointer (some ⟨b,0,none⟩)] w (fun e w'=>e=.returned (.tuple #[])∧w'.heap[b]? = some (.cells #[.pointer (some ⟨b,0,none⟩),v] (ren.t 72) (0,0))∧w.grownBy w' (some b)):=cc b v p w hp hbk
 have hne:v.ownBlock≠some b:=Lib.ownBlock_ne hown hbk X.neB5
 go_enter Tryz.func47,Tryz.ntmps47
 go_wp2_with (go_at_call 80; refine hcc.mono ?_)
 rintro e w1 ⟨rfl,hbk1,hg1⟩
 have hown1:=hown.kept hg1 (Or.inr hne)
 have c0:w1.cell? ⟨b,0,none⟩=some (.pointer (some ⟨b,0,none⟩)):=by rw [Lib.cell_of_heap hbk1]; rfl
 have c1:w1.cell? ⟨b,1,none⟩=some v:=by rw [Lib.cell_of_heap hbk1]; rfl
 have hlt:=lt_of_heap hbk1
 have hs1:∀ j u,src[j]? = some u→w1.cell? (sa.add j)=some u:=fun j u hj=>by
  have h1:=hs j u hj
  have am0:(sa.add j).block<w.heap.size:=by
   unfold World.cell? at h1
   split at h1
   ·rename_i hh; exact (Array.getElem?_eq_some_iff.1 hh).1
   cases h1
  have e1:w1.heap[(sa.add j).block]? = w.heap[(sa.add j).block]?:=hg1.block _ am0 (fun e=>hsb (by rw [← hadd j]; exact uH e))
  unfold World.cell? at h1 ⊢
  rw [e1]; exact h1
 go_wp2_with (at_builtin; refine wpList_append_own_at _ rfl _ _ 26 rfl 0 5 i0 (.int .u8 0) 1 1 Tryz.underlying26 hi hz0 hz1 hz2 rfl dc _ _ _ rfl hown1 sa k c2 src rfl om ?c1 ?c2 ?c3 ?c4 ?c5 ?_)
 case c1=>exact hs1
 case c2=>exact hone
 case c3=>unfold maxLen; omega
 case c4=>omega
 case c5=>exact ik _
 intro v' w2 hown' hgrow _ hblk
 have hb2:w2.heap[b]? = some (.cells #[.pointer (some ⟨b,0,none⟩),v] (ren.t 72) (0,0)):=by
  rw [hgrow.block b hlt (fun e=>hne e.symm)]
  exact hbk1
 have d0:w2.cell? ⟨b,0,none⟩=some (.pointer (some ⟨b,0,none⟩)):=by rw [Lib.cell_of_heap hb2]; rfl
 have d1:w2.cell? ⟨b,1,none⟩=some v:=by rw [Lib.cell_of_heap hb2]; rfl
 have f1:w2.frozen? ⟨b,1,none⟩=false:=Lib.frozen_of_heap hb2 1
 have hne':v'.ownBlock≠some b:=Lib.ownBlock_ne hown' hb2 X.neB5
 obtain ⟨g,cap,hv⟩:∃ g cap,v'=.slice (some ⟨g,0,none⟩) (n+k) cap:=by
  rcases hown'.2 with ⟨_,h0⟩ | ⟨g,cap,cur,hv,_⟩
  ·omega
  exact ⟨g,cap,hv⟩
 subst hv
 go_wp2
 go_ret2
 refine ⟨rfl,_,by simp [World.setCell,xq,hb2],hown'.kept (uZ w2 b 1 _) (Or.inr hne'),?_,?_⟩
 ·rcases hblk with h | h
  ·exact .inl h
  refine .inr ⟨_,h,?_⟩
  have:=hg1.size
  omega
 refine ⟨?_,?_,?_,?_,fun k hk hkb hkr=>?_⟩
 ·exact hgrow.os.trans hg1.os
 ·exact hgrow.tape.trans hg1.tape
 ·exact hgrow.output.trans hg1.output
 ·have h1:=hg1.size
  have h2:=hgrow.size
  simp [World.setCell] at h2 ⊢
  omega
 have h1:=hg1.size
 rw [Below.heap_setCell _ _ _ _ (show k≠b from hkb),hgrow.block k om hkr,hg1.block k hk (by simpa using hkb)]
def Yj (l q:List Int):Int×Unit×List Int:=((q.length:Int),(),l++q)
def wrP (l q:List Int):Prop:=q≠[]∧l.length+q.length≤140737488355328
theorem alG {g:ak} {b:Nat} {a a2:Option Addr} {c c2:Nat} {xs:List Value} (l q:List Int) (hL:aW g (.int .u8) xs l) (hq:bG g (.slice (.int .u8)) [.slice a2 q.length c2] q) (hp:wrP l q) :
  az Tryz.prog 47 #[.pointer (some ⟨b,0,none⟩),.slice a2 q.length c2] g [.qH b 87 (.slice a l.length c),.own (.slice a l.length c) 5 1 l.length xs]
   (fun g' H' r=>∃ (a':Option Addr) (c':Nat) (xs':List Value),r=.tuple #[.int .i64 (Yj l q).1,.nilIface]∧aW g' (.int .u8) xs' (Yj l q).2.2∧H'=[.qH b 87 (.slice a' (Yj l q).2.2.length c'),.own (.slice a' (Yj l q).2.2.length c') 5 1 (Yj l q).2.2.length xs']):=fun W hW=>by
 obtain ⟨p,hp0,hbk⟩:=hW.fT (.qH b 87 (.slice a l.length c)) (by simp)
 have hown:=hW.fT (.own (.slice a l.length c) 5 1 l.length xs) (by simp)
 have hgb:g b=none:=hW.apart (.qH b 87 (.slice a l.length c)) (by simp) b rfl
 obtain ⟨a1,c1,hcs,-,hel⟩:=hq
 simp only [uQ,Value.slice.injEq,ny] at hcs
 obtain ⟨rfl,-,rfl⟩:=hcs
 obtain ⟨y,q',rfl⟩:∃ y q',q=y::q':=by
  cases q with
  | nil=>exact absurd rfl hp.1
  | cons y q'=>exact ⟨y,q',rfl⟩
 obtain ⟨sb,so,hb,_⟩:=hel 0 y rfl
 subst hb
 obtain ⟨ys,h1,h2⟩:=u6 (e:=.int .u8) (g:=g) (b:=sb) (off:=so) (y::q') 0 fun i x hx=>by
  obtain ⟨b',off',hb',jA,hl,hat,hr⟩:=hel i x hx
  injection hb' with hb'
  simp only [Addr.mk.injEq,ny] at hb'
  obtain ⟨rfl,rfl⟩:=hb'
  exact ⟨jA,hl,by rw [su]; exact hat,hr⟩
 have hys:ys.length=(y::q').length:=by have h4:=aW.size (e:=.int .u8) (l:=y::q') h1; rw [show (Ty.int IntKind.u8).size=1 from rfl,Nat.mul_one] at h4; exact h4
 have hcell:∀ j u,ys[j]? = some u→lJ g ⟨sb,so+j,none⟩=some u:=fun j u hj=>by
  have:=h2 j u hj
  rwa [wZ,nz] at this
 have hsb:sb≠b:=fun e=>by
  subst e
  obtain ⟨u,hu⟩:∃ u,ys[0]? = some u:=⟨ys[0]'(by rw [hys]; simp),gB _⟩
  have:=hcell 0 u hu
  unfold lJ at this
  rw [show g (⟨sb,so+0,none⟩:Addr).block=none from hgb] at this
  cases this
 refine (wr b (.slice a l.length c) p l.length xs ys ⟨sb,so,none⟩ (y::q').length _ W hp0 hbk hown hys (by simp) (fun j u hj=>by rw [Addr.add_plain]; exact lY hW.ghost (hcell j u hj)) (by rw [Addr.add_plain]; exact hsb) (fun j=>by rw [Addr.add_plain,Addr.add_plain]) (aW.ones (e:=.int .u8) (l:=y::q') h1) hp.2).mono fun e W' ⟨he,v',hb',hown',hblk,hF⟩=>?_
 obtain ⟨a',c',rfl⟩:=qW hown'
 have hl:(Yj l (y::q')).2.2.length=l.length+(y::q').length:=by simp [Yj]
 refine ⟨_,g,_,he,⟨a',c',xs++ys,rfl,aW.append (e:=.int .u8) (l':=y::q') hL h1,rfl⟩,bq _ g,?_⟩
 rw [hl]
 exact IK hW ⟨_,.inr rfl,hb'⟩ hown' dc hblk hF
end Go.Proofs.YtdapgmigogpdcaaGreatDoor.jL
