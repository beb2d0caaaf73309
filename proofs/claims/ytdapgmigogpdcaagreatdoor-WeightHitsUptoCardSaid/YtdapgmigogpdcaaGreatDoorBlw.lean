/- strings.Builder: what its methods do to a builder of the call's own (after the kit's worked contracts, with the frame that the engine needs). -/
import Derived.Test.YtdapgmigogpdcaaGreatDoorExi
import Derived.Test.YtdapgmigogpdcaaGreatDoorProg
import Derived.Shelf.Strings.Builder1
import Derived.Maps.AppendAt
set_option linter.unusedSimpArgs false
set_option linter.unusedVariables false
namespace Go.Proofs.YtdapgmigogpdcaaGreatDoor.jN
open Go.iT
set_option maxHeartbeats 2000000
set_option maxRecDepth 100000
open Go Go.iT Go.RowKit Go.Shelf Go.Proofs
def ren:Ren:=⟨fun
 | 240=>80 | 276=>123
 | 167=>46
 | 166=>48
 | 169=>50
 | n=>n,fun | 0=>0 | 3=>3 | 4=>4 | 5=>5 | 9=>9 | 20=>20 | 37=>26 | 70=>85 | 72=>87 | 75=>89 | 80=>95 | 127=>121 | 164=>145 | n=>n,fun n=>n⟩
theorem ai9:Lays.n240 Tryz.prog ren:={
 mixed:=by kernel_rfl
 f240:=Tryz.func80.trans (aA some kr)
 f276:=Tryz.func123.trans (aA some kr)
 t0:=Tryz.underlying0
 a0:=Tryz.isAgg0
 z0:=Tryz.sizeOf0
 v0:=Tryz.zeroValue0
 t4:=Tryz.underlying4
 a4:=Tryz.isAgg4
 z4:=Tryz.sizeOf4
 v4:=Tryz.zeroValue4
 t9:=Tryz.underlying9
 a9:=Tryz.isAgg9
 z9:=Tryz.sizeOf9
 v9:=Tryz.zeroValue9
 t20:=Tryz.underlying20
 a20:=Tryz.isAgg20
 z20:=Tryz.sizeOf20
 v20:=Tryz.zeroValue20
 t70:=Tryz.underlying85
 a70:=Tryz.isAgg85
 z70:=Tryz.sizeOf85
 v70:=Tryz.zeroValue85
 t72:=Tryz.underlying87
 a72:=Tryz.isAgg87
 z72:=Tryz.sizeOf87
 v72:=Tryz.zeroValue87
 t164:=Tryz.underlying145
 a164:=Tryz.isAgg145
 z164:=Tryz.sizeOf145
 v164:=Tryz.zeroValue145 }
theorem aja:Lays.n167 Tryz.prog ren:={
 mixed:=by kernel_rfl
 f167:=Tryz.func46.trans (aA some kr)
 f240:=Tryz.func80.trans (aA some kr)
 f276:=Tryz.func123.trans (aA some kr)
 t0:=Tryz.underlying0
 a0:=Tryz.isAgg0
 z0:=Tryz.sizeOf0
 v0:=Tryz.zeroValue0
 t4:=Tryz.underlying4
 a4:=Tryz.isAgg4
 z4:=Tryz.sizeOf4
 v4:=Tryz.zeroValue4
 t5:=Tryz.underlying5
 a5:=Tryz.isAgg5
 z5:=Tryz.sizeOf5
 v5:=Tryz.zeroValue5
 t9:=Tryz.underlying9
 a9:=Tryz.isAgg9
 z9:=Tryz.sizeOf9
 v9:=Tryz.zeroValue9
 t20:=Tryz.underlying20
 a20:=Tryz.isAgg20
 z20:=Tryz.sizeOf20
 v20:=Tryz.zeroValue20
 t37:=Tryz.underlying26
 a37:=Tryz.isAgg26
 z37:=Tryz.sizeOf26
 v37:=Tryz.zeroValue26
 t70:=Tryz.underlying85
 a70:=Tryz.isAgg85
 z70:=Tryz.sizeOf85
 v70:=Tryz.zeroValue85
 t72:=Tryz.underlying87
 a72:=Tryz.isAgg87
 z72:=Tryz.sizeOf87
 v72:=Tryz.zeroValue87
 t75:=Tryz.underlying89
 a75:=Tryz.isAgg89
 z75:=Tryz.sizeOf89
 v75:=Tryz.zeroValue89
 t164:=Tryz.underlying145
 a164:=Tryz.isAgg145
 z164:=Tryz.sizeOf145
 v164:=Tryz.zeroValue145 }
theorem anL:Lays.n166 Tryz.prog ren:={
 mixed:=by kernel_rfl
 f166:=Tryz.func48.trans (aA some kr)
 f240:=Tryz.func80.trans (aA some kr)
 f276:=Tryz.func123.trans (aA some kr)
 t0:=Tryz.underlying0
 a0:=Tryz.isAgg0
 z0:=Tryz.sizeOf0
 v0:=Tryz.zeroValue0
 t3:=Tryz.underlying3
 a3:=Tryz.isAgg3
 z3:=Tryz.sizeOf3
 v3:=Tryz.zeroValue3
 t4:=Tryz.underlying4
 a4:=Tryz.isAgg4
 z4:=Tryz.sizeOf4
 v4:=Tryz.zeroValue4
 t9:=Tryz.underlying9
 a9:=Tryz.isAgg9
 z9:=Tryz.sizeOf9
 v9:=Tryz.zeroValue9
 t20:=Tryz.underlying20
 a20:=Tryz.isAgg20
 z20:=Tryz.sizeOf20
 v20:=Tryz.zeroValue20
 t37:=Tryz.underlying26
 a37:=Tryz.isAgg26
 z37:=Tryz.sizeOf26
 v37:=Tryz.zeroValue26
 t70:=Tryz.underlying85
 a70:=Tryz.isAgg85
 z70:=Tryz.sizeOf85
 v70:=Tryz.zeroValue85
 t72:=Tryz.underlying87
 a72:=Tryz.isAgg87
 z72:=Tryz.sizeOf87
 v72:=Tryz.zeroValue87
 t75:=Tryz.underlying89
 a75:=Tryz.isAgg89
 z75:=Tryz.sizeOf89
 v75:=Tryz.zeroValue89
 t164:=Tryz.underlying145
 a164:=Tryz.isAgg145
 z164:=Tryz.sizeOf145
 v164:=Tryz.zeroValue145 }
theorem anK:Lays.n169 Tryz.prog ren:={
 mixed:=by kernel_rfl
 f169:=Tryz.func50.trans (aA some kr)
 t0:=Tryz.underlying0
 a0:=Tryz.isAgg0
 z0:=Tryz.sizeOf0
 v0:=Tryz.zeroValue0
 t3:=Tryz.underlying3
 a3:=Tryz.isAgg3
 z3:=Tryz.sizeOf3
 v3:=Tryz.zeroValue3
 t9:=Tryz.underlying9
 a9:=Tryz.isAgg9
 z9:=Tryz.sizeOf9
 v9:=Tryz.zeroValue9
 t37:=Tryz.underlying26
 a37:=Tryz.isAgg26
 z37:=Tryz.sizeOf26
 v37:=Tryz.zeroValue26
 t70:=Tryz.underlying85
 a70:=Tryz.isAgg85
 z70:=Tryz.sizeOf85
 v70:=Tryz.zeroValue85
 t72:=Tryz.underlying87
 a72:=Tryz.isAgg87
 z72:=Tryz.sizeOf87
 v72:=Tryz.zeroValue87
 t127:=Tryz.underlying121
 a127:=Tryz.isAgg121
 z127:=Tryz.sizeOf121
 v127:=Tryz.zeroValue121 }
theorem X:Builder.Extra Tryz.prog ren:={
 sizeBuilder:=by kernel_rfl
 liesBuilder:=by kernel_rfl
 t5:=Tryz.underlying5
 a5:=Tryz.isAgg5
 z5:=Tryz.sizeOf5
 v5:=Tryz.zeroValue5
 infoByte:=by kernel_rfl
 cellsByte:=by kernel_rfl
 sizeByte:=by kernel_rfl
 neB5:=by decide }

structure Fr (b:Nat) (row:Option Nat) (w w':World):Prop where
 os:w'.os=w.os
 tape:w'.tape=w.tape
 output:w'.output=w.output
 size:w.heap.size≤w'.heap.size
 block:∀ k,k<w.heap.size→k≠b→some k≠row→w'.heap[k]? = w.heap[k]?

theorem vk (w:World) (b i:Nat) (u:Value):w.grownBy (w.setCell ⟨b,i,none⟩ u) (some b) :=
 ⟨rfl,rfl,rfl,by simp [World.setCell],fun k _ hk=>Below.heap_setCell _ _ _ _ (fun e=>hk (by simp [e]))⟩

theorem cc (b:Nat) (v p:Value) (w:World) (hp:p=.pointer none∨p=.pointer (some ⟨b,0,none⟩)) (hbk:w.heap[b]? = some (.cells #[p,v] (ren.t 72) (0,0))) :
  Calls Tryz.prog (ren.f 240) #[.pointer (some ⟨b,0,none⟩)] w fun e w'=>e=.returned (.tuple #[])∧w'.heap[b]? = some (.cells #[.pointer (some ⟨b,0,none⟩),v] (ren.t 72) (0,0))∧w.grownBy w' (some b):=by
 rcases hp with rfl | rfl
 ·refine (Any.Builder_copyCheck_fresh ai9 X.toX72 b w (by rw [Lib.cell_of_heap hbk]; rfl) (by simp [World.shape?,hbk]) (by simp [World.frozen?,hbk])).mono ?_;rintro e w' ⟨rfl,rfl⟩;exact ⟨rfl,by simp [World.setCell,xD,hbk],vk w b 0 _⟩
 refine (Any.Builder_copyCheck_used ai9 X.toX72 b w (by rw [Lib.cell_of_heap hbk]; rfl)).mono ?_;rintro e w' ⟨rfl,rfl⟩;exact ⟨rfl,hbk,rfl,rfl,rfl,fP _,fun _ _ _=>rfl⟩

theorem lt_of_heap {w:World} {b:Nat} {o:Obj} (h:w.heap[b]? = some o):b<w.heap.size:=(Array.getElem?_eq_some_iff.1 h).1

theorem wb (b:Nat) (v p:Value) (n:Nat) (bs:List Value) (c:Int) (w:World) (hp:p=.pointer none∨p=.pointer (some ⟨b,0,none⟩)) (hbk:w.heap[b]? = some (.cells #[p,v] (ren.t 72) (0,0)))
  (hown:w.ownsRow 0 (ren.t 5) 1 v n bs) (hlen:n+1≤140737488355328) :
  Calls Tryz.prog (ren.f 167) #[.pointer (some ⟨b,0,none⟩),.int .u8 c] w fun e w'=>e=.returned .nilIface∧∃ v',w'.heap[b]? = some (.cells #[.pointer (some ⟨b,0,none⟩),v'] (ren.t 72) (0,0)) ∧
   w'.ownsRow 0 (ren.t 5) 1 v' (n+1) (bs++[.int .u8 c])∧(v'.ownBlock=v.ownBlock∨∃ k,v'.ownBlock=some k∧w.heap.size≤k)∧Fr b v.ownBlock w w':=by
 have L:=aja;obtain ⟨i0,hi,hz0,hz1,hz2⟩:=info_parts X.infoByte;have mixed:=L.mixed;have t72:=L.t72; have a72:=L.a72; have z72:=L.z72; have v72:=L.v72; have u72:=run_underlying L.t72;have t70:=L.t70; have a70:=L.a70; have z70:=L.z70; have v70:=L.v70; have u70:=run_underlying L.t70;have t5:=L.t5; have a5:=L.a5; have z5:=L.z5; have v5:=L.v5; have u5:=run_underlying L.t5;have t37:=L.t37; have a37:=L.a37; have z37:=L.z37; have v37:=L.v37; have u37:=run_underlying L.t37;have t9:=L.t9; have a9:=L.a9; have z9:=L.z9; have v9:=L.v9; have u9:=run_underlying L.t9;have t4:=L.t4; have a4:=L.a4; have z4:=L.z4; have v4:=L.v4; have u4:=run_underlying L.t4;have t164:=L.t164; have a164:=L.a164; have z164:=L.z164; have v164:=L.v164; have u164:=run_underlying L.t164;have e240:∀ args w,(callFunc (ren.f 240) args).run Tryz.prog w=.ok (.enter (ren.f 240) args) w:=enters_of L.f240 kr rfl;have hne:v.ownBlock≠some b:=Lib.ownBlock_ne hown hbk X.neB5
 go_enter L.f167,Body.n167_ntmps ren
 go_wp2_with (go_at_fn (ren.f 240); refine (cc b v p _ hp hbk).mono ?_)
 rintro e w1 ⟨rfl,hbk1,hg1⟩;have hown1:=hown.kept hg1 (Or.inr hne)
 have c0:w1.cell? ⟨b,0,none⟩=some (.pointer (some ⟨b,0,none⟩)):=by rw [Lib.cell_of_heap hbk1]; rfl
 have c1:w1.cell? ⟨b,1,none⟩=some v:=by rw [Lib.cell_of_heap hbk1]; rfl
 have hlt:=lt_of_heap hbk1
 go_wp2_with (at_builtin; refine wpList_append_own_at _ rfl _ _ (ren.t 37) rfl 0 (ren.t 5) i0 (.int .u8 0) 1 1 L.t37 hi hz0 hz1 hz2 rfl dc _ _ _ rfl (hown1.alloc _) ⟨w1.heap.size,0,none⟩ 1 1 [.int .u8 c] rfl rfl ?c1 ?c2 ?c3 ?c4 ?c5 ?_)
 case c1 =>
  intro j u hj
  match j,hj with
  | 0,hj=>simp at hj; subst hj; simp [Addr.add]
 case c2=>intro u hu; simp at hu; subst hu; rfl
 case c3=>unfold maxLen; omega
 case c4=>omega
 case c5=>exact ik _
 intro v' w2 hown' hgrow _ hblk
 have hb2:w2.heap[b]? = some (.cells #[.pointer (some ⟨b,0,none⟩),v] (ren.t 72) (0,0)):=by
  rw [hgrow.block b (by simp; omega) (fun e=>hne e.symm),Lib.alloc_old w1 _ b hlt];exact hbk1
 have d0:w2.cell? ⟨b,0,none⟩=some (.pointer (some ⟨b,0,none⟩)):=by rw [Lib.cell_of_heap hb2]; rfl
 have d1:w2.cell? ⟨b,1,none⟩=some v:=by rw [Lib.cell_of_heap hb2]; rfl
 have f1:w2.frozen? ⟨b,1,none⟩=false:=Lib.frozen_of_heap hb2 1;have hne':v'.ownBlock≠some b:=Lib.ownBlock_ne hown' hb2 X.neB5
 obtain ⟨g,cap,hv⟩:∃ g cap,v'=.slice (some ⟨g,0,none⟩) (n+1) cap:=by
  rcases hown'.2 with ⟨_,h0⟩ | ⟨g,cap,cur,hv,_⟩
  ·omega
  exact ⟨g,cap,hv⟩
 subst hv
 go_wp2
 go_ret
 refine ⟨rfl,_,by simp [World.setCell,xD,hb2],hown'.kept (vk w2 b 1 _) (Or.inr hne'),?_,?_⟩
 ·rcases hblk with h | h
  ·exact .inl h
  refine .inr ⟨_,h,?_⟩;have:=hg1.size;simp;omega
 refine ⟨?_,?_,?_,?_,fun k hk hkb hkr=>?_⟩
 ·exact hgrow.os.trans hg1.os
 ·exact hgrow.tape.trans hg1.tape
 ·exact hgrow.output.trans hg1.output
 ·have h1:=hg1.size;have h2:=hgrow.size;simp [World.setCell] at h2 ⊢;omega
 have h1:=hg1.size;rw [Below.heap_setCell _ _ _ _ (show k≠b from hkb),hgrow.block k (by simp; omega) hkr,Lib.alloc_old w1 _ k om,hg1.block k hk (by simpa using hkb)]
theorem Qq {P:Program} {w:World} (t u ty e:TypeId) (i:TypeInfo) (ht:P.underlying t=some (.slice e)) (hu:P.underlying u=some .string) (hi:P.info? e=some i) (hz:i.zero=some (.int .u8 0))
  (hsize:i.size=1) (hby:i.bytes=1) (v:Value) (n:Nat) (xs:List Value) (hown:w.ownsRow 0 e 1 v n xs) (s:ByteArray)
  (h63:n+s.size≤maxLen) (hbytes:n+s.size≤140737488355328) {v':Value} {w':World} (hr:(Builtin.append_ #[t,u] ty #[v,.string s]).run P w=.ok v' w')
  (h4:v'=.slice none 0 0↔v=.slice none 0 0∧s.size=0):v'.ownBlock=v.ownBlock∨v'.ownBlock=some w.heap.size:=by
 have hsmall:n+s.size≤9223372036854775807:=by simp only [maxLen] at h63; omega
 have hxl:xs.length=n:=by simpa using hown.1
 rcases hown.2 with ⟨rfl,rfl⟩ | ⟨g,cap,cur,rfl,hbg,hg,hnc,hcm,hcs,htake⟩
 ·by_cases hm:s.size=0
  ·rw [h4.2 ⟨rfl,hm⟩]; exact .inl rfl
  have h1:=run_append_nil_string (P:=P) w t u ty e i (.int .u8 0) ht hu hi hz s om om (by rw [hby]; omega);rw [hr] at h1
  injection h1 with h1 _
  rw [h1]; exact .inr rfl
 by_cases hroom:n+s.size≤cap
 ·have h1:=Lib.run_append_room_string (P:=P) w t u ty e i ht hu hi hsize g n cap cur hg s hroom om;rw [hr] at h1
  injection h1 with h1 _
  rw [h1]; exact .inl rfl
 have holds:∀ j u,xs[j]? = some u→w.cell? ((⟨g,0,none⟩:Addr).add j)=some u:=hown.cells (g:=g) rfl;have h1:=Lib.run_append_grow_string (P:=P) w t u ty e i (.int .u8 0) ht hu hi hz ⟨g,0,none⟩ n cap xs (by rw [hsize]; simpa using hxl) holds s om om (by rw [hby]; exact growslice_fits om om);rw [hr] at h1
 injection h1 with h1 _
 rw [h1]; exact .inr rfl

theorem NR {P:Program} {w:World} {ops:Array Oper} {rest:List Oper} {o:Oper} {a:Act} {Q:Exit→Act→World→Prop} (hgd:o.guard=none) (sl x:Operand) (t u:TypeId)
  (ho:o.op=.call { callee:=.builtin .append,args:=#[sl,x],argTypes:=#[t,u] })
  (e:TypeId) (i:TypeInfo) (ht:P.underlying t=some (.slice e)) (hu:P.underlying u=some .string) (hi:P.info? e=some i) (hz:i.zero=some (.int .u8 0))
  (hsize:i.size=1) (hby:i.bytes=1)
  (v:Value) (n:Nat) (xs:List Value) (hs:a.eval sl=v) (hown:w.ownsRow 0 e 1 v n xs) (s:ByteArray) (hx:a.eval x=.string s)
  (h63:n+s.size≤maxLen) (hbytes:n+s.size≤140737488355328)
  (h:∀ v' w',w'.ownsRow 0 e 1 v' (n+s.size) (xs++Lib.strCells s)→w.grownBy w' v.ownBlock→(v'.ownBlock=v.ownBlock∨v'.ownBlock=some w.heap.size)→wpList P ops Q rest (a.put o.dst v') w'):wpList P ops Q (o::rest) a w:=by
 refine wpList_plain hgd fun K hK=>?_;obtain ⟨v',w',hr,h2,h3,h4⟩:=Lib.run_append_own_string (P:=P) w 0 t u o.type e i ht hu hi hz hsize hby v n xs hown s h63 hbytes (ik _);have h5:=Qq t u o.type e i ht hu hi hz hsize hby v n xs hown s h63 hbytes hr h4;unfold Oper.wp execOp;simp only [ho,resolve,invoke,builtin,Sem.run_bind,Sem.run_pure,Result.andThen_ok,uS,jL,qH,hs,hx,hr];exact hK _ _ (h v' w' h2 h3 h5)

theorem ws (b:Nat) (v p:Value) (n:Nat) (bs:List Value) (s:ByteArray) (w:World) (hp:p=.pointer none∨p=.pointer (some ⟨b,0,none⟩)) (hbk:w.heap[b]? = some (.cells #[p,v] (ren.t 72) (0,0)))
  (hown:w.ownsRow 0 (ren.t 5) 1 v n bs) (hlen:n+s.size≤140737488355328) :
  Calls Tryz.prog (ren.f 166) #[.pointer (some ⟨b,0,none⟩),.string s] w fun e w'=>e=.returned (.tuple #[.int .i64 s.size,.nilIface])∧∃ v',w'.heap[b]? = some (.cells #[.pointer (some ⟨b,0,none⟩),v'] (ren.t 72) (0,0)) ∧
   w'.ownsRow 0 (ren.t 5) 1 v' (n+s.size) (bs++Lib.strCells s)∧(v'.ownBlock=v.ownBlock∨∃ k,v'.ownBlock=some k∧w.heap.size≤k)∧Fr b v.ownBlock w w':=by
 have L:=anL;obtain ⟨i0,hi,hz0,hz1,hz2⟩:=info_parts X.infoByte;have mixed:=L.mixed;have t72:=L.t72; have a72:=L.a72; have z72:=L.z72; have v72:=L.v72; have u72:=run_underlying L.t72;have t70:=L.t70; have a70:=L.a70; have z70:=L.z70; have v70:=L.v70; have u70:=run_underlying L.t70;have t37:=L.t37; have a37:=L.a37; have z37:=L.z37; have v37:=L.v37; have u37:=run_underlying L.t37;have t3:=L.t3; have a3:=L.a3; have z3:=L.z3; have v3:=L.v3; have u3:=run_underlying L.t3;have t9:=L.t9; have a9:=L.a9; have z9:=L.z9; have v9:=L.v9; have u9:=run_underlying L.t9;have t4:=L.t4; have a4:=L.a4; have z4:=L.z4; have v4:=L.v4; have u4:=run_underlying L.t4;have t164:=L.t164; have a164:=L.a164; have z164:=L.z164; have v164:=L.v164; have u164:=run_underlying L.t164;have t5:=X.t5; have a5:=X.a5; have z5:=X.z5; have v5:=X.v5; have u5:=run_underlying X.t5;have e240:∀ args w,(callFunc (ren.f 240) args).run Tryz.prog w=.ok (.enter (ren.f 240) args) w:=enters_of L.f240 kr rfl;have hne:v.ownBlock≠some b:=Lib.ownBlock_ne hown hbk X.neB5
 go_enter L.f166,Body.n166_ntmps ren
 go_wp2_with (go_at_fn (ren.f 240); refine (cc b v p _ hp hbk).mono ?_)
 rintro e w1 ⟨rfl,hbk1,hg1⟩;have hown1:=hown.kept hg1 (Or.inr hne)
 have c0:w1.cell? ⟨b,0,none⟩=some (.pointer (some ⟨b,0,none⟩)):=by rw [Lib.cell_of_heap hbk1]; rfl
 have c1:w1.cell? ⟨b,1,none⟩=some v:=by rw [Lib.cell_of_heap hbk1]; rfl
 have hlt:=lt_of_heap hbk1
 go_wp2_with (at_builtin; refine NR rfl _ _ (ren.t 37) (ren.t 9) rfl (ren.t 5) i0 L.t37 L.t9 hi hz0 hz1 hz2 _ _ _ rfl hown1 s rfl ?c3 ?c4 ?_)
 case c3=>unfold maxLen; omega
 case c4=>omega
 intro v' w2 hown' hgrow hblk
 have hb2:w2.heap[b]? = some (.cells #[.pointer (some ⟨b,0,none⟩),v] (ren.t 72) (0,0)):=by
  rw [hgrow.block b hlt (fun e=>hne e.symm)];exact hbk1
 have d0:w2.cell? ⟨b,0,none⟩=some (.pointer (some ⟨b,0,none⟩)):=by rw [Lib.cell_of_heap hb2]; rfl
 have d1:w2.cell? ⟨b,1,none⟩=some v:=by rw [Lib.cell_of_heap hb2]; rfl
 have f1:w2.frozen? ⟨b,1,none⟩=false:=Lib.frozen_of_heap hb2 1;have hne':v'.ownBlock≠some b:=Lib.ownBlock_ne hown' hb2 X.neB5
 obtain ⟨ao,n',cap,hv⟩:∃ ao n' cap,v'=.slice ao n' cap:=by
  rcases hown'.2 with ⟨hv,_⟩ | ⟨g,cap,cur,hv,_⟩
  ·exact ⟨_,_,_,hv⟩
  exact ⟨_,_,_,hv⟩
 subst hv
 go_wp2
 go_ret2
 refine ⟨rfl,_,by simp [World.setCell,xD,hb2],hown'.kept (vk w2 b 1 _) (Or.inr hne'),?_,?_⟩
 ·rcases hblk with h | h
  ·exact .inl h
  exact .inr ⟨_,h,hg1.size⟩
 refine ⟨?_,?_,?_,?_,fun k hk hkb hkr=>?_⟩
 ·exact hgrow.os.trans hg1.os
 ·exact hgrow.tape.trans hg1.tape
 ·exact hgrow.output.trans hg1.output
 ·have h1:=hg1.size;have h2:=hgrow.size;simp [World.setCell] at h2 ⊢;omega
 have h1:=hg1.size;rw [Below.heap_setCell _ _ _ _ (show k≠b from hkb),hgrow.block k om hkr,hg1.block k hk (by simpa using hkb)]
theorem IQ (w:World) (g n:Nat):w.grownBy (w.drew.freeze ⟨g,0,none⟩ n) (some g):=by
 unfold World.freeze
 split
 ·exact ⟨rfl,rfl,rfl,fP _,fun _ _ _=>rfl⟩
 refine ⟨rfl,rfl,rfl,by simp,fun k _ hk=>?_⟩;simp only [xD];rw [aQ (fun e=>hk (by rw [← e]))]; rfl

theorem below_grown {w w':World} (h:Below w.heap.size w w') (row:Option Nat):w.grownBy w' row:=⟨h.os,h.tape,h.output,h.size,fun k hk _=>h.block k hk⟩

theorem st (b:Nat) (v p:Value) (l:Bs) (w:World) (hbk:w.heap[b]? = some (.cells #[p,v] (ren.t 72) (0,0)))
  (hown:w.ownsRow 0 (ren.t 5) 1 v l.length (Lib.byteCells l)) :
  Calls Tryz.prog (ren.f 169) #[.pointer (some ⟨b,0,none⟩)] w fun e w'=>e=.returned (.string ⟨l.toArray⟩)∧w.grownBy w' v.ownBlock:=by
 have L:=anK;have X:=X
 by_cases hl:l=[]
 ·subst hl
  rcases hown.2 with ⟨rfl,_⟩ | ⟨g,cap,cur,rfl,hbg,hg,_,_,_,_⟩
  ·exact (Any.Builder_String_nil L X w.heap.size b p w hbk).mono fun e w' ⟨h1,h2⟩=>⟨h1,below_grown h2 _⟩
  by_cases hc0:cap=0
  ·subst hc0;exact (Any.Builder_String_noroom L X w.heap.size b g p cur w (fP _) hbk hg).mono fun e w' ⟨h1,h2⟩=>⟨h1,below_grown h2 _⟩
  exact (Any.Builder_String_room L X w.heap.size b g cap p w hc0 hbk).mono fun e w' ⟨h1,h2⟩=>⟨h1,below_grown h2 _⟩
 have hl0:l.length≠0:=by simpa using hl
 obtain ⟨g,cap,cur,rfl,hbg,hg,hnc,hcm,hcs,htake⟩:∃ g cap cur,v=.slice (some ⟨g,0,none⟩) l.length cap∧0≤g∧w.heap[g]? = some (.cells cur (ren.t 5) (0,0))∧l.length≤cap∧cap≤maxLen∧cur.size=cap * 1∧cur.toList.take (l.length * 1)=Lib.byteCells l:=by
  rcases hown.2 with ⟨_,hz⟩ | ⟨g,cap,cur,hv,r⟩
  ·exact absurd hz hl0
  exact ⟨g,cap,cur,hv,r⟩
 have c1:w.drew.cell? ⟨b,1,none⟩=some (.slice (some ⟨g,0,none⟩) l.length cap):=by
  have:w.drew.heap[b]? = some (.cells #[p,.slice (some ⟨g,0,none⟩) l.length cap] (ren.t 72) (0,0)):=hbk;rw [Lib.cell_of_heap this]; rfl
 have hSD:(Builtin.unsafeSliceData_ #[(ren.t 37)] (ren.t 127) #[.slice (some ⟨g,0,none⟩) l.length cap]).run Tryz.prog w.drew=.ok (.pointer (some ⟨g,0,none⟩)) w.drew :=
  Lib.run_unsafeSliceData_row _ _ _ _ _ _ om
 have hUS:(Builtin.unsafeString_ #[(ren.t 127),(ren.t 3)] (ren.t 9) #[.pointer (some ⟨g,0,none⟩),.int .i64 l.length]).run Tryz.prog w.drew=.ok (.string ⟨l.toArray⟩) (w.drew.freeze ⟨g,0,none⟩ l.length):=by
  refine Lib.run_unsafeString_row w.drew (ren.t 127) (ren.t 3) (ren.t 9) (ren.t 5) L.t127 X.cellsByte g cur.size (by have hg':w.drew.heap[g]? = some (.cells cur (ren.t 5) (0,0)):=hg; simp [World.shape?,hg']) l hl om (by unfold maxLen at hcm; omega) ?_;intro j x hx;have:=hown.cells (g:=g) rfl j (.int .u8 x.toNat) (by simp [Lib.byteCells,hx]);exact this
 have mixed:=L.mixed;have t72:=L.t72; have a72:=L.a72; have z72:=L.z72; have v72:=L.v72; have u72:=run_underlying L.t72;have t70:=L.t70; have a70:=L.a70; have z70:=L.z70; have v70:=L.v70; have u70:=run_underlying L.t70;have t37:=L.t37; have a37:=L.a37; have z37:=L.z37; have v37:=L.v37; have u37:=run_underlying L.t37;have t127:=L.t127; have a127:=L.a127; have z127:=L.z127; have v127:=L.v127; have u127:=run_underlying L.t127;have t3:=L.t3; have a3:=L.a3; have z3:=L.z3; have v3:=L.v3; have u3:=run_underlying L.t3;have t9:=L.t9; have a9:=L.a9; have z9:=L.z9; have v9:=L.v9; have u9:=run_underlying L.t9;have t5:=X.t5; have a5:=X.a5; have z5:=X.z5; have v5:=X.v5; have u5:=run_underlying X.t5
 go_enter L.f169,Body.n169_ntmps ren
 go_wp2
 go_region_o
 all_goals (go_wp2; go_ret; exact ⟨rfl,IQ w g _⟩)
end Go.Proofs.YtdapgmigogpdcaaGreatDoor.jN
namespace Go.Proofs.YtdapgmigogpdcaaGreatDoor.jN
open Go Go.iT Go.RowKit Go.Shelf Go.Proofs
theorem Ji {w0:Base} {g:ak} {W W':World} {b:Nat} {T E:TypeId} {v v':Value} {n n':Nat} {xs xs':List Value} (h:dm w0 [.qJ b T v,.own v E 1 n xs] g W)
  (hb':∃ p,(p=.pointer none∨p=.pointer (some ⟨b,0,none⟩))∧W'.heap[b]? = some (.cells #[p,v'] T)) (hown':W'.ownsRow 0 E 1 v' n' xs') (hTE:T≠E)
  (hblk:v'.ownBlock=v.ownBlock∨∃ k,v'.ownBlock=some k∧W.heap.size≤k) (hF:Fr b v.ownBlock W W'):dm w0 [.qJ b T v',.own v' E 1 n' xs'] g W':=by
 have hmb:=h.mine (.qJ b T v) (by simp) b rfl;have hgb:g b=none:=h.apart (.qJ b T v) (by simp) b rfl
 have hnew:∀ k,W.heap.size≤k→g k=none:=fun k hk=>by
  cases hc:g k with
  | none=>rfl
  | some o=>exact absurd (lt_of_heap (h.ghost _ _ hc)) om
 have hv':∀ k,v'.ownBlock=some k→g k=none∧(w0.w.heap.size≤k∨k ∈ w0.Kv):=fun k hk=>by
  rcases hblk with e | ⟨j,e,hj⟩
  ·exact ⟨h.apart (.own v E 1 n xs) (by simp) k (e.symm.trans hk),h.mine (.own v E 1 n xs) (by simp) k (e.symm.trans hk)⟩
  rw [e] at hk
  injection hk with hk
  subst hk;exact ⟨hnew _ hj,.inl (gQ h.below.size hj)⟩
 have hne':v'.ownBlock≠some b:=by
  obtain ⟨p,_,hb⟩:=hb';exact Lib.ownBlock_ne hown' hb hTE
 refine ⟨fun e he=>?_,?_,fun k o hk=>?_,fun e he k hk=>?_,fun e he k hk=>?_,?_⟩
 ·simp at he
  rcases he with rfl | rfl
  ·exact hb'
  exact hown'
 ·cases hc:v'.ownBlock with
  | none=>simp [cu.block,hc]
  | some k=>simp only [xy,cu.block,hc,List.filterMap_nil,zS,il,List.not_mem_nil,not_false_eq_true,List.nodup_nil,nA]; exact fun e=>hne' (by rw [hc,e])
 ·have h1:=h.ghost k o hk;rw [hF.block k (lt_of_heap h1) (fun e=>by rw [e,hgb] at hk; cases hk) (fun e=>by rw [h.apart (.own v E 1 n xs) (by simp) k e.symm] at hk; cases hk)];exact h1
 ·simp at he
  rcases he with rfl | rfl
  ·simp only [cu.block,jB] at hk; subst hk; exact hgb
  exact (hv' k hk).1
 ·simp at he
  rcases he with rfl | rfl
  ·simp only [cu.block,jB] at hk; subst hk; exact hmb
  exact (hv' k hk).2
 have hk0:=h.below;refine ⟨hF.os.trans hk0.os,hF.tape.trans hk0.tape,hF.output.trans hk0.output,gQ hk0.size hF.size,fun k hk hl=>?_⟩;rw [hF.block k (Nat.lt_of_lt_of_le hk hk0.size) ?_ ?_,hk0.block k hk hl]
 ·intro e; subst e; exact hmb.elim (fun h=>absurd hk (Nat.not_lt.2 h)) hl
 intro e; exact (h.mine (.own v E 1 n xs) (by simp) k e.symm).elim (fun h=>absurd hk (Nat.not_lt.2 h)) hl

theorem LA {w0:Base} {g:ak} {W W':World} {b:Nat} {T E:TypeId} {v:Value} {n:Nat} {xs:List Value} (h:dm w0 [.qJ b T v,.own v E 1 n xs] g W) (hg:W.grownBy W' v.ownBlock):dm w0 [] g W':=by
 refine ⟨fun e he=>(by cases he),List.nodup_nil,fun k o hk=>?_,fun e he=>(by cases he),fun e he=>(by cases he),?_⟩
 ·have h1:=h.ghost k o hk;rw [hg.block k (lt_of_heap h1) (fun e=>by rw [h.apart (.own v E 1 n xs) (by simp) k e.symm] at hk; cases hk)];exact h1
 exact h.below.grown hg fun k hk=>h.mine (.own v E 1 n xs) (by simp) k hk

theorem MO (s:Bs):Lib.strCells ⟨⟨s⟩⟩=(intsOf s).map (Value.int .u8):=by
 simp [Lib.strCells,intsOf,Function.comp_def]
theorem MP (s:Bs):Lib.byteCells s=(intsOf s).map (Value.int .u8):=by
 simp [Lib.byteCells,intsOf,Function.comp_def]
theorem CE {g:ak}:∀ (l:List Int),aW g (.int .u8) (l.map (Value.int .u8)) l
 | []=>rfl
 | x::l=>⟨[.int .u8 x],l.map (Value.int .u8),rfl,rfl,CE l⟩

def sU (l:List Int) (x:Int):Unit×List Int:=((),l++[x])
def VW (l:List Int) (x:Int):Prop:=l.length+1≤140737488355328
theorem RN {g:ak} {b:Nat} {a:Option Addr} {c:Nat} {xs:List Value} (l:List Int) (x:Int) (hL:aW g (.int .u8) xs l) (hp:VW l x) :
  az Tryz.prog 46 #[.pointer (some ⟨b,0,none⟩),.int .u8 x] g [.qJ b 87 (.slice a l.length c),.own (.slice a l.length c) 5 1 l.length xs]
   (fun g' H' r=>∃ (a':Option Addr) (c':Nat) (xs':List Value),r=.nilIface∧aW g' (.int .u8) xs' (sU l x).2∧H'=[.qJ b 87 (.slice a' (sU l x).2.length c'),.own (.slice a' (sU l x).2.length c') 5 1 (sU l x).2.length xs']):=fun W hW=>by
 obtain ⟨p,hp0,hbk⟩:=hW.f_ (.qJ b 87 (.slice a l.length c)) (by simp);have hown:=hW.f_ (.own (.slice a l.length c) 5 1 l.length xs) (by simp);refine (wb b (.slice a l.length c) p l.length xs x W hp0 hbk hown hp).mono fun e W' ⟨he,v',hb',hown',hblk,hF⟩=>?_;obtain ⟨a',c',rfl⟩:=qZ hown'
 have hl:(sU l x).2.length=l.length+1:=by simp [sU]
 refine ⟨_,g,_,he,⟨a',c',xs++[.int .u8 x],rfl,hL.append (CE [x]),rfl⟩,bu _ g,?_⟩;rw [hl];exact Ji hW ⟨_,.inr rfl,hb'⟩ hown' dc hblk hF
def V9 (l:List Int) (s:Bs):Int×Unit×List Int:=((s.length:Int),(),l++intsOf s)
def wsP (l:List Int) (s:Bs):Prop:=l.length+s.length≤140737488355328
theorem ani {g:ak} {b:Nat} {a:Option Addr} {c:Nat} {xs:List Value} (l:List Int) (s:Bs) (hL:aW g (.int .u8) xs l) (hp:wsP l s) :
  az Tryz.prog 48 #[.pointer (some ⟨b,0,none⟩),.string ⟨⟨s⟩⟩] g [.qJ b 87 (.slice a l.length c),.own (.slice a l.length c) 5 1 l.length xs]
   (fun g' H' r=>∃ (a':Option Addr) (c':Nat) (xs':List Value),r=.tuple #[.int .i64 (V9 l s).1,.nilIface]∧aW g' (.int .u8) xs' (V9 l s).2.2∧H'=[.qJ b 87 (.slice a' (V9 l s).2.2.length c'),.own (.slice a' (V9 l s).2.2.length c') 5 1 (V9 l s).2.2.length xs']):=fun W hW=>by
 obtain ⟨p,hp0,hbk⟩:=hW.f_ (.qJ b 87 (.slice a l.length c)) (by simp);have hown:=hW.f_ (.own (.slice a l.length c) 5 1 l.length xs) (by simp);refine (ws b (.slice a l.length c) p l.length xs ⟨⟨s⟩⟩ W hp0 hbk hown hp).mono fun e W' ⟨he,v',hb',hown',hblk,hF⟩=>?_;obtain ⟨a',c',rfl⟩:=qZ hown'
 have hl:(V9 l s).2.2.length=l.length+s.length:=by simp [V9,iA]
 refine ⟨_,g,_,he,⟨a',c',xs++Lib.strCells ⟨⟨s⟩⟩,rfl,hL.append (by rw [MO]; exact CE _),rfl⟩,bu _ g,?_⟩;rw [hl];exact Ji hW ⟨_,.inr rfl,hb'⟩ hown' dc hblk hF
def stP (l:List Int):Prop:=intsOf (bytesOf l)=l
theorem Ww {g:ak} {b:Nat} {a:Option Addr} {c:Nat} {xs:List Value} (l:List Int) (hL:aW g (.int .u8) xs l) (hp:stP l) :
  az Tryz.prog 50 #[.pointer (some ⟨b,0,none⟩)] g [.qJ b 87 (.slice a l.length c),.own (.slice a l.length c) 5 1 l.length xs]
   (fun g' H' r=>r=.string ⟨⟨bytesOf l⟩⟩∧H'=[]):=fun W hW=>by
 obtain ⟨p,hp0,hbk⟩:=hW.f_ (.qJ b 87 (.slice a l.length c)) (by simp);have hown:W.ownsRow 0 _ 1 (.slice a l.length c) l.length xs:=hW.f_ (.own (.slice a l.length c) 5 1 l.length xs) (by simp)
 have hl:(bytesOf l).length=l.length:=by simp [bytesOf]
 have hxs:xs=Lib.byteCells (bytesOf l):=by rw [MP,hp]; exact kS hL
 refine (st b (.slice a l.length c) p (bytesOf l) W hbk (by rw [hl,← hxs]; exact hown)).mono fun e W' ⟨he,hg⟩=>?_;exact ⟨_,g,[],he,⟨rfl,rfl⟩,bu _ g,LA hW hg⟩
end Go.Proofs.YtdapgmigogpdcaaGreatDoor.jN
namespace Go.Proofs.YtdapgmigogpdcaaGreatDoor.tO
open _root_.Go.Proofs.Tryz Go Go.iT jN
theorem oU {p:Prop} (h:p:=by first | omega | assumption | exact trivial | (have h0:=List.length_pos_iff.mpr asm; omega) | (simp; omega) | (simp at *; omega)):p:=h
set_option maxHeartbeats 4000000
set_option maxRecDepth 100000
def IZ (xc:Int) (K:Bool→Prop):Prop :=
 K (decide (xc≥48)&&decide (xc≤57))
theorem Vn {g:ak} (xc:Int) (K:Bool→Prop)
  (hF:IZ xc K):az prog 137 #[.int .u8 xc] g [] (fun g' H' v=>∃ (r0:Bool),v=.bool r0∧H'=[]∧K r0):=by
 refine aP 9 func137 rfl fun w0=>?_;refine ae (av 1 [(0,.int .u8 xc)] kr (aa (ae (ag 3 [0] [(5,.bool (decide (xc≥48)))] ?_))));let A:=decide (xc≥48)&&decide (xc≤57);refine Ok.w 3 [(8,.bool A)] (fun AL=>?_) ?_
 ·refine Ok.a 5 (decide (xc≥48)) rfl (fun hc2=>?_) (fun hc2=>?_)
  ·skip;refine av 3 [(8,.bool (decide (xc≤57)))] kr (aB 8 A (bn hc2) (av 0 [(8,.bool A)] kr ?_));exact AL
  skip;refine av 3 [(8,.bool false)] kr (aB 8 A (bZ hc2) (av 0 [(8,.bool A)] kr ?_));exact AL
 refine av 1 [(2,.bool A)] kr (aa (Ok.ret ?_));exact dE A hF
def jT (xc:Int):Bool:=(decide (xc≥48)&&decide (xc≤57))
theorem Vo (xc:Int) (P:Bool→Prop) (h:P (jT xc)):IZ xc (fun k0=>P k0):=by
 unfold jT at h;unfold IZ;exact h
theorem Yt (xc:Int):IZ xc (fun k0=>k0=jT xc) :=
 Vo xc (fun z=>z=jT xc) rfl
theorem Yr {g:ak} (xc:Int)  : bC prog 137 #[.int .u8 xc] g (.bool (jT xc)) :=
 (Vn xc _ (Yt xc)).gv
def AY (xc:Int) (K:Bool→Prop):Prop :=
 K ((decide (xc≥128)||(xc==95))||((decide (iI .u8 xc 32≥97))&&(decide (iI .u8 xc 32≤122))))
theorem Qs {g:ak} (xc:Int) (K:Bool→Prop)
  (hF:AY xc K):az prog 136 #[.int .u8 xc] g [] (fun g' H' v=>∃ (r0:Bool),v=.bool r0∧H'=[]∧K r0):=by
 refine aP 19 func136 rfl fun w0=>?_;refine ae (av 1 [(0,.int .u8 xc)] kr (aa (ae (ag 3 [0] [(5,.bool (decide (xc≥128)))] ?_))));let B:=decide (xc≥128)||(xc==95);refine Ok.w 3 [(0,.int .u8 xc),(8,.bool B)] (fun AL=>?_) ?_
 ·refine Ok.a 5 (decide (xc≥128)) rfl (fun hc2=>?_) (fun hc2=>?_)
  ·skip;refine ag 3 [0] [(8,.bool true)] ?_;refine aB 8 B (cK hc2) (ag 0 [0] [(8,.bool B)] ?_);exact AL
  skip;refine ag 3 [0] [(8,.bool (xc==95))] ?_;refine aB 8 B (bN hc2) (ag 0 [0] [(8,.bool B)] ?_);exact AL
 refine ag 1 [0] [(9,.bool B)] ?_;let C:=decide (iI .u8 xc 32≥97);let D:=decide (iI .u8 xc 32≤122);let A:=C&&D;refine Ok.w 9 [(18,.bool (B||A))] (fun Iu=>?_) ?_
 ·refine Ok.a 9 B rfl (fun hc4=>?_) (fun hc4=>?_)
  ·skip;refine av 9 [(18,.bool true)] kr (aB 18 (B||A) (cK hc4) (av 0 [(18,.bool (B||A))] kr ?_));exact Iu
  skip;refine ag 4 [0] [(9,.bool false),(13,.bool C)] ?_;refine Ok.w 4 [(9,.bool false),(17,.bool A)] (fun Bp=>?_) ?_
  ·refine Ok.a 13 C rfl (fun hc6=>?_) (fun hc6=>?_)
   ·skip;refine ag 4 [9] [(17,.bool D)] ?_;refine aB 17 A (bn hc6) (ag 0 [9] [(17,.bool A)] ?_);exact Bp
   skip;refine ag 4 [9] [(17,.bool false)] ?_;refine aB 17 A (bZ hc6) (ag 0 [9] [(17,.bool A)] ?_);exact Bp
  refine av 1 [(18,.bool A)] kr (aB 18 (B||A) (bN hc4) (av 0 [(18,.bool (B||A))] kr ?_));exact Iu
 refine av 1 [(2,.bool (B||A))] kr (aa (Ok.ret ?_));exact dE (B||A) hF
def dF (xc:Int):Bool:=((decide (xc≥128)||(xc==95))||((decide (iI .u8 xc 32≥97))&&(decide (iI .u8 xc 32≤122))))
theorem Qt (xc:Int) (P:Bool→Prop) (h:P (dF xc)):AY xc (fun k0=>P k0):=by
 unfold dF at h;unfold AY;exact h
theorem Sb (xc:Int):AY xc (fun k0=>k0=dF xc) :=
 Qt xc (fun z=>z=dF xc) rfl
theorem Ck {g:ak} (xc:Int)  : bC prog 136 #[.int .u8 xc] g (.bool (dF xc)) :=
 (Qs xc _ (Sb xc)).gv
def Cq (xc:Int) (K:Bool→Prop):Prop :=
 K (dF xc||(jT xc||(xc==45)))
def OJ (xc:Int) (K:Bool→Prop):Prop :=
 (dF xc=true→Cq xc K)∧(dF xc=false→Cq xc K)
theorem WJ {g:ak} (xc:Int) (K:Bool→Prop)
  (hF:OJ xc K):az prog 91 #[.int .u8 xc] g [] (fun g' H' v=>∃ (r0:Bool),v=.bool r0∧H'=[]∧K r0):=by
 refine aP 13 func91 rfl fun w0=>?_;let A:=jT xc||(xc==45);refine ae (av 1 [(0,.int .u8 xc)] kr (aa (gB [(2,.bool (dF xc||A))] [] (Cq xc K) ?_ (fun hF=>?_))))
 ·
  refine aR (aj 3 [.k (Ck xc)] [0] [(5,.bool (dF xc))] ?_);refine bP 5 hF (fun hc1 hF=>?_) (fun hc1 hF=>?_)
  ·refine av 8 [(2,.bool true)] kr (aa (aB 2 (dF xc||A) (cK hc1) ?_));exact fz hF
  refine aj 4 [.k (Yr xc)] [0] [(9,.bool (jT xc))] ?_;refine Ok.w 3 [(12,.bool A)] (fun hR2=>?_) ?_
  ·refine Ok.a 9 (jT xc) rfl (fun hc3=>?_) (fun hc3=>?_)
   ·skip;refine av 3 [(12,.bool true)] kr (aB 12 A (cK hc3) (av 0 [(12,.bool A)] kr ?_));exact hR2
   skip;refine av 3 [(12,.bool (xc==45))] kr (aB 12 A (bN hc3) (av 0 [(12,.bool A)] kr ?_));exact hR2
  refine av 1 [(2,.bool A)] kr (aa (aB 2 (dF xc||A) (bN hc1) ?_));exact fz hF
 refine Ok.ret ?_;exact dE (dF xc||A) hF
def A7 (xc:Int):Bool:=(dF xc||(jT xc||(xc==45)))
theorem JJ (xc:Int) (P:Bool→Prop) (h:P (A7 xc)):Cq xc (fun k0=>P k0):=by
 unfold A7 at h;unfold Cq;exact h
def kz (xc:Int):Bool:=(A7 xc)
theorem WK (xc:Int) (P:Bool→Prop) (h:P (kz xc)):OJ xc (fun k0=>P k0):=by
 unfold kz at h;unfold OJ;refine ⟨fun hc0=>?_,fun hc0=>?_⟩
 ·skip;exact JJ xc _ h
 skip;exact JJ xc _ h
theorem aaN (xc:Int):OJ xc (fun k0=>k0=kz xc) :=
 WK xc (fun z=>z=kz xc) rfl
theorem Sk {g:ak} (xc:Int)  : bC prog 91 #[.int .u8 xc] g (.bool (kz xc)) :=
 (WJ xc _ (aaN xc)).gv
def FL (xs:Bs) (K:Bool→Prop):Prop :=
 K ((decide ((xs.length:Int)>1))&&((((xs.getD (Int.toNat 0) 0).toNat:Int)==92)&&(((xs.getD (Int.toNat 1) 0).toNat:Int) != 10)))
def Yg (xs:Bs) (K:Bool→Prop):Prop :=
 ((decide ((xs.length:Int)>1))=true→(0:Int)≤0∧Int.toNat 0<xs.length∧((((xs.getD (Int.toNat 0) 0).toNat:Int)==92)=true→(0:Int)≤1∧Int.toNat 1<xs.length∧FL xs K)∧((((xs.getD (Int.toNat 0) 0).toNat:Int)==92)=false→FL xs K))∧((decide ((xs.length:Int)>1))=false→FL xs K)
theorem aeu {g:ak} (xs:Bs) (K:Bool→Prop)
  (hF:Yg xs K):az prog 92 #[sv xs] g [] (fun g' H' v=>∃ (r0:Bool),v=.bool r0∧H'=[]∧K r0):=by
 refine aP 16 func92 rfl fun w0=>?_;refine ae (av 1 [(0,sv xs)] kr (aa (gB [(2,.bool ((decide ((xs.length:Int)>1))&&((((xs.getD (Int.toNat 0) 0).toNat:Int)==92)&&(((xs.getD (Int.toNat 1) 0).toNat:Int) != 10))))] [] (FL xs K) ?_ (fun hF=>?_))))
 ·
  refine aR (ag 4 [0] [(6,.bool (decide ((xs.length:Int)>1)))] ?_);refine bP 6 hF (fun hc1 hF=>?_) (fun hc1 hF=>?_)
  ·refine ag 1 [0] [(6,.bool true),(7,sv xs)] ?_;obtain ⟨h02,h12,hF⟩:=hF;have he2:=aT (l:=xs) (0:UInt8) h12;generalize hg2:(xs.getD (Int.toNat 0) 0)=e2 at he2 hF ⊢;let A:=(e2.toNat:Int);refine dZ (af.s (v:=.int .u8 A) (dQ (k:=.i64) (i:=0) (s:=xs) (b:=e2) kr kr underlying9 h02 he2) rfl rfl (ag 3 [0] [(11,.bool (A==92))] ?_));refine Ok.a 11 (A==92) rfl (fun hc3=>?_) (fun hc3=>?_)
   ·replace hF:=hF.1 hc3;refine av 1 [(11,.bool true),(12,sv xs)] kr ?_;obtain ⟨oo,pg,hF⟩:=hF;have ny:=aT (l:=xs) (0:UInt8) pg;generalize hg4:(xs.getD (Int.toNat 1) 0)=e4 at ny hF ⊢;refine dZ (af.s (v:=.int .u8 (e4.toNat:Int)) (dQ (k:=.i64) (i:=1) (s:=xs) (b:=e4) kr kr underlying9 oo ny) rfl rfl (av 3 [(2,.bool ((e4.toNat:Int) != 10))] kr (bV (Ok.t ?_))));subst hg4;subst hg2;refine aB 2 ((decide ((xs.length:Int)>1))&&((((xs.getD (Int.toNat 0) 0).toNat:Int)==92)&&(((xs.getD (Int.toNat 1) 0).toNat:Int) != 10))) (au (bn hc3) (bn hc1)) ?_;exact fz hF
   replace hF:=hF.2 hc3;refine av 5 [(2,.bool false)] kr (bV (Ok.t ?_));subst hg2;refine aB 2 ((decide ((xs.length:Int)>1))&&((((xs.getD (Int.toNat 0) 0).toNat:Int)==92)&&(((xs.getD (Int.toNat 1) 0).toNat:Int) != 10))) (au (bZ hc3) (bn hc1)) ?_;exact fz hF
  refine av 10 [(2,.bool false)] kr (aa (aB 2 ((decide ((xs.length:Int)>1))&&((((xs.getD (Int.toNat 0) 0).toNat:Int)==92)&&(((xs.getD (Int.toNat 1) 0).toNat:Int) != 10))) (bZ hc1) ?_));exact fz hF
 refine Ok.ret ?_;exact dE ((decide ((xs.length:Int)>1))&&((((xs.getD (Int.toNat 0) 0).toNat:Int)==92)&&(((xs.getD (Int.toNat 1) 0).toNat:Int) != 10))) hF
def zI (xs:Bs):Bool:=((decide ((xs.length:Int)>1))&&((((xs.getD (Int.toNat 0) 0).toNat:Int)==92)&&(((xs.getD (Int.toNat 1) 0).toNat:Int) != 10)))
theorem IW (xs:Bs) (P:Bool→Prop) (h:P (zI xs)):FL xs (fun k0=>P k0):=by
 unfold zI at h;unfold FL;exact h
def jJ (xs:Bs):Bool:=(zI xs)
theorem aev (xs:Bs) (P:Bool→Prop) (h:P (jJ xs)):Yg xs (fun k0=>P k0):=by
 unfold jJ at h;unfold Yg;refine ⟨fun hc0=>?_,fun hc0=>?_⟩
 ·skip;have hd0:=df hc0;refine ⟨?_,?_,?_⟩
  ·exact oU
  ·exact oU
  refine ⟨fun hc1=>?_,fun hc1=>?_⟩
  ·skip
   have hd1:=hc1; try simp only [aH,dY,fF,dB,dC,eX,dI,eP,dJ,dX,gp] at hd1
   refine ⟨?_,?_,?_⟩
   ·exact oU
   ·exact oU
   exact IW xs _ h
  skip
  have hd1:=hc1; try simp only [aH,dY,fF,dB,dC,eX,dI,eP,dJ,dX,gp] at hd1
  exact IW xs _ h
 skip;have hd0:=fq hc0;exact IW xs _ h
theorem akQ (xs:Bs):Yg xs (fun k0=>k0=jJ xs) :=
 aev xs (fun z=>z=jJ xs) rfl
theorem PK {g:ak} (xs:Bs)  : bC prog 92 #[sv xs] g (.bool (jJ xs)) :=
 (aeu xs _ (akQ xs)).gv
def zQ (xs:Bs) (K:Bool→Prop):Prop :=
 K ((((xs.getD (Int.toNat 1) 0).toNat:Int)==45)||((dF ((xs.getD (Int.toNat 1) 0).toNat:Int))||(jJ (xs.drop (Int.toNat 1)))))
def Ea (xs:Bs) (K:Bool→Prop) (e2:UInt8):Prop :=
 K (dF (e2.toNat:Int)||jJ xs)
def YW (xs:Bs) (K:Bool→Prop):Prop :=
 ((xs==([]:Bs))=true→K false)∧((xs==([]:Bs))=false→(0:Int)≤0∧Int.toNat 0<xs.length∧(((((xs.getD (Int.toNat 0) 0).toNat:Int)==45)&&(decide ((xs.length:Int)>1)))=true→(0:Int)≤1∧Int.toNat 1<xs.length∧((((xs.getD (Int.toNat 1) 0).toNat:Int)==45)=true→zQ xs K)∧((((xs.getD (Int.toNat 1) 0).toNat:Int)==45)=false→((dF ((xs.getD (Int.toNat 1) 0).toNat:Int))=true→zQ xs K)∧((dF ((xs.getD (Int.toNat 1) 0).toNat:Int))=false→(0:Int)≤1∧(1:Int)≤(xs.length:Int)∧(xs.length:Int)≤(xs.length:Int)∧zQ xs K)))∧(((((xs.getD (Int.toNat 0) 0).toNat:Int)==45)&&(decide ((xs.length:Int)>1)))=false→((dF ((xs.getD (Int.toNat 0) 0).toNat:Int))=true→Ea xs K (xs.getD (Int.toNat 0) 0))∧((dF ((xs.getD (Int.toNat 0) 0).toNat:Int))=false→Ea xs K (xs.getD (Int.toNat 0) 0))))
theorem afH {g:ak} (xs:Bs) (K:Bool→Prop)
  (hF:YW xs K):az prog 94 #[sv xs] g [] (fun g' H' v=>∃ (r0:Bool),v=.bool r0∧H'=[]∧K r0):=by
 refine aP 33 func94 rfl fun w0=>?_;refine ae (av 1 [(0,sv xs)] kr (aa (aF (ae (ag 1 [0] [(3,sv xs)] ?_)))));refine ai (af.s (v:=.bool (xs==([]:Bs))) (iG (f:=.eql) (a:=xs) (b:=([]:Bs)) kr kr rfl) rfl rfl (aa (aJ hF (fun hc1 hF=>?_) (fun hc1 hF=>?_))))
 ·refine ae (av 1 [(2,.bool false)] kr (aa (Ok.ret (aC ?_))));exact dE false hF
 refine Ok.k (Ok.t (aF (ae (ag 1 [0] [(5,sv xs)] ?_))));obtain ⟨h02,h12,hF⟩:=hF;have he2:=aT (l:=xs) (0:UInt8) h12;generalize hg2:(xs.getD (Int.toNat 0) 0)=e2 at he2 hF ⊢;let D:=(e2.toNat:Int);refine ai (af.s (v:=.int .u8 D) (dQ (k:=.i64) (i:=0) (s:=xs) (b:=e2) kr kr underlying9 h02 he2) rfl rfl (ag 2 [0] [(8,.bool (D==45))] ?_));let E:=decide ((xs.length:Int)>1);let A:=(D==45)&&E;refine Ok.w 4 [(0,sv xs),(12,.bool A)] (fun Iu=>?_) ?_
 ·refine Ok.a 8 (D==45) rfl (fun hc4=>?_) (fun hc4=>?_)
  ·skip;refine ag 4 [0] [(12,.bool E)] ?_;refine aB 12 A (bn hc4) (ag 0 [0] [(12,.bool A)] ?_);exact Iu
  skip;refine ag 4 [0] [(12,.bool false)] ?_;refine aB 12 A (bZ hc4) (ag 0 [0] [(12,.bool A)] ?_);exact Iu
 refine aa (aJ hF (fun jy hF=>?_) (fun jy hF=>?_))
 ·refine gB [(2,.bool ((((xs.getD (Int.toNat 1) 0).toNat:Int)==45)||((dF ((xs.getD (Int.toNat 1) 0).toNat:Int))||(jJ (xs.drop (Int.toNat 1))))))] [] (zQ xs K) ?_ (fun hF=>?_)
  ·
   refine aR (ag 1 [0] [(13,sv xs)] ?_);obtain ⟨uA,h16,hF⟩:=hF;have uz:=aT (l:=xs) (0:UInt8) h16;generalize zH:(xs.getD (Int.toNat 1) 0)=e6 at uz hF ⊢;let B:=(e6.toNat:Int);refine ai (af.s (v:=.int .u8 B) (dQ (k:=.i64) (i:=1) (s:=xs) (b:=e6) kr kr underlying9 uA uz) rfl rfl (ag 2 [0] [(16,.bool (B==45))] ?_));refine Ok.a 16 (B==45) rfl (fun iB=>?_) (fun iB=>?_)
   ·replace hF:=hF.1 iB;refine av 10 [(2,.bool true)] kr (bV (Ok.t ?_));subst zH;refine aB 2 ((((xs.getD (Int.toNat 1) 0).toNat:Int)==45)||((dF ((xs.getD (Int.toNat 1) 0).toNat:Int))||(jJ (xs.drop (Int.toNat 1))))) (cK iB) ?_;exact fz hF
   replace hF:=hF.2 iB;refine ag 1 [0] [(16,.bool false),(17,sv xs)] ?_;refine dZ (af.s (v:=.int .u8 B) (dQ (k:=.i64) (i:=1) (s:=xs) (b:=e6) kr kr underlying9 uA uz) rfl rfl (aj 3 [.k (Ck B)] [0] [(21,.bool (dF B))] ?_));refine Ok.a 21 (dF B) rfl (fun hc8=>?_) (fun hc8=>?_)
   ·replace hF:=hF.1 hc8;refine av 5 [(2,.bool true)] kr (bV (Ok.t ?_));subst zH;refine aB 2 ((((xs.getD (Int.toNat 1) 0).toNat:Int)==45)||((dF ((xs.getD (Int.toNat 1) 0).toNat:Int))||(jJ (xs.drop (Int.toNat 1))))) (au (cK hc8) (bN iB)) ?_;exact fz hF
   replace hF:=hF.2 hc8;refine av 1 [(21,.bool false),(22,sv xs)] kr ?_;obtain ⟨Eo,h19,QX,hF⟩:=hF;let C:=xs.drop (Int.toNat 1);refine dZ (af.s (b_ (s:=xs) (l:=1) (h:=(xs.length:Int)) kr underlying9 (.inl ⟨_,_,rfl,rfl⟩) (.inr ⟨rfl,rfl⟩) Eo h19 QX C (RZ _ _)) rfl rfl (aj 3 [.k (PK C)] [] [(2,.bool (jJ C))] ?_));refine bV (Ok.t ?_);subst zH;refine aB 2 ((((xs.getD (Int.toNat 1) 0).toNat:Int)==45)||((dF ((xs.getD (Int.toNat 1) 0).toNat:Int))||(jJ C))) (au (bN hc8) (bN iB)) ?_;exact fz hF
  refine Ok.ret (aC ?_);exact dE ((((xs.getD (Int.toNat 1) 0).toNat:Int)==45)||((dF ((xs.getD (Int.toNat 1) 0).toNat:Int))||(jJ (xs.drop (Int.toNat 1))))) hF
 refine Ok.k (Ok.t (gB [(2,.bool (dF (e2.toNat:Int)||jJ xs))] [] (Ea xs K e2) ?_ (fun hF=>?_)))
 ·
  refine aR (ag 1 [0] [(26,sv xs)] ?_);refine ai (af.s (v:=.int .u8 (e2.toNat:Int)) (dQ (k:=.i64) (i:=0) (s:=xs) (b:=e2) kr kr underlying9 h02 he2) rfl rfl (aj 2 [.k (Ck (e2.toNat:Int))] [0] [(29,.bool (dF (e2.toNat:Int)))] ?_));refine bP 29 hF (fun K0 hF=>?_) (fun K0 hF=>?_)
  ·refine av 4 [(2,.bool true)] kr (aa (aB 2 (dF (e2.toNat:Int)||jJ xs) (cK K0) ?_));exact fz hF
  refine aj 4 [.k (PK xs)] [] [(2,.bool (jJ xs))] ?_;refine aa (aB 2 (dF (e2.toNat:Int)||jJ xs) (bN K0) ?_);exact fz hF
 refine Ok.ret ?_;exact dE (dF (e2.toNat:Int)||jJ xs) hF
def vQ (xs:Bs):Bool:=((((xs.getD (Int.toNat 1) 0).toNat:Int)==45)||((dF ((xs.getD (Int.toNat 1) 0).toNat:Int))||(jJ (xs.drop (Int.toNat 1)))))
theorem Eb (xs:Bs) (P:Bool→Prop) (h:P (vQ xs)):zQ xs (fun k0=>P k0):=by
 unfold vQ at h;unfold zQ;exact h
def qc (xs:Bs) (e2:UInt8):Bool:=(dF (e2.toNat:Int)||jJ xs)
theorem Ll (xs:Bs) (e2:UInt8) (P:Bool→Prop) (h:P (qc xs e2)):Ea xs (fun k0=>P k0) e2:=by
 unfold qc at h;unfold Ea;exact h
def mM (xs:Bs):Bool:=(if (xs==([]:Bs))=true then false else (if ((((xs.getD (Int.toNat 0) 0).toNat:Int)==45)&&(decide ((xs.length:Int)>1)))=true then (vQ xs) else (qc xs (xs.getD (Int.toNat 0) 0))))
theorem afI (xs:Bs) (P:Bool→Prop) (h:P (mM xs)):YW xs (fun k0=>P k0):=by
 unfold mM at h;unfold YW;refine ⟨fun hc0=>?_,fun hc0=>?_⟩
 ·rw [aU hc0] at h
  have hd0:=hc0; try simp only [aH,dY,fF,dB,dC,eX,dI,eP,dJ,dX,gp] at hd0
  exact h
 rw [aG hc0] at h
 have hd0:=hc0; try simp only [aH,dY,fF,dB,dC,eX,dI,eP,dJ,dX,gp] at hd0
 refine ⟨?_,?_,?_⟩
 ·exact oU
 ·exact oU
 refine ⟨fun hc1=>?_,fun hc1=>?_⟩
 ·rw [aU hc1] at h
  have hd1:=hc1; try simp only [aH,dY,fF,dB,dC,eX,dI,eP,dJ,dX,gp] at hd1
  refine ⟨?_,?_,?_⟩
  ·exact oU
  ·exact oU
  refine ⟨fun hc2=>?_,fun hc2=>?_⟩
  ·skip
   have hd2:=hc2; try simp only [aH,dY,fF,dB,dC,eX,dI,eP,dJ,dX,gp] at hd2
   exact Eb xs _ h
  skip
  have hd2:=hc2; try simp only [aH,dY,fF,dB,dC,eX,dI,eP,dJ,dX,gp] at hd2
  refine ⟨fun hc3=>?_,fun hc3=>?_⟩
  ·skip;exact Eb xs _ h
  skip;refine ⟨?_,?_,?_,?_⟩
  ·exact oU
  ·exact oU
  ·exact oU
  exact Eb xs _ h
 rw [aG hc1] at h
 have hd1:=hc1; try simp only [aH,dY,fF,dB,dC,eX,dI,eP,dJ,dX,gp] at hd1
 refine ⟨fun hc2=>?_,fun hc2=>?_⟩
 ·skip;exact Ll xs (xs.getD (Int.toNat 0) 0) _ h
 skip;exact Ll xs (xs.getD (Int.toNat 0) 0) _ h
theorem alY (xs:Bs):YW xs (fun k0=>k0=mM xs) :=
 afI xs (fun z=>z=mM xs) rfl
theorem VJ {g:ak} (xs:Bs)  : bC prog 94 #[sv xs] g (.bool (mM xs)) :=
 (afH xs _ (alY xs)).gv
def Xp (xs:Bs) (K:Bs→Int→Prop) (y0:Int) (q0:List Int) (C9:Int→List Int→Prop):Prop :=
 ((decide (y0<(xs.length:Int)))=true→0≤y0∧(y0:Int)≤(xs.length:Int)∧(xs.length:Int)≤(xs.length:Int)∧((jJ (xs.drop y0.toNat))=true→0≤w6 (y0+1)∧Int.toNat (w6 (y0+1))<xs.length∧jN.VW q0 ((xs.getD (Int.toNat (w6 (y0+1))) 0).toNat:Int)∧C9 (w6 (y0+2)) (jN.sU q0 ((xs.getD (Int.toNat (w6 (y0+1))) 0).toNat:Int)).2)∧((jJ (xs.drop y0.toNat))=false→0≤y0∧y0.toNat<xs.length∧((kz ((xs.getD y0.toNat 0).toNat:Int))=true→jN.VW q0 ((xs.getD y0.toNat 0).toNat:Int)∧C9 (w6 (y0+1)) (jN.sU q0 ((xs.getD y0.toNat 0).toNat:Int)).2)∧((kz ((xs.getD y0.toNat 0).toNat:Int))=false→jN.stP q0∧K (bytesOf q0) y0)))∧((decide (y0<(xs.length:Int)))=false→jN.stP q0∧K (bytesOf q0) y0)
def G7 (xs:Bs) (K:Bs→Int→Prop):Nat→Int→List Int→Prop
 | 0,_,_=>False
 | k+1,y0,q0=>Xp xs K y0 q0 (G7 xs K k)
def ZF (xs:Bs) (K:Bs→Int→Prop):Prop :=
 ∃ k,G7 xs K k 0 ([]:List Int)
theorem Xr {g:ak} (xs:Bs) (K:Bs→Int→Prop)
  (hF:ZF xs K):az prog 138 #[sv xs] g [] (fun g' H' v=>∃ (r0:Bs),∃ (r1:Int),v=.tuple #[sv r0,iv r1]∧H'=[]∧K r0 r1):=by
 refine aP 37 func138 rfl fun w0=>?_;refine ae (av 2 [(0,sv xs)] kr (aa (aF (aR ?_))));have hL1:aW g yb [] []:=rfl;refine fT 5 1 (ai (bI #[.pointer none,.slice none 0 0] fun b2=>?_));refine Ok.qJ (aa (ae (av 1 [(0,sv xs),(4,pv b2 0),(5,iv 0)] kr (aa (aF (Ok.block ?_))))));obtain ⟨k,hF⟩:=hF;refine fQ (fun k a W=>∃ jP:ak,bf w0 g jP∧∃ (y0:Int) (e0:Option Addr) (f0:Nat) (q0:List Int) (b0:List Value),aW jP yb b0 q0∧fC 37 [(0,sv xs),(4,pv b2 0),(5,iv y0)] a∧dm w0 [.qJ b2 87 (.slice e0 q0.length f0),.own (.slice e0 q0.length f0) 5 1 q0.length b0] jP W∧G7 xs K k y0 q0) k ?_ ?_
 ·
  exact fun _ _ u v=>⟨g,bu w0 g,0,none,0,([]:List Int),[],hL1,fA u v hF⟩
 clear hF;rintro (_ | k9) _ _ ⟨jP,o0,y0,e0,f0,q0,b0,j0,q⟩;exact (q.2.2:False).elim;refine jn (fun hF=>?_) _ _ q;refine aF (ae (ag 4 [0,4,5] [(9,.bool (decide (y0<(xs.length:Int))))] ?_));refine aa (aJ hF (fun hc3 hF=>?_) (fun hc3 hF=>?_))
 ·refine Ok.k (Ok.t (Ok.block (Ok.block (ae (ag 2 [0,4,5] [(13,sv xs),(14,iv y0)] ?_)))));obtain ⟨oo,pg,UZ,hF⟩:=hF;let A:=xs.drop y0.toNat;refine ai (af.s (b_ (s:=xs) (l:=y0) (h:=(xs.length:Int)) kr underlying9 (.inl ⟨_,_,rfl,rfl⟩) (.inr ⟨rfl,rfl⟩) oo pg UZ A (RZ _ _)) rfl rfl (aj 2 [.k (PK A)] [0,4,5] [(12,.bool (jJ A))] ?_));refine aa (aJ hF (fun jy hF=>?_) (fun jy hF=>?_))
  ·refine ae (ag 3 [0,4,5] [(17,sv xs),(19,iv (w6 (y0+1)))] ?_);obtain ⟨uA,h16,hF⟩:=hF;have uz:=aT (l:=xs) (0:UInt8) h16;generalize zH:(xs.getD (Int.toNat (w6 (y0+1))) 0)=e6 at uz hF ⊢;refine ai (af.s (v:=.int .u8 (e6.toNat:Int)) (dQ (k:=.i64) (i:=w6 (y0+1)) (s:=xs) (b:=e6) kr kr underlying9 uA uz) rfl rfl ?_);obtain ⟨Im,hF⟩:=hF;refine ai (bS (jN.RN q0 (e6.toNat:Int) j0 Im) fun g8 _ _ hx8 hV8=>?_);obtain ⟨ar7,arW,agc,rfl,akK,rfl⟩:=hV8;refine aa (aR (ag 3 [0,4] [(5,iv (w6 (y0+2)))] ?_));refine bV (bG (bG (Ok.t ?_)));subst zH;exact fun _ _ u v=>⟨k9,nl,g8,o0.trans hx8,w6 (y0+2),ar7,arW,(jN.sU q0 ((xs.getD (Int.toNat (w6 (y0+1))) 0).toNat:Int)).2,agc,akK,fA u v hF⟩
  refine ae (ag 2 [0,4,5] [(25,sv xs),(26,iv y0)] ?_);obtain ⟨Eo,h19,hF⟩:=hF;have Rv:=aT (l:=xs) (0:UInt8) h19;generalize hg9:(xs.getD y0.toNat 0)=e9 at Rv hF ⊢;refine ai (af.s (v:=.int .u8 (e9.toNat:Int)) (dQ (k:=.i64) (i:=y0) (s:=xs) (b:=e9) kr kr underlying9 Eo Rv) rfl rfl (aj 2 [.k (Sk (e9.toNat:Int))] [0,4,5] [(24,.bool (kz (e9.toNat:Int)))] ?_));refine aa (dW hF rfl (fun K0=>?_) (fun K0=>?_))
  ·replace hF:=hF.1 K0;refine ae (ag 2 [0,4,5] [(29,sv xs),(30,iv y0)] ?_);refine ai (af.s (v:=.int .u8 (e9.toNat:Int)) (dQ (k:=.i64) (i:=y0) (s:=xs) (b:=e9) kr kr underlying9 Eo Rv) rfl rfl ?_);obtain ⟨Io,hF⟩:=hF;refine ai (bS (jN.RN q0 (e9.toNat:Int) j0 Io) fun g12 _ _ anZ apS=>?_);obtain ⟨amv,alP,aaa,rfl,adO,rfl⟩:=apS;refine aa (aR (ag 3 [0,4] [(5,iv (w6 (y0+1)))] ?_));refine bV (bG (bG (Ok.t ?_)));subst hg9;exact fun _ _ u v=>⟨k9,nl,g12,o0.trans anZ,w6 (y0+1),amv,alP,(jN.sU q0 ((xs.getD y0.toNat 0).toNat:Int)).2,aaa,adO,fA u v hF⟩
  replace hF:=hF.2 K0;refine aF (aR ?_);obtain ⟨zD,hF⟩:=hF;refine ai (bS (jN.Ww q0 j0 zD) fun g14 _ _ anY ade=>?_);obtain ⟨rfl,rfl⟩:=ade;refine av 3 [(2,sv (bytesOf q0)),(3,iv y0)] kr (aa (Ok.ret (aV (aV (aC (aV (aC ?_)))))));exact gZ (vs:=[sv (bytesOf q0),iv y0]) (.inl rfl) rfl (.cons (.tmp rfl) (.cons (.tmp rfl) .nil)) (o0.trans anY) ⟨bytesOf q0,y0,rfl,rfl,hF⟩
 refine fw (ay (ay (aM (Ok.t (aF (aR ?_))))));obtain ⟨acF,hF⟩:=hF;refine ai (bS (jN.Ww q0 j0 acF) fun g16 _ _ hx16 adb=>?_);obtain ⟨rfl,rfl⟩:=adb;refine av 3 [(2,sv (bytesOf q0)),(3,iv y0)] kr (aa (Ok.ret ?_));exact gZ (vs:=[sv (bytesOf q0),iv y0]) (.inl rfl) rfl (.cons (.tmp rfl) (.cons (.tmp rfl) .nil)) (o0.trans hx16) ⟨bytesOf q0,y0,rfl,rfl,hF⟩
def AX (xs:Bs) (v0:Int) (z0:List Int) (C9:Int→List Int→Prop):Prop :=
 C9 (w6 ((if ((((xs.getD v0.toNat 0).toNat:Int)==92)&&(decide (w6 (v0+1)<(xs.length:Int))))=true then w6 (v0+1) else v0)+1)) (if ((((xs.getD v0.toNat 0).toNat:Int)==92)&&(decide (w6 (v0+1)<(xs.length:Int))))=true then (jN.sU z0 ((xs.getD (Int.toNat (w6 (v0+1))) 0).toNat:Int)).2 else (jN.sU z0 ((xs.getD v0.toNat 0).toNat:Int)).2)
def Wn (xs:Bs) (K:KT→Prop) (v0:Int) (z0:List Int) (C9:Int→List Int→Prop):Prop :=
 ((decide (v0<(xs.length:Int)))=true→0≤v0∧v0.toNat<xs.length∧(0:Int)≤0∧Int.toNat 0<xs.length∧((((xs.getD v0.toNat 0).toNat:Int)==((xs.getD (Int.toNat 0) 0).toNat:Int))=true→(0:Int)≤0∧0≤w6 (v0+1)∧w6 (v0+1)≤(xs.length:Int)∧jN.stP z0∧K (5,xs.take (Int.toNat (w6 (v0+1))),bytesOf z0,0))∧((((xs.getD v0.toNat 0).toNat:Int)==((xs.getD (Int.toNat 0) 0).toNat:Int))=false→((((xs.getD v0.toNat 0).toNat:Int)==10)=true→(0:Int)≤0∧0≤v0∧v0≤(xs.length:Int)∧K (6,xs.take v0.toNat,([]:Bs),0))∧((((xs.getD v0.toNat 0).toNat:Int)==10)=false→(((((xs.getD v0.toNat 0).toNat:Int)==92)&&(decide (w6 (v0+1)<(xs.length:Int))))=true→0≤w6 (v0+1)∧Int.toNat (w6 (v0+1))<xs.length∧jN.VW z0 ((xs.getD (Int.toNat (w6 (v0+1))) 0).toNat:Int)∧AX xs v0 z0 C9)∧(((((xs.getD v0.toNat 0).toNat:Int)==92)&&(decide (w6 (v0+1)<(xs.length:Int))))=false→jN.VW z0 ((xs.getD v0.toNat 0).toNat:Int)∧AX xs v0 z0 C9))))∧((decide (v0<(xs.length:Int)))=false→K (6,xs,([]:Bs),0))
def Ce (xs:Bs) (K:KT→Prop):Nat→Int→List Int→Prop
 | 0,_,_=>False
 | k+1,v0,z0=>Wn xs K v0 z0 (Ce xs K k)
def Zm (xs:Bs) (K:KT→Prop):Prop :=
 ∃ k,Ce xs K k 1 ([]:List Int)
theorem Wo {g:ak} (xs:Bs) (K:KT→Prop)
  (hF:Zm xs K):az prog 90 #[sv xs] g [] (fun g' H' v=>∃ (r0:Int×Bs×Bs×Int),v=.agg (aK r0)∧H'=[]∧K r0):=by
 refine aP 53 func90 rfl fun w0=>?_;refine ae (ai (bI zK fun eT=>?_));refine aa (aF (aR ?_));have hL2:aW g yb [] []:=rfl;refine fT 5 1 (ai (bI #[.pointer none,.slice none 0 0] fun b3=>?_));refine Ok.qJ (aa (aF (ae (av 1 [(0,sv xs),(2,pv eT 0),(3,pv b3 0),(4,iv 1)] kr (aa (Ok.block ?_))))));obtain ⟨k,hF⟩:=hF;refine fQ (fun k a W=>∃ jP:ak,bf w0 g jP∧∃ (v0:Int) (g0:Option Addr) (m0:Nat) (z0:List Int) (c0:List Value),aW jP yb c0 z0∧fC 53 [(0,sv xs),(2,pv eT 0),(3,pv b3 0),(4,iv v0)] a∧dm w0 [.qJ b3 87 (.slice g0 z0.length m0),.own (.slice g0 z0.length m0) 5 1 z0.length c0,.blk eT (.cells zK 98)] jP W∧Ce xs K k v0 z0) k ?_ ?_
 ·
  exact fun _ _ u v=>⟨g,bu w0 g,1,none,0,([]:List Int),[],hL2,fA u v hF⟩
 clear hF;rintro (_ | k9) _ _ ⟨jP,o0,v0,g0,m0,z0,c0,d0,q⟩;exact (q.2.2:False).elim;refine jn (fun hF=>?_) _ _ q;refine aF (ae (ag 4 [0,2,3,4] [(9,.bool (decide (v0<(xs.length:Int))))] ?_));refine aa (aJ hF (fun hc4 hF=>?_) (fun hc4 hF=>?_))
 ·refine Ok.k (Ok.t (Ok.cut (fun a W=>∃ Y0:ak,bf w0 jP Y0∧∃ (x0:Option Addr) (s0:Nat) (u0:List Value),aW Y0 yb u0 (if ((((xs.getD v0.toNat 0).toNat:Int)==92)&&(decide (w6 (v0+1)<(xs.length:Int))))=true then (jN.sU z0 ((xs.getD (Int.toNat (w6 (v0+1))) 0).toNat:Int)).2 else (jN.sU z0 ((xs.getD v0.toNat 0).toNat:Int)).2)∧fC 53 [(0,sv xs),(2,pv eT 0),(3,pv b3 0),(4,iv (if ((((xs.getD v0.toNat 0).toNat:Int)==92)&&(decide (w6 (v0+1)<(xs.length:Int))))=true then w6 (v0+1) else v0))] a∧dm w0 [.qJ b3 87 (.slice x0 (if ((((xs.getD v0.toNat 0).toNat:Int)==92)&&(decide (w6 (v0+1)<(xs.length:Int))))=true then (jN.sU z0 ((xs.getD (Int.toNat (w6 (v0+1))) 0).toNat:Int)).2 else (jN.sU z0 ((xs.getD v0.toNat 0).toNat:Int)).2).length s0),.own (.slice x0 (if ((((xs.getD v0.toNat 0).toNat:Int)==92)&&(decide (w6 (v0+1)<(xs.length:Int))))=true then (jN.sU z0 ((xs.getD (Int.toNat (w6 (v0+1))) 0).toNat:Int)).2 else (jN.sU z0 ((xs.getD v0.toNat 0).toNat:Int)).2).length s0) 5 1 (if ((((xs.getD v0.toNat 0).toNat:Int)==92)&&(decide (w6 (v0+1)<(xs.length:Int))))=true then (jN.sU z0 ((xs.getD (Int.toNat (w6 (v0+1))) 0).toNat:Int)).2 else (jN.sU z0 ((xs.getD v0.toNat 0).toNat:Int)).2).length u0,.blk eT (.cells zK 98)] Y0 W∧AX xs v0 z0 (Ce xs K k9)) ?_ ?_))
  ·
   refine Ok.block (ae (ag 2 [0,2,3,4] [(12,sv xs),(13,iv v0)] ?_));obtain ⟨Ep,IE,hF⟩:=hF;have DD:=aT (l:=xs) (0:UInt8) IE;generalize hg5:(xs.getD v0.toNat 0)=e5 at DD hF ⊢;refine ai (af.s (v:=.int .u8 (e5.toNat:Int)) (dQ (k:=.i64) (i:=v0) (s:=xs) (b:=e5) kr kr underlying9 Ep DD) rfl rfl (ag 1 [0,2,3,4] [(5,.int .u8 (e5.toNat:Int))] ?_));refine aa (Ok.block (ae (ag 2 [0,2,3,4,5] [(18,.int .u8 (e5.toNat:Int)),(19,sv xs)] ?_)));obtain ⟨uA,h16,hF⟩:=hF;have uz:=aT (l:=xs) (0:UInt8) h16;generalize zH:(xs.getD (Int.toNat 0) 0)=e6 at uz hF ⊢;refine ai (af.s (v:=.int .u8 (e6.toNat:Int)) (dQ (k:=.i64) (i:=0) (s:=xs) (b:=e6) kr kr underlying9 uA uz) rfl rfl (ag 2 [0,2,3,4,5] [(17,.bool ((e5.toNat:Int)==(e6.toNat:Int)))] ?_));refine aa (dW hF rfl (fun iB=>?_) (fun iB=>?_))
   ·replace hF:=hF.1 iB;refine aF (wH [] [] [0,0,0] [(0,true),(1,true),(2,true),(3,true),(4,false),(5,true),(6,false)] ?_);refine iJ 3 [2,3] [(22,sv xs),(24,iv (w6 (v0+1)))] ?_;obtain ⟨IK,h18,h28,hF⟩:=hF;refine eH.hd (fK.s (v:=sv (xs.take (Int.toNat (w6 (v0+1))))) (b_ (s:=xs) (l:=0) (h:=w6 (v0+1)) kr underlying9 (.inr ⟨rfl,rfl⟩) (.inl ⟨_,_,rfl,rfl⟩) IK h18 h28 (xs.take (Int.toNat (w6 (v0+1)))) (by simp)) rfl rfl ?_);obtain ⟨Il,hF⟩:=hF;refine eH.t rfl rfl (bS (jN.Ww z0 d0 Il) fun g10 _ _ U0 adf=>?_);obtain ⟨rfl,rfl⟩:=adf;refine h_ U0.1 (iJ 1 [2] [(27,.agg #[iv 5,sv (xs.take (Int.toNat (w6 (v0+1)))),sv (bytesOf z0),iv 0])] ?_);refine eH.t rfl rfl (af.w 0 ?_);refine h_ U0.1 (eH.nil (Ok.t (Ok.ret (aV (aV (aC (aC (aV (aC ?_)))))))));exact jf 0 [] (o0.trans U0) ⟨(5,xs.take (Int.toNat (w6 (v0+1))),bytesOf z0,0),rfl,rfl,hF⟩
   replace hF:=hF.2 iB;refine ae (ag 3 [0,2,3,4,5] [(28,.bool ((e5.toNat:Int)==10))] ?_);refine aa (dW hF rfl (fun J0=>?_) (fun J0=>?_))
   ·replace hF:=hF.1 J0;refine ae (ag 2 [2] [(31,sv xs),(32,iv v0)] ?_);obtain ⟨U9,h112,aqX,hF⟩:=hF;refine ai (af.s (b_ (s:=xs) (l:=0) (h:=v0) kr underlying9 (.inr ⟨rfl,rfl⟩) (.inl ⟨_,_,rfl,rfl⟩) U9 h112 aqX (xs.take v0.toNat) (by simp)) rfl rfl (ag 1 [2] [(34,.agg #[iv 6,sv (xs.take v0.toNat),sv ([]:Bs),iv 0])] ?_));refine ai (af.w 2 ?_);refine aa (Ok.ret (aV (aV (aC (aC (aV (aC ?_)))))));exact jf 2 [] o0 ⟨(6,xs.take v0.toNat,([]:Bs),0),rfl,rfl,hF⟩
   replace hF:=hF.2 J0;refine ae (ag 3 [0,2,3,4,5] [(38,.bool ((e5.toNat:Int)==92))] ?_);refine Ok.w 6 [(0,sv xs),(2,pv eT 0),(3,pv b3 0),(4,iv v0),(5,.int .u8 (e5.toNat:Int)),(44,.bool (((e5.toNat:Int)==92)&&(decide (w6 (v0+1)<(xs.length:Int)))))] (fun X0=>?_) ?_
   ·refine Ok.a 38 ((e5.toNat:Int)==92) rfl (fun W0=>?_) (fun W0=>?_)
    ·skip;refine ag 6 [0,2,3,4,5] [(44,.bool (decide (w6 (v0+1)<(xs.length:Int))))] ?_;refine aB 44 (((e5.toNat:Int)==92)&&(decide (w6 (v0+1)<(xs.length:Int)))) (bn W0) (ag 0 [0,2,3,4,5] [(44,.bool (((e5.toNat:Int)==92)&&(decide (w6 (v0+1)<(xs.length:Int)))))] ?_);exact X0
    skip;refine ag 6 [0,2,3,4,5] [(44,.bool false)] ?_;refine aB 44 (((e5.toNat:Int)==92)&&(decide (w6 (v0+1)<(xs.length:Int)))) (bZ W0) (ag 0 [0,2,3,4,5] [(44,.bool (((e5.toNat:Int)==92)&&(decide (w6 (v0+1)<(xs.length:Int)))))] ?_);exact X0
   refine ag 1 [0,2,3,4,5] [(35,.bool (((e5.toNat:Int)==92)&&(decide (w6 (v0+1)<(xs.length:Int)))))] ?_;refine aa (dW hF rfl (fun n0=>?_) (fun n0=>?_))
   ·replace hF:=hF.1 n0;refine ae (ag 3 [0,2,3] [(4,iv (w6 (v0+1)))] ?_);refine aa (aR (ag 2 [0,2,3,4] [(47,sv xs),(48,iv (w6 (v0+1)))] ?_));obtain ⟨Ns,h116,hF⟩:=hF;have S0:=aT (l:=xs) (0:UInt8) h116;generalize aoP:(xs.getD (Int.toNat (w6 (v0+1))) 0)=e16 at S0 hF ⊢;refine ai (af.s (v:=.int .u8 (e16.toNat:Int)) (dQ (k:=.i64) (i:=w6 (v0+1)) (s:=xs) (b:=e16) kr kr underlying9 Ns S0) rfl rfl ?_);obtain ⟨UA,hF⟩:=hF;refine ai (bS (jN.RN z0 (e16.toNat:Int) d0 UA) fun g18 _ _ anX UN=>?_);obtain ⟨i0,Z0,t0,rfl,Nh,rfl⟩:=UN;refine bV (bG (bG (Ok.t ?_)));subst aoP;subst zH;subst hg5;refine gX 4 rfl (show (iv (w6 (v0+1)):Value)=iv (if ((((xs.getD v0.toNat 0).toNat:Int)==92)&&(decide (w6 (v0+1)<(xs.length:Int))))=true then w6 (v0+1) else v0) from aA (Value.int .i64) ((aU n0).symm)) (nE (H':=[.qJ b3 87 (.slice i0 (if ((((xs.getD v0.toNat 0).toNat:Int)==92)&&(decide (w6 (v0+1)<(xs.length:Int))))=true then (jN.sU z0 ((xs.getD (Int.toNat (w6 (v0+1))) 0).toNat:Int)).2 else (jN.sU z0 ((xs.getD v0.toNat 0).toNat:Int)).2).length Z0),.own (.slice i0 (if ((((xs.getD v0.toNat 0).toNat:Int)==92)&&(decide (w6 (v0+1)<(xs.length:Int))))=true then (jN.sU z0 ((xs.getD (Int.toNat (w6 (v0+1))) 0).toNat:Int)).2 else (jN.sU z0 ((xs.getD v0.toNat 0).toNat:Int)).2).length Z0) 5 1 (if ((((xs.getD v0.toNat 0).toNat:Int)==92)&&(decide (w6 (v0+1)<(xs.length:Int))))=true then (jN.sU z0 ((xs.getD (Int.toNat (w6 (v0+1))) 0).toNat:Int)).2 else (jN.sU z0 ((xs.getD v0.toNat 0).toNat:Int)).2).length t0,.blk eT (.cells zK 98)]) (ib (aA (fun l:Value=>cu.qJ b3 87 l) (aA (fun l:List Int=>Value.slice i0 l.length Z0) ((aU n0).symm))) (ib (aA (fun l:List Int=>cu.own (.slice i0 l.length Z0) 5 1 l.length t0) ((aU n0).symm)) (ib (rfl) rfl))) ?_);exact fun _ _ u v=>⟨g18,anX,i0,Z0,t0,(Eq.mp (aA (fun l:List Int=>aW g18 yb t0 l) ((aU n0).symm)) Nh),fA u v hF⟩
   replace hF:=hF.2 n0;refine aR (ag 1 [0,2,3,4] [(15,.int .u8 (e5.toNat:Int))] ?_);obtain ⟨M5,hF⟩:=hF;refine ai (bS (jN.RN z0 (e5.toNat:Int) d0 M5) fun g20 _ _ anW apO=>?_);obtain ⟨V0,Q0,a0,rfl,adL,rfl⟩:=apO;refine bV (bG (bG (Ok.t ?_)));subst zH;subst hg5;refine gX 4 rfl (show (iv v0:Value)=iv (if ((((xs.getD v0.toNat 0).toNat:Int)==92)&&(decide (w6 (v0+1)<(xs.length:Int))))=true then w6 (v0+1) else v0) from aA (Value.int .i64) ((aG n0).symm)) (nE (H':=[.qJ b3 87 (.slice V0 (if ((((xs.getD v0.toNat 0).toNat:Int)==92)&&(decide (w6 (v0+1)<(xs.length:Int))))=true then (jN.sU z0 ((xs.getD (Int.toNat (w6 (v0+1))) 0).toNat:Int)).2 else (jN.sU z0 ((xs.getD v0.toNat 0).toNat:Int)).2).length Q0),.own (.slice V0 (if ((((xs.getD v0.toNat 0).toNat:Int)==92)&&(decide (w6 (v0+1)<(xs.length:Int))))=true then (jN.sU z0 ((xs.getD (Int.toNat (w6 (v0+1))) 0).toNat:Int)).2 else (jN.sU z0 ((xs.getD v0.toNat 0).toNat:Int)).2).length Q0) 5 1 (if ((((xs.getD v0.toNat 0).toNat:Int)==92)&&(decide (w6 (v0+1)<(xs.length:Int))))=true then (jN.sU z0 ((xs.getD (Int.toNat (w6 (v0+1))) 0).toNat:Int)).2 else (jN.sU z0 ((xs.getD v0.toNat 0).toNat:Int)).2).length a0,.blk eT (.cells zK 98)]) (ib (aA (fun l:Value=>cu.qJ b3 87 l) (aA (fun l:List Int=>Value.slice V0 l.length Q0) ((aG n0).symm))) (ib (aA (fun l:List Int=>cu.own (.slice V0 l.length Q0) 5 1 l.length a0) ((aG n0).symm)) (ib (rfl) rfl))) ?_);exact fun _ _ u v=>⟨g20,anW,V0,Q0,a0,(Eq.mp (aA (fun l:List Int=>aW g20 yb a0 l) ((aG n0).symm)) adL),fA u v hF⟩
  clear hF;rintro _ _ ⟨Y0,KR,x0,s0,u0,IC,q⟩;refine jn (fun hF=>?_) _ _ q;refine aR (ag 3 [0,2,3] [(4,iv (w6 ((if ((((xs.getD v0.toNat 0).toNat:Int)==92)&&(decide (w6 (v0+1)<(xs.length:Int))))=true then w6 (v0+1) else v0)+1)))] ?_);refine bV (Ok.t ?_);exact fun _ _ u v=>⟨k9,nl,Y0,o0.trans KR,w6 ((if ((((xs.getD v0.toNat 0).toNat:Int)==92)&&(decide (w6 (v0+1)<(xs.length:Int))))=true then w6 (v0+1) else v0)+1),x0,s0,(if ((((xs.getD v0.toNat 0).toNat:Int)==92)&&(decide (w6 (v0+1)<(xs.length:Int))))=true then (jN.sU z0 ((xs.getD (Int.toNat (w6 (v0+1))) 0).toNat:Int)).2 else (jN.sU z0 ((xs.getD v0.toNat 0).toNat:Int)).2),u0,IC,fA u v hF⟩
 refine fw (ay (ay (aM (Ok.t (ae (ag 2 [2] [(52,.agg #[iv 6,sv xs,sv ([]:Bs),iv 0])] ?_))))));refine ai (af.w 2 ?_);refine aa (Ok.ret ?_);exact jf 2 [] o0 ⟨(6,xs,([]:Bs),0),rfl,rfl,hF⟩
end Go.Proofs.YtdapgmigogpdcaaGreatDoor.tO
namespace Go.Proofs.YtdapgmigogpdcaaGreatDoor.jN
open Go Go.iT Go.RowKit Go.Shelf Go.Proofs
set_option maxHeartbeats 2000000
set_option maxRecDepth 100000
theorem wr (b:Nat) (v p:Value) (n:Nat) (bs src:List Value) (sa:Addr) (k c2:Nat) (w:World) (hp:p=.pointer none∨p=.pointer (some ⟨b,0,none⟩)) (hbk:w.heap[b]? = some (.cells #[p,v] (ren.t 72) (0,0)))
  (hown:w.ownsRow 0 (ren.t 5) 1 v n bs) (hk:src.length=k) (h0:0<k) (hs:∀ j u,src[j]? = some u→w.cell? (sa.add j)=some u) (hsb:(sa.add 0).block≠b) (hadd:∀ j,(sa.add j).block=(sa.add 0).block) (hone:∀ u ∈ src,u.oneCell'=true) (hlen:n+k≤140737488355328) :
  Calls Tryz.prog 47 #[.pointer (some ⟨b,0,none⟩),.slice (some sa) k c2] w fun e w'=>e=.returned (.tuple #[.int .i64 (k:Int),.nilIface])∧∃ v',w'.heap[b]? = some (.cells #[.pointer (some ⟨b,0,none⟩),v'] (ren.t 72) (0,0)) ∧
   w'.ownsRow 0 (ren.t 5) 1 v' (n+k) (bs++src)∧(v'.ownBlock=v.ownBlock∨∃ k,v'.ownBlock=some k∧w.heap.size≤k)∧Fr b v.ownBlock w w':=by
 have L:=aja;obtain ⟨i0,hi,hz0,hz1,hz2⟩:=info_parts X.infoByte;have hcc:Calls Tryz.prog 80 #[.pointer (some ⟨b,0,none⟩)] w (fun e w'=>e=.returned (.tuple #[])∧w'.heap[b]? = some (.cells #[.pointer (some ⟨b,0,none⟩),v] (ren.t 72) (0,0))∧w.grownBy w' (some b)):=cc b v p w hp hbk;have hne:v.ownBlock≠some b:=Lib.ownBlock_ne hown hbk X.neB5
 go_enter Tryz.func47,Tryz.ntmps47
 go_wp2_with (go_at_call 80; refine hcc.mono ?_)
 rintro e w1 ⟨rfl,hbk1,hg1⟩;have hown1:=hown.kept hg1 (Or.inr hne)
 have c0:w1.cell? ⟨b,0,none⟩=some (.pointer (some ⟨b,0,none⟩)):=by rw [Lib.cell_of_heap hbk1]; rfl
 have c1:w1.cell? ⟨b,1,none⟩=some v:=by rw [Lib.cell_of_heap hbk1]; rfl
 have hlt:=lt_of_heap hbk1
 have hs1:∀ j u,src[j]? = some u→w1.cell? (sa.add j)=some u:=fun j u hj=>by
  have h1:=hs j u hj
  have aoC:(sa.add j).block<w.heap.size:=by
   unfold World.cell? at h1
   split at h1
   ·rename_i hh; exact (Array.getElem?_eq_some_iff.1 hh).1
   cases h1
  have e1:w1.heap[(sa.add j).block]? = w.heap[(sa.add j).block]?:=hg1.block _ aoC (fun e=>hsb (by rw [← hadd j]; exact uN e));unfold World.cell? at h1 ⊢;rw [e1]; exact h1
 go_wp2_with (at_builtin; refine wpList_append_own_at _ rfl _ _ 26 rfl 0 5 i0 (.int .u8 0) 1 1 Tryz.underlying26 hi hz0 hz1 hz2 rfl dc _ _ _ rfl hown1 sa k c2 src rfl om ?c1 ?c2 ?c3 ?c4 ?c5 ?_)
 case c1=>exact hs1
 case c2=>exact hone
 case c3=>unfold maxLen; omega
 case c4=>omega
 case c5=>exact ik _
 intro v' w2 hown' hgrow _ hblk
 have hb2:w2.heap[b]? = some (.cells #[.pointer (some ⟨b,0,none⟩),v] (ren.t 72) (0,0)):=by
  rw [hgrow.block b hlt (fun e=>hne e.symm)];exact hbk1
 have d0:w2.cell? ⟨b,0,none⟩=some (.pointer (some ⟨b,0,none⟩)):=by rw [Lib.cell_of_heap hb2]; rfl
 have d1:w2.cell? ⟨b,1,none⟩=some v:=by rw [Lib.cell_of_heap hb2]; rfl
 have f1:w2.frozen? ⟨b,1,none⟩=false:=Lib.frozen_of_heap hb2 1;have hne':v'.ownBlock≠some b:=Lib.ownBlock_ne hown' hb2 X.neB5
 obtain ⟨g,cap,hv⟩:∃ g cap,v'=.slice (some ⟨g,0,none⟩) (n+k) cap:=by
  rcases hown'.2 with ⟨_,h0⟩ | ⟨g,cap,cur,hv,_⟩
  ·omega
  exact ⟨g,cap,hv⟩
 subst hv
 go_wp2
 go_ret2
 refine ⟨rfl,_,by simp [World.setCell,xD,hb2],hown'.kept (vk w2 b 1 _) (Or.inr hne'),?_,?_⟩
 ·rcases hblk with h | h
  ·exact .inl h
  refine .inr ⟨_,h,?_⟩;have:=hg1.size;omega
 refine ⟨?_,?_,?_,?_,fun k hk hkb hkr=>?_⟩
 ·exact hgrow.os.trans hg1.os
 ·exact hgrow.tape.trans hg1.tape
 ·exact hgrow.output.trans hg1.output
 ·have h1:=hg1.size;have h2:=hgrow.size;simp [World.setCell] at h2 ⊢;omega
 have h1:=hg1.size;rw [Below.heap_setCell _ _ _ _ (show k≠b from hkb),hgrow.block k om hkr,hg1.block k hk (by simpa using hkb)]
def Zc (l q:List Int):Int×Unit×List Int:=((q.length:Int),(),l++q)
def wrP (l q:List Int):Prop:=q≠[]∧l.length+q.length≤140737488355328
theorem anj {g:ak} {b:Nat} {a a2:Option Addr} {c c2:Nat} {xs:List Value} (l q:List Int) (hL:aW g (.int .u8) xs l) (hq:bE g (.slice (.int .u8)) [.slice a2 q.length c2] q) (hp:wrP l q) :
  az Tryz.prog 47 #[.pointer (some ⟨b,0,none⟩),.slice a2 q.length c2] g [.qJ b 87 (.slice a l.length c),.own (.slice a l.length c) 5 1 l.length xs]
   (fun g' H' r=>∃ (a':Option Addr) (c':Nat) (xs':List Value),r=.tuple #[.int .i64 (Zc l q).1,.nilIface]∧aW g' (.int .u8) xs' (Zc l q).2.2∧H'=[.qJ b 87 (.slice a' (Zc l q).2.2.length c'),.own (.slice a' (Zc l q).2.2.length c') 5 1 (Zc l q).2.2.length xs']):=fun W hW=>by
 obtain ⟨p,hp0,hbk⟩:=hW.f_ (.qJ b 87 (.slice a l.length c)) (by simp);have hown:=hW.f_ (.own (.slice a l.length c) 5 1 l.length xs) (by simp);have hgb:g b=none:=hW.apart (.qJ b 87 (.slice a l.length c)) (by simp) b rfl;obtain ⟨a1,c1,hcs,-,hel⟩:=hq;simp only [uW,Value.slice.injEq,nA] at hcs;obtain ⟨rfl,-,rfl⟩:=hcs
 obtain ⟨y,q',rfl⟩:∃ y q',q=y::q':=by
  cases q with
  | nil=>exact absurd rfl hp.1
  | cons y q'=>exact ⟨y,q',rfl⟩
 obtain ⟨sb,so,hb,_⟩:=hel 0 y rfl;subst hb
 obtain ⟨ys,h1,h2⟩:=vo (e:=.int .u8) (g:=g) (b:=sb) (off:=so) (y::q') 0 fun i x hx=>by
  obtain ⟨b',off',hb',jC,hl,hat,hr⟩:=hel i x hx
  injection hb' with hb'
  simp only [Addr.mk.injEq,nA] at hb';obtain ⟨rfl,rfl⟩:=hb';exact ⟨jC,hl,by rw [sH]; exact hat,hr⟩
 have hys:ys.length=(y::q').length:=by have h4:=aW.size (e:=.int .u8) (l:=y::q') h1; rw [show (Ty.int IntKind.u8).size=1 from rfl,Nat.mul_one] at h4; exact h4
 have hcell:∀ j u,ys[j]? = some u→lM g ⟨sb,so+j,none⟩=some u:=fun j u hj=>by
  have:=h2 j u hj
  rwa [xm,nC] at this
 have hsb:sb≠b:=fun e=>by
  subst e;obtain ⟨u,hu⟩:∃ u,ys[0]? = some u:=⟨ys[0]'(by rw [hys]; simp),gH _⟩;have:=hcell 0 u hu;unfold lM at this;rw [show g (⟨sb,so+0,none⟩:Addr).block=none from hgb] at this;cases this
 refine (wr b (.slice a l.length c) p l.length xs ys ⟨sb,so,none⟩ (y::q').length _ W hp0 hbk hown hys (by simp) (fun j u hj=>by rw [Addr.add_plain]; exact l5 hW.ghost (hcell j u hj)) (by rw [Addr.add_plain]; exact hsb) (fun j=>by rw [Addr.add_plain,Addr.add_plain]) (aW.ones (e:=.int .u8) (l:=y::q') h1) hp.2).mono fun e W' ⟨he,v',hb',hown',hblk,hF⟩=>?_;obtain ⟨a',c',rfl⟩:=qZ hown'
 have hl:(Zc l (y::q')).2.2.length=l.length+(y::q').length:=by simp [Zc]
 refine ⟨_,g,_,he,⟨a',c',xs++ys,rfl,aW.append (e:=.int .u8) (l':=y::q') hL h1,rfl⟩,bu _ g,?_⟩;rw [hl];exact Ji hW ⟨_,.inr rfl,hb'⟩ hown' dc hblk hF
end Go.Proofs.YtdapgmigogpdcaaGreatDoor.jN
