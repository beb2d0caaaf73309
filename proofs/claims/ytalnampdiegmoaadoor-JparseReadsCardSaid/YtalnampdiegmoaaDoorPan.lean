/- Functions that may throw: what is thrown goes up to who catches it. No program in it. -/
import Derived.Test.YtalnampdiegmoaaDoorMxe
namespace Go.Eng
open Go.RowKit (Below)
set_option linter.unusedVariables false
/-- what is thrown -/
def thrown (pv:Value):List PanicEntry:=[{ v:=pv,recovered:=false }]
/-- as CallsH; or it throws pv, where Z holds, and of what was lent nothing is known -/
def CallsP (P:Program) (f:FuncId) (args:Array Value) (g:Ghost) (H0:List Ent) (V:Ghost→List Ent→Value→Prop) (Z:Prop) (pv:Value):Prop :=
 ∀ W,StW ⟨W,blocksOf H0⟩ H0 g W→Calls P f args W fun e W'=>(∃ v g' H',e=.returned v∧V g' H' v∧Gext ⟨W,blocksOf H0⟩ g g'∧StW ⟨W,blocksOf H0⟩ H' g' W')∨(Z∧e=.panicked (thrown pv)∧StW ⟨W,blocksOf H0⟩ [] g W')
theorem CallsP.mono {P:Program} {f:FuncId} {args:Array Value} {g:Ghost} {H0:List Ent} {V V':Ghost→List Ent→Value→Prop} {Z Z':Prop} {pv:Value} (h:CallsP P f args g H0 V Z pv) (hv:∀ g' H' v,Gle g g'→V g' H' v→V' g' H' v) (hz:Z→Z'):CallsP P f args g H0 V' Z' pv:=fun W hW =>
 (h W hW).mono fun _ _ hd=>hd.imp (fun ⟨v,g',H',he,hV,hx,hW'⟩=>⟨v,g',H',he,hv g' H' v hx.1 hV,hx,hW'⟩) fun ⟨z,he,hW'⟩=>⟨hz z,he,hW'⟩
/-- it never throws -/
theorem CallsP.noZ {P:Program} {f:FuncId} {args:Array Value} {g:Ghost} {H0:List Ent} {V:Ghost→List Ent→Value→Prop} {pv:Value} (h:CallsP P f args g H0 V False pv):CallsH P f args g H0 V:=fun W hW =>
 (h W hW).mono fun _ _ hd=>hd.resolve_right fun hz=>hz.1
/-- what is thrown may go to Q -/
def PanTo (w0:Base) (g:Ghost) (pv:Value) (Q:Exit→Act→World→Prop):Prop:=∀ a W,a.defers=[]→StW w0 [] g W→Q (.panic (thrown pv)) a W
section
variable {P:Program} {n:Fsz} {w0:Base} {m:Env} {H:List Ent} {g g0:Ghost} {R:Act→World→Prop} {Q:Exit→Act→World→Prop} {ops:Array Oper} {pv:Value}
theorem StW.none {W:World} (h:StW w0 H g W):StW w0 [] g W:=h.sub (List.nil_sublist H)
theorem PanTo.up {Z:Prop} (hx:Gext w0 g0 g) (h:Z→PanTo w0 g0 pv Q):Z→PanTo w0 g pv Q:=fun z a W hd hW=>h z a W hd (hW.less hx.1)
theorem OpOk.callP {o:Oper} {K:Act→World→Prop} {f:FuncId} {args:Array Value} (Hc F:List Ent) {V:Ghost→List Ent→Value→Prop} {Z:Prop} (hk:∀ a W,StA n m a→(execOp a.eval o).run P W=.ok (.enter f args) W)
  (hH:Hc++F=H) (hc:CallsP P f args g Hc V Z pv) (hn:dstB n o.dst=true) (hz:Z→PanTo w0 g pv Q)
  (h:∀ g' H' v,Gext w0 g g'→V g' H' v→Ok n w0 (dstE o.dst v m) (H'++F) g' K) (hD:n.ds=[]:=by rfl):OpOk P K Q o n w0 m H g:=fun a W hA hW=>by
 subst hH
 show Oper.upon P o a _ Q (Sem.run P (execOp a.eval o) W)
 rw [hk a W hA,Oper.upon_enter]
 refine (hc W hW.lendH).mono fun e W' hd=>?_
 rcases hd with ⟨v,g',H',he,hV,hx,hW'⟩ | ⟨z,he,hW'⟩
 ·subst he
  obtain ⟨h1,h2⟩:=hW.backH hx hW'
  exact h g' H' v h2 hV _ W' (hA.putD hn v) h1
 subst he
 obtain ⟨h1,h2⟩:=hW.backH (Gext.r _ g) hW'
 exact hz z a W' (hA.defers.trans hD) h1.none
theorem OpOk.throw {o:Oper} {K:Act→World→Prop} {x:Operand} {ty:TypeId} {v1:Value} (ho:o.op=.panic x) (hx:val m x=some (.iface ty v1)) (hp:PanTo w0 g (.iface ty v1) Q) (hD:n.ds=[]:=by rfl):OpOk P K Q o n w0 m H g:=fun a W hA hW=>by
 show Oper.upon P o a _ Q (Sem.run P (execOp a.eval o) W)
 have e0:a.eval x=.iface ty v1:=hA.eval hx
 have e:(execOp a.eval o).run P W=.halt (.panic (.iface ty v1)) W:=by
  unfold execOp
  rw [ho]
  dsimp only
  rw [e0]
  rfl
 rw [e,Oper.upon_panic]
 exact hp a W (hA.defers.trans hD) hW.none
theorem CallsP.enter {f:FuncId} {fn:Func} {c:Code} {args:Array Value} {H0:List Ent} {V:Ghost→List Ent→Value→Prop} {Z:Prop} (n:Fsz) (m0:Env) (hf:P.funcs[f]? = some fn) (hb:fn.body=some c) (hn:fn.ntmps=n) (hle:Nat.ble args.size n=true)
  (hm:(List.range args.size).map (fun i=>(i,args.toList.getD i undef))=m0)
  (h:∀ w0,Ok n w0 m0 H0 g (c.wp P (bodyPost P fn fun e W'=>(∃ v g' H',e=.returned v∧V g' H' v∧Gext w0 g g'∧StW w0 H' g' W')∨(Z∧e=.panicked (thrown pv)∧StW w0 [] g W')))) (hD:n.ds=[]:=by rfl):CallsP P f args g H0 V Z pv:=fun W hW=>by
 refine calls_of_wp hf hb (h _ _ W (StA.ofArgs hn hle hm hD) hW)
/-- it returns -/
theorem Ok.fine {fn:Func} {e:Exit} {A B:Ending→World→Prop} (he:e=.ret∨e=.normal) (h:Ok n w0 m H g (bodyPost P fn A e)):Ok n w0 m H g (bodyPost P fn (fun e W'=>A e W'∨B e W') e):=fun a W hA hW=>by
 have:=h a W hA hW
 rcases he with rfl | rfl <;> (obtain ⟨h1,v,h2,h3⟩:=this; exact ⟨h1,v,h2,.inl h3⟩)
/-- what is thrown leaves the function -/
theorem panTop {A Z:Prop} (z:Z) (a:Act) (W:World) (hd:a.defers=[]) (hW:StW w0 [] g W):a.defers=[]∧(A∨(Z∧Ending.panicked (thrown pv)=.panicked (thrown pv)∧StW w0 [] g W)):=⟨hd,.inr ⟨z,rfl,hW⟩⟩
/-- what is thrown leaves a function that was entered in place -/
theorem panIn {A B:Prop} (a:Act) (hd:a.defers=[]) (h:B):a.defers=[]∧(A∨(Ending.panicked (thrown pv)=.panicked (thrown pv)∧B)):=⟨hd,.inr ⟨rfl,h⟩⟩
theorem OpOk.inlineP {o:Oper} {K:Act→World→Prop} {f:FuncId} {fn:Func} {c:Code} {args:Array Value} (n':Fsz) (m0:Env) (hk:∀ a W,StA n m a→(execOp a.eval o).run P W=.ok (.enter f args) W)
  (hf:P.funcs[f]? = some fn) (hb:fn.body=some c) (hn':fn.ntmps=n') (hle:Nat.ble args.size n'=true) (hm:(List.range args.size).map (fun i=>(i,args.toList.getD i undef))=m0)
  (h:Ok n' w0 m0 H g (c.wp P (bodyPost P fn (fun e W'=>Back n m o.dst K e W'∨(e=.panicked (thrown pv)∧∀ a1,StA n m a1→Q (.panic (thrown pv)) a1 W'))))) (hD:n'.ds=[]:=by rfl):OpOk P K Q o n w0 m H g:=fun a W hA hW=>by
 show Oper.upon P o a _ Q (Sem.run P (execOp a.eval o) W)
 rw [hk a W hA,Oper.upon_enter]
 refine (calls_of_wp hf hb (h _ W (StA.ofArgs hn' hle hm hD) hW)).mono fun e W' hd=>?_
 rcases hd with ⟨v,he,hK⟩ | ⟨he,hq⟩
 ·subst he; exact hK a hA
 subst he; exact hq a hA
theorem OpOk.cutQ {o:Oper} {K:Act→World→Prop} (I:Act→World→Prop) (h:OpOk P I Q o n w0 m H g) (h2:∀ a W,I a W→K a W):OpOk P K Q o n w0 m H g:=fun a W hA hW=>Oper.wp_mono h2 (h a W hA hW)
/-- what a region that draws its order may throw -/
def Thr (n:Fsz) (w0:Base) (g:Ghost) (Z:Prop) (pv:Value):Exit→Act→World→Prop:=fun e a W=>e=.panic (thrown pv)∧a.defers=[]∧Z∧StW w0 [] g W
theorem put_defers (a:Act) (d:Option Tmp) (v:Value):(a.put d v).defers=a.defers:=by cases d <;> rfl
theorem Thr.put {Z:Prop} {l:List Oper}:∀ (e:Exit) (a:Act) (o:Oper) (v:Value) (W:World),o ∈ l→Thr n w0 g Z pv e (a.put o.dst v) W→Thr n w0 g Z pv e a W:=fun e a o v W _ ⟨h1,h2,h3,h4⟩=>⟨h1,(put_defers a o.dst v).symm.trans h2,h3,h4⟩
theorem Thr.to {Z:Prop} (h:Z→PanTo w0 g pv Q):∀ (e:Exit) (a:Act) (W:World),Thr n w0 g Z pv e a W→Q e a W:=fun e a W ⟨h1,h2,h3,h4⟩=>by subst h1; exact h h3 a W h2 h4
theorem Thr.here {Z:Prop} (z:Z):PanTo w0 g pv (Thr n w0 g Z pv):=fun a W hd hW=>⟨rfl,hd,z,hW⟩
end
/-- one of some read-only slices -/
inductive AllRo (g:Ghost) (e:Ty):List Value→List (List e.den)→Prop
 | nil:AllRo g e [] []
 | cons {a:Option Addr} {c:Nat} {l:List e.den} {cs:List Value} {L:List (List e.den)} (h:Rep g (.slice e) [.slice a l.length c] l) (t:AllRo g e cs L):AllRo g e (.slice a l.length c::cs) (l::L)
theorem AllRo.at_ {g:Ghost} {e:Ty}:∀ {cs:List Value} {L:List (List e.den)},AllRo g e cs L→∀ (n:Nat),n<L.length→∃ a c,cs[n]? = some (.slice a (L.getD n []).length c)∧Rep g (.slice e) [.slice a (L.getD n []).length c] (L.getD n [])
 | _,_,.nil,n,h=>absurd h (Nat.not_lt_zero _)
 | _,_,.cons h _,0,_=>⟨_,_,rfl,h⟩
 | _,_,.cons _ t,n+1,hn=>by
  obtain ⟨a,c,h1,h2⟩:=t.at_ n (Nat.lt_of_succ_lt_succ hn)
  exact ⟨a,c,by simpa using h1,by simpa using h2⟩
theorem pickN {g:Ghost} {e:Ty} {cs:List Value} {L:List (List e.den)} (h:AllRo g e cs L) (i:Int) (h0:0≤i) (h1:i<(L.length:Int)):∃ a c,(⟨cs⟩:Array Value)[Int.toNat i]? = some (.slice a (L.getD (Int.toNat i) []).length c)∧Rep g (.slice e) [.slice a (L.getD (Int.toNat i) []).length c] (L.getD (Int.toNat i) []):=by
 obtain ⟨a,c,h2,h3⟩:=h.at_ (Int.toNat i) (by omega)
 exact ⟨a,c,(List.getElem?_toArray ..).trans h2,h3⟩
section
variable {P:Program} {n:Fsz} {w0:Base} {m:Env} {H:List Ent} {g g0:Ghost} {R:Act→World→Prop} {Q:Exit→Act→World→Prop} {ops:Array Oper} {pre soft:List Nat} {Hf H0:List Ent} {os:List (Nat×Bool)} {E:Exit→Act→World→Prop} {pv:Value}
theorem OkME.bat {g0:Ghost} (k:Nat) (ks:List Nat) (r:Env) {m':Env} (hr:OkME P ops E n w0 g0 pre soft Hf H0 m' H g R (os.drop k)) (_hp:Picks m r ks m':=by repeat constructor)
    (h:(((heads ops k os).bind (pureAll P n ops k m)).map (keep (m'.map (·.1))))=some m':=by kernel_rfl):OkME P ops E n w0 g0 pre soft Hf H0 m H g R os:=OkME.batch k m' h hr
theorem OkME.en {H':List Ent} (is:List Nat) (h:OkME P ops E n w0 g0 pre soft Hf H0 m H' g R os) (hs:Perms H is H':=by repeat constructor) (hp:is.Nodup:=by decide):OkME P ops E n w0 g0 pre soft Hf H0 m H g R os:=OkME.entries is H' hp hs.eq h
theorem OkME.hd {i:Nat} {o:Oper} {Hv:List Ent} (h:OpQ P (fun a=>wpMixE P ops E (fun c W=>StW w0 c.2 c.1 W) (Asks g0 pre Hf H0) (fun i c=>Gle g0 c.1∧List.Sublist (bif soft.contains i then Hf else H0) c.2) R os a (g,H)) o n w0 m Hv g0)
    (hi:ops[i]? = some o:=by rfl) (hv:(bif pre.contains i then Hf else H0)=Hv:=by rfl) (hg:o.guard=none:=by rfl):OkME P ops E n w0 g0 pre soft Hf H0 m H g R ((i,true)::os):=OkME.head hi hg hv h
theorem OkME.l1 {i:Nat} {Hv:List Ent} (hg:Gle g0 g) (h:OkME P ops E n w0 g0 pre soft Hf H0 m H g R os) (hv:(bif soft.contains i then Hf else H0)=Hv:=by rfl)
    (hs:List.Sublist Hv H:=by first | exact List.Sublist.refl _ | repeat first | exact List.Sublist.slnil | refine List.Sublist.cons_cons _ ?_ | refine List.Sublist.cons _ ?_) :
    Ok n w0 m H g (fun a' W'=>∃ c':Ghost×List Ent,StW w0 c'.2 c'.1 W'∧(Gle g0 c'.1∧List.Sublist (bif soft.contains i then Hf else H0) c'.2)∧wpMixE P ops E (fun c W=>StW w0 c.2 c.1 W) (Asks g0 pre Hf H0) (fun i c=>Gle g0 c.1∧List.Sublist (bif soft.contains i then Hf else H0) c.2) R os a' c'):=OkME.leaf hv hg hs h
theorem OpOk.cp {o:Oper} {K:Act→World→Prop} {f:FuncId} {args:Array Value} {Hc F:List Ent} {V:Ghost→List Ent→Value→Prop} {Z:Prop} (hc:CallsP P f args g Hc V Z pv) (hz:Z→PanTo w0 g pv Q)
    (h:∀ g' H' v,Gext w0 g g'→V g' H' v→Ok n w0 (dstE o.dst v m) (H'++F) g' K) (hH:Hc++F=H:=by rfl) (hn:dstB n o.dst=true:=by rfl)
    (hk:known m o=true:=by kernel_rfl) (hr:∀ W,(execOp (rho m) o).run P W=.ok (.enter f args) W:=by intro _; kernel_rfl) (hD:n.ds=[]:=by rfl):OpOk P K Q o n w0 m H g:=OpOk.callP Hc F (enters hk hr) hH hc hn hz h hD
theorem pT {A:Act→World→Prop} {Z Z':Prop} (hx:Gext w0 g0 g) (hz:Z→Z') (hQ:∀ a W,(a.defers=[]∧(A a W∨(Z'∧Ending.panicked (thrown pv)=.panicked (thrown pv)∧StW w0 [] g0 W)))→Q (.panic (thrown pv)) a W:=by intro _ _ h; exact h):Z→PanTo w0 g pv Q :=
  PanTo.up hx fun z a W hd hW=>hQ a W (panTop (hz z) a W hd hW)
theorem pH {n:Fsz} {Z Z':Prop} (hx:Gext w0 g0 g) (hz:Z→Z'):Z→PanTo w0 g pv (Thr n w0 g0 Z' pv):=PanTo.up hx fun z=>Thr.here (hz z)
theorem Ok.mx {Z:Prop} {id:Nat} {l:List Oper} (hz:Z→PanTo w0 g pv Q) (pre soft:List Nat) {Hf H0:List Ent} (b c:List Nat) (os:List (Nat×Bool)) (h:OkME P l.toArray (Thr n w0 g Z pv) n w0 g pre soft Hf H0 m H g (Q .normal) os)
    (h1:Msk H b Hf:=by repeat constructor) (h2:Msk Hf c H0:=by repeat constructor) (hm:P.follows .mixedOrders=true:=by kernel_rfl) (hB:mixOk l.toArray pre soft os=true:=by kernel_rfl):Ok n w0 m H g ((Code.region id l.toArray true).wp P Q) :=
  Ok.mixsE (E:=Thr n w0 g Z pv) Thr.put (Thr.to hz) pre soft Hf H0 os hm hB h2.sub h1.sub h
theorem Ok.px {Z:Prop} {id:Nat} {l:List Oper} (hz:Z→PanTo w0 g pv Q) (pre soft:List Nat) {Hf H0:List Ent} (b c:List Nat) (os:List (Nat×Bool)) (i:Nat) (t1:Pl) (j:Nat) (t2:Pl) (h:OkME P l.toArray (Thr n w0 g Z pv) n w0 g pre soft Hf H0 m H g (plM P l.toArray (Thr n w0 g Z pv) w0 g pre soft Hf H0 (Q .normal) (.fork os i t1 j t2)) os)
    (h1:Msk H b Hf:=by repeat constructor) (h2:Msk Hf c H0:=by repeat constructor) (hm:P.follows .mixedOrders=true:=by kernel_rfl) (hB:plOk l.toArray pre soft (.fork os i t1 j t2)=true:=by kernel_rfl):Ok n w0 m H g ((Code.region id l.toArray true).wp P Q) :=
  Ok.plE (E:=Thr n w0 g Z pv) Thr.put (Thr.to hz) pre soft Hf H0 os i t1 j t2 hm hB h2.sub h1.sub h
theorem CallsP.en {f:FuncId} {fn:Func} {c:Code} {args:Array Value} {H0:List Ent} {V:Ghost→List Ent→Value→Prop} {Z:Prop} (n:Fsz) (hf:P.funcs[f]? = some fn) (hb:fn.body=some c)
    (h:∀ w0,Ok n w0 (argE args) H0 g (c.wp P (bodyPost P fn fun e W'=>(∃ v g' H',e=.returned v∧V g' H' v∧Gext w0 g g'∧StW w0 H' g' W')∨(Z∧e=.panicked (thrown pv)∧StW w0 [] g W')))) (hn:fn.ntmps=n:=by kernel_rfl) (hle:Nat.ble args.size n=true:=by kernel_rfl) (hD:n.ds=[]:=by rfl):CallsP P f args g H0 V Z pv :=
  CallsP.enter n (argE args) hf hb hn hle rfl h hD
end
end Go.Eng
