/- The parser of scripts, plain. -/
import Derived.Test.YtalnampdiegmoaaDoorPsa
namespace Go.Proofs.YtalnampdiegmoaaDoor.Ps
open Go Go.Eng Go.RowKit
set_option linter.unusedVariables false
def nd (k n:Int) (t:Bs) (l:List JN):JN:=.mk (k,n,t) l
abbrev RJ:=Option (JN×PS)
def fuel (p:PS):Nat:=p.1.length+2
/-- up to a sign -/
def loopB (f:PS→RJ) (e:Bs):Nat→List JN→PS→Option (List JN×PS)
 | 0,_,_=>none
 | k+1,acc,p=>if isB p e=true then some (acc,onS p) else match f p with
  | none=>none
  | some r=>loopB f e k (acc++[r.1]) r.2
/-- up to a sign, with commas -/
def loopS (f:PS→RJ) (e:Bs):Nat→Bool→List JN→PS→Option (List JN×PS)
 | 0,_,_,_=>none
 | k+1,b,acc,p=>if isB p e=true then some (acc,onS p) else match (if b=true then some p else pmuS p [44]) with
  | none=>none
  | some p=>match f p with
   | none=>none
   | some r=>loopS f e k false (acc++[r.1]) r.2
/-- a parameter -/
def parS (p:PS):RJ:=(pnmS p).bind fun r=>some (nd 10 0 r.1 [],r.2)
/-- ended by a semicolon -/
def endS (n:JN) (p:PS):RJ:=(pmuS p [59]).bind fun p=>some (n,p)
def ranks:List (List Bs):=[[[124,124]],[[38,38]],[[61,61],[33,61]],[[60],[60,61],[62],[62,61]],[[43],[45]],[[42],[47],[37]]]
/-- the first of some signs that stands here -/
def sgn (p:PS):List Bs→Option Bs
 | []=>none
 | s::l=>if isB p s=true then some s else sgn p l
def joinS (s:Bs) (a b:JN):JN:=if s=[124,124] then nd 17 0 [] [a,b] else if s=[38,38] then nd 16 0 [] [a,b] else nd 15 0 s [a,b]
/-- signs of a rank, one behind the other; f: what stands between -/
def loopR (f:PS→RJ) (l:List Bs):Nat→JN→PS→RJ
 | 0,_,_=>none
 | k+1,e,p=>match sgn p l with
  | none=>some (e,p)
  | some s=>match f (onS p) with
   | none=>none
   | some r=>loopR f l k (joinS s e r.1) r.2
/-- what stands behind an expression: calls, places, names -/
def loopU (f:PS→RJ):Nat→JN→PS→RJ
 | 0,_,_=>none
 | k+1,e,p=>if isB p [40]=true then (match loopS f [41] (fuel p) true [e] (onS p) with
   | none=>none
   | some r=>loopU f k (nd 11 0 [] r.1) r.2) else
  if isB p [91]=true then (match (f (onS p)).bind fun r=>(pmuS r.2 [93]).bind fun p=>some (nd 12 0 [] [e,r.1],p) with
   | none=>none
   | some r=>loopU f k r.1 r.2) else
  if isB p [46]=true then (match pnmS (onS p) with
   | none=>none
   | some r=>loopU f k (nd 13 0 r.1 [e]) r.2) else some (e,p)
/-- a function's body, a loop's body -/
def inBody (b:Bool) (p:PS):PS:=(p.1,p.2.1,p.2.2.1||b,!b)
def outBody (p0 p:PS):PS:=(p.1,p.2.1,p0.2.2.1,p0.2.2.2)
def pairS (f:PS→RJ) (p:PS):RJ:=(pnmS p).bind fun r=>(pmuS r.2 [58]).bind fun p=>(f p).bind fun q=>some (nd 8 0 r.1 [q.1],q.2)
def blkS (f:PS→RJ) (p:PS):RJ:=(pmuS p [123]).bind fun p=>(loopB f [125] (fuel p) [] p).bind fun r=>some (nd 30 0 [] r.1,r.2)
mutual
def stN:Nat→PS→RJ
 | 0,_=>none
 | N+1,p =>
  if isB p [108,101,116]=true then (pnmS (onS p)).bind fun t=>(pmuS t.2 [61]).bind fun p=>(exN N p).bind fun e=>endS (nd 20 0 t.1 [e.1]) e.2 else
  if isB p [102,110]=true then (pnmS (onS p)).bind fun t=>(fnN N t.2 t.1).bind fun e=>some (nd 21 0 [] [e.1],e.2) else
  if isB p [105,102]=true then ifN N (onS p) else
  if isB p [119,104,105,108,101]=true then (inN N (onS p)).bind fun c=>(boN N c.2 false).bind fun b=>some (nd 23 0 [] [c.1,b.1],b.2) else
  if isB p [102,111,114]=true then foN N (onS p) else
  if isB p [114,101,116,117,114,110]=true then (if p.2.2.1=true then (if isB (onS p) [59]=true then some (nd 25 0 [] [],onS (onS p)) else (exN N (onS p)).bind fun e=>endS (nd 25 0 [] [e.1]) e.2) else none) else
  if isB p [98,114,101,97,107]=true then (if p.2.2.2=true then endS (nd 26 0 [] []) (onS p) else none) else
  if isB p [99,111,110,116,105,110,117,101]=true then (if p.2.2.2=true then endS (nd 27 0 [] []) (onS p) else none) else
  if isB p [116,104,114,111,119]=true then (exN N (onS p)).bind fun e=>endS (nd 28 0 [] [e.1]) e.2 else
  if isB p [116,114,121]=true then tyN N (onS p) else
  if ((ppkS p).1==4&&(ppkS p).2.2.2.1==[123])=true then blN N p else (exN N p).bind fun e=>endS (nd 31 0 [] [e.1]) e.2
def blN:Nat→PS→RJ
 | 0,_=>none
 | N+1,p=>blkS (stN N) p
def boN:Nat→PS→Bool→RJ
 | 0,_,_=>none
 | N+1,p,b=>(blN N (inBody b p)).bind fun r=>some (r.1,outBody p r.2)
def fnN:Nat→PS→Bs→RJ
 | 0,_,_=>none
 | N+1,p,t=>(pmuS p [40]).bind fun p=>(loopS parS [41] (fuel p) true [] p).bind fun l=>(boN N l.2 true).bind fun b=>some (nd 9 0 t (l.1++[b.1]),b.2)
def inN:Nat→PS→RJ
 | 0,_=>none
 | N+1,p=>(pmuS p [40]).bind fun p=>(exN N p).bind fun e=>(pmuS e.2 [41]).bind fun p=>some (e.1,p)
def ifN:Nat→PS→RJ
 | 0,_=>none
 | N+1,p=>(inN N p).bind fun c=>(blN N c.2).bind fun b =>
  if isB b.2 [101,108,115,101]=true then
   (if isB (onS b.2) [105,102]=true then (ifN N (onS (onS b.2))).bind fun e=>some (nd 22 0 [] [c.1,b.1,e.1],e.2) else (blN N (onS b.2)).bind fun e=>some (nd 22 0 [] [c.1,b.1,e.1],e.2))
  else some (nd 22 0 [] [c.1,b.1],b.2)
def foN:Nat→PS→RJ
 | 0,_=>none
 | N+1,p=>(pmuS p [40]).bind fun p=>(pmuS p [108,101,116]).bind fun p=>(pnmS p).bind fun t=>(pmuS t.2 [111,102]).bind fun p=>(exN N p).bind fun e=>(pmuS e.2 [41]).bind fun p=>(boN N p false).bind fun b=>some (nd 24 0 t.1 [e.1,b.1],b.2)
def tyN:Nat→PS→RJ
 | 0,_=>none
 | N+1,p=>(blN N p).bind fun b =>
  (if isB b.2 [99,97,116,99,104]=true then (pmuS (onS b.2) [40]).bind fun p=>(pnmS p).bind fun t=>(pmuS t.2 [41]).bind fun p=>(blN N p).bind fun c=>some (nd 29 1 t.1 [b.1,c.1],c.2) else some (nd 29 0 [] [b.1],b.2)).bind fun c =>
  (if isB c.2 [102,105,110,97,108,108,121]=true then (blN N (onS c.2)).bind fun f=>some (nd 29 (c.1.lab.2.1+2) c.1.lab.2.2 (c.1.kids++[f.1]),f.2) else some c).bind fun f =>
  if (f.1.lab.2.1==0)=true then none else some f
def exN:Nat→PS→RJ
 | 0,_=>none
 | N+1,p=>(coN N p).bind fun e=>if isB e.2 [61]=true then
   (if (e.1.lab.1==5||e.1.lab.1==12||e.1.lab.1==13)=true then (exN N (onS e.2)).bind fun v=>some (nd 19 0 [] [e.1,v.1],v.2) else none) else some e
def coN:Nat→PS→RJ
 | 0,_=>none
 | N+1,p=>(biN N p 0).bind fun e=>if isB e.2 [63]=true then (exN N (onS e.2)).bind fun a=>(pmuS a.2 [58]).bind fun p=>(exN N p).bind fun b=>some (nd 18 0 [] [e.1,a.1,b.1],b.2) else some e
def biN:Nat→PS→Int→RJ
 | 0,_,_=>none
 | N+1,p,r=>if (r==6)=true then unN N p else (biN N p (r+1)).bind fun e=>loopR (fun q=>biN N q (r+1)) (ranks.getD r.toNat []) (fuel p) e.1 e.2
def unN:Nat→PS→RJ
 | 0,_=>none
 | N+1,p=>match sgn p [[33],[45]] with
  | some s=>(unN N (onS p)).bind fun e=>some (nd 14 0 s [e.1],e.2)
  | none=>(fiN N p).bind fun e=>loopU (exN N) (fuel p) e.1 e.2
def fiN:Nat→PS→RJ
 | 0,_=>none
 | N+1,p =>
  if ((ppkS p).1==2)=true then some (nd 1 (ppkS p).2.2.2.2 [] [],onS p) else
  if ((ppkS p).1==3)=true then some (nd 2 0 (ppkS p).2.2.2.1 [],onS p) else
  if ((ppkS p).1==1)=true then some (nd 5 0 (ppkS p).2.2.2.1 [],onS p) else
  if isB p [116,114,117,101]=true then some (nd 3 1 [] [],onS p) else
  if isB p [102,97,108,115,101]=true then some (nd 3 0 [] [],onS p) else
  if isB p [110,117,108,108]=true then some (nd 4 0 [] [],onS p) else
  if isB p [102,110]=true then fnN N (onS p) [] else
  if isB p [91]=true then (loopS (exN N) [93] (fuel p) true [] (onS p)).bind fun l=>some (nd 6 0 [] l.1,l.2) else
  if isB p [123]=true then (loopS (pairS (exN N)) [125] (fuel p) true [] (onS p)).bind fun l=>some (nd 7 0 [] l.1,l.2) else inN N p
end
example (N:Nat) (p:PS):inN (N+1) p=(pmuS p [40]).bind fun p=>(exN N p).bind fun e=>(pmuS e.2 [41]).bind fun p=>some (e.1,p):=rfl
/-- there is fuel enough -/
def okP (c N:Nat) (p:PS):Prop:=psP p∧40 * (p.1.length - p.2.1.toNat)+c<N
def stP (N:Nat) (p:PS):Prop:=okP 13 N p
def exP (N:Nat) (p:PS):Prop:=okP 12 N p
def coP (N:Nat) (p:PS):Prop:=okP 11 N p
def biP (N:Nat) (p:PS) (r:Int):Prop:=okP (10 - r.toNat) N p∧0≤r∧r≤6
def unP (N:Nat) (p:PS):Prop:=okP 3 N p
def fiP (N:Nat) (p:PS):Prop:=okP 2 N p
def inP (N:Nat) (p:PS):Prop:=okP 1 N p
def blP (N:Nat) (p:PS):Prop:=okP 1 N p
def boP (N:Nat) (p:PS) (_:Bool):Prop:=okP 2 N p
def fnP (N:Nat) (p:PS) (_:Bs):Prop:=okP 3 N p
def ifP (N:Nat) (p:PS):Prop:=okP 2 N p
def foP (N:Nat) (p:PS):Prop:=okP 3 N p
def tyP (N:Nat) (p:PS):Prop:=okP 2 N p
end Go.Proofs.YtalnampdiegmoaaDoor.Ps
