/- The document's reader of scripts: what its functions answer. -/
import Derived.Test.YtalnampdiegmoaaDoorRta
namespace Go.Proofs.YtalnampdiegmoaaDoor.Rf
open Go Go.Eng Go.RowKit Ps
set_option linter.unusedVariables false
noncomputable section
/-- what is left for the program's reader -/
def dp (p:PS):List TK:=p.1.drop p.2.1.toNat
def tkP (p:PS):Prop:=∀ x ∈ p.1,1≤x.1∧x.1≤5∧(x.1=5→x.2.2.2.1≠[123])
/-- both answers are one -/
def Res (o:RJ) (r:JN×TT):Prop:=match o with
 | some x=>r=(x.1,(dp x.2,false))
 | none=>r.2.2=true
/-- what the program's reader answers, told of what the document's is given: fl: within a function, within a loop -/
def Rl (fl:Bool×Bool→Prop) (f:Nat→PS→RJ) (c:Nat) (t:TT) (r:JN×TT):Prop :=
 r.2.1.length≤t.1.length∧(r.2.2=false→r.2.1.length+1≤t.1.length)∧(t.2=true→r.2.2=true)∧(t.2=false→∀ M p,okP c M p→tkP p→fl p.2.2→t.1=dp p→Res (f M p) r)
def whF (w:Int) (x:Bool×Bool):Prop:=x=(w==1||w==3,w==2||w==3)
def anyF (_:Bool×Bool):Prop:=True
def rstR (t:TT) (w:Int) (r:JN×TT):Prop:=Rl (whF w) stN 13 t r
def rblR (t:TT) (w:Int) (r:JN×TT):Prop:=Rl (whF w) blN 1 t r
def rfnR (t:TT) (n:Bs) (r:JN×TT):Prop:=Rl anyF (fun M p=>fnN M p n) 3 t r
def rbrR (t:TT) (r:JN×TT):Prop:=Rl anyF inN 1 t r
def exF (l:Int):Nat→PS→RJ:=if (l==0)=true then exN else fun M p=>biN M p (l - 3)
def rexR (t:TT) (l:Int) (r:JN×TT):Prop:=Rl anyF (exF l) 12 t r
def runR (t:TT) (r:JN×TT):Prop:=Rl anyF unN 3 t r
def rfiR (t:TT) (r:JN×TT):Prop:=Rl anyF fiN 2 t r
def okT (c N:Nat) (t:TT):Prop:=t.1.length≤1000000∧40 * t.1.length+c<N
def rstP (N:Nat) (t:TT) (w:Int):Prop:=okT 14 N t∧0≤w∧w≤3
def rblP (N:Nat) (t:TT) (w:Int):Prop:=okT 1 N t∧0≤w∧w≤3
def rfnP (N:Nat) (t:TT) (_:Bs):Prop:=okT 2 N t
def rbrP (N:Nat) (t:TT):Prop:=okT 13 N t
def rexP (N:Nat) (t:TT) (l:Int):Prop:=okT 12 N t∧(l=0∨4≤l∧l≤9)
def runP (N:Nat) (t:TT):Prop:=okT 4 N t
def rfiP (N:Nat) (t:TT):Prop:=okT 3 N t
def rst_C (N:Nat):Prop:=∀ (g:Ghost) {bxt:Nat} {axt_0:Option Addr} {cxt_0:Nat} (xt:(List (Int×Int×Int×List UInt8×Int))×Bool) (xwhere:Int) (hRxt_0:Rep g yTs [.slice axt_0 xt.1.length cxt_0] xt.1)  (hp:rstP N xt xwhere),CallsH Tryd.prog 23 #[.pointer (some ⟨bxt,0,none⟩),.int .i64 xwhere] g [.blk bxt (.cells #[.slice axt_0 xt.1.length cxt_0,.bool xt.2] 58)] (fun g' H' v=>∃ q0:(Tree (Int×Int×List UInt8))×((List (Int×Int×Int×List UInt8×Int))×Bool),(rstR xt xwhere) q0∧∃ (ar0_0:Option Addr) (cr0_0:Nat),∃ (afxt_0:Option Addr) (cfxt_0:Nat),v=.agg #[.int .i64 q0.1.lab.1,.int .i64 q0.1.lab.2.1,.string ⟨⟨q0.1.lab.2.2⟩⟩,.slice ar0_0 q0.1.kids.length cr0_0]∧Rep g' yJs [.slice ar0_0 q0.1.kids.length cr0_0] q0.1.kids∧Rep g' yTs [.slice afxt_0 q0.2.1.length cfxt_0] q0.2.1∧H'=[.blk bxt (.cells #[.slice afxt_0 q0.2.1.length cfxt_0,.bool q0.2.2] 58)])
def rbl_C (N:Nat):Prop:=∀ (g:Ghost) {bxt:Nat} {axt_0:Option Addr} {cxt_0:Nat} (xt:(List (Int×Int×Int×List UInt8×Int))×Bool) (xwhere:Int) (hRxt_0:Rep g yTs [.slice axt_0 xt.1.length cxt_0] xt.1)  (hp:rblP N xt xwhere),CallsH Tryd.prog 57 #[.pointer (some ⟨bxt,0,none⟩),.int .i64 xwhere] g [.blk bxt (.cells #[.slice axt_0 xt.1.length cxt_0,.bool xt.2] 58)] (fun g' H' v=>∃ q0:(Tree (Int×Int×List UInt8))×((List (Int×Int×Int×List UInt8×Int))×Bool),(rblR xt xwhere) q0∧∃ (ar0_0:Option Addr) (cr0_0:Nat),∃ (afxt_0:Option Addr) (cfxt_0:Nat),v=.agg #[.int .i64 q0.1.lab.1,.int .i64 q0.1.lab.2.1,.string ⟨⟨q0.1.lab.2.2⟩⟩,.slice ar0_0 q0.1.kids.length cr0_0]∧Rep g' yJs [.slice ar0_0 q0.1.kids.length cr0_0] q0.1.kids∧Rep g' yTs [.slice afxt_0 q0.2.1.length cfxt_0] q0.2.1∧H'=[.blk bxt (.cells #[.slice afxt_0 q0.2.1.length cfxt_0,.bool q0.2.2] 58)])
def rfn_C (N:Nat):Prop:=∀ (g:Ghost) {bxt:Nat} {axt_0:Option Addr} {cxt_0:Nat} (xt:(List (Int×Int×Int×List UInt8×Int))×Bool) (xname:List UInt8) (hRxt_0:Rep g yTs [.slice axt_0 xt.1.length cxt_0] xt.1)  (hp:rfnP N xt xname),CallsH Tryd.prog 55 #[.pointer (some ⟨bxt,0,none⟩),.string ⟨⟨xname⟩⟩] g [.blk bxt (.cells #[.slice axt_0 xt.1.length cxt_0,.bool xt.2] 58)] (fun g' H' v=>∃ q0:(Tree (Int×Int×List UInt8))×((List (Int×Int×Int×List UInt8×Int))×Bool),(rfnR xt xname) q0∧∃ (ar0_0:Option Addr) (cr0_0:Nat),∃ (afxt_0:Option Addr) (cfxt_0:Nat),v=.agg #[.int .i64 q0.1.lab.1,.int .i64 q0.1.lab.2.1,.string ⟨⟨q0.1.lab.2.2⟩⟩,.slice ar0_0 q0.1.kids.length cr0_0]∧Rep g' yJs [.slice ar0_0 q0.1.kids.length cr0_0] q0.1.kids∧Rep g' yTs [.slice afxt_0 q0.2.1.length cfxt_0] q0.2.1∧H'=[.blk bxt (.cells #[.slice afxt_0 q0.2.1.length cfxt_0,.bool q0.2.2] 58)])
def rbr_C (N:Nat):Prop:=∀ (g:Ghost) {bxt:Nat} {axt_0:Option Addr} {cxt_0:Nat} (xt:(List (Int×Int×Int×List UInt8×Int))×Bool) (hRxt_0:Rep g yTs [.slice axt_0 xt.1.length cxt_0] xt.1)  (hp:rbrP N xt),CallsH Tryd.prog 56 #[.pointer (some ⟨bxt,0,none⟩)] g [.blk bxt (.cells #[.slice axt_0 xt.1.length cxt_0,.bool xt.2] 58)] (fun g' H' v=>∃ q0:(Tree (Int×Int×List UInt8))×((List (Int×Int×Int×List UInt8×Int))×Bool),(rbrR xt) q0∧∃ (ar0_0:Option Addr) (cr0_0:Nat),∃ (afxt_0:Option Addr) (cfxt_0:Nat),v=.agg #[.int .i64 q0.1.lab.1,.int .i64 q0.1.lab.2.1,.string ⟨⟨q0.1.lab.2.2⟩⟩,.slice ar0_0 q0.1.kids.length cr0_0]∧Rep g' yJs [.slice ar0_0 q0.1.kids.length cr0_0] q0.1.kids∧Rep g' yTs [.slice afxt_0 q0.2.1.length cfxt_0] q0.2.1∧H'=[.blk bxt (.cells #[.slice afxt_0 q0.2.1.length cfxt_0,.bool q0.2.2] 58)])
def rex_C (N:Nat):Prop:=∀ (g:Ghost) {bxt:Nat} {axt_0:Option Addr} {cxt_0:Nat} (xt:(List (Int×Int×Int×List UInt8×Int))×Bool) (xleast:Int) (hRxt_0:Rep g yTs [.slice axt_0 xt.1.length cxt_0] xt.1)  (hp:rexP N xt xleast),CallsH Tryd.prog 54 #[.pointer (some ⟨bxt,0,none⟩),.int .i64 xleast] g [.blk bxt (.cells #[.slice axt_0 xt.1.length cxt_0,.bool xt.2] 58)] (fun g' H' v=>∃ q0:(Tree (Int×Int×List UInt8))×((List (Int×Int×Int×List UInt8×Int))×Bool),(rexR xt xleast) q0∧∃ (ar0_0:Option Addr) (cr0_0:Nat),∃ (afxt_0:Option Addr) (cfxt_0:Nat),v=.agg #[.int .i64 q0.1.lab.1,.int .i64 q0.1.lab.2.1,.string ⟨⟨q0.1.lab.2.2⟩⟩,.slice ar0_0 q0.1.kids.length cr0_0]∧Rep g' yJs [.slice ar0_0 q0.1.kids.length cr0_0] q0.1.kids∧Rep g' yTs [.slice afxt_0 q0.2.1.length cfxt_0] q0.2.1∧H'=[.blk bxt (.cells #[.slice afxt_0 q0.2.1.length cfxt_0,.bool q0.2.2] 58)])
def run_C (N:Nat):Prop:=∀ (g:Ghost) {bxt:Nat} {axt_0:Option Addr} {cxt_0:Nat} (xt:(List (Int×Int×Int×List UInt8×Int))×Bool) (hRxt_0:Rep g yTs [.slice axt_0 xt.1.length cxt_0] xt.1)  (hp:runP N xt),CallsH Tryd.prog 69 #[.pointer (some ⟨bxt,0,none⟩)] g [.blk bxt (.cells #[.slice axt_0 xt.1.length cxt_0,.bool xt.2] 58)] (fun g' H' v=>∃ q0:(Tree (Int×Int×List UInt8))×((List (Int×Int×Int×List UInt8×Int))×Bool),(runR xt) q0∧∃ (ar0_0:Option Addr) (cr0_0:Nat),∃ (afxt_0:Option Addr) (cfxt_0:Nat),v=.agg #[.int .i64 q0.1.lab.1,.int .i64 q0.1.lab.2.1,.string ⟨⟨q0.1.lab.2.2⟩⟩,.slice ar0_0 q0.1.kids.length cr0_0]∧Rep g' yJs [.slice ar0_0 q0.1.kids.length cr0_0] q0.1.kids∧Rep g' yTs [.slice afxt_0 q0.2.1.length cfxt_0] q0.2.1∧H'=[.blk bxt (.cells #[.slice afxt_0 q0.2.1.length cfxt_0,.bool q0.2.2] 58)])
def rfi_C (N:Nat):Prop:=∀ (g:Ghost) {bxt:Nat} {axt_0:Option Addr} {cxt_0:Nat} (xt:(List (Int×Int×Int×List UInt8×Int))×Bool) (hRxt_0:Rep g yTs [.slice axt_0 xt.1.length cxt_0] xt.1)  (hp:rfiP N xt),CallsH Tryd.prog 82 #[.pointer (some ⟨bxt,0,none⟩)] g [.blk bxt (.cells #[.slice axt_0 xt.1.length cxt_0,.bool xt.2] 58)] (fun g' H' v=>∃ q0:(Tree (Int×Int×List UInt8))×((List (Int×Int×Int×List UInt8×Int))×Bool),(rfiR xt) q0∧∃ (ar0_0:Option Addr) (cr0_0:Nat),∃ (afxt_0:Option Addr) (cfxt_0:Nat),v=.agg #[.int .i64 q0.1.lab.1,.int .i64 q0.1.lab.2.1,.string ⟨⟨q0.1.lab.2.2⟩⟩,.slice ar0_0 q0.1.kids.length cr0_0]∧Rep g' yJs [.slice ar0_0 q0.1.kids.length cr0_0] q0.1.kids∧Rep g' yTs [.slice afxt_0 q0.2.1.length cfxt_0] q0.2.1∧H'=[.blk bxt (.cells #[.slice afxt_0 q0.2.1.length cfxt_0,.bool q0.2.2] 58)])
end
end Go.Proofs.YtalnampdiegmoaaDoor.Rf
