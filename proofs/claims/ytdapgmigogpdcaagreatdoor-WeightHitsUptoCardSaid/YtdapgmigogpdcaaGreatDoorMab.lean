/- strings.IndexRune of the five blanks, at any rune; what is decoded. -/
import Derived.Shelf.Strings.Runes
import Derived.Shelf.Small.Utf8
import Derived.Lib.OthersKept
import Derived.Deep.LoopGhost
import Derived.Laws.Runes
import Derived.WalkMore
namespace Go.Proofs.YtdapgmigogpdcaaGreatDoor.Ma
open Go Go.Proofs Go.Shelf Go.RowKit Go.Lib
set_option maxHeartbeats 4000000
set_option maxRecDepth 1000000
set_option linter.unusedVariables false
variable {P:Program} {ρ:Ren}
def ic:ByteArray:=⟨#[32,9,10,12,13]⟩
theorem M7 (r:Int) (h0:128≤r) (hv:Lib.validRune r=true):∃ a b:UInt8,128≤a.toNat∧128≤b.toNat ∧
  (Utf8.encode r=⟨#[a,b]⟩∨(∃ c,Utf8.encode r=⟨#[a,c,b]⟩)∨∃ c d,Utf8.encode r=⟨#[a,c,d,b]⟩):=by
 have hv2:Utf8.valid r=true:=by
  unfold Lib.validRune at hv;have:=of_decide_eq_true hv;unfold Utf8.valid;simp only [Bool.or_eq_true,Bool.and_eq_true,decide_eq_true_eq];omega
 have hb:r≤1114111:=by
  have:=of_decide_eq_true hv;omega
 unfold Utf8.encode;simp only [hv2,if_true];rw [if_neg (by omega)]
 by_cases h1:r.toNat<2048
 ·rw [if_pos h1];exact ⟨_,_,by rw [UInt8.toNat_ofNat']; omega,by rw [UInt8.toNat_ofNat']; omega,.inl rfl⟩
 rw [if_neg h1]
 by_cases h2:r.toNat<65536
 ·rw [if_pos h2];exact ⟨_,_,by rw [UInt8.toNat_ofNat']; omega,by rw [UInt8.toNat_ofNat']; omega,.inr (.inl ⟨_,rfl⟩)⟩
 rw [if_neg h2];exact ⟨_,_,by rw [UInt8.toNat_ofNat']; omega,by rw [UInt8.toNat_ofNat']; omega,.inr (.inr ⟨_,_,rfl⟩)⟩
theorem zG (l:List UInt8) (hl:∀ x ∈ l,x.toNat<128) (b:UInt8) (hb:128≤b.toNat):Lib.indexByte l b = -1:=by
 induction l with
 | nil=>rfl
 | cons x l ih =>
  have hx:=hl x (List.mem_cons_self ..)
  have hne:x≠b:=fun h=>by subst h; omega
  unfold Lib.indexByte;rw [ih fun y hy=>hl y (List.mem_cons_of_mem _ hy)];simp [hne]
theorem Dt (L:Lays.n152 P ρ) (r:Int) (w:World) (h0:128≤r) (hv:Lib.validRune r=true) :
  Calls P (ρ.f 152) #[.string ic,.int .i32 r] w fun e w'=>e=.returned (.int .i64 (-1))∧Below w.heap.size w w':=by
 have t0:=L.t0; have a0:=L.a0; have z0:=L.z0; have v0:=L.v0;have t3:=L.t3; have a3:=L.a3; have z3:=L.z3; have v3:=L.v3;have t4:=L.t4; have a4:=L.a4; have z4:=L.z4; have v4:=L.v4;have t5:=L.t5; have a5:=L.a5; have z5:=L.z5; have v5:=L.v5;have t9:=L.t9; have a9:=L.a9; have z9:=L.z9; have v9:=L.v9;have t21:=L.t21; have a21:=L.a21; have z21:=L.z21; have v21:=L.v21;have t46:=L.t46; have a46:=L.a46; have z46:=L.z46; have v46:=L.v46;have mixed:=L.mixed;have e137:∀ args w,(callFunc (ρ.f 137) args).run P w=.ok (.enter (ρ.f 137) args) w:=enters_of L.f137 (by kernel_rfl) rfl;have e119:∀ args w,(callFunc (ρ.f 119) args).run P w=.ok (.enter (ρ.f 119) args) w:=enters_of L.f119 (by kernel_rfl) rfl
 have h128:¬ (r<128):=by omega
 have hsz:(ic.size:Int)=5:=rfl
 by_cases hr:r=65533
 ·subst hr
  go_enter L.f152,Body.n152_ntmps ρ
  go_wp2
  go_loopg [] 5 (fun g wx=>∃ i:Nat,i+g=5∧wx=w.iter ic i)
  case atStart=>exact ⟨0,rfl,rfl⟩
  case round =>
   obtain ⟨i,hig,rfl⟩:=hrel
   cases gk with
   | zero =>
    obtain rfl:i=5:=by omega
    have hnx:=fun ty=>run_next_end (P:=P) w ic 5 ty (by decide)
    go_wp2
    go_ret
    exact ⟨rfl,(Below.refl _ w).alloc (Nat.le_refl _) _⟩
   | succ g =>
    have hi:i<ic.size:=by show i<5; omega
    obtain ⟨x,hx⟩:∃ x:UInt8,ic[i]'hi=x:=⟨_,rfl⟩
    have hx128:x.toNat<128:=by
     rw [← hx]
     rcases (show i=0∨i=1∨i=2∨i=3∨i=4 by omega) with rfl | rfl | rfl | rfl | rfl <;> (show (_:Nat)<128; first | exact (by decide:(32:UInt8).toNat<128) | exact (by decide:(9:UInt8).toNat<128) | exact (by decide:(10:UInt8).toNat<128) | exact (by decide:(12:UInt8).toNat<128) | exact (by decide:(13:UInt8).toNat<128))
    have hne:((x.toNat:Int)==65533)=false:=beq_eq_false_iff_ne.2 (by omega);have hnx:=fun ty=>run_next_ascii (P:=P) w ic i ty hi (by rw [hx]; exact hx128);rw [hx] at hnx
    go_wp2
    go_roundg g
    case measure=>omega
    case rel=>exact ⟨i+1,by omega,rfl⟩
 have hrb:(r==65533)=false:=by simp [hr]
 obtain ⟨a,b,ha,hb,hc⟩:=M7 r h0 hv
 rcases hc with hc | ⟨c,hc⟩ | ⟨c,d,hc⟩
 ·have Uj:(P.underlying (ρ.t 21)).isSome=true:=by rw [t21]; rfl
  have hcv:=fun w=>run_convert_int_string (P:=P) w (ρ.t 21) (ρ.t 9) .i32 r Uj t9;rw [hc] at hcv
  go_enter L.f152,Body.n152_ntmps ρ
  go_wp2_with (go_at_fn (ρ.f 119); refine (Any.utf8_ValidRune { L with } _ _).mono ?_; rintro e w' ⟨rfl,hw⟩; rw [hw,hv])
  have hd:(((ic[1]'(by decide)).toNat:Int) != (((⟨#[a,b]⟩:ByteArray)[1]'(show 1<2 by omega)).toNat:Int))=true:=by
   show ((9:Int) != (b.toNat:Int))=true;rw [bne_iff_ne]; omega
  have cI:∀ W,Calls P (ρ.f 137) #[.string (ic.extract 2 ic.size),.int .u8 (((⟨#[a,b]⟩:ByteArray)[1]'(show 1<2 by omega)).toNat:Int)] W fun e w'=>e=.returned (.int .i64 (-1))∧w'=W:=fun W=>by
   have:=Any.strings_IndexByte (P:=P) (ρ:=ρ) { L with } (ic.extract 2 ic.size) (((⟨#[a,b]⟩:ByteArray)[1]'(show 1<2 by omega)).toNat:Int) W;rw [show ((((⟨#[a,b]⟩:ByteArray)[1]'(show 1<2 by omega)).toNat:Int)).toNat.toUInt8=b by show ((b.toNat:Int)).toNat.toUInt8=b; simp,zG _ (by decide) b hb] at this;exact this
  apply wp_scope_straight;clear hc ha hv hr hrb hw e119
  go_wp2
  go_loopg [9] 1 (fun g s9 wx=>s9=.int .i64 1∧wx=w)
  case atStart=>exact ⟨rfl,rfl⟩
  case round =>
   obtain ⟨rfl,rfl⟩:=hrel
   go_wp2
   go_step3
   go_wp2
   go_region_o
   go_wp2
   go_region_with_o (refine (cI _).mono ?_; rintro e w' ⟨rfl,hw⟩; rw [hw])
   all_goals (
    go_wp2
    simp only [Exit.noGoto_ret,Exit.inBlock,Exit.then]
    go_ret
    exact ⟨rfl,Below.drew (Below.drew (Below.refl _ _))⟩)
 ·have Uj:(P.underlying (ρ.t 21)).isSome=true:=by rw [t21]; rfl
  have hcv:=fun w=>run_convert_int_string (P:=P) w (ρ.t 21) (ρ.t 9) .i32 r Uj t9;rw [hc] at hcv
  go_enter L.f152,Body.n152_ntmps ρ
  go_wp2_with (go_at_fn (ρ.f 119); refine (Any.utf8_ValidRune { L with } _ _).mono ?_; rintro e w' ⟨rfl,hw⟩; rw [hw,hv])
  have hd:(((ic[2]'(by decide)).toNat:Int) != (((⟨#[a,c,b]⟩:ByteArray)[2]'(show 2<3 by omega)).toNat:Int))=true:=by
   show ((10:Int) != (b.toNat:Int))=true;rw [bne_iff_ne]; omega
  have cI:∀ W,Calls P (ρ.f 137) #[.string (ic.extract 3 ic.size),.int .u8 (((⟨#[a,c,b]⟩:ByteArray)[2]'(show 2<3 by omega)).toNat:Int)] W fun e w'=>e=.returned (.int .i64 (-1))∧w'=W:=fun W=>by
   have:=Any.strings_IndexByte (P:=P) (ρ:=ρ) { L with } (ic.extract 3 ic.size) (((⟨#[a,c,b]⟩:ByteArray)[2]'(show 2<3 by omega)).toNat:Int) W;rw [show ((((⟨#[a,c,b]⟩:ByteArray)[2]'(show 2<3 by omega)).toNat:Int)).toNat.toUInt8=b by show ((b.toNat:Int)).toNat.toUInt8=b; simp,zG _ (by decide) b hb] at this;exact this
  apply wp_scope_straight;clear hc ha hv hr hrb hw e119
  go_wp2
  go_loopg [9] 1 (fun g s9 wx=>s9=.int .i64 2∧wx=w)
  case atStart=>exact ⟨rfl,rfl⟩
  case round =>
   obtain ⟨rfl,rfl⟩:=hrel
   go_wp2
   go_step3
   go_wp2
   go_region_o
   go_wp2
   go_region_with_o (refine (cI _).mono ?_; rintro e w' ⟨rfl,hw⟩; rw [hw])
   all_goals (
    go_wp2
    simp only [Exit.noGoto_ret,Exit.inBlock,Exit.then]
    go_ret
    exact ⟨rfl,Below.drew (Below.drew (Below.refl _ _))⟩)
 have Uj:(P.underlying (ρ.t 21)).isSome=true:=by rw [t21]; rfl
 have hcv:=fun w=>run_convert_int_string (P:=P) w (ρ.t 21) (ρ.t 9) .i32 r Uj t9;rw [hc] at hcv
 go_enter L.f152,Body.n152_ntmps ρ
 go_wp2_with (go_at_fn (ρ.f 119); refine (Any.utf8_ValidRune { L with } _ _).mono ?_; rintro e w' ⟨rfl,hw⟩; rw [hw,hv])
 have hd:(((ic[3]'(by decide)).toNat:Int) != (((⟨#[a,c,d,b]⟩:ByteArray)[3]'(show 3<4 by omega)).toNat:Int))=true:=by
  show ((12:Int) != (b.toNat:Int))=true;rw [bne_iff_ne]; omega
 have cI:∀ W,Calls P (ρ.f 137) #[.string (ic.extract 4 ic.size),.int .u8 (((⟨#[a,c,d,b]⟩:ByteArray)[3]'(show 3<4 by omega)).toNat:Int)] W fun e w'=>e=.returned (.int .i64 (-1))∧w'=W:=fun W=>by
  have:=Any.strings_IndexByte (P:=P) (ρ:=ρ) { L with } (ic.extract 4 ic.size) (((⟨#[a,c,d,b]⟩:ByteArray)[3]'(show 3<4 by omega)).toNat:Int) W;rw [show ((((⟨#[a,c,d,b]⟩:ByteArray)[3]'(show 3<4 by omega)).toNat:Int)).toNat.toUInt8=b by show ((b.toNat:Int)).toNat.toUInt8=b; simp,zG _ (by decide) b hb] at this;exact this
 apply wp_scope_straight;clear hc ha hv hr hrb hw e119
 go_wp2
 go_loopg [9] 1 (fun g s9 wx=>s9=.int .i64 3∧wx=w)
 case atStart=>exact ⟨rfl,rfl⟩
 case round =>
  obtain ⟨rfl,rfl⟩:=hrel
  go_wp2
  go_step3
  go_wp2
  go_region_o
  go_wp2
  go_region_with_o (refine (cI _).mono ?_; rintro e w' ⟨rfl,hw⟩; rw [hw])
  all_goals (
   go_wp2
   simp only [Exit.noGoto_ret,Exit.inBlock,Exit.then]
   go_ret
   exact ⟨rfl,Below.drew (Below.drew (Below.refl _ _))⟩)
theorem Ez (L:Lays.n152 P ρ) (r:Int) (w:World) (h0:128≤r) (hv:Lib.validRune r=false) :
  Calls P (ρ.f 152) #[.string ic,.int .i32 r] w fun e w'=>e=.returned (.int .i64 (-1))∧Below w.heap.size w w':=by
 have t0:=L.t0; have a0:=L.a0; have z0:=L.z0; have v0:=L.v0;have t3:=L.t3; have a3:=L.a3; have z3:=L.z3; have v3:=L.v3;have t4:=L.t4; have a4:=L.a4; have z4:=L.z4; have v4:=L.v4;have t5:=L.t5; have a5:=L.a5; have z5:=L.z5; have v5:=L.v5;have t9:=L.t9; have a9:=L.a9; have z9:=L.z9; have v9:=L.v9;have t21:=L.t21; have a21:=L.a21; have z21:=L.z21; have v21:=L.v21;have t46:=L.t46; have a46:=L.a46; have z46:=L.z46; have v46:=L.v46;have mixed:=L.mixed;have e137:∀ args w,(callFunc (ρ.f 137) args).run P w=.ok (.enter (ρ.f 137) args) w:=enters_of L.f137 (by kernel_rfl) rfl;have e119:∀ args w,(callFunc (ρ.f 119) args).run P w=.ok (.enter (ρ.f 119) args) w:=enters_of L.f119 (by kernel_rfl) rfl
 have h128:¬ (r<128):=by omega
 have hr:r≠65533:=fun h=>by rw [h] at hv; exact absurd hv (by decide)
 have hrb:(r==65533)=false:=by simp [hr]
 go_enter L.f152,Body.n152_ntmps ρ
 go_wp2_with (go_at_fn (ρ.f 119); refine (Any.utf8_ValidRune { L with } _ _).mono ?_; rintro e w' ⟨rfl,hw⟩; rw [hw,hv])
 go_wp2
 go_ret
 exact ⟨rfl,Below.refl _ _⟩
theorem decode_two (s:ByteArray) (i:Nat) (hi:i<s.size):((Utf8.decode s i).1=(s.get! i).toNat∧(s.get! i).toNat<128∧(Utf8.decode s i).2=1) ∨
  (128≤(Utf8.decode s i).1∧Lib.validRune ((Utf8.decode s i).1:Int)=true∧1≤(Utf8.decode s i).2∧i+(Utf8.decode s i).2≤s.size∧∀ k,k<(Utf8.decode s i).2→128≤(s.get! (i+k)).toNat):=by
 have hb0:=(s.get! (i+0)).toNat_lt
 have hbad:128≤(s.get! (i+0)).toNat→128≤Utf8.runeError∧Lib.validRune (Utf8.runeError:Int)=true∧1≤1∧i+1≤s.size∧∀ k,k<1→128≤(s.get! (i+k)).toNat:=fun h=>by
  refine ⟨by decide,by decide,by omega,by omega,fun k hk=>?_⟩
  obtain rfl:k=0:=by omega
  exact h
 unfold Utf8.decode;simp only
 split
 ·rename_i h
  exact .inl ⟨rfl,h,rfl⟩
 rename_i h
 right
 split
 ·rename_i h1
  simp only [Bool.and_eq_true,decide_eq_true_eq,beq_iff_eq] at h1
  split
  ·rename_i h2
   refine ⟨by omega,?_,by omega,by omega,fun k hk=>?_⟩
   ·unfold Lib.validRune; rw [decide_eq_true_eq]; omega
   rcases (show k=0∨k=1 by omega) with rfl | rfl <;> omega
  exact hbad (by omega)
 split
 ·rename_i h1
  simp only [Bool.and_eq_true,decide_eq_true_eq,beq_iff_eq] at h1
  split
  ·rename_i h2
   unfold Utf8.valid at h2;simp only [Bool.and_eq_true,Bool.or_eq_true,decide_eq_true_eq] at h2;refine ⟨by omega,?_,by omega,by omega,fun k hk=>?_⟩
   ·unfold Lib.validRune; rw [decide_eq_true_eq]; omega
   rcases (show k=0∨k=1∨k=2 by omega) with rfl | rfl | rfl <;> omega
  exact hbad (by omega)
 split
 ·rename_i h1
  simp only [Bool.and_eq_true,decide_eq_true_eq,beq_iff_eq] at h1
  split
  ·rename_i h2
   unfold Utf8.valid at h2;simp only [Bool.and_eq_true,Bool.or_eq_true,decide_eq_true_eq] at h2;refine ⟨by omega,?_,by omega,by omega,fun k hk=>?_⟩
   ·unfold Lib.validRune; rw [decide_eq_true_eq]; omega
   rcases (show k=0∨k=1∨k=2∨k=3 by omega) with rfl | rfl | rfl | rfl <;> omega
  exact hbad (by omega)
 exact hbad (by omega)
end Go.Proofs.YtdapgmigogpdcaaGreatDoor.Ma
