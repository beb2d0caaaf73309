/- A stable sort, as the library has it: merges in place. -/
import Derived.Test.YtjkimpnppldekaaSso
namespace Go.Proofs.Ytjkimpnppldekaa.So
open Go Go.Eng Go.RowKit
set_option linter.unusedVariables false
open Stb in
def symS (l : List Int) (a m b : Int) (c : Int → Int → Int) : List Int := l.take a.toNat ++ mrg (ltc c) ((l.drop a.toNat).take (m - a).toNat) ((l.drop m.toNat).take (b - m).toNat) ++ l.drop b.toNat
open Stb in
def symP (N : Nat) (l : List Int) (a m b : Int) (c : Int → Int → Int) (p : Int → Int → Prop) : Prop := 0 ≤ a ∧ a < m ∧ m < b ∧ b ≤ l.length ∧ l.length ≤ 100000 ∧ b - a ≤ (N : Int) ∧ Wk (ltc c) ∧ (∀ x ∈ l, ∀ y ∈ l, p x y) ∧ Srt (ltc c) ((l.drop a.toNat).take (m - a).toNat) ∧ Srt (ltc c) ((l.drop m.toNat).take (b - m).toNat)
def sym_C (N : Nat) : Prop := ∀ (g : Ghost) {axdata : Option Addr} {cxdata : Nat} {xsxdata : List Value} (xdata : List (Int)) (xa : Int) (xm : Int) (xb : Int) {vxcmp : Value} (xcmp : Int → Int → Int) (pxcmp : Int → Int → Prop) (hLxdata : RepL g (.int .i64) xsxdata xdata) (hfxcmp : ∀ (y0 : Int) (y1 : Int), pxcmp y0 y1 → FnG Try.prog vxcmp #[.int .i64 y0, .int .i64 y1] g (.int .i64 (xcmp y0 y1)))  (hp : symP N xdata xa xm xb xcmp pxcmp), CallsH Try.prog 18 #[.slice axdata xdata.length cxdata, .int .i64 xa, .int .i64 xm, .int .i64 xb, vxcmp] g [.own (.slice axdata xdata.length cxdata) 3 1 xdata.length xsxdata] (fun g' H' v => ∃ (xsfxdata : List Value), v = .tuple #[] ∧ RepL g' (.int .i64) xsfxdata (symS xdata xa xm xb xcmp) ∧ H' = [.own (.slice axdata (symS xdata xa xm xb xcmp).length cxdata) 3 1 (symS xdata xa xm xb xcmp).length xsfxdata] ∧ (symS xdata xa xm xb xcmp).length = xdata.length)
def symV0 (xa : Int) (xm : Int) (xb : Int) : Int :=
  (if (decide (xm > (IntKind.wrap .i64 (Int.fdiv (IntKind.wrap .u64 (IntKind.wrap .i64 (xa + xb))) (2 ^ 1))))) = true then IntKind.wrap .i64 ((IntKind.wrap .i64 ((IntKind.wrap .i64 (Int.fdiv (IntKind.wrap .u64 (IntKind.wrap .i64 (xa + xb))) (2 ^ 1))) + xm)) - xb) else xa)
def symV1 (xa : Int) (xm : Int) (xb : Int) : Int :=
  (if (decide (xm > (IntKind.wrap .i64 (Int.fdiv (IntKind.wrap .u64 (IntKind.wrap .i64 (xa + xb))) (2 ^ 1))))) = true then IntKind.wrap .i64 (Int.fdiv (IntKind.wrap .u64 (IntKind.wrap .i64 (xa + xb))) (2 ^ 1)) else xm)
def symV2 (xdata : List (Int)) (xa : Int) (xm : Int) (xb : Int) (xcmp : Int → Int → Int) (x20l105 : Int) : List (Int) :=
  (if ((decide (x20l105 < xm)) && (decide (xm < (IntKind.wrap .i64 ((IntKind.wrap .i64 ((IntKind.wrap .i64 (Int.fdiv (IntKind.wrap .u64 (IntKind.wrap .i64 (xa + xb))) (2 ^ 1))) + xm)) - x20l105))))) = true then (sroS xdata x20l105 xm (IntKind.wrap .i64 ((IntKind.wrap .i64 ((IntKind.wrap .i64 (Int.fdiv (IntKind.wrap .u64 (IntKind.wrap .i64 (xa + xb))) (2 ^ 1))) + xm)) - x20l105)) xcmp) else xdata)
def symV3 (xdata : List (Int)) (xa : Int) (xm : Int) (xb : Int) (xcmp : Int → Int → Int) (x20l105 : Int) : List (Int) :=
  (if ((decide (xa < x20l105)) && (decide (x20l105 < (IntKind.wrap .i64 (Int.fdiv (IntKind.wrap .u64 (IntKind.wrap .i64 (xa + xb))) (2 ^ 1)))))) = true then (symS (symV2 xdata xa xm xb xcmp x20l105) xa x20l105 (IntKind.wrap .i64 (Int.fdiv (IntKind.wrap .u64 (IntKind.wrap .i64 (xa + xb))) (2 ^ 1))) xcmp) else (symV2 xdata xa xm xb xcmp x20l105))
def syml30b (K : (List (Int)) → Prop) (x10l11 : Int) (x13l30 : Int) (yown_xdata_0l30 : List (Int)) (C30 : Int → (List (Int)) → Prop) : Prop :=
  ((decide (x13l30 < (IntKind.wrap .i64 (x10l11 - 1)))) = true → (0 : Int) ≤ (IntKind.wrap .i64 (x13l30 + 1)) ∧ Int.toNat (IntKind.wrap .i64 (x13l30 + 1)) < yown_xdata_0l30.length ∧ (0 : Int) ≤ x13l30 ∧ Int.toNat x13l30 < yown_xdata_0l30.length ∧ (0 : Int) ≤ (IntKind.wrap .i64 (x13l30 + 1)) ∧ Int.toNat (IntKind.wrap .i64 (x13l30 + 1)) < (yown_xdata_0l30.set (Int.toNat x13l30) (yown_xdata_0l30.getD (Int.toNat (IntKind.wrap .i64 (x13l30 + 1))) default)).length ∧ C30 (IntKind.wrap .i64 (x13l30 + 1)) ((yown_xdata_0l30.set (Int.toNat x13l30) (yown_xdata_0l30.getD (Int.toNat (IntKind.wrap .i64 (x13l30 + 1))) default)).set (Int.toNat (IntKind.wrap .i64 (x13l30 + 1))) (yown_xdata_0l30.getD (Int.toNat x13l30) default))) ∧ ((decide (x13l30 < (IntKind.wrap .i64 (x10l11 - 1)))) = false → K yown_xdata_0l30)
def syml30 (K : (List (Int)) → Prop) (x10l11 : Int) : Nat → Int → (List (Int)) → Prop
  | 0, _, _ => False
  | k + 1, x13l30, yown_xdata_0l30 => syml30b K x10l11 x13l30 yown_xdata_0l30 (syml30 K x10l11 k)
def syml11b (xdata : List (Int)) (xa : Int) (xcmp : Int → Int → Int) (pxcmp : Int → Int → Prop) (K : (List (Int)) → Prop) (x10l11 : Int) (x11l11 : Int) (C11 : Int → Int → Prop) : Prop :=
  ((decide (x10l11 < x11l11)) = true → (0 : Int) ≤ (IntKind.wrap .i64 (Int.fdiv (IntKind.wrap .u64 (IntKind.wrap .i64 (x10l11 + x11l11))) (2 ^ 1))) ∧ Int.toNat (IntKind.wrap .i64 (Int.fdiv (IntKind.wrap .u64 (IntKind.wrap .i64 (x10l11 + x11l11))) (2 ^ 1))) < xdata.length ∧ (0 : Int) ≤ xa ∧ Int.toNat xa < xdata.length ∧ pxcmp (xdata.getD (Int.toNat (IntKind.wrap .i64 (Int.fdiv (IntKind.wrap .u64 (IntKind.wrap .i64 (x10l11 + x11l11))) (2 ^ 1)))) default) (xdata.getD (Int.toNat xa) default) ∧ ((decide ((xcmp (xdata.getD (Int.toNat (IntKind.wrap .i64 (Int.fdiv (IntKind.wrap .u64 (IntKind.wrap .i64 (x10l11 + x11l11))) (2 ^ 1)))) default) (xdata.getD (Int.toNat xa) default)) < 0)) = true → C11 (IntKind.wrap .i64 ((IntKind.wrap .i64 (Int.fdiv (IntKind.wrap .u64 (IntKind.wrap .i64 (x10l11 + x11l11))) (2 ^ 1))) + 1)) x11l11) ∧ ((decide ((xcmp (xdata.getD (Int.toNat (IntKind.wrap .i64 (Int.fdiv (IntKind.wrap .u64 (IntKind.wrap .i64 (x10l11 + x11l11))) (2 ^ 1)))) default) (xdata.getD (Int.toNat xa) default)) < 0)) = false → C11 x10l11 (IntKind.wrap .i64 (Int.fdiv (IntKind.wrap .u64 (IntKind.wrap .i64 (x10l11 + x11l11))) (2 ^ 1))))) ∧ ((decide (x10l11 < x11l11)) = false → ∃ k, syml30 K x10l11 k xa xdata)
def syml11 (xdata : List (Int)) (xa : Int) (xcmp : Int → Int → Int) (pxcmp : Int → Int → Prop) (K : (List (Int)) → Prop) : Nat → Int → Int → Prop
  | 0, _, _ => False
  | k + 1, x10l11, x11l11 => syml11b xdata xa xcmp pxcmp K x10l11 x11l11 (syml11 xdata xa xcmp pxcmp K k)
def syml72b (K : (List (Int)) → Prop) (x14l53 : Int) (x17l72 : Int) (yown_xdata_0l72 : List (Int)) (C72 : Int → (List (Int)) → Prop) : Prop :=
  ((decide (x17l72 > x14l53)) = true → (0 : Int) ≤ (IntKind.wrap .i64 (x17l72 - 1)) ∧ Int.toNat (IntKind.wrap .i64 (x17l72 - 1)) < yown_xdata_0l72.length ∧ (0 : Int) ≤ x17l72 ∧ Int.toNat x17l72 < yown_xdata_0l72.length ∧ (0 : Int) ≤ (IntKind.wrap .i64 (x17l72 - 1)) ∧ Int.toNat (IntKind.wrap .i64 (x17l72 - 1)) < (yown_xdata_0l72.set (Int.toNat x17l72) (yown_xdata_0l72.getD (Int.toNat (IntKind.wrap .i64 (x17l72 - 1))) default)).length ∧ C72 (IntKind.wrap .i64 (x17l72 - 1)) ((yown_xdata_0l72.set (Int.toNat x17l72) (yown_xdata_0l72.getD (Int.toNat (IntKind.wrap .i64 (x17l72 - 1))) default)).set (Int.toNat (IntKind.wrap .i64 (x17l72 - 1))) (yown_xdata_0l72.getD (Int.toNat x17l72) default))) ∧ ((decide (x17l72 > x14l53)) = false → K yown_xdata_0l72)
def syml72 (K : (List (Int)) → Prop) (x14l53 : Int) : Nat → Int → (List (Int)) → Prop
  | 0, _, _ => False
  | k + 1, x17l72, yown_xdata_0l72 => syml72b K x14l53 x17l72 yown_xdata_0l72 (syml72 K x14l53 k)
def syml53b (xdata : List (Int)) (xm : Int) (xcmp : Int → Int → Int) (pxcmp : Int → Int → Prop) (K : (List (Int)) → Prop) (x14l53 : Int) (x15l53 : Int) (C53 : Int → Int → Prop) : Prop :=
  ((decide (x14l53 < x15l53)) = true → (0 : Int) ≤ xm ∧ Int.toNat xm < xdata.length ∧ (0 : Int) ≤ (IntKind.wrap .i64 (Int.fdiv (IntKind.wrap .u64 (IntKind.wrap .i64 (x14l53 + x15l53))) (2 ^ 1))) ∧ Int.toNat (IntKind.wrap .i64 (Int.fdiv (IntKind.wrap .u64 (IntKind.wrap .i64 (x14l53 + x15l53))) (2 ^ 1))) < xdata.length ∧ pxcmp (xdata.getD (Int.toNat xm) default) (xdata.getD (Int.toNat (IntKind.wrap .i64 (Int.fdiv (IntKind.wrap .u64 (IntKind.wrap .i64 (x14l53 + x15l53))) (2 ^ 1)))) default) ∧ ((!(decide ((xcmp (xdata.getD (Int.toNat xm) default) (xdata.getD (Int.toNat (IntKind.wrap .i64 (Int.fdiv (IntKind.wrap .u64 (IntKind.wrap .i64 (x14l53 + x15l53))) (2 ^ 1)))) default)) < 0))) = true → C53 (IntKind.wrap .i64 ((IntKind.wrap .i64 (Int.fdiv (IntKind.wrap .u64 (IntKind.wrap .i64 (x14l53 + x15l53))) (2 ^ 1))) + 1)) x15l53) ∧ ((!(decide ((xcmp (xdata.getD (Int.toNat xm) default) (xdata.getD (Int.toNat (IntKind.wrap .i64 (Int.fdiv (IntKind.wrap .u64 (IntKind.wrap .i64 (x14l53 + x15l53))) (2 ^ 1)))) default)) < 0))) = false → C53 x14l53 (IntKind.wrap .i64 (Int.fdiv (IntKind.wrap .u64 (IntKind.wrap .i64 (x14l53 + x15l53))) (2 ^ 1))))) ∧ ((decide (x14l53 < x15l53)) = false → ∃ k, syml72 K x14l53 k xm xdata)
def syml53 (xdata : List (Int)) (xm : Int) (xcmp : Int → Int → Int) (pxcmp : Int → Int → Prop) (K : (List (Int)) → Prop) : Nat → Int → Int → Prop
  | 0, _, _ => False
  | k + 1, x14l53, x15l53 => syml53b xdata xm xcmp pxcmp K x14l53 x15l53 (syml53 xdata xm xcmp pxcmp K k)
def symj128 (N : Nat) (xdata : List (Int)) (xa : Int) (xm : Int) (xb : Int) (xcmp : Int → Int → Int) (pxcmp : Int → Int → Prop) (K : (List (Int)) → Prop) (x20l105 : Int) : Prop :=
  ((((decide ((IntKind.wrap .i64 (Int.fdiv (IntKind.wrap .u64 (IntKind.wrap .i64 (xa + xb))) (2 ^ 1))) < (IntKind.wrap .i64 ((IntKind.wrap .i64 ((IntKind.wrap .i64 (Int.fdiv (IntKind.wrap .u64 (IntKind.wrap .i64 (xa + xb))) (2 ^ 1))) + xm)) - x20l105)))) && (decide ((IntKind.wrap .i64 ((IntKind.wrap .i64 ((IntKind.wrap .i64 (Int.fdiv (IntKind.wrap .u64 (IntKind.wrap .i64 (xa + xb))) (2 ^ 1))) + xm)) - x20l105)) < xb)))) = true → symP N (symV3 xdata xa xm xb xcmp x20l105) (IntKind.wrap .i64 (Int.fdiv (IntKind.wrap .u64 (IntKind.wrap .i64 (xa + xb))) (2 ^ 1))) (IntKind.wrap .i64 ((IntKind.wrap .i64 ((IntKind.wrap .i64 (Int.fdiv (IntKind.wrap .u64 (IntKind.wrap .i64 (xa + xb))) (2 ^ 1))) + xm)) - x20l105)) xb xcmp pxcmp ∧ K (symS (symV3 xdata xa xm xb xcmp x20l105) (IntKind.wrap .i64 (Int.fdiv (IntKind.wrap .u64 (IntKind.wrap .i64 (xa + xb))) (2 ^ 1))) (IntKind.wrap .i64 ((IntKind.wrap .i64 ((IntKind.wrap .i64 (Int.fdiv (IntKind.wrap .u64 (IntKind.wrap .i64 (xa + xb))) (2 ^ 1))) + xm)) - x20l105)) xb xcmp)) ∧ ((((decide ((IntKind.wrap .i64 (Int.fdiv (IntKind.wrap .u64 (IntKind.wrap .i64 (xa + xb))) (2 ^ 1))) < (IntKind.wrap .i64 ((IntKind.wrap .i64 ((IntKind.wrap .i64 (Int.fdiv (IntKind.wrap .u64 (IntKind.wrap .i64 (xa + xb))) (2 ^ 1))) + xm)) - x20l105)))) && (decide ((IntKind.wrap .i64 ((IntKind.wrap .i64 ((IntKind.wrap .i64 (Int.fdiv (IntKind.wrap .u64 (IntKind.wrap .i64 (xa + xb))) (2 ^ 1))) + xm)) - x20l105)) < xb)))) = false → K (symV3 xdata xa xm xb xcmp x20l105))
def symj122 (N : Nat) (xdata : List (Int)) (xa : Int) (xm : Int) (xb : Int) (xcmp : Int → Int → Int) (pxcmp : Int → Int → Prop) (K : (List (Int)) → Prop) (x20l105 : Int) : Prop :=
  ((((decide (xa < x20l105)) && (decide (x20l105 < (IntKind.wrap .i64 (Int.fdiv (IntKind.wrap .u64 (IntKind.wrap .i64 (xa + xb))) (2 ^ 1))))))) = true → symP N (symV2 xdata xa xm xb xcmp x20l105) xa x20l105 (IntKind.wrap .i64 (Int.fdiv (IntKind.wrap .u64 (IntKind.wrap .i64 (xa + xb))) (2 ^ 1))) xcmp pxcmp ∧ symj128 N xdata xa xm xb xcmp pxcmp K x20l105) ∧ ((((decide (xa < x20l105)) && (decide (x20l105 < (IntKind.wrap .i64 (Int.fdiv (IntKind.wrap .u64 (IntKind.wrap .i64 (xa + xb))) (2 ^ 1))))))) = false → symj128 N xdata xa xm xb xcmp pxcmp K x20l105)
def syml105b (N : Nat) (xdata : List (Int)) (xa : Int) (xm : Int) (xb : Int) (xcmp : Int → Int → Int) (pxcmp : Int → Int → Prop) (K : (List (Int)) → Prop) (x20l105 : Int) (x21l105 : Int) (C105 : Int → Int → Prop) : Prop :=
  ((decide (x20l105 < x21l105)) = true → (0 : Int) ≤ (IntKind.wrap .i64 ((IntKind.wrap .i64 ((IntKind.wrap .i64 ((IntKind.wrap .i64 (Int.fdiv (IntKind.wrap .u64 (IntKind.wrap .i64 (xa + xb))) (2 ^ 1))) + xm)) - 1)) - (IntKind.wrap .i64 (Int.fdiv (IntKind.wrap .u64 (IntKind.wrap .i64 (x20l105 + x21l105))) (2 ^ 1))))) ∧ Int.toNat (IntKind.wrap .i64 ((IntKind.wrap .i64 ((IntKind.wrap .i64 ((IntKind.wrap .i64 (Int.fdiv (IntKind.wrap .u64 (IntKind.wrap .i64 (xa + xb))) (2 ^ 1))) + xm)) - 1)) - (IntKind.wrap .i64 (Int.fdiv (IntKind.wrap .u64 (IntKind.wrap .i64 (x20l105 + x21l105))) (2 ^ 1))))) < xdata.length ∧ (0 : Int) ≤ (IntKind.wrap .i64 (Int.fdiv (IntKind.wrap .u64 (IntKind.wrap .i64 (x20l105 + x21l105))) (2 ^ 1))) ∧ Int.toNat (IntKind.wrap .i64 (Int.fdiv (IntKind.wrap .u64 (IntKind.wrap .i64 (x20l105 + x21l105))) (2 ^ 1))) < xdata.length ∧ pxcmp (xdata.getD (Int.toNat (IntKind.wrap .i64 ((IntKind.wrap .i64 ((IntKind.wrap .i64 ((IntKind.wrap .i64 (Int.fdiv (IntKind.wrap .u64 (IntKind.wrap .i64 (xa + xb))) (2 ^ 1))) + xm)) - 1)) - (IntKind.wrap .i64 (Int.fdiv (IntKind.wrap .u64 (IntKind.wrap .i64 (x20l105 + x21l105))) (2 ^ 1)))))) default) (xdata.getD (Int.toNat (IntKind.wrap .i64 (Int.fdiv (IntKind.wrap .u64 (IntKind.wrap .i64 (x20l105 + x21l105))) (2 ^ 1)))) default) ∧ ((!(decide ((xcmp (xdata.getD (Int.toNat (IntKind.wrap .i64 ((IntKind.wrap .i64 ((IntKind.wrap .i64 ((IntKind.wrap .i64 (Int.fdiv (IntKind.wrap .u64 (IntKind.wrap .i64 (xa + xb))) (2 ^ 1))) + xm)) - 1)) - (IntKind.wrap .i64 (Int.fdiv (IntKind.wrap .u64 (IntKind.wrap .i64 (x20l105 + x21l105))) (2 ^ 1)))))) default) (xdata.getD (Int.toNat (IntKind.wrap .i64 (Int.fdiv (IntKind.wrap .u64 (IntKind.wrap .i64 (x20l105 + x21l105))) (2 ^ 1)))) default)) < 0))) = true → C105 (IntKind.wrap .i64 ((IntKind.wrap .i64 (Int.fdiv (IntKind.wrap .u64 (IntKind.wrap .i64 (x20l105 + x21l105))) (2 ^ 1))) + 1)) x21l105) ∧ ((!(decide ((xcmp (xdata.getD (Int.toNat (IntKind.wrap .i64 ((IntKind.wrap .i64 ((IntKind.wrap .i64 ((IntKind.wrap .i64 (Int.fdiv (IntKind.wrap .u64 (IntKind.wrap .i64 (xa + xb))) (2 ^ 1))) + xm)) - 1)) - (IntKind.wrap .i64 (Int.fdiv (IntKind.wrap .u64 (IntKind.wrap .i64 (x20l105 + x21l105))) (2 ^ 1)))))) default) (xdata.getD (Int.toNat (IntKind.wrap .i64 (Int.fdiv (IntKind.wrap .u64 (IntKind.wrap .i64 (x20l105 + x21l105))) (2 ^ 1)))) default)) < 0))) = false → C105 x20l105 (IntKind.wrap .i64 (Int.fdiv (IntKind.wrap .u64 (IntKind.wrap .i64 (x20l105 + x21l105))) (2 ^ 1))))) ∧ ((decide (x20l105 < x21l105)) = false → ((((decide (x20l105 < xm)) && (decide (xm < (IntKind.wrap .i64 ((IntKind.wrap .i64 ((IntKind.wrap .i64 (Int.fdiv (IntKind.wrap .u64 (IntKind.wrap .i64 (xa + xb))) (2 ^ 1))) + xm)) - x20l105)))))) = true → sroP xdata x20l105 xm (IntKind.wrap .i64 ((IntKind.wrap .i64 ((IntKind.wrap .i64 (Int.fdiv (IntKind.wrap .u64 (IntKind.wrap .i64 (xa + xb))) (2 ^ 1))) + xm)) - x20l105)) xcmp pxcmp ∧ symj122 N xdata xa xm xb xcmp pxcmp K x20l105) ∧ ((((decide (x20l105 < xm)) && (decide (xm < (IntKind.wrap .i64 ((IntKind.wrap .i64 ((IntKind.wrap .i64 (Int.fdiv (IntKind.wrap .u64 (IntKind.wrap .i64 (xa + xb))) (2 ^ 1))) + xm)) - x20l105)))))) = false → symj122 N xdata xa xm xb xcmp pxcmp K x20l105))
def syml105 (N : Nat) (xdata : List (Int)) (xa : Int) (xm : Int) (xb : Int) (xcmp : Int → Int → Int) (pxcmp : Int → Int → Prop) (K : (List (Int)) → Prop) : Nat → Int → Int → Prop
  | 0, _, _ => False
  | k + 1, x20l105, x21l105 => syml105b N xdata xa xm xb xcmp pxcmp K x20l105 x21l105 (syml105 N xdata xa xm xb xcmp pxcmp K k)
def symj91 (N : Nat) (xdata : List (Int)) (xa : Int) (xm : Int) (xb : Int) (xcmp : Int → Int → Int) (pxcmp : Int → Int → Prop) (K : (List (Int)) → Prop) : Prop :=
  ∃ k, syml105 N xdata xa xm xb xcmp pxcmp K k (symV0 xa xm xb) (symV1 xa xm xb)
def symF (N : Nat) (xdata : List (Int)) (xa : Int) (xm : Int) (xb : Int) (xcmp : Int → Int → Int) (pxcmp : Int → Int → Prop) (K : (List (Int)) → Prop) : Prop :=
  ((((IntKind.wrap .i64 (xm - xa)) == 1)) = true → ∃ k, syml11 xdata xa xcmp pxcmp K k xm xb) ∧ ((((IntKind.wrap .i64 (xm - xa)) == 1)) = false → ((((IntKind.wrap .i64 (xb - xm)) == 1)) = true → ∃ k, syml53 xdata xm xcmp pxcmp K k xa xm) ∧ ((((IntKind.wrap .i64 (xb - xm)) == 1)) = false → ((decide (xm > (IntKind.wrap .i64 (Int.fdiv (IntKind.wrap .u64 (IntKind.wrap .i64 (xa + xb))) (2 ^ 1))))) = true → symj91 N xdata xa xm xb xcmp pxcmp K) ∧ ((decide (xm > (IntKind.wrap .i64 (Int.fdiv (IntKind.wrap .u64 (IntKind.wrap .i64 (xa + xb))) (2 ^ 1))))) = false → symj91 N xdata xa xm xb xcmp pxcmp K)))
set_option maxHeartbeats 4000000 in
set_option maxRecDepth 100000 in
set_option linter.unusedVariables false in
theorem sym_ok {g : Ghost} (N : Nat) (ih_sym : sym_C N) {axdata : Option Addr} {cxdata : Nat} {xsxdata : List Value} (xdata : List (Int)) (xa : Int) (xm : Int) (xb : Int) {vxcmp : Value} (xcmp : Int → Int → Int) (pxcmp : Int → Int → Prop) (hLxdata : RepL g (.int .i64) xsxdata xdata) (hfxcmp : ∀ (y0 : Int) (y1 : Int), pxcmp y0 y1 → FnG Try.prog vxcmp #[.int .i64 y0, .int .i64 y1] g (.int .i64 (xcmp y0 y1))) (K : (List (Int)) → Prop)
    (hF : symF N xdata xa xm xb xcmp pxcmp K) : CallsH Try.prog 18 #[.slice axdata xdata.length cxdata, .int .i64 xa, .int .i64 xm, .int .i64 xb, vxcmp] g [.own (.slice axdata xdata.length cxdata) 3 1 xdata.length xsxdata] (fun g' H' v => ∃ (fxdata : List (Int)), ∃ (xsfxdata : List Value), v = .tuple #[] ∧ RepL g' (.int .i64) xsfxdata fxdata ∧ H' = [.own (.slice axdata fxdata.length cxdata) 3 1 fxdata.length xsfxdata] ∧ fxdata.length = xdata.length ∧ K fxdata) := by
  refine CallsH.enter 220 [(0, .slice axdata xdata.length cxdata), (1, .int .i64 xa), (2, .int .i64 xm), (3, .int .i64 xb), (4, vxcmp)] Try.func18 rfl (by kernel_rfl) (by kernel_rfl) (by kernel_rfl) fun w0 => ?_
  refine Ok.seq ?_
  refine Ok.seq ?_
  refine Ok.region ?_
  refine Ok.batch 4 [(0, .slice axdata xdata.length cxdata), (1, .int .i64 xa), (2, .int .i64 xm), (3, .int .i64 xb), (4, vxcmp), (28, .bool ((IntKind.wrap .i64 (xm - xa)) == 1))] (by kernel_rfl) ?_
  refine Ok.nil ?_
  refine Ok.thenN ?_
  refine Ok.cond (b := ((IntKind.wrap .i64 (xm - xa)) == 1)) rfl (fun hc1 => ?_) (fun hc1 => ?_)
  · replace hF := hF.1 hc1
    refine Ok.seq ?_
    refine Ok.region ?_
    refine Ok.batch 2 [(0, .slice axdata xdata.length cxdata), (1, .int .i64 xa), (3, .int .i64 xb), (4, vxcmp), (10, .int .i64 xm)] (by kernel_rfl) ?_
    refine Ok.nil ?_
    refine Ok.thenN ?_
    refine Ok.seq ?_
    refine Ok.region ?_
    refine Ok.batch 2 [(0, .slice axdata xdata.length cxdata), (1, .int .i64 xa), (4, vxcmp), (10, .int .i64 xm), (11, .int .i64 xb)] (by kernel_rfl) ?_
    refine Ok.nil ?_
    refine Ok.thenN ?_
    refine Ok.seq ?_
    refine Ok.block ?_
    obtain ⟨k, hF⟩ := hF
    refine Ok.loop (fun k a W => ∃ gl11 : Ghost, Gext w0 g gl11 ∧ ∃ (x10l11 : Int) (x11l11 : Int), StA 220 [(0, .slice axdata xdata.length cxdata), (1, .int .i64 xa), (4, vxcmp), (10, .int .i64 x10l11), (11, .int .i64 x11l11)] a ∧ StW w0 [.own (.slice axdata xdata.length cxdata) 3 1 xdata.length xsxdata] gl11 W ∧ syml11 xdata xa xcmp pxcmp K k x10l11 x11l11) k ?_ ?_
    ·
      exact fun a W hA hW => ⟨g, (Gext.refl w0 g), xm, xb, hA.sub (by kernel_rfl), hW, hF⟩
    ·
      clear hF
      rintro k11 a W ⟨gl11, hxl11, x10l11, x11l11, hA, hW, hF⟩
      cases k11 with
      | zero => exact (hF : False).elim
      | succ k11 =>
        refine (?_ : Ok _ _ _ _ _ _) a W hA hW
        clear hA hW
        replace hLxdata := hLxdata.mono hxl11.1
        replace hfxcmp := (fun y0 y1 hp => (hfxcmp y0 y1 hp).mono hxl11.1)
        refine Ok.seq ?_
        refine Ok.seq ?_
        refine Ok.region ?_
        refine Ok.batch 3 [(0, .slice axdata xdata.length cxdata), (1, .int .i64 xa), (4, vxcmp), (10, .int .i64 x10l11), (11, .int .i64 x11l11), (33, .bool (decide (x10l11 < x11l11)))] (by kernel_rfl) ?_
        refine Ok.nil ?_
        refine Ok.thenN ?_
        refine Ok.cond (b := decide (x10l11 < x11l11)) rfl (fun hc2 => ?_) (fun hc2 => ?_)
        · replace hF := hF.1 hc2
          refine Ok.skip ?_
          refine Ok.thenN ?_
          refine Ok.block ?_
          refine Ok.seq ?_
          refine Ok.region ?_
          refine Ok.batch 7 [(0, .slice axdata xdata.length cxdata), (1, .int .i64 xa), (4, vxcmp), (10, .int .i64 x10l11), (11, .int .i64 x11l11), (12, .int .i64 (IntKind.wrap .i64 (Int.fdiv (IntKind.wrap .u64 (IntKind.wrap .i64 (x10l11 + x11l11))) (2 ^ 1))))] (by kernel_rfl) ?_
          refine Ok.nil ?_
          refine Ok.thenN ?_
          refine Ok.seq ?_
          refine Ok.quiet' (by kernel_rfl) (by kernel_rfl) ?_
          refine OkQ.batch 3 [(0, .slice axdata xdata.length cxdata), (1, .int .i64 xa), (4, vxcmp), (10, .int .i64 x10l11), (11, .int .i64 x11l11), (12, .int .i64 (IntKind.wrap .i64 (Int.fdiv (IntKind.wrap .u64 (IntKind.wrap .i64 (x10l11 + x11l11))) (2 ^ 1)))), (40, vxcmp), (41, .slice axdata xdata.length cxdata), (42, .int .i64 (IntKind.wrap .i64 (Int.fdiv (IntKind.wrap .u64 (IntKind.wrap .i64 (x10l11 + x11l11))) (2 ^ 1))))] (by kernel_rfl) ?_
          obtain ⟨h04, h14, hF⟩ := hF
          have he4 := get_of (l := xdata) (default : Int) h14
          generalize hg4 : (xdata.getD (Int.toNat (IntKind.wrap .i64 (Int.fdiv (IntKind.wrap .u64 (IntKind.wrap .i64 (x10l11 + x11l11))) (2 ^ 1)))) default) = e4 at he4 hF ⊢
          refine OkQ.op rfl (OpQ.indexOwn (e := .int .i64) (q := IntKind.wrap .i64 (Int.fdiv (IntKind.wrap .u64 (IntKind.wrap .i64 (x10l11 + x11l11))) (2 ^ 1))) (el := e4) 0 rfl hLxdata rfl rfl Try.underlying24 (by kernel_rfl) (by kernel_rfl) h04 he4 rfl fun cs3 _ hr3 hc3 => ?_)
          obtain rfl := hr3
          replace hc3 : ∀ j v, ([.int .i64 e4] : List Value)[j]? = some v → xsxdata[Int.toNat (IntKind.wrap .i64 (Int.fdiv (IntKind.wrap .u64 (IntKind.wrap .i64 (x10l11 + x11l11))) (2 ^ 1))) * 1 + j]? = some v := hc3
          refine OkQ.op rfl (OpQ.step (v := .int .i64 e4) (Yields.loadOwn 0 0 rfl hc3 rfl Try.underlying3 rfl (by kernel_rfl)) rfl rfl ?_)
          refine OkQ.batch 2 [(0, .slice axdata xdata.length cxdata), (1, .int .i64 xa), (4, vxcmp), (10, .int .i64 x10l11), (11, .int .i64 x11l11), (12, .int .i64 (IntKind.wrap .i64 (Int.fdiv (IntKind.wrap .u64 (IntKind.wrap .i64 (x10l11 + x11l11))) (2 ^ 1)))), (40, vxcmp), (44, .int .i64 e4), (45, .slice axdata xdata.length cxdata), (46, .int .i64 xa)] (by kernel_rfl) ?_
          obtain ⟨h06, h16, hF⟩ := hF
          have he6 := get_of (l := xdata) (default : Int) h16
          generalize hg6 : (xdata.getD (Int.toNat xa) default) = e6 at he6 hF ⊢
          refine OkQ.op rfl (OpQ.indexOwn (e := .int .i64) (q := xa) (el := e6) 0 rfl hLxdata rfl rfl Try.underlying24 (by kernel_rfl) (by kernel_rfl) h06 he6 rfl fun cs5 _ hr5 hc5 => ?_)
          obtain rfl := hr5
          replace hc5 : ∀ j v, ([.int .i64 e6] : List Value)[j]? = some v → xsxdata[Int.toNat xa * 1 + j]? = some v := hc5
          refine OkQ.op rfl (OpQ.step (v := .int .i64 e6) (Yields.loadOwn 0 0 rfl hc5 rfl Try.underlying3 rfl (by kernel_rfl)) rfl rfl ?_)
          obtain ⟨hq7, hF⟩ := hF
          refine OkQ.op rfl (OpQ.apply (args := #[.int .i64 e4, .int .i64 e6]) (v := .int .i64 (xcmp e4 e6)) rfl (by kernel_rfl) (by kernel_rfl) (hfxcmp e4 e6 hq7) rfl ?_)
          refine OkQ.batch 1 [(0, .slice axdata xdata.length cxdata), (1, .int .i64 xa), (4, vxcmp), (10, .int .i64 x10l11), (11, .int .i64 x11l11), (12, .int .i64 (IntKind.wrap .i64 (Int.fdiv (IntKind.wrap .u64 (IntKind.wrap .i64 (x10l11 + x11l11))) (2 ^ 1)))), (50, .bool (decide ((xcmp e4 e6) < 0)))] (by kernel_rfl) ?_
          refine OkQ.nil ?_
          refine Ok.thenN ?_
          refine Ok.cond (b := decide ((xcmp e4 e6) < 0)) rfl (fun hc8 => ?_) (fun hc8 => ?_)
          · replace hF := hF.1 hc8
            refine Ok.region ?_
            refine Ok.batch 3 [(0, .slice axdata xdata.length cxdata), (1, .int .i64 xa), (4, vxcmp), (10, .int .i64 (IntKind.wrap .i64 ((IntKind.wrap .i64 (Int.fdiv (IntKind.wrap .u64 (IntKind.wrap .i64 (x10l11 + x11l11))) (2 ^ 1))) + 1))), (11, .int .i64 x11l11)] (by kernel_rfl) ?_
            refine Ok.nil ?_
            refine Ok.blockN ?_
            refine Ok.thenN ?_
            subst hg6
            subst hg4
            exact fun a W hA hW => ⟨k11, Nat.lt_succ_self _, gl11, hxl11, IntKind.wrap .i64 ((IntKind.wrap .i64 (Int.fdiv (IntKind.wrap .u64 (IntKind.wrap .i64 (x10l11 + x11l11))) (2 ^ 1))) + 1), x11l11, hA.sub (by kernel_rfl), hW, hF⟩
          · replace hF := hF.2 hc8
            refine Ok.region ?_
            refine Ok.batch 2 [(0, .slice axdata xdata.length cxdata), (1, .int .i64 xa), (4, vxcmp), (10, .int .i64 x10l11), (11, .int .i64 (IntKind.wrap .i64 (Int.fdiv (IntKind.wrap .u64 (IntKind.wrap .i64 (x10l11 + x11l11))) (2 ^ 1))))] (by kernel_rfl) ?_
            refine Ok.nil ?_
            refine Ok.blockN ?_
            refine Ok.thenN ?_
            subst hg6
            subst hg4
            exact fun a W hA hW => ⟨k11, Nat.lt_succ_self _, gl11, hxl11, x10l11, IntKind.wrap .i64 (Int.fdiv (IntKind.wrap .u64 (IntKind.wrap .i64 (x10l11 + x11l11))) (2 ^ 1)), hA.sub (by kernel_rfl), hW, hF⟩
        · replace hF := hF.2 hc2
          refine Ok.exit ?_
          refine Ok.thenE ?_
          refine Ok.thenE ?_
          refine Ok.blockHit ?_
          refine Ok.thenN ?_
          refine Ok.seq ?_
          refine Ok.seq ?_
          refine Ok.region ?_
          refine Ok.batch 2 [(0, .slice axdata xdata.length cxdata), (10, .int .i64 x10l11), (13, .int .i64 xa)] (by kernel_rfl) ?_
          refine Ok.nil ?_
          refine Ok.thenN ?_
          refine Ok.block ?_
          obtain ⟨k, hF⟩ := hF
          refine Ok.loop (fun k a W => ∃ gl30 : Ghost, Gext w0 gl11 gl30 ∧ ∃ (x13l30 : Int) (yown_xdata_0l30 : List (Int)) (xsyown_xdata_0l30 : List Value), RepL gl30 (.int .i64) xsyown_xdata_0l30 yown_xdata_0l30 ∧ yown_xdata_0l30.length = xdata.length ∧ StA 220 [(0, .slice axdata yown_xdata_0l30.length cxdata), (10, .int .i64 x10l11), (13, .int .i64 x13l30)] a ∧ StW w0 [.own (.slice axdata yown_xdata_0l30.length cxdata) 3 1 yown_xdata_0l30.length xsyown_xdata_0l30] gl30 W ∧ syml30 K x10l11 k x13l30 yown_xdata_0l30) k ?_ ?_
          ·
            exact fun a W hA hW => ⟨gl11, (Gext.refl w0 gl11), xa, xdata, xsxdata, hLxdata, rfl, hA.sub (by kernel_rfl), hW, hF⟩
          ·
            clear hF
            rintro k30 a W ⟨gl30, hxl30, x13l30, yown_xdata_0l30, xsyown_xdata_0l30, hLyown_xdata_0l30, hnyown_xdata_0l30, hA, hW, hF⟩
            cases k30 with
            | zero => exact (hF : False).elim
            | succ k30 =>
              refine (?_ : Ok _ _ _ _ _ _) a W hA hW
              clear hA hW
              replace hfxcmp := (fun y0 y1 hp => (hfxcmp y0 y1 hp).mono hxl30.1)
              refine Ok.seq ?_
              refine Ok.seq ?_
              refine Ok.region ?_
              refine Ok.batch 4 [(0, .slice axdata yown_xdata_0l30.length cxdata), (10, .int .i64 x10l11), (13, .int .i64 x13l30), (58, .bool (decide (x13l30 < (IntKind.wrap .i64 (x10l11 - 1)))))] (by kernel_rfl) ?_
              refine Ok.nil ?_
              refine Ok.thenN ?_
              refine Ok.cond (b := decide (x13l30 < (IntKind.wrap .i64 (x10l11 - 1)))) rfl (fun hc9 => ?_) (fun hc9 => ?_)
              · replace hF := hF.1 hc9
                refine Ok.skip ?_
                refine Ok.thenN ?_
                refine Ok.seq ?_
                refine Ok.block ?_
                refine Ok.mix [0, 1, 5, 6, 7, 8, 9, 10, 11, 12, 13, 14] [] [] [(0, true), (1, true), (2, true), (3, true), (4, true), (5, true), (6, true), (7, true), (8, true), (9, true), (10, true), (11, true), (12, true), (13, true), (14, true), (15, false), (16, false), (17, false)] (by kernel_rfl) (by kernel_rfl) (.cons _ .slnil) ?_
                refine OkM.batch 8 [(0, .slice axdata yown_xdata_0l30.length cxdata), (10, .int .i64 x10l11), (13, .int .i64 x13l30), (61, .slice axdata yown_xdata_0l30.length cxdata), (62, .int .i64 x13l30), (63, .slice axdata yown_xdata_0l30.length cxdata), (65, .int .i64 (IntKind.wrap .i64 (x13l30 + 1))), (66, .slice axdata yown_xdata_0l30.length cxdata), (68, .int .i64 (IntKind.wrap .i64 (x13l30 + 1)))] (by kernel_rfl) ?_
                obtain ⟨h011, h111, hF⟩ := hF
                have he11 := get_of (l := yown_xdata_0l30) (default : Int) h111
                generalize hg11 : (yown_xdata_0l30.getD (Int.toNat (IntKind.wrap .i64 (x13l30 + 1))) default) = e11 at he11 hF ⊢
                refine OkM.head rfl rfl (show _ = [.own (.slice axdata yown_xdata_0l30.length cxdata) 3 1 yown_xdata_0l30.length xsyown_xdata_0l30] from rfl) (OpQ.indexOwn (e := .int .i64) (q := IntKind.wrap .i64 (x13l30 + 1)) (el := e11) 0 rfl hLyown_xdata_0l30 rfl rfl Try.underlying24 (by kernel_rfl) (by kernel_rfl) h011 he11 rfl fun cs10 _ hr10 hc10 => ?_)
                obtain rfl := hr10
                replace hc10 : ∀ j v, ([.int .i64 e11] : List Value)[j]? = some v → xsyown_xdata_0l30[Int.toNat (IntKind.wrap .i64 (x13l30 + 1)) * 1 + j]? = some v := hc10
                refine OkM.head rfl rfl (show _ = [.own (.slice axdata yown_xdata_0l30.length cxdata) 3 1 yown_xdata_0l30.length xsyown_xdata_0l30] from rfl) (OpQ.step (v := .int .i64 e11) (Yields.loadOwn 0 0 rfl hc10 rfl Try.underlying3 rfl (by kernel_rfl)) rfl rfl ?_)
                refine OkM.batch 2 [(0, .slice axdata yown_xdata_0l30.length cxdata), (10, .int .i64 x10l11), (13, .int .i64 x13l30), (61, .slice axdata yown_xdata_0l30.length cxdata), (62, .int .i64 x13l30), (63, .slice axdata yown_xdata_0l30.length cxdata), (65, .int .i64 (IntKind.wrap .i64 (x13l30 + 1))), (70, .int .i64 e11), (71, .slice axdata yown_xdata_0l30.length cxdata), (72, .int .i64 x13l30)] (by kernel_rfl) ?_
                obtain ⟨h013, h113, hF⟩ := hF
                have he13 := get_of (l := yown_xdata_0l30) (default : Int) h113
                generalize hg13 : (yown_xdata_0l30.getD (Int.toNat x13l30) default) = e13 at he13 hF ⊢
                refine OkM.head rfl rfl (show _ = [.own (.slice axdata yown_xdata_0l30.length cxdata) 3 1 yown_xdata_0l30.length xsyown_xdata_0l30] from rfl) (OpQ.indexOwn (e := .int .i64) (q := x13l30) (el := e13) 0 rfl hLyown_xdata_0l30 rfl rfl Try.underlying24 (by kernel_rfl) (by kernel_rfl) h013 he13 rfl fun cs12 _ hr12 hc12 => ?_)
                obtain rfl := hr12
                replace hc12 : ∀ j v, ([.int .i64 e13] : List Value)[j]? = some v → xsyown_xdata_0l30[Int.toNat x13l30 * 1 + j]? = some v := hc12
                refine OkM.head rfl rfl (show _ = [.own (.slice axdata yown_xdata_0l30.length cxdata) 3 1 yown_xdata_0l30.length xsyown_xdata_0l30] from rfl) (OpQ.step (v := .int .i64 e13) (Yields.loadOwn 0 0 rfl hc12 rfl Try.underlying3 rfl (by kernel_rfl)) rfl rfl ?_)
                refine OkM.head rfl rfl (show _ = [.own (.slice axdata yown_xdata_0l30.length cxdata) 3 1 yown_xdata_0l30.length xsyown_xdata_0l30] from rfl) (OpQ.indexOwn (e := .int .i64) (q := x13l30) (el := e13) 0 rfl hLyown_xdata_0l30 rfl rfl Try.underlying24 (by kernel_rfl) (by kernel_rfl) h013 he13 rfl fun cs14 _ hr14 hc14 => ?_)
                obtain rfl := hr14
                replace hc14 : ∀ j v, ([.int .i64 e13] : List Value)[j]? = some v → xsyown_xdata_0l30[Int.toNat x13l30 * 1 + j]? = some v := hc14
                refine OkM.tail rfl rfl (OpOk.storeOwn (e := .int .i64) (q := Int.toNat x13l30) (cells := [.int .i64 e13]) (vs := [.int .i64 e11]) (el' := e11) 0 0 1 rfl hLyown_xdata_0l30 hc14 (by kernel_rfl) rfl rfl rfl (by kernel_rfl) (by kernel_rfl) (by kernel_rfl) (by kernel_rfl) (by kernel_rfl) (show Rep _ _ [.int .i64 e11] _ from rfl) fun xs15 hL15 => ?_)
                rw [show yown_xdata_0l30.length = (yown_xdata_0l30.set (Int.toNat x13l30) e11).length from (List.length_set ..).symm]
                refine OkM.leaf (i := 15) (show _ = [] from rfl) (Gle.refl _) (.cons _ .slnil) ?_
                obtain ⟨h017, h117, hF⟩ := hF
                have he17 := get_of (l := (yown_xdata_0l30.set (Int.toNat x13l30) e11)) (default : Int) h117
                generalize hg17 : ((yown_xdata_0l30.set (Int.toNat x13l30) e11).getD (Int.toNat (IntKind.wrap .i64 (x13l30 + 1))) default) = e17 at he17 hF ⊢
                refine OkM.tail rfl rfl (OpOk.indexOwn (e := .int .i64) (q := IntKind.wrap .i64 (x13l30 + 1)) (el := e17) 0 rfl hL15 rfl rfl Try.underlying24 (by kernel_rfl) (by kernel_rfl) h017 he17 rfl fun cs16 _ hr16 hc16 => ?_)
                obtain rfl := hr16
                replace hc16 : ∀ j v, ([.int .i64 e17] : List Value)[j]? = some v → xs15[Int.toNat (IntKind.wrap .i64 (x13l30 + 1)) * 1 + j]? = some v := hc16
                refine OkM.leaf (i := 16) (show _ = [] from rfl) (Gle.refl _) (.cons _ .slnil) ?_
                refine OkM.tail rfl rfl (OpOk.storeOwn (e := .int .i64) (q := Int.toNat (IntKind.wrap .i64 (x13l30 + 1))) (cells := [.int .i64 e17]) (vs := [.int .i64 e13]) (el' := e13) 0 0 1 rfl hL15 hc16 (by kernel_rfl) rfl rfl rfl (by kernel_rfl) (by kernel_rfl) (by kernel_rfl) (by kernel_rfl) (by kernel_rfl) (show Rep _ _ [.int .i64 e13] _ from rfl) fun xs18 hL18 => ?_)
                rw [show (yown_xdata_0l30.set (Int.toNat x13l30) e11).length = ((yown_xdata_0l30.set (Int.toNat x13l30) e11).set (Int.toNat (IntKind.wrap .i64 (x13l30 + 1))) e13).length from (List.length_set ..).symm]
                refine OkM.leaf (i := 17) (show _ = [] from rfl) (Gle.refl _) (.cons _ .slnil) ?_
                refine OkM.nil ?_
                refine Ok.blockN ?_
                refine Ok.thenN ?_
                refine Ok.region ?_
                refine Ok.batch 3 [(0, .slice axdata ((yown_xdata_0l30.set (Int.toNat x13l30) e11).set (Int.toNat (IntKind.wrap .i64 (x13l30 + 1))) e13).length cxdata), (10, .int .i64 x10l11), (13, .int .i64 (IntKind.wrap .i64 (x13l30 + 1)))] (by kernel_rfl) ?_
                refine Ok.nil ?_
                refine Ok.thenN ?_
                subst hg17
                subst hg13
                subst hg11
                exact fun a W hA hW => ⟨k30, Nat.lt_succ_self _, gl30, hxl30, IntKind.wrap .i64 (x13l30 + 1), ((yown_xdata_0l30.set (Int.toNat x13l30) (yown_xdata_0l30.getD (Int.toNat (IntKind.wrap .i64 (x13l30 + 1))) default)).set (Int.toNat (IntKind.wrap .i64 (x13l30 + 1))) (yown_xdata_0l30.getD (Int.toNat x13l30) default)), xs18, hL18, (by simp only [List.length_set, hnyown_xdata_0l30]), hA.sub (by kernel_rfl), hW, hF⟩
              · replace hF := hF.2 hc9
                refine Ok.exit ?_
                refine Ok.thenE ?_
                refine Ok.thenE ?_
                refine Ok.blockHit ?_
                refine Ok.thenN ?_
                refine Ok.ret ?_
                refine Ok.thenR ?_
                exact Ok.resH (vs := []) (.inl rfl) rfl .nil (hxl11.trans hxl30) ⟨yown_xdata_0l30, xsyown_xdata_0l30, rfl, hLyown_xdata_0l30, rfl, hnyown_xdata_0l30, hF⟩
  · replace hF := hF.2 hc1
    refine Ok.skip ?_
    refine Ok.thenN ?_
    refine Ok.seq ?_
    refine Ok.seq ?_
    refine Ok.region ?_
    refine Ok.batch 4 [(0, .slice axdata xdata.length cxdata), (1, .int .i64 xa), (2, .int .i64 xm), (3, .int .i64 xb), (4, vxcmp), (80, .bool ((IntKind.wrap .i64 (xb - xm)) == 1))] (by kernel_rfl) ?_
    refine Ok.nil ?_
    refine Ok.thenN ?_
    refine Ok.cond (b := ((IntKind.wrap .i64 (xb - xm)) == 1)) rfl (fun hc19 => ?_) (fun hc19 => ?_)
    · replace hF := hF.1 hc19
      refine Ok.seq ?_
      refine Ok.region ?_
      refine Ok.batch 2 [(0, .slice axdata xdata.length cxdata), (2, .int .i64 xm), (4, vxcmp), (14, .int .i64 xa)] (by kernel_rfl) ?_
      refine Ok.nil ?_
      refine Ok.thenN ?_
      refine Ok.seq ?_
      refine Ok.region ?_
      refine Ok.batch 2 [(0, .slice axdata xdata.length cxdata), (2, .int .i64 xm), (4, vxcmp), (14, .int .i64 xa), (15, .int .i64 xm)] (by kernel_rfl) ?_
      refine Ok.nil ?_
      refine Ok.thenN ?_
      refine Ok.seq ?_
      refine Ok.block ?_
      obtain ⟨k, hF⟩ := hF
      refine Ok.loop (fun k a W => ∃ gl53 : Ghost, Gext w0 g gl53 ∧ ∃ (x14l53 : Int) (x15l53 : Int), StA 220 [(0, .slice axdata xdata.length cxdata), (2, .int .i64 xm), (4, vxcmp), (14, .int .i64 x14l53), (15, .int .i64 x15l53)] a ∧ StW w0 [.own (.slice axdata xdata.length cxdata) 3 1 xdata.length xsxdata] gl53 W ∧ syml53 xdata xm xcmp pxcmp K k x14l53 x15l53) k ?_ ?_
      ·
        exact fun a W hA hW => ⟨g, (Gext.refl w0 g), xa, xm, hA.sub (by kernel_rfl), hW, hF⟩
      ·
        clear hF
        rintro k53 a W ⟨gl53, hxl53, x14l53, x15l53, hA, hW, hF⟩
        cases k53 with
        | zero => exact (hF : False).elim
        | succ k53 =>
          refine (?_ : Ok _ _ _ _ _ _) a W hA hW
          clear hA hW
          replace hLxdata := hLxdata.mono hxl53.1
          replace hfxcmp := (fun y0 y1 hp => (hfxcmp y0 y1 hp).mono hxl53.1)
          refine Ok.seq ?_
          refine Ok.seq ?_
          refine Ok.region ?_
          refine Ok.batch 3 [(0, .slice axdata xdata.length cxdata), (2, .int .i64 xm), (4, vxcmp), (14, .int .i64 x14l53), (15, .int .i64 x15l53), (85, .bool (decide (x14l53 < x15l53)))] (by kernel_rfl) ?_
          refine Ok.nil ?_
          refine Ok.thenN ?_
          refine Ok.cond (b := decide (x14l53 < x15l53)) rfl (fun hc20 => ?_) (fun hc20 => ?_)
          · replace hF := hF.1 hc20
            refine Ok.skip ?_
            refine Ok.thenN ?_
            refine Ok.block ?_
            refine Ok.seq ?_
            refine Ok.region ?_
            refine Ok.batch 7 [(0, .slice axdata xdata.length cxdata), (2, .int .i64 xm), (4, vxcmp), (14, .int .i64 x14l53), (15, .int .i64 x15l53), (16, .int .i64 (IntKind.wrap .i64 (Int.fdiv (IntKind.wrap .u64 (IntKind.wrap .i64 (x14l53 + x15l53))) (2 ^ 1))))] (by kernel_rfl) ?_
            refine Ok.nil ?_
            refine Ok.thenN ?_
            refine Ok.seq ?_
            refine Ok.quiet' (by kernel_rfl) (by kernel_rfl) ?_
            refine OkQ.batch 3 [(0, .slice axdata xdata.length cxdata), (2, .int .i64 xm), (4, vxcmp), (14, .int .i64 x14l53), (15, .int .i64 x15l53), (16, .int .i64 (IntKind.wrap .i64 (Int.fdiv (IntKind.wrap .u64 (IntKind.wrap .i64 (x14l53 + x15l53))) (2 ^ 1)))), (92, vxcmp), (93, .slice axdata xdata.length cxdata), (94, .int .i64 xm)] (by kernel_rfl) ?_
            obtain ⟨h022, h122, hF⟩ := hF
            have he22 := get_of (l := xdata) (default : Int) h122
            generalize hg22 : (xdata.getD (Int.toNat xm) default) = e22 at he22 hF ⊢
            refine OkQ.op rfl (OpQ.indexOwn (e := .int .i64) (q := xm) (el := e22) 0 rfl hLxdata rfl rfl Try.underlying24 (by kernel_rfl) (by kernel_rfl) h022 he22 rfl fun cs21 _ hr21 hc21 => ?_)
            obtain rfl := hr21
            replace hc21 : ∀ j v, ([.int .i64 e22] : List Value)[j]? = some v → xsxdata[Int.toNat xm * 1 + j]? = some v := hc21
            refine OkQ.op rfl (OpQ.step (v := .int .i64 e22) (Yields.loadOwn 0 0 rfl hc21 rfl Try.underlying3 rfl (by kernel_rfl)) rfl rfl ?_)
            refine OkQ.batch 2 [(0, .slice axdata xdata.length cxdata), (2, .int .i64 xm), (4, vxcmp), (14, .int .i64 x14l53), (15, .int .i64 x15l53), (16, .int .i64 (IntKind.wrap .i64 (Int.fdiv (IntKind.wrap .u64 (IntKind.wrap .i64 (x14l53 + x15l53))) (2 ^ 1)))), (92, vxcmp), (96, .int .i64 e22), (97, .slice axdata xdata.length cxdata), (98, .int .i64 (IntKind.wrap .i64 (Int.fdiv (IntKind.wrap .u64 (IntKind.wrap .i64 (x14l53 + x15l53))) (2 ^ 1))))] (by kernel_rfl) ?_
            obtain ⟨h024, h124, hF⟩ := hF
            have he24 := get_of (l := xdata) (default : Int) h124
            generalize hg24 : (xdata.getD (Int.toNat (IntKind.wrap .i64 (Int.fdiv (IntKind.wrap .u64 (IntKind.wrap .i64 (x14l53 + x15l53))) (2 ^ 1)))) default) = e24 at he24 hF ⊢
            refine OkQ.op rfl (OpQ.indexOwn (e := .int .i64) (q := IntKind.wrap .i64 (Int.fdiv (IntKind.wrap .u64 (IntKind.wrap .i64 (x14l53 + x15l53))) (2 ^ 1))) (el := e24) 0 rfl hLxdata rfl rfl Try.underlying24 (by kernel_rfl) (by kernel_rfl) h024 he24 rfl fun cs23 _ hr23 hc23 => ?_)
            obtain rfl := hr23
            replace hc23 : ∀ j v, ([.int .i64 e24] : List Value)[j]? = some v → xsxdata[Int.toNat (IntKind.wrap .i64 (Int.fdiv (IntKind.wrap .u64 (IntKind.wrap .i64 (x14l53 + x15l53))) (2 ^ 1))) * 1 + j]? = some v := hc23
            refine OkQ.op rfl (OpQ.step (v := .int .i64 e24) (Yields.loadOwn 0 0 rfl hc23 rfl Try.underlying3 rfl (by kernel_rfl)) rfl rfl ?_)
            obtain ⟨hq25, hF⟩ := hF
            refine OkQ.op rfl (OpQ.apply (args := #[.int .i64 e22, .int .i64 e24]) (v := .int .i64 (xcmp e22 e24)) rfl (by kernel_rfl) (by kernel_rfl) (hfxcmp e22 e24 hq25) rfl ?_)
            refine OkQ.batch 2 [(0, .slice axdata xdata.length cxdata), (2, .int .i64 xm), (4, vxcmp), (14, .int .i64 x14l53), (15, .int .i64 x15l53), (16, .int .i64 (IntKind.wrap .i64 (Int.fdiv (IntKind.wrap .u64 (IntKind.wrap .i64 (x14l53 + x15l53))) (2 ^ 1)))), (103, .bool (!(decide ((xcmp e22 e24) < 0))))] (by kernel_rfl) ?_
            refine OkQ.nil ?_
            refine Ok.thenN ?_
            refine Ok.cond (b := !(decide ((xcmp e22 e24) < 0))) rfl (fun hc26 => ?_) (fun hc26 => ?_)
            · replace hF := hF.1 hc26
              refine Ok.region ?_
              refine Ok.batch 3 [(0, .slice axdata xdata.length cxdata), (2, .int .i64 xm), (4, vxcmp), (14, .int .i64 (IntKind.wrap .i64 ((IntKind.wrap .i64 (Int.fdiv (IntKind.wrap .u64 (IntKind.wrap .i64 (x14l53 + x15l53))) (2 ^ 1))) + 1))), (15, .int .i64 x15l53)] (by kernel_rfl) ?_
              refine Ok.nil ?_
              refine Ok.blockN ?_
              refine Ok.thenN ?_
              subst hg24
              subst hg22
              exact fun a W hA hW => ⟨k53, Nat.lt_succ_self _, gl53, hxl53, IntKind.wrap .i64 ((IntKind.wrap .i64 (Int.fdiv (IntKind.wrap .u64 (IntKind.wrap .i64 (x14l53 + x15l53))) (2 ^ 1))) + 1), x15l53, hA.sub (by kernel_rfl), hW, hF⟩
            · replace hF := hF.2 hc26
              refine Ok.region ?_
              refine Ok.batch 2 [(0, .slice axdata xdata.length cxdata), (2, .int .i64 xm), (4, vxcmp), (14, .int .i64 x14l53), (15, .int .i64 (IntKind.wrap .i64 (Int.fdiv (IntKind.wrap .u64 (IntKind.wrap .i64 (x14l53 + x15l53))) (2 ^ 1))))] (by kernel_rfl) ?_
              refine Ok.nil ?_
              refine Ok.blockN ?_
              refine Ok.thenN ?_
              subst hg24
              subst hg22
              exact fun a W hA hW => ⟨k53, Nat.lt_succ_self _, gl53, hxl53, x14l53, IntKind.wrap .i64 (Int.fdiv (IntKind.wrap .u64 (IntKind.wrap .i64 (x14l53 + x15l53))) (2 ^ 1)), hA.sub (by kernel_rfl), hW, hF⟩
          · replace hF := hF.2 hc20
            refine Ok.exit ?_
            refine Ok.thenE ?_
            refine Ok.thenE ?_
            refine Ok.blockHit ?_
            refine Ok.thenN ?_
            refine Ok.seq ?_
            refine Ok.seq ?_
            refine Ok.region ?_
            refine Ok.batch 2 [(0, .slice axdata xdata.length cxdata), (14, .int .i64 x14l53), (17, .int .i64 xm)] (by kernel_rfl) ?_
            refine Ok.nil ?_
            refine Ok.thenN ?_
            refine Ok.block ?_
            obtain ⟨k, hF⟩ := hF
            refine Ok.loop (fun k a W => ∃ gl72 : Ghost, Gext w0 gl53 gl72 ∧ ∃ (x17l72 : Int) (yown_xdata_0l72 : List (Int)) (xsyown_xdata_0l72 : List Value), RepL gl72 (.int .i64) xsyown_xdata_0l72 yown_xdata_0l72 ∧ yown_xdata_0l72.length = xdata.length ∧ StA 220 [(0, .slice axdata yown_xdata_0l72.length cxdata), (14, .int .i64 x14l53), (17, .int .i64 x17l72)] a ∧ StW w0 [.own (.slice axdata yown_xdata_0l72.length cxdata) 3 1 yown_xdata_0l72.length xsyown_xdata_0l72] gl72 W ∧ syml72 K x14l53 k x17l72 yown_xdata_0l72) k ?_ ?_
            ·
              exact fun a W hA hW => ⟨gl53, (Gext.refl w0 gl53), xm, xdata, xsxdata, hLxdata, rfl, hA.sub (by kernel_rfl), hW, hF⟩
            ·
              clear hF
              rintro k72 a W ⟨gl72, hxl72, x17l72, yown_xdata_0l72, xsyown_xdata_0l72, hLyown_xdata_0l72, hnyown_xdata_0l72, hA, hW, hF⟩
              cases k72 with
              | zero => exact (hF : False).elim
              | succ k72 =>
                refine (?_ : Ok _ _ _ _ _ _) a W hA hW
                clear hA hW
                replace hfxcmp := (fun y0 y1 hp => (hfxcmp y0 y1 hp).mono hxl72.1)
                refine Ok.seq ?_
                refine Ok.seq ?_
                refine Ok.region ?_
                refine Ok.batch 3 [(0, .slice axdata yown_xdata_0l72.length cxdata), (14, .int .i64 x14l53), (17, .int .i64 x17l72), (110, .bool (decide (x17l72 > x14l53)))] (by kernel_rfl) ?_
                refine Ok.nil ?_
                refine Ok.thenN ?_
                refine Ok.cond (b := decide (x17l72 > x14l53)) rfl (fun hc27 => ?_) (fun hc27 => ?_)
                · replace hF := hF.1 hc27
                  refine Ok.skip ?_
                  refine Ok.thenN ?_
                  refine Ok.seq ?_
                  refine Ok.block ?_
                  refine Ok.mix [0, 1, 5, 6, 7, 8, 9, 10, 11, 12, 13, 14] [] [] [(0, true), (1, true), (2, true), (3, true), (4, true), (5, true), (6, true), (7, true), (8, true), (9, true), (10, true), (11, true), (12, true), (13, true), (14, true), (15, false), (16, false), (17, false)] (by kernel_rfl) (by kernel_rfl) (.cons _ .slnil) ?_
                  refine OkM.batch 8 [(0, .slice axdata yown_xdata_0l72.length cxdata), (14, .int .i64 x14l53), (17, .int .i64 x17l72), (113, .slice axdata yown_xdata_0l72.length cxdata), (114, .int .i64 x17l72), (115, .slice axdata yown_xdata_0l72.length cxdata), (117, .int .i64 (IntKind.wrap .i64 (x17l72 - 1))), (118, .slice axdata yown_xdata_0l72.length cxdata), (120, .int .i64 (IntKind.wrap .i64 (x17l72 - 1)))] (by kernel_rfl) ?_
                  obtain ⟨h029, h129, hF⟩ := hF
                  have he29 := get_of (l := yown_xdata_0l72) (default : Int) h129
                  generalize hg29 : (yown_xdata_0l72.getD (Int.toNat (IntKind.wrap .i64 (x17l72 - 1))) default) = e29 at he29 hF ⊢
                  refine OkM.head rfl rfl (show _ = [.own (.slice axdata yown_xdata_0l72.length cxdata) 3 1 yown_xdata_0l72.length xsyown_xdata_0l72] from rfl) (OpQ.indexOwn (e := .int .i64) (q := IntKind.wrap .i64 (x17l72 - 1)) (el := e29) 0 rfl hLyown_xdata_0l72 rfl rfl Try.underlying24 (by kernel_rfl) (by kernel_rfl) h029 he29 rfl fun cs28 _ hr28 hc28 => ?_)
                  obtain rfl := hr28
                  replace hc28 : ∀ j v, ([.int .i64 e29] : List Value)[j]? = some v → xsyown_xdata_0l72[Int.toNat (IntKind.wrap .i64 (x17l72 - 1)) * 1 + j]? = some v := hc28
                  refine OkM.head rfl rfl (show _ = [.own (.slice axdata yown_xdata_0l72.length cxdata) 3 1 yown_xdata_0l72.length xsyown_xdata_0l72] from rfl) (OpQ.step (v := .int .i64 e29) (Yields.loadOwn 0 0 rfl hc28 rfl Try.underlying3 rfl (by kernel_rfl)) rfl rfl ?_)
                  refine OkM.batch 2 [(0, .slice axdata yown_xdata_0l72.length cxdata), (14, .int .i64 x14l53), (17, .int .i64 x17l72), (113, .slice axdata yown_xdata_0l72.length cxdata), (114, .int .i64 x17l72), (115, .slice axdata yown_xdata_0l72.length cxdata), (117, .int .i64 (IntKind.wrap .i64 (x17l72 - 1))), (122, .int .i64 e29), (123, .slice axdata yown_xdata_0l72.length cxdata), (124, .int .i64 x17l72)] (by kernel_rfl) ?_
                  obtain ⟨h031, h131, hF⟩ := hF
                  have he31 := get_of (l := yown_xdata_0l72) (default : Int) h131
                  generalize hg31 : (yown_xdata_0l72.getD (Int.toNat x17l72) default) = e31 at he31 hF ⊢
                  refine OkM.head rfl rfl (show _ = [.own (.slice axdata yown_xdata_0l72.length cxdata) 3 1 yown_xdata_0l72.length xsyown_xdata_0l72] from rfl) (OpQ.indexOwn (e := .int .i64) (q := x17l72) (el := e31) 0 rfl hLyown_xdata_0l72 rfl rfl Try.underlying24 (by kernel_rfl) (by kernel_rfl) h031 he31 rfl fun cs30 _ hr30 hc30 => ?_)
                  obtain rfl := hr30
                  replace hc30 : ∀ j v, ([.int .i64 e31] : List Value)[j]? = some v → xsyown_xdata_0l72[Int.toNat x17l72 * 1 + j]? = some v := hc30
                  refine OkM.head rfl rfl (show _ = [.own (.slice axdata yown_xdata_0l72.length cxdata) 3 1 yown_xdata_0l72.length xsyown_xdata_0l72] from rfl) (OpQ.step (v := .int .i64 e31) (Yields.loadOwn 0 0 rfl hc30 rfl Try.underlying3 rfl (by kernel_rfl)) rfl rfl ?_)
                  refine OkM.head rfl rfl (show _ = [.own (.slice axdata yown_xdata_0l72.length cxdata) 3 1 yown_xdata_0l72.length xsyown_xdata_0l72] from rfl) (OpQ.indexOwn (e := .int .i64) (q := x17l72) (el := e31) 0 rfl hLyown_xdata_0l72 rfl rfl Try.underlying24 (by kernel_rfl) (by kernel_rfl) h031 he31 rfl fun cs32 _ hr32 hc32 => ?_)
                  obtain rfl := hr32
                  replace hc32 : ∀ j v, ([.int .i64 e31] : List Value)[j]? = some v → xsyown_xdata_0l72[Int.toNat x17l72 * 1 + j]? = some v := hc32
                  refine OkM.tail rfl rfl (OpOk.storeOwn (e := .int .i64) (q := Int.toNat x17l72) (cells := [.int .i64 e31]) (vs := [.int .i64 e29]) (el' := e29) 0 0 1 rfl hLyown_xdata_0l72 hc32 (by kernel_rfl) rfl rfl rfl (by kernel_rfl) (by kernel_rfl) (by kernel_rfl) (by kernel_rfl) (by kernel_rfl) (show Rep _ _ [.int .i64 e29] _ from rfl) fun xs33 hL33 => ?_)
                  rw [show yown_xdata_0l72.length = (yown_xdata_0l72.set (Int.toNat x17l72) e29).length from (List.length_set ..).symm]
                  refine OkM.leaf (i := 15) (show _ = [] from rfl) (Gle.refl _) (.cons _ .slnil) ?_
                  obtain ⟨h035, h135, hF⟩ := hF
                  have he35 := get_of (l := (yown_xdata_0l72.set (Int.toNat x17l72) e29)) (default : Int) h135
                  generalize hg35 : ((yown_xdata_0l72.set (Int.toNat x17l72) e29).getD (Int.toNat (IntKind.wrap .i64 (x17l72 - 1))) default) = e35 at he35 hF ⊢
                  refine OkM.tail rfl rfl (OpOk.indexOwn (e := .int .i64) (q := IntKind.wrap .i64 (x17l72 - 1)) (el := e35) 0 rfl hL33 rfl rfl Try.underlying24 (by kernel_rfl) (by kernel_rfl) h035 he35 rfl fun cs34 _ hr34 hc34 => ?_)
                  obtain rfl := hr34
                  replace hc34 : ∀ j v, ([.int .i64 e35] : List Value)[j]? = some v → xs33[Int.toNat (IntKind.wrap .i64 (x17l72 - 1)) * 1 + j]? = some v := hc34
                  refine OkM.leaf (i := 16) (show _ = [] from rfl) (Gle.refl _) (.cons _ .slnil) ?_
                  refine OkM.tail rfl rfl (OpOk.storeOwn (e := .int .i64) (q := Int.toNat (IntKind.wrap .i64 (x17l72 - 1))) (cells := [.int .i64 e35]) (vs := [.int .i64 e31]) (el' := e31) 0 0 1 rfl hL33 hc34 (by kernel_rfl) rfl rfl rfl (by kernel_rfl) (by kernel_rfl) (by kernel_rfl) (by kernel_rfl) (by kernel_rfl) (show Rep _ _ [.int .i64 e31] _ from rfl) fun xs36 hL36 => ?_)
                  rw [show (yown_xdata_0l72.set (Int.toNat x17l72) e29).length = ((yown_xdata_0l72.set (Int.toNat x17l72) e29).set (Int.toNat (IntKind.wrap .i64 (x17l72 - 1))) e31).length from (List.length_set ..).symm]
                  refine OkM.leaf (i := 17) (show _ = [] from rfl) (Gle.refl _) (.cons _ .slnil) ?_
                  refine OkM.nil ?_
                  refine Ok.blockN ?_
                  refine Ok.thenN ?_
                  refine Ok.region ?_
                  refine Ok.batch 3 [(0, .slice axdata ((yown_xdata_0l72.set (Int.toNat x17l72) e29).set (Int.toNat (IntKind.wrap .i64 (x17l72 - 1))) e31).length cxdata), (14, .int .i64 x14l53), (17, .int .i64 (IntKind.wrap .i64 (x17l72 - 1)))] (by kernel_rfl) ?_
                  refine Ok.nil ?_
                  refine Ok.thenN ?_
                  subst hg35
                  subst hg31
                  subst hg29
                  exact fun a W hA hW => ⟨k72, Nat.lt_succ_self _, gl72, hxl72, IntKind.wrap .i64 (x17l72 - 1), ((yown_xdata_0l72.set (Int.toNat x17l72) (yown_xdata_0l72.getD (Int.toNat (IntKind.wrap .i64 (x17l72 - 1))) default)).set (Int.toNat (IntKind.wrap .i64 (x17l72 - 1))) (yown_xdata_0l72.getD (Int.toNat x17l72) default)), xs36, hL36, (by simp only [List.length_set, hnyown_xdata_0l72]), hA.sub (by kernel_rfl), hW, hF⟩
                · replace hF := hF.2 hc27
                  refine Ok.exit ?_
                  refine Ok.thenE ?_
                  refine Ok.thenE ?_
                  refine Ok.blockHit ?_
                  refine Ok.thenN ?_
                  refine Ok.ret ?_
                  refine Ok.thenR ?_
                  exact Ok.resH (vs := []) (.inl rfl) rfl .nil (hxl53.trans hxl72) ⟨yown_xdata_0l72, xsyown_xdata_0l72, rfl, hLyown_xdata_0l72, rfl, hnyown_xdata_0l72, hF⟩
    · replace hF := hF.2 hc19
      refine Ok.skip ?_
      refine Ok.thenN ?_
      refine Ok.seq ?_
      refine Ok.region ?_
      refine Ok.batch 7 [(0, .slice axdata xdata.length cxdata), (1, .int .i64 xa), (2, .int .i64 xm), (3, .int .i64 xb), (4, vxcmp), (18, .int .i64 (IntKind.wrap .i64 (Int.fdiv (IntKind.wrap .u64 (IntKind.wrap .i64 (xa + xb))) (2 ^ 1))))] (by kernel_rfl) ?_
      refine Ok.nil ?_
      refine Ok.thenN ?_
      refine Ok.seq ?_
      refine Ok.region ?_
      refine Ok.batch 4 [(0, .slice axdata xdata.length cxdata), (1, .int .i64 xa), (2, .int .i64 xm), (3, .int .i64 xb), (4, vxcmp), (18, .int .i64 (IntKind.wrap .i64 (Int.fdiv (IntKind.wrap .u64 (IntKind.wrap .i64 (xa + xb))) (2 ^ 1)))), (19, .int .i64 (IntKind.wrap .i64 ((IntKind.wrap .i64 (Int.fdiv (IntKind.wrap .u64 (IntKind.wrap .i64 (xa + xb))) (2 ^ 1))) + xm)))] (by kernel_rfl) ?_
      refine Ok.nil ?_
      refine Ok.thenN ?_
      refine Ok.seq ?_
      refine Ok.region ?_
      refine Ok.batch 2 [(0, .slice axdata xdata.length cxdata), (1, .int .i64 xa), (2, .int .i64 xm), (3, .int .i64 xb), (4, vxcmp), (18, .int .i64 (IntKind.wrap .i64 (Int.fdiv (IntKind.wrap .u64 (IntKind.wrap .i64 (xa + xb))) (2 ^ 1)))), (19, .int .i64 (IntKind.wrap .i64 ((IntKind.wrap .i64 (Int.fdiv (IntKind.wrap .u64 (IntKind.wrap .i64 (xa + xb))) (2 ^ 1))) + xm)))] (by kernel_rfl) ?_
      refine Ok.nil ?_
      refine Ok.thenN ?_
      refine Ok.cut (fun a W => ∃ gj91 : Ghost, Gext w0 g gj91 ∧ StA 220 [(0, .slice axdata xdata.length cxdata), (1, .int .i64 xa), (2, .int .i64 xm), (3, .int .i64 xb), (4, vxcmp), (18, .int .i64 (IntKind.wrap .i64 (Int.fdiv (IntKind.wrap .u64 (IntKind.wrap .i64 (xa + xb))) (2 ^ 1)))), (19, .int .i64 (IntKind.wrap .i64 ((IntKind.wrap .i64 (Int.fdiv (IntKind.wrap .u64 (IntKind.wrap .i64 (xa + xb))) (2 ^ 1))) + xm))), (20, .int .i64 (symV0 xa xm xb)), (21, .int .i64 (symV1 xa xm xb))] a ∧ StW w0 [.own (.slice axdata xdata.length cxdata) 3 1 xdata.length xsxdata] gj91 W ∧ symj91 N xdata xa xm xb xcmp pxcmp K) ?_ ?_
      ·
        refine Ok.seq ?_
        refine Ok.region ?_
        refine Ok.batch 3 [(0, .slice axdata xdata.length cxdata), (1, .int .i64 xa), (2, .int .i64 xm), (3, .int .i64 xb), (4, vxcmp), (18, .int .i64 (IntKind.wrap .i64 (Int.fdiv (IntKind.wrap .u64 (IntKind.wrap .i64 (xa + xb))) (2 ^ 1)))), (19, .int .i64 (IntKind.wrap .i64 ((IntKind.wrap .i64 (Int.fdiv (IntKind.wrap .u64 (IntKind.wrap .i64 (xa + xb))) (2 ^ 1))) + xm))), (140, .bool (decide (xm > (IntKind.wrap .i64 (Int.fdiv (IntKind.wrap .u64 (IntKind.wrap .i64 (xa + xb))) (2 ^ 1))))))] (by kernel_rfl) ?_
        refine Ok.nil ?_
        refine Ok.thenN ?_
        refine Ok.cond (b := decide (xm > (IntKind.wrap .i64 (Int.fdiv (IntKind.wrap .u64 (IntKind.wrap .i64 (xa + xb))) (2 ^ 1))))) rfl (fun hc59 => ?_) (fun hc59 => ?_)
        · replace hF := hF.1 hc59
          refine Ok.seq ?_
          refine Ok.region ?_
          refine Ok.batch 4 [(0, .slice axdata xdata.length cxdata), (1, .int .i64 xa), (2, .int .i64 xm), (3, .int .i64 xb), (4, vxcmp), (18, .int .i64 (IntKind.wrap .i64 (Int.fdiv (IntKind.wrap .u64 (IntKind.wrap .i64 (xa + xb))) (2 ^ 1)))), (19, .int .i64 (IntKind.wrap .i64 ((IntKind.wrap .i64 (Int.fdiv (IntKind.wrap .u64 (IntKind.wrap .i64 (xa + xb))) (2 ^ 1))) + xm))), (20, .int .i64 (IntKind.wrap .i64 ((IntKind.wrap .i64 ((IntKind.wrap .i64 (Int.fdiv (IntKind.wrap .u64 (IntKind.wrap .i64 (xa + xb))) (2 ^ 1))) + xm)) - xb)))] (by kernel_rfl) ?_
          refine Ok.nil ?_
          refine Ok.thenN ?_
          refine Ok.region ?_
          refine Ok.batch 2 [(0, .slice axdata xdata.length cxdata), (1, .int .i64 xa), (2, .int .i64 xm), (3, .int .i64 xb), (4, vxcmp), (18, .int .i64 (IntKind.wrap .i64 (Int.fdiv (IntKind.wrap .u64 (IntKind.wrap .i64 (xa + xb))) (2 ^ 1)))), (19, .int .i64 (IntKind.wrap .i64 ((IntKind.wrap .i64 (Int.fdiv (IntKind.wrap .u64 (IntKind.wrap .i64 (xa + xb))) (2 ^ 1))) + xm))), (20, .int .i64 (IntKind.wrap .i64 ((IntKind.wrap .i64 ((IntKind.wrap .i64 (Int.fdiv (IntKind.wrap .u64 (IntKind.wrap .i64 (xa + xb))) (2 ^ 1))) + xm)) - xb))), (21, .int .i64 (IntKind.wrap .i64 (Int.fdiv (IntKind.wrap .u64 (IntKind.wrap .i64 (xa + xb))) (2 ^ 1))))] (by kernel_rfl) ?_
          refine Ok.nil ?_
          refine Ok.thenN ?_
          refine Ok.reval 20 rfl (show (.int .i64 (IntKind.wrap .i64 ((IntKind.wrap .i64 ((IntKind.wrap .i64 (Int.fdiv (IntKind.wrap .u64 (IntKind.wrap .i64 (xa + xb))) (2 ^ 1))) + xm)) - xb)) : Value) = .int .i64 (symV0 xa xm xb) from congrArg (Value.int .i64) ((if_t hc59).symm)) ?_
          refine Ok.reval 21 rfl (show (.int .i64 (IntKind.wrap .i64 (Int.fdiv (IntKind.wrap .u64 (IntKind.wrap .i64 (xa + xb))) (2 ^ 1))) : Value) = .int .i64 (symV1 xa xm xb) from congrArg (Value.int .i64) ((if_t hc59).symm)) ?_
          exact fun a W hA hW => ⟨g, (Gext.refl w0 g), hA.sub (by kernel_rfl), hW, hF⟩
        · replace hF := hF.2 hc59
          refine Ok.seq ?_
          refine Ok.region ?_
          refine Ok.batch 2 [(0, .slice axdata xdata.length cxdata), (1, .int .i64 xa), (2, .int .i64 xm), (3, .int .i64 xb), (4, vxcmp), (18, .int .i64 (IntKind.wrap .i64 (Int.fdiv (IntKind.wrap .u64 (IntKind.wrap .i64 (xa + xb))) (2 ^ 1)))), (19, .int .i64 (IntKind.wrap .i64 ((IntKind.wrap .i64 (Int.fdiv (IntKind.wrap .u64 (IntKind.wrap .i64 (xa + xb))) (2 ^ 1))) + xm))), (20, .int .i64 xa)] (by kernel_rfl) ?_
          refine Ok.nil ?_
          refine Ok.thenN ?_
          refine Ok.region ?_
          refine Ok.batch 2 [(0, .slice axdata xdata.length cxdata), (1, .int .i64 xa), (2, .int .i64 xm), (3, .int .i64 xb), (4, vxcmp), (18, .int .i64 (IntKind.wrap .i64 (Int.fdiv (IntKind.wrap .u64 (IntKind.wrap .i64 (xa + xb))) (2 ^ 1)))), (19, .int .i64 (IntKind.wrap .i64 ((IntKind.wrap .i64 (Int.fdiv (IntKind.wrap .u64 (IntKind.wrap .i64 (xa + xb))) (2 ^ 1))) + xm))), (20, .int .i64 xa), (21, .int .i64 xm)] (by kernel_rfl) ?_
          refine Ok.nil ?_
          refine Ok.thenN ?_
          refine Ok.reval 20 rfl (show (.int .i64 xa : Value) = .int .i64 (symV0 xa xm xb) from congrArg (Value.int .i64) ((if_f hc59).symm)) ?_
          refine Ok.reval 21 rfl (show (.int .i64 xm : Value) = .int .i64 (symV1 xa xm xb) from congrArg (Value.int .i64) ((if_f hc59).symm)) ?_
          exact fun a W hA hW => ⟨g, (Gext.refl w0 g), hA.sub (by kernel_rfl), hW, hF⟩
      ·
        clear hF
        rintro a W ⟨gj91, hxj91, hA, hW, hF⟩
        refine (?_ : Ok _ _ _ _ _ _) a W hA hW
        clear hA hW
        replace hLxdata := hLxdata.mono hxj91.1
        replace hfxcmp := (fun y0 y1 hp => (hfxcmp y0 y1 hp).mono hxj91.1)
        refine Ok.seq ?_
        refine Ok.region ?_
        refine Ok.batch 3 [(0, .slice axdata xdata.length cxdata), (1, .int .i64 xa), (2, .int .i64 xm), (3, .int .i64 xb), (4, vxcmp), (18, .int .i64 (IntKind.wrap .i64 (Int.fdiv (IntKind.wrap .u64 (IntKind.wrap .i64 (xa + xb))) (2 ^ 1)))), (19, .int .i64 (IntKind.wrap .i64 ((IntKind.wrap .i64 (Int.fdiv (IntKind.wrap .u64 (IntKind.wrap .i64 (xa + xb))) (2 ^ 1))) + xm))), (20, .int .i64 (symV0 xa xm xb)), (21, .int .i64 (symV1 xa xm xb)), (22, .int .i64 (IntKind.wrap .i64 ((IntKind.wrap .i64 ((IntKind.wrap .i64 (Int.fdiv (IntKind.wrap .u64 (IntKind.wrap .i64 (xa + xb))) (2 ^ 1))) + xm)) - 1)))] (by kernel_rfl) ?_
        refine Ok.nil ?_
        refine Ok.thenN ?_
        refine Ok.seq ?_
        refine Ok.block ?_
        obtain ⟨k, hF⟩ := hF
        refine Ok.loop (fun k a W => ∃ gl105 : Ghost, Gext w0 gj91 gl105 ∧ ∃ (x20l105 : Int) (x21l105 : Int), StA 220 [(0, .slice axdata xdata.length cxdata), (1, .int .i64 xa), (2, .int .i64 xm), (3, .int .i64 xb), (4, vxcmp), (18, .int .i64 (IntKind.wrap .i64 (Int.fdiv (IntKind.wrap .u64 (IntKind.wrap .i64 (xa + xb))) (2 ^ 1)))), (19, .int .i64 (IntKind.wrap .i64 ((IntKind.wrap .i64 (Int.fdiv (IntKind.wrap .u64 (IntKind.wrap .i64 (xa + xb))) (2 ^ 1))) + xm))), (20, .int .i64 x20l105), (21, .int .i64 x21l105), (22, .int .i64 (IntKind.wrap .i64 ((IntKind.wrap .i64 ((IntKind.wrap .i64 (Int.fdiv (IntKind.wrap .u64 (IntKind.wrap .i64 (xa + xb))) (2 ^ 1))) + xm)) - 1)))] a ∧ StW w0 [.own (.slice axdata xdata.length cxdata) 3 1 xdata.length xsxdata] gl105 W ∧ syml105 N xdata xa xm xb xcmp pxcmp K k x20l105 x21l105) k ?_ ?_
        ·
          exact fun a W hA hW => ⟨gj91, (Gext.refl w0 gj91), (symV0 xa xm xb), (symV1 xa xm xb), hA.sub (by kernel_rfl), hW, hF⟩
        ·
          clear hF
          rintro k105 a W ⟨gl105, hxl105, x20l105, x21l105, hA, hW, hF⟩
          cases k105 with
          | zero => exact (hF : False).elim
          | succ k105 =>
            refine (?_ : Ok _ _ _ _ _ _) a W hA hW
            clear hA hW
            replace hLxdata := hLxdata.mono hxl105.1
            replace hfxcmp := (fun y0 y1 hp => (hfxcmp y0 y1 hp).mono hxl105.1)
            refine Ok.seq ?_
            refine Ok.seq ?_
            refine Ok.region ?_
            refine Ok.batch 3 [(0, .slice axdata xdata.length cxdata), (1, .int .i64 xa), (2, .int .i64 xm), (3, .int .i64 xb), (4, vxcmp), (18, .int .i64 (IntKind.wrap .i64 (Int.fdiv (IntKind.wrap .u64 (IntKind.wrap .i64 (xa + xb))) (2 ^ 1)))), (19, .int .i64 (IntKind.wrap .i64 ((IntKind.wrap .i64 (Int.fdiv (IntKind.wrap .u64 (IntKind.wrap .i64 (xa + xb))) (2 ^ 1))) + xm))), (20, .int .i64 x20l105), (21, .int .i64 x21l105), (22, .int .i64 (IntKind.wrap .i64 ((IntKind.wrap .i64 ((IntKind.wrap .i64 (Int.fdiv (IntKind.wrap .u64 (IntKind.wrap .i64 (xa + xb))) (2 ^ 1))) + xm)) - 1))), (151, .bool (decide (x20l105 < x21l105)))] (by kernel_rfl) ?_
            refine Ok.nil ?_
            refine Ok.thenN ?_
            refine Ok.cond (b := decide (x20l105 < x21l105)) rfl (fun hc37 => ?_) (fun hc37 => ?_)
            · replace hF := hF.1 hc37
              refine Ok.skip ?_
              refine Ok.thenN ?_
              refine Ok.block ?_
              refine Ok.seq ?_
              refine Ok.region ?_
              refine Ok.batch 7 [(0, .slice axdata xdata.length cxdata), (1, .int .i64 xa), (2, .int .i64 xm), (3, .int .i64 xb), (4, vxcmp), (18, .int .i64 (IntKind.wrap .i64 (Int.fdiv (IntKind.wrap .u64 (IntKind.wrap .i64 (xa + xb))) (2 ^ 1)))), (19, .int .i64 (IntKind.wrap .i64 ((IntKind.wrap .i64 (Int.fdiv (IntKind.wrap .u64 (IntKind.wrap .i64 (xa + xb))) (2 ^ 1))) + xm))), (20, .int .i64 x20l105), (21, .int .i64 x21l105), (22, .int .i64 (IntKind.wrap .i64 ((IntKind.wrap .i64 ((IntKind.wrap .i64 (Int.fdiv (IntKind.wrap .u64 (IntKind.wrap .i64 (xa + xb))) (2 ^ 1))) + xm)) - 1))), (23, .int .i64 (IntKind.wrap .i64 (Int.fdiv (IntKind.wrap .u64 (IntKind.wrap .i64 (x20l105 + x21l105))) (2 ^ 1))))] (by kernel_rfl) ?_
              refine Ok.nil ?_
              refine Ok.thenN ?_
              refine Ok.seq ?_
              refine Ok.quiet' (by kernel_rfl) (by kernel_rfl) ?_
              refine OkQ.batch 5 [(0, .slice axdata xdata.length cxdata), (1, .int .i64 xa), (2, .int .i64 xm), (3, .int .i64 xb), (4, vxcmp), (18, .int .i64 (IntKind.wrap .i64 (Int.fdiv (IntKind.wrap .u64 (IntKind.wrap .i64 (xa + xb))) (2 ^ 1)))), (19, .int .i64 (IntKind.wrap .i64 ((IntKind.wrap .i64 (Int.fdiv (IntKind.wrap .u64 (IntKind.wrap .i64 (xa + xb))) (2 ^ 1))) + xm))), (20, .int .i64 x20l105), (21, .int .i64 x21l105), (22, .int .i64 (IntKind.wrap .i64 ((IntKind.wrap .i64 ((IntKind.wrap .i64 (Int.fdiv (IntKind.wrap .u64 (IntKind.wrap .i64 (xa + xb))) (2 ^ 1))) + xm)) - 1))), (23, .int .i64 (IntKind.wrap .i64 (Int.fdiv (IntKind.wrap .u64 (IntKind.wrap .i64 (x20l105 + x21l105))) (2 ^ 1)))), (158, vxcmp), (159, .slice axdata xdata.length cxdata), (162, .int .i64 (IntKind.wrap .i64 ((IntKind.wrap .i64 ((IntKind.wrap .i64 ((IntKind.wrap .i64 (Int.fdiv (IntKind.wrap .u64 (IntKind.wrap .i64 (xa + xb))) (2 ^ 1))) + xm)) - 1)) - (IntKind.wrap .i64 (Int.fdiv (IntKind.wrap .u64 (IntKind.wrap .i64 (x20l105 + x21l105))) (2 ^ 1))))))] (by kernel_rfl) ?_
              obtain ⟨h039, h139, hF⟩ := hF
              have he39 := get_of (l := xdata) (default : Int) h139
              generalize hg39 : (xdata.getD (Int.toNat (IntKind.wrap .i64 ((IntKind.wrap .i64 ((IntKind.wrap .i64 ((IntKind.wrap .i64 (Int.fdiv (IntKind.wrap .u64 (IntKind.wrap .i64 (xa + xb))) (2 ^ 1))) + xm)) - 1)) - (IntKind.wrap .i64 (Int.fdiv (IntKind.wrap .u64 (IntKind.wrap .i64 (x20l105 + x21l105))) (2 ^ 1)))))) default) = e39 at he39 hF ⊢
              refine OkQ.op rfl (OpQ.indexOwn (e := .int .i64) (q := IntKind.wrap .i64 ((IntKind.wrap .i64 ((IntKind.wrap .i64 ((IntKind.wrap .i64 (Int.fdiv (IntKind.wrap .u64 (IntKind.wrap .i64 (xa + xb))) (2 ^ 1))) + xm)) - 1)) - (IntKind.wrap .i64 (Int.fdiv (IntKind.wrap .u64 (IntKind.wrap .i64 (x20l105 + x21l105))) (2 ^ 1))))) (el := e39) 0 rfl hLxdata rfl rfl Try.underlying24 (by kernel_rfl) (by kernel_rfl) h039 he39 rfl fun cs38 _ hr38 hc38 => ?_)
              obtain rfl := hr38
              replace hc38 : ∀ j v, ([.int .i64 e39] : List Value)[j]? = some v → xsxdata[Int.toNat (IntKind.wrap .i64 ((IntKind.wrap .i64 ((IntKind.wrap .i64 ((IntKind.wrap .i64 (Int.fdiv (IntKind.wrap .u64 (IntKind.wrap .i64 (xa + xb))) (2 ^ 1))) + xm)) - 1)) - (IntKind.wrap .i64 (Int.fdiv (IntKind.wrap .u64 (IntKind.wrap .i64 (x20l105 + x21l105))) (2 ^ 1))))) * 1 + j]? = some v := hc38
              refine OkQ.op rfl (OpQ.step (v := .int .i64 e39) (Yields.loadOwn 0 0 rfl hc38 rfl Try.underlying3 rfl (by kernel_rfl)) rfl rfl ?_)
              refine OkQ.batch 2 [(0, .slice axdata xdata.length cxdata), (1, .int .i64 xa), (2, .int .i64 xm), (3, .int .i64 xb), (4, vxcmp), (18, .int .i64 (IntKind.wrap .i64 (Int.fdiv (IntKind.wrap .u64 (IntKind.wrap .i64 (xa + xb))) (2 ^ 1)))), (19, .int .i64 (IntKind.wrap .i64 ((IntKind.wrap .i64 (Int.fdiv (IntKind.wrap .u64 (IntKind.wrap .i64 (xa + xb))) (2 ^ 1))) + xm))), (20, .int .i64 x20l105), (21, .int .i64 x21l105), (22, .int .i64 (IntKind.wrap .i64 ((IntKind.wrap .i64 ((IntKind.wrap .i64 (Int.fdiv (IntKind.wrap .u64 (IntKind.wrap .i64 (xa + xb))) (2 ^ 1))) + xm)) - 1))), (23, .int .i64 (IntKind.wrap .i64 (Int.fdiv (IntKind.wrap .u64 (IntKind.wrap .i64 (x20l105 + x21l105))) (2 ^ 1)))), (158, vxcmp), (164, .int .i64 e39), (165, .slice axdata xdata.length cxdata), (166, .int .i64 (IntKind.wrap .i64 (Int.fdiv (IntKind.wrap .u64 (IntKind.wrap .i64 (x20l105 + x21l105))) (2 ^ 1))))] (by kernel_rfl) ?_
              obtain ⟨h041, h141, hF⟩ := hF
              have he41 := get_of (l := xdata) (default : Int) h141
              generalize hg41 : (xdata.getD (Int.toNat (IntKind.wrap .i64 (Int.fdiv (IntKind.wrap .u64 (IntKind.wrap .i64 (x20l105 + x21l105))) (2 ^ 1)))) default) = e41 at he41 hF ⊢
              refine OkQ.op rfl (OpQ.indexOwn (e := .int .i64) (q := IntKind.wrap .i64 (Int.fdiv (IntKind.wrap .u64 (IntKind.wrap .i64 (x20l105 + x21l105))) (2 ^ 1))) (el := e41) 0 rfl hLxdata rfl rfl Try.underlying24 (by kernel_rfl) (by kernel_rfl) h041 he41 rfl fun cs40 _ hr40 hc40 => ?_)
              obtain rfl := hr40
              replace hc40 : ∀ j v, ([.int .i64 e41] : List Value)[j]? = some v → xsxdata[Int.toNat (IntKind.wrap .i64 (Int.fdiv (IntKind.wrap .u64 (IntKind.wrap .i64 (x20l105 + x21l105))) (2 ^ 1))) * 1 + j]? = some v := hc40
              refine OkQ.op rfl (OpQ.step (v := .int .i64 e41) (Yields.loadOwn 0 0 rfl hc40 rfl Try.underlying3 rfl (by kernel_rfl)) rfl rfl ?_)
              obtain ⟨hq42, hF⟩ := hF
              refine OkQ.op rfl (OpQ.apply (args := #[.int .i64 e39, .int .i64 e41]) (v := .int .i64 (xcmp e39 e41)) rfl (by kernel_rfl) (by kernel_rfl) (hfxcmp e39 e41 hq42) rfl ?_)
              refine OkQ.batch 2 [(0, .slice axdata xdata.length cxdata), (1, .int .i64 xa), (2, .int .i64 xm), (3, .int .i64 xb), (4, vxcmp), (18, .int .i64 (IntKind.wrap .i64 (Int.fdiv (IntKind.wrap .u64 (IntKind.wrap .i64 (xa + xb))) (2 ^ 1)))), (19, .int .i64 (IntKind.wrap .i64 ((IntKind.wrap .i64 (Int.fdiv (IntKind.wrap .u64 (IntKind.wrap .i64 (xa + xb))) (2 ^ 1))) + xm))), (20, .int .i64 x20l105), (21, .int .i64 x21l105), (22, .int .i64 (IntKind.wrap .i64 ((IntKind.wrap .i64 ((IntKind.wrap .i64 (Int.fdiv (IntKind.wrap .u64 (IntKind.wrap .i64 (xa + xb))) (2 ^ 1))) + xm)) - 1))), (23, .int .i64 (IntKind.wrap .i64 (Int.fdiv (IntKind.wrap .u64 (IntKind.wrap .i64 (x20l105 + x21l105))) (2 ^ 1)))), (171, .bool (!(decide ((xcmp e39 e41) < 0))))] (by kernel_rfl) ?_
              refine OkQ.nil ?_
              refine Ok.thenN ?_
              refine Ok.cond (b := !(decide ((xcmp e39 e41) < 0))) rfl (fun hc43 => ?_) (fun hc43 => ?_)
              · replace hF := hF.1 hc43
                refine Ok.region ?_
                refine Ok.batch 3 [(0, .slice axdata xdata.length cxdata), (1, .int .i64 xa), (2, .int .i64 xm), (3, .int .i64 xb), (4, vxcmp), (18, .int .i64 (IntKind.wrap .i64 (Int.fdiv (IntKind.wrap .u64 (IntKind.wrap .i64 (xa + xb))) (2 ^ 1)))), (19, .int .i64 (IntKind.wrap .i64 ((IntKind.wrap .i64 (Int.fdiv (IntKind.wrap .u64 (IntKind.wrap .i64 (xa + xb))) (2 ^ 1))) + xm))), (20, .int .i64 (IntKind.wrap .i64 ((IntKind.wrap .i64 (Int.fdiv (IntKind.wrap .u64 (IntKind.wrap .i64 (x20l105 + x21l105))) (2 ^ 1))) + 1))), (21, .int .i64 x21l105), (22, .int .i64 (IntKind.wrap .i64 ((IntKind.wrap .i64 ((IntKind.wrap .i64 (Int.fdiv (IntKind.wrap .u64 (IntKind.wrap .i64 (xa + xb))) (2 ^ 1))) + xm)) - 1)))] (by kernel_rfl) ?_
                refine Ok.nil ?_
                refine Ok.blockN ?_
                refine Ok.thenN ?_
                subst hg41
                subst hg39
                exact fun a W hA hW => ⟨k105, Nat.lt_succ_self _, gl105, hxl105, IntKind.wrap .i64 ((IntKind.wrap .i64 (Int.fdiv (IntKind.wrap .u64 (IntKind.wrap .i64 (x20l105 + x21l105))) (2 ^ 1))) + 1), x21l105, hA.sub (by kernel_rfl), hW, hF⟩
              · replace hF := hF.2 hc43
                refine Ok.region ?_
                refine Ok.batch 2 [(0, .slice axdata xdata.length cxdata), (1, .int .i64 xa), (2, .int .i64 xm), (3, .int .i64 xb), (4, vxcmp), (18, .int .i64 (IntKind.wrap .i64 (Int.fdiv (IntKind.wrap .u64 (IntKind.wrap .i64 (xa + xb))) (2 ^ 1)))), (19, .int .i64 (IntKind.wrap .i64 ((IntKind.wrap .i64 (Int.fdiv (IntKind.wrap .u64 (IntKind.wrap .i64 (xa + xb))) (2 ^ 1))) + xm))), (20, .int .i64 x20l105), (21, .int .i64 (IntKind.wrap .i64 (Int.fdiv (IntKind.wrap .u64 (IntKind.wrap .i64 (x20l105 + x21l105))) (2 ^ 1)))), (22, .int .i64 (IntKind.wrap .i64 ((IntKind.wrap .i64 ((IntKind.wrap .i64 (Int.fdiv (IntKind.wrap .u64 (IntKind.wrap .i64 (xa + xb))) (2 ^ 1))) + xm)) - 1)))] (by kernel_rfl) ?_
                refine Ok.nil ?_
                refine Ok.blockN ?_
                refine Ok.thenN ?_
                subst hg41
                subst hg39
                exact fun a W hA hW => ⟨k105, Nat.lt_succ_self _, gl105, hxl105, x20l105, IntKind.wrap .i64 (Int.fdiv (IntKind.wrap .u64 (IntKind.wrap .i64 (x20l105 + x21l105))) (2 ^ 1)), hA.sub (by kernel_rfl), hW, hF⟩
            · replace hF := hF.2 hc37
              refine Ok.exit ?_
              refine Ok.thenE ?_
              refine Ok.thenE ?_
              refine Ok.blockHit ?_
              refine Ok.thenN ?_
              refine Ok.seq ?_
              refine Ok.region ?_
              refine Ok.batch 4 [(0, .slice axdata xdata.length cxdata), (1, .int .i64 xa), (2, .int .i64 xm), (3, .int .i64 xb), (4, vxcmp), (18, .int .i64 (IntKind.wrap .i64 (Int.fdiv (IntKind.wrap .u64 (IntKind.wrap .i64 (xa + xb))) (2 ^ 1)))), (20, .int .i64 x20l105), (24, .int .i64 (IntKind.wrap .i64 ((IntKind.wrap .i64 ((IntKind.wrap .i64 (Int.fdiv (IntKind.wrap .u64 (IntKind.wrap .i64 (xa + xb))) (2 ^ 1))) + xm)) - x20l105)))] (by kernel_rfl) ?_
              refine Ok.nil ?_
              refine Ok.thenN ?_
              refine Ok.cut (fun a W => ∃ gj122 : Ghost, Gext w0 gl105 gj122 ∧ ∃ (xsyown_xdata_0j122 : List Value), RepL gj122 (.int .i64) xsyown_xdata_0j122 (symV2 xdata xa xm xb xcmp x20l105) ∧ (symV2 xdata xa xm xb xcmp x20l105).length = xdata.length ∧ StA 220 [(0, .slice axdata (symV2 xdata xa xm xb xcmp x20l105).length cxdata), (1, .int .i64 xa), (3, .int .i64 xb), (4, vxcmp), (18, .int .i64 (IntKind.wrap .i64 (Int.fdiv (IntKind.wrap .u64 (IntKind.wrap .i64 (xa + xb))) (2 ^ 1)))), (20, .int .i64 x20l105), (24, .int .i64 (IntKind.wrap .i64 ((IntKind.wrap .i64 ((IntKind.wrap .i64 (Int.fdiv (IntKind.wrap .u64 (IntKind.wrap .i64 (xa + xb))) (2 ^ 1))) + xm)) - x20l105)))] a ∧ StW w0 [.own (.slice axdata (symV2 xdata xa xm xb xcmp x20l105).length cxdata) 3 1 (symV2 xdata xa xm xb xcmp x20l105).length xsyown_xdata_0j122] gj122 W ∧ symj122 N xdata xa xm xb xcmp pxcmp K x20l105) ?_ ?_
              ·
                refine Ok.seq ?_
                refine Ok.region ?_
                refine Ok.batch 4 [(0, .slice axdata xdata.length cxdata), (1, .int .i64 xa), (2, .int .i64 xm), (3, .int .i64 xb), (4, vxcmp), (18, .int .i64 (IntKind.wrap .i64 (Int.fdiv (IntKind.wrap .u64 (IntKind.wrap .i64 (xa + xb))) (2 ^ 1)))), (20, .int .i64 x20l105), (24, .int .i64 (IntKind.wrap .i64 ((IntKind.wrap .i64 ((IntKind.wrap .i64 (Int.fdiv (IntKind.wrap .u64 (IntKind.wrap .i64 (xa + xb))) (2 ^ 1))) + xm)) - x20l105))), (181, .bool (decide (x20l105 < xm)))] (by kernel_rfl) ?_
                refine Ok.midway 4 [(0, .slice axdata xdata.length cxdata), (1, .int .i64 xa), (2, .int .i64 xm), (3, .int .i64 xb), (4, vxcmp), (18, .int .i64 (IntKind.wrap .i64 (Int.fdiv (IntKind.wrap .u64 (IntKind.wrap .i64 (xa + xb))) (2 ^ 1)))), (20, .int .i64 x20l105), (24, .int .i64 (IntKind.wrap .i64 ((IntKind.wrap .i64 ((IntKind.wrap .i64 (Int.fdiv (IntKind.wrap .u64 (IntKind.wrap .i64 (xa + xb))) (2 ^ 1))) + xm)) - x20l105))), (185, .bool ((decide (x20l105 < xm)) && (decide (xm < (IntKind.wrap .i64 ((IntKind.wrap .i64 ((IntKind.wrap .i64 (Int.fdiv (IntKind.wrap .u64 (IntKind.wrap .i64 (xa + xb))) (2 ^ 1))) + xm)) - x20l105))))))] (fun hR54 => ?_) ?_
                · refine Ok.boolAt 181 (decide (x20l105 < xm)) rfl (fun hc55 => ?_) (fun hc55 => ?_)
                  · skip
                    refine Ok.batch 4 [(0, .slice axdata xdata.length cxdata), (1, .int .i64 xa), (2, .int .i64 xm), (3, .int .i64 xb), (4, vxcmp), (18, .int .i64 (IntKind.wrap .i64 (Int.fdiv (IntKind.wrap .u64 (IntKind.wrap .i64 (xa + xb))) (2 ^ 1)))), (20, .int .i64 x20l105), (24, .int .i64 (IntKind.wrap .i64 ((IntKind.wrap .i64 ((IntKind.wrap .i64 (Int.fdiv (IntKind.wrap .u64 (IntKind.wrap .i64 (xa + xb))) (2 ^ 1))) + xm)) - x20l105))), (185, .bool (decide (xm < (IntKind.wrap .i64 ((IntKind.wrap .i64 ((IntKind.wrap .i64 (Int.fdiv (IntKind.wrap .u64 (IntKind.wrap .i64 (xa + xb))) (2 ^ 1))) + xm)) - x20l105)))))] (by kernel_rfl) ?_
                    refine Ok.reval 185 rfl (show (.bool (decide (xm < (IntKind.wrap .i64 ((IntKind.wrap .i64 ((IntKind.wrap .i64 (Int.fdiv (IntKind.wrap .u64 (IntKind.wrap .i64 (xa + xb))) (2 ^ 1))) + xm)) - x20l105)))) : Value) = .bool ((decide (x20l105 < xm)) && (decide (xm < (IntKind.wrap .i64 ((IntKind.wrap .i64 ((IntKind.wrap .i64 (Int.fdiv (IntKind.wrap .u64 (IntKind.wrap .i64 (xa + xb))) (2 ^ 1))) + xm)) - x20l105))))) from congrArg Value.bool (mand_t hc55)) ?_
                    refine Ok.batch 0 [(0, .slice axdata xdata.length cxdata), (1, .int .i64 xa), (2, .int .i64 xm), (3, .int .i64 xb), (4, vxcmp), (18, .int .i64 (IntKind.wrap .i64 (Int.fdiv (IntKind.wrap .u64 (IntKind.wrap .i64 (xa + xb))) (2 ^ 1)))), (20, .int .i64 x20l105), (24, .int .i64 (IntKind.wrap .i64 ((IntKind.wrap .i64 ((IntKind.wrap .i64 (Int.fdiv (IntKind.wrap .u64 (IntKind.wrap .i64 (xa + xb))) (2 ^ 1))) + xm)) - x20l105))), (185, .bool ((decide (x20l105 < xm)) && (decide (xm < (IntKind.wrap .i64 ((IntKind.wrap .i64 ((IntKind.wrap .i64 (Int.fdiv (IntKind.wrap .u64 (IntKind.wrap .i64 (xa + xb))) (2 ^ 1))) + xm)) - x20l105))))))] (by kernel_rfl) ?_
                    exact hR54
                  · skip
                    refine Ok.batch 4 [(0, .slice axdata xdata.length cxdata), (1, .int .i64 xa), (2, .int .i64 xm), (3, .int .i64 xb), (4, vxcmp), (18, .int .i64 (IntKind.wrap .i64 (Int.fdiv (IntKind.wrap .u64 (IntKind.wrap .i64 (xa + xb))) (2 ^ 1)))), (20, .int .i64 x20l105), (24, .int .i64 (IntKind.wrap .i64 ((IntKind.wrap .i64 ((IntKind.wrap .i64 (Int.fdiv (IntKind.wrap .u64 (IntKind.wrap .i64 (xa + xb))) (2 ^ 1))) + xm)) - x20l105))), (185, .bool false)] (by kernel_rfl) ?_
                    refine Ok.reval 185 rfl (show (.bool false : Value) = .bool ((decide (x20l105 < xm)) && (decide (xm < (IntKind.wrap .i64 ((IntKind.wrap .i64 ((IntKind.wrap .i64 (Int.fdiv (IntKind.wrap .u64 (IntKind.wrap .i64 (xa + xb))) (2 ^ 1))) + xm)) - x20l105))))) from congrArg Value.bool (mand_f hc55)) ?_
                    refine Ok.batch 0 [(0, .slice axdata xdata.length cxdata), (1, .int .i64 xa), (2, .int .i64 xm), (3, .int .i64 xb), (4, vxcmp), (18, .int .i64 (IntKind.wrap .i64 (Int.fdiv (IntKind.wrap .u64 (IntKind.wrap .i64 (xa + xb))) (2 ^ 1)))), (20, .int .i64 x20l105), (24, .int .i64 (IntKind.wrap .i64 ((IntKind.wrap .i64 ((IntKind.wrap .i64 (Int.fdiv (IntKind.wrap .u64 (IntKind.wrap .i64 (xa + xb))) (2 ^ 1))) + xm)) - x20l105))), (185, .bool ((decide (x20l105 < xm)) && (decide (xm < (IntKind.wrap .i64 ((IntKind.wrap .i64 ((IntKind.wrap .i64 (Int.fdiv (IntKind.wrap .u64 (IntKind.wrap .i64 (xa + xb))) (2 ^ 1))) + xm)) - x20l105))))))] (by kernel_rfl) ?_
                    exact hR54
                refine Ok.nil ?_
                refine Ok.thenN ?_
                refine Ok.cond (b := ((decide (x20l105 < xm)) && (decide (xm < (IntKind.wrap .i64 ((IntKind.wrap .i64 ((IntKind.wrap .i64 (Int.fdiv (IntKind.wrap .u64 (IntKind.wrap .i64 (xa + xb))) (2 ^ 1))) + xm)) - x20l105)))))) rfl (fun hc56 => ?_) (fun hc56 => ?_)
                · replace hF := hF.1 hc56
                  refine Ok.region ?_
                  refine Ok.batch 5 [(0, .slice axdata xdata.length cxdata), (1, .int .i64 xa), (3, .int .i64 xb), (4, vxcmp), (18, .int .i64 (IntKind.wrap .i64 (Int.fdiv (IntKind.wrap .u64 (IntKind.wrap .i64 (xa + xb))) (2 ^ 1)))), (20, .int .i64 x20l105), (24, .int .i64 (IntKind.wrap .i64 ((IntKind.wrap .i64 ((IntKind.wrap .i64 (Int.fdiv (IntKind.wrap .u64 (IntKind.wrap .i64 (xa + xb))) (2 ^ 1))) + xm)) - x20l105))), (186, .slice axdata xdata.length cxdata), (187, .int .i64 x20l105), (188, .int .i64 xm), (189, .int .i64 (IntKind.wrap .i64 ((IntKind.wrap .i64 ((IntKind.wrap .i64 (Int.fdiv (IntKind.wrap .u64 (IntKind.wrap .i64 (xa + xb))) (2 ^ 1))) + xm)) - x20l105))), (190, vxcmp)] (by kernel_rfl) ?_
                  obtain ⟨hp57, hF⟩ := hF
                  refine Ok.op rfl (OpOk.callH [.own (.slice axdata xdata.length cxdata) 3 1 xdata.length xsxdata] [] (enters (by kernel_rfl) (fun _ => by kernel_rfl)) rfl (sro_c xdata x20l105 xm (IntKind.wrap .i64 ((IntKind.wrap .i64 ((IntKind.wrap .i64 (Int.fdiv (IntKind.wrap .u64 (IntKind.wrap .i64 (xa + xb))) (2 ^ 1))) + xm)) - x20l105)) xcmp pxcmp hLxdata hfxcmp hp57) rfl fun g58 _ _ hx58 hV58 => ?_)
                  obtain ⟨xs58_0, rfl, hL58_0, rfl, hlen58_0⟩ := hV58
                  replace hLxdata := hLxdata.mono hx58.1
                  replace hfxcmp := (fun y0 y1 hp => (hfxcmp y0 y1 hp).mono hx58.1)
                  refine Ok.reval 0 rfl (show (.slice axdata xdata.length cxdata : Value) = .slice axdata (sroS xdata x20l105 xm (IntKind.wrap .i64 ((IntKind.wrap .i64 ((IntKind.wrap .i64 (Int.fdiv (IntKind.wrap .u64 (IntKind.wrap .i64 (xa + xb))) (2 ^ 1))) + xm)) - x20l105)) xcmp).length cxdata from by rw [hlen58_0]) ?_
                  refine Ok.reval 186 rfl (show (.slice axdata xdata.length cxdata : Value) = .slice axdata (sroS xdata x20l105 xm (IntKind.wrap .i64 ((IntKind.wrap .i64 ((IntKind.wrap .i64 (Int.fdiv (IntKind.wrap .u64 (IntKind.wrap .i64 (xa + xb))) (2 ^ 1))) + xm)) - x20l105)) xcmp).length cxdata from by rw [hlen58_0]) ?_
                  refine Ok.nil ?_
                  refine Ok.thenN ?_
                  refine Ok.reval 0 rfl (show (.slice axdata (sroS xdata x20l105 xm (IntKind.wrap .i64 ((IntKind.wrap .i64 ((IntKind.wrap .i64 (Int.fdiv (IntKind.wrap .u64 (IntKind.wrap .i64 (xa + xb))) (2 ^ 1))) + xm)) - x20l105)) xcmp).length cxdata : Value) = .slice axdata (symV2 xdata xa xm xb xcmp x20l105).length cxdata from congrArg (fun l : List (Int) => Value.slice axdata l.length cxdata) ((if_t hc56).symm)) ?_
                  refine Ok.heapEq (H' := [.own (.slice axdata (symV2 xdata xa xm xb xcmp x20l105).length cxdata) 3 1 (symV2 xdata xa xm xb xcmp x20l105).length xs58_0]) (econs (congrArg (fun l : List (Int) => Ent.own (.slice axdata l.length cxdata) 3 1 l.length xs58_0) ((if_t hc56).symm)) rfl) ?_
                  exact fun a W hA hW => ⟨g58, hx58, xs58_0, (Eq.mp (congrArg (fun l : List (Int) => RepL g58 (.int .i64) xs58_0 l) ((if_t hc56).symm)) hL58_0), (by clear hF; simp only [symV2, Bool.false_eq_true, ↓reduceIte, *]), hA.sub (by kernel_rfl), hW, hF⟩
                · replace hF := hF.2 hc56
                  refine Ok.skip ?_
                  refine Ok.thenN ?_
                  refine Ok.reval 0 rfl (show (.slice axdata xdata.length cxdata : Value) = .slice axdata (symV2 xdata xa xm xb xcmp x20l105).length cxdata from congrArg (fun l : List (Int) => Value.slice axdata l.length cxdata) ((if_f hc56).symm)) ?_
                  refine Ok.heapEq (H' := [.own (.slice axdata (symV2 xdata xa xm xb xcmp x20l105).length cxdata) 3 1 (symV2 xdata xa xm xb xcmp x20l105).length xsxdata]) (econs (congrArg (fun l : List (Int) => Ent.own (.slice axdata l.length cxdata) 3 1 l.length xsxdata) ((if_f hc56).symm)) rfl) ?_
                  exact fun a W hA hW => ⟨gl105, (Gext.refl w0 gl105), xsxdata, (Eq.mp (congrArg (fun l : List (Int) => RepL gl105 (.int .i64) xsxdata l) ((if_f hc56).symm)) hLxdata), (by clear hF; simp only [symV2, Bool.false_eq_true, ↓reduceIte, *]), hA.sub (by kernel_rfl), hW, hF⟩
              ·
                clear hF
                rintro a W ⟨gj122, hxj122, xsyown_xdata_0j122, hLyown_xdata_0j122, hnyown_xdata_0j122, hA, hW, hF⟩
                refine (?_ : Ok _ _ _ _ _ _) a W hA hW
                clear hA hW
                replace hfxcmp := (fun y0 y1 hp => (hfxcmp y0 y1 hp).mono hxj122.1)
                refine Ok.cut (fun a W => ∃ gj128 : Ghost, Gext w0 gj122 gj128 ∧ ∃ (xsyown_xdata_0j128 : List Value), RepL gj128 (.int .i64) xsyown_xdata_0j128 (symV3 xdata xa xm xb xcmp x20l105) ∧ (symV3 xdata xa xm xb xcmp x20l105).length = xdata.length ∧ StA 220 [(0, .slice axdata (symV3 xdata xa xm xb xcmp x20l105).length cxdata), (3, .int .i64 xb), (4, vxcmp), (18, .int .i64 (IntKind.wrap .i64 (Int.fdiv (IntKind.wrap .u64 (IntKind.wrap .i64 (xa + xb))) (2 ^ 1)))), (24, .int .i64 (IntKind.wrap .i64 ((IntKind.wrap .i64 ((IntKind.wrap .i64 (Int.fdiv (IntKind.wrap .u64 (IntKind.wrap .i64 (xa + xb))) (2 ^ 1))) + xm)) - x20l105)))] a ∧ StW w0 [.own (.slice axdata (symV3 xdata xa xm xb xcmp x20l105).length cxdata) 3 1 (symV3 xdata xa xm xb xcmp x20l105).length xsyown_xdata_0j128] gj128 W ∧ symj128 N xdata xa xm xb xcmp pxcmp K x20l105) ?_ ?_
                ·
                  refine Ok.seq ?_
                  refine Ok.region ?_
                  refine Ok.batch 4 [(0, .slice axdata (symV2 xdata xa xm xb xcmp x20l105).length cxdata), (1, .int .i64 xa), (3, .int .i64 xb), (4, vxcmp), (18, .int .i64 (IntKind.wrap .i64 (Int.fdiv (IntKind.wrap .u64 (IntKind.wrap .i64 (xa + xb))) (2 ^ 1)))), (20, .int .i64 x20l105), (24, .int .i64 (IntKind.wrap .i64 ((IntKind.wrap .i64 ((IntKind.wrap .i64 (Int.fdiv (IntKind.wrap .u64 (IntKind.wrap .i64 (xa + xb))) (2 ^ 1))) + xm)) - x20l105))), (195, .bool (decide (xa < x20l105)))] (by kernel_rfl) ?_
                  refine Ok.midway 4 [(0, .slice axdata (symV2 xdata xa xm xb xcmp x20l105).length cxdata), (1, .int .i64 xa), (3, .int .i64 xb), (4, vxcmp), (18, .int .i64 (IntKind.wrap .i64 (Int.fdiv (IntKind.wrap .u64 (IntKind.wrap .i64 (xa + xb))) (2 ^ 1)))), (20, .int .i64 x20l105), (24, .int .i64 (IntKind.wrap .i64 ((IntKind.wrap .i64 ((IntKind.wrap .i64 (Int.fdiv (IntKind.wrap .u64 (IntKind.wrap .i64 (xa + xb))) (2 ^ 1))) + xm)) - x20l105))), (199, .bool ((decide (xa < x20l105)) && (decide (x20l105 < (IntKind.wrap .i64 (Int.fdiv (IntKind.wrap .u64 (IntKind.wrap .i64 (xa + xb))) (2 ^ 1)))))))] (fun hR49 => ?_) ?_
                  · refine Ok.boolAt 195 (decide (xa < x20l105)) rfl (fun hc50 => ?_) (fun hc50 => ?_)
                    · skip
                      refine Ok.batch 4 [(0, .slice axdata (symV2 xdata xa xm xb xcmp x20l105).length cxdata), (1, .int .i64 xa), (3, .int .i64 xb), (4, vxcmp), (18, .int .i64 (IntKind.wrap .i64 (Int.fdiv (IntKind.wrap .u64 (IntKind.wrap .i64 (xa + xb))) (2 ^ 1)))), (20, .int .i64 x20l105), (24, .int .i64 (IntKind.wrap .i64 ((IntKind.wrap .i64 ((IntKind.wrap .i64 (Int.fdiv (IntKind.wrap .u64 (IntKind.wrap .i64 (xa + xb))) (2 ^ 1))) + xm)) - x20l105))), (199, .bool (decide (x20l105 < (IntKind.wrap .i64 (Int.fdiv (IntKind.wrap .u64 (IntKind.wrap .i64 (xa + xb))) (2 ^ 1))))))] (by kernel_rfl) ?_
                      refine Ok.reval 199 rfl (show (.bool (decide (x20l105 < (IntKind.wrap .i64 (Int.fdiv (IntKind.wrap .u64 (IntKind.wrap .i64 (xa + xb))) (2 ^ 1))))) : Value) = .bool ((decide (xa < x20l105)) && (decide (x20l105 < (IntKind.wrap .i64 (Int.fdiv (IntKind.wrap .u64 (IntKind.wrap .i64 (xa + xb))) (2 ^ 1)))))) from congrArg Value.bool (mand_t hc50)) ?_
                      refine Ok.batch 0 [(0, .slice axdata (symV2 xdata xa xm xb xcmp x20l105).length cxdata), (1, .int .i64 xa), (3, .int .i64 xb), (4, vxcmp), (18, .int .i64 (IntKind.wrap .i64 (Int.fdiv (IntKind.wrap .u64 (IntKind.wrap .i64 (xa + xb))) (2 ^ 1)))), (20, .int .i64 x20l105), (24, .int .i64 (IntKind.wrap .i64 ((IntKind.wrap .i64 ((IntKind.wrap .i64 (Int.fdiv (IntKind.wrap .u64 (IntKind.wrap .i64 (xa + xb))) (2 ^ 1))) + xm)) - x20l105))), (199, .bool ((decide (xa < x20l105)) && (decide (x20l105 < (IntKind.wrap .i64 (Int.fdiv (IntKind.wrap .u64 (IntKind.wrap .i64 (xa + xb))) (2 ^ 1)))))))] (by kernel_rfl) ?_
                      exact hR49
                    · skip
                      refine Ok.batch 4 [(0, .slice axdata (symV2 xdata xa xm xb xcmp x20l105).length cxdata), (1, .int .i64 xa), (3, .int .i64 xb), (4, vxcmp), (18, .int .i64 (IntKind.wrap .i64 (Int.fdiv (IntKind.wrap .u64 (IntKind.wrap .i64 (xa + xb))) (2 ^ 1)))), (20, .int .i64 x20l105), (24, .int .i64 (IntKind.wrap .i64 ((IntKind.wrap .i64 ((IntKind.wrap .i64 (Int.fdiv (IntKind.wrap .u64 (IntKind.wrap .i64 (xa + xb))) (2 ^ 1))) + xm)) - x20l105))), (199, .bool false)] (by kernel_rfl) ?_
                      refine Ok.reval 199 rfl (show (.bool false : Value) = .bool ((decide (xa < x20l105)) && (decide (x20l105 < (IntKind.wrap .i64 (Int.fdiv (IntKind.wrap .u64 (IntKind.wrap .i64 (xa + xb))) (2 ^ 1)))))) from congrArg Value.bool (mand_f hc50)) ?_
                      refine Ok.batch 0 [(0, .slice axdata (symV2 xdata xa xm xb xcmp x20l105).length cxdata), (1, .int .i64 xa), (3, .int .i64 xb), (4, vxcmp), (18, .int .i64 (IntKind.wrap .i64 (Int.fdiv (IntKind.wrap .u64 (IntKind.wrap .i64 (xa + xb))) (2 ^ 1)))), (20, .int .i64 x20l105), (24, .int .i64 (IntKind.wrap .i64 ((IntKind.wrap .i64 ((IntKind.wrap .i64 (Int.fdiv (IntKind.wrap .u64 (IntKind.wrap .i64 (xa + xb))) (2 ^ 1))) + xm)) - x20l105))), (199, .bool ((decide (xa < x20l105)) && (decide (x20l105 < (IntKind.wrap .i64 (Int.fdiv (IntKind.wrap .u64 (IntKind.wrap .i64 (xa + xb))) (2 ^ 1)))))))] (by kernel_rfl) ?_
                      exact hR49
                  refine Ok.nil ?_
                  refine Ok.thenN ?_
                  refine Ok.cond (b := ((decide (xa < x20l105)) && (decide (x20l105 < (IntKind.wrap .i64 (Int.fdiv (IntKind.wrap .u64 (IntKind.wrap .i64 (xa + xb))) (2 ^ 1))))))) rfl (fun hc51 => ?_) (fun hc51 => ?_)
                  · replace hF := hF.1 hc51
                    refine Ok.region ?_
                    refine Ok.batch 5 [(0, .slice axdata (symV2 xdata xa xm xb xcmp x20l105).length cxdata), (3, .int .i64 xb), (4, vxcmp), (18, .int .i64 (IntKind.wrap .i64 (Int.fdiv (IntKind.wrap .u64 (IntKind.wrap .i64 (xa + xb))) (2 ^ 1)))), (24, .int .i64 (IntKind.wrap .i64 ((IntKind.wrap .i64 ((IntKind.wrap .i64 (Int.fdiv (IntKind.wrap .u64 (IntKind.wrap .i64 (xa + xb))) (2 ^ 1))) + xm)) - x20l105))), (200, .slice axdata (symV2 xdata xa xm xb xcmp x20l105).length cxdata), (201, .int .i64 xa), (202, .int .i64 x20l105), (203, .int .i64 (IntKind.wrap .i64 (Int.fdiv (IntKind.wrap .u64 (IntKind.wrap .i64 (xa + xb))) (2 ^ 1)))), (204, vxcmp)] (by kernel_rfl) ?_
                    obtain ⟨hp52, hF⟩ := hF
                    refine Ok.op rfl (OpOk.callH [.own (.slice axdata (symV2 xdata xa xm xb xcmp x20l105).length cxdata) 3 1 (symV2 xdata xa xm xb xcmp x20l105).length xsyown_xdata_0j122] [] (enters (by kernel_rfl) (fun _ => by kernel_rfl)) rfl (ih_sym _ (symV2 xdata xa xm xb xcmp x20l105) xa x20l105 (IntKind.wrap .i64 (Int.fdiv (IntKind.wrap .u64 (IntKind.wrap .i64 (xa + xb))) (2 ^ 1))) xcmp pxcmp hLyown_xdata_0j122 hfxcmp hp52) rfl fun g53 _ _ hx53 hV53 => ?_)
                    obtain ⟨xs53_0, rfl, hL53_0, rfl, hlen53_0⟩ := hV53
                    replace hLyown_xdata_0j122 := hLyown_xdata_0j122.mono hx53.1
                    replace hfxcmp := (fun y0 y1 hp => (hfxcmp y0 y1 hp).mono hx53.1)
                    refine Ok.reval 0 rfl (show (.slice axdata (symV2 xdata xa xm xb xcmp x20l105).length cxdata : Value) = .slice axdata (symS (symV2 xdata xa xm xb xcmp x20l105) xa x20l105 (IntKind.wrap .i64 (Int.fdiv (IntKind.wrap .u64 (IntKind.wrap .i64 (xa + xb))) (2 ^ 1))) xcmp).length cxdata from by rw [hlen53_0]) ?_
                    refine Ok.reval 200 rfl (show (.slice axdata (symV2 xdata xa xm xb xcmp x20l105).length cxdata : Value) = .slice axdata (symS (symV2 xdata xa xm xb xcmp x20l105) xa x20l105 (IntKind.wrap .i64 (Int.fdiv (IntKind.wrap .u64 (IntKind.wrap .i64 (xa + xb))) (2 ^ 1))) xcmp).length cxdata from by rw [hlen53_0]) ?_
                    refine Ok.nil ?_
                    refine Ok.thenN ?_
                    refine Ok.reval 0 rfl (show (.slice axdata (symS (symV2 xdata xa xm xb xcmp x20l105) xa x20l105 (IntKind.wrap .i64 (Int.fdiv (IntKind.wrap .u64 (IntKind.wrap .i64 (xa + xb))) (2 ^ 1))) xcmp).length cxdata : Value) = .slice axdata (symV3 xdata xa xm xb xcmp x20l105).length cxdata from congrArg (fun l : List (Int) => Value.slice axdata l.length cxdata) ((if_t hc51).symm)) ?_
                    refine Ok.heapEq (H' := [.own (.slice axdata (symV3 xdata xa xm xb xcmp x20l105).length cxdata) 3 1 (symV3 xdata xa xm xb xcmp x20l105).length xs53_0]) (econs (congrArg (fun l : List (Int) => Ent.own (.slice axdata l.length cxdata) 3 1 l.length xs53_0) ((if_t hc51).symm)) rfl) ?_
                    exact fun a W hA hW => ⟨g53, hx53, xs53_0, (Eq.mp (congrArg (fun l : List (Int) => RepL g53 (.int .i64) xs53_0 l) ((if_t hc51).symm)) hL53_0), (by clear hF; simp only [symV3, Bool.false_eq_true, ↓reduceIte, *]), hA.sub (by kernel_rfl), hW, hF⟩
                  · replace hF := hF.2 hc51
                    refine Ok.skip ?_
                    refine Ok.thenN ?_
                    refine Ok.reval 0 rfl (show (.slice axdata (symV2 xdata xa xm xb xcmp x20l105).length cxdata : Value) = .slice axdata (symV3 xdata xa xm xb xcmp x20l105).length cxdata from congrArg (fun l : List (Int) => Value.slice axdata l.length cxdata) ((if_f hc51).symm)) ?_
                    refine Ok.heapEq (H' := [.own (.slice axdata (symV3 xdata xa xm xb xcmp x20l105).length cxdata) 3 1 (symV3 xdata xa xm xb xcmp x20l105).length xsyown_xdata_0j122]) (econs (congrArg (fun l : List (Int) => Ent.own (.slice axdata l.length cxdata) 3 1 l.length xsyown_xdata_0j122) ((if_f hc51).symm)) rfl) ?_
                    exact fun a W hA hW => ⟨gj122, (Gext.refl w0 gj122), xsyown_xdata_0j122, (Eq.mp (congrArg (fun l : List (Int) => RepL gj122 (.int .i64) xsyown_xdata_0j122 l) ((if_f hc51).symm)) hLyown_xdata_0j122), (by clear hF; simp only [symV3, Bool.false_eq_true, ↓reduceIte, *]), hA.sub (by kernel_rfl), hW, hF⟩
                ·
                  clear hF
                  rintro a W ⟨gj128, hxj128, xsyown_xdata_0j128, hLyown_xdata_0j128, hnyown_xdata_0j128, hA, hW, hF⟩
                  refine (?_ : Ok _ _ _ _ _ _) a W hA hW
                  clear hA hW
                  replace hfxcmp := (fun y0 y1 hp => (hfxcmp y0 y1 hp).mono hxj128.1)
                  refine Ok.seq ?_
                  refine Ok.region ?_
                  refine Ok.batch 4 [(0, .slice axdata (symV3 xdata xa xm xb xcmp x20l105).length cxdata), (3, .int .i64 xb), (4, vxcmp), (18, .int .i64 (IntKind.wrap .i64 (Int.fdiv (IntKind.wrap .u64 (IntKind.wrap .i64 (xa + xb))) (2 ^ 1)))), (24, .int .i64 (IntKind.wrap .i64 ((IntKind.wrap .i64 ((IntKind.wrap .i64 (Int.fdiv (IntKind.wrap .u64 (IntKind.wrap .i64 (xa + xb))) (2 ^ 1))) + xm)) - x20l105))), (209, .bool (decide ((IntKind.wrap .i64 (Int.fdiv (IntKind.wrap .u64 (IntKind.wrap .i64 (xa + xb))) (2 ^ 1))) < (IntKind.wrap .i64 ((IntKind.wrap .i64 ((IntKind.wrap .i64 (Int.fdiv (IntKind.wrap .u64 (IntKind.wrap .i64 (xa + xb))) (2 ^ 1))) + xm)) - x20l105)))))] (by kernel_rfl) ?_
                  refine Ok.midway 4 [(0, .slice axdata (symV3 xdata xa xm xb xcmp x20l105).length cxdata), (3, .int .i64 xb), (4, vxcmp), (18, .int .i64 (IntKind.wrap .i64 (Int.fdiv (IntKind.wrap .u64 (IntKind.wrap .i64 (xa + xb))) (2 ^ 1)))), (24, .int .i64 (IntKind.wrap .i64 ((IntKind.wrap .i64 ((IntKind.wrap .i64 (Int.fdiv (IntKind.wrap .u64 (IntKind.wrap .i64 (xa + xb))) (2 ^ 1))) + xm)) - x20l105))), (213, .bool ((decide ((IntKind.wrap .i64 (Int.fdiv (IntKind.wrap .u64 (IntKind.wrap .i64 (xa + xb))) (2 ^ 1))) < (IntKind.wrap .i64 ((IntKind.wrap .i64 ((IntKind.wrap .i64 (Int.fdiv (IntKind.wrap .u64 (IntKind.wrap .i64 (xa + xb))) (2 ^ 1))) + xm)) - x20l105)))) && (decide ((IntKind.wrap .i64 ((IntKind.wrap .i64 ((IntKind.wrap .i64 (Int.fdiv (IntKind.wrap .u64 (IntKind.wrap .i64 (xa + xb))) (2 ^ 1))) + xm)) - x20l105)) < xb))))] (fun hR44 => ?_) ?_
                  · refine Ok.boolAt 209 (decide ((IntKind.wrap .i64 (Int.fdiv (IntKind.wrap .u64 (IntKind.wrap .i64 (xa + xb))) (2 ^ 1))) < (IntKind.wrap .i64 ((IntKind.wrap .i64 ((IntKind.wrap .i64 (Int.fdiv (IntKind.wrap .u64 (IntKind.wrap .i64 (xa + xb))) (2 ^ 1))) + xm)) - x20l105)))) rfl (fun hc45 => ?_) (fun hc45 => ?_)
                    · skip
                      refine Ok.batch 4 [(0, .slice axdata (symV3 xdata xa xm xb xcmp x20l105).length cxdata), (3, .int .i64 xb), (4, vxcmp), (18, .int .i64 (IntKind.wrap .i64 (Int.fdiv (IntKind.wrap .u64 (IntKind.wrap .i64 (xa + xb))) (2 ^ 1)))), (24, .int .i64 (IntKind.wrap .i64 ((IntKind.wrap .i64 ((IntKind.wrap .i64 (Int.fdiv (IntKind.wrap .u64 (IntKind.wrap .i64 (xa + xb))) (2 ^ 1))) + xm)) - x20l105))), (213, .bool (decide ((IntKind.wrap .i64 ((IntKind.wrap .i64 ((IntKind.wrap .i64 (Int.fdiv (IntKind.wrap .u64 (IntKind.wrap .i64 (xa + xb))) (2 ^ 1))) + xm)) - x20l105)) < xb)))] (by kernel_rfl) ?_
                      refine Ok.reval 213 rfl (show (.bool (decide ((IntKind.wrap .i64 ((IntKind.wrap .i64 ((IntKind.wrap .i64 (Int.fdiv (IntKind.wrap .u64 (IntKind.wrap .i64 (xa + xb))) (2 ^ 1))) + xm)) - x20l105)) < xb)) : Value) = .bool ((decide ((IntKind.wrap .i64 (Int.fdiv (IntKind.wrap .u64 (IntKind.wrap .i64 (xa + xb))) (2 ^ 1))) < (IntKind.wrap .i64 ((IntKind.wrap .i64 ((IntKind.wrap .i64 (Int.fdiv (IntKind.wrap .u64 (IntKind.wrap .i64 (xa + xb))) (2 ^ 1))) + xm)) - x20l105)))) && (decide ((IntKind.wrap .i64 ((IntKind.wrap .i64 ((IntKind.wrap .i64 (Int.fdiv (IntKind.wrap .u64 (IntKind.wrap .i64 (xa + xb))) (2 ^ 1))) + xm)) - x20l105)) < xb))) from congrArg Value.bool (mand_t hc45)) ?_
                      refine Ok.batch 0 [(0, .slice axdata (symV3 xdata xa xm xb xcmp x20l105).length cxdata), (3, .int .i64 xb), (4, vxcmp), (18, .int .i64 (IntKind.wrap .i64 (Int.fdiv (IntKind.wrap .u64 (IntKind.wrap .i64 (xa + xb))) (2 ^ 1)))), (24, .int .i64 (IntKind.wrap .i64 ((IntKind.wrap .i64 ((IntKind.wrap .i64 (Int.fdiv (IntKind.wrap .u64 (IntKind.wrap .i64 (xa + xb))) (2 ^ 1))) + xm)) - x20l105))), (213, .bool ((decide ((IntKind.wrap .i64 (Int.fdiv (IntKind.wrap .u64 (IntKind.wrap .i64 (xa + xb))) (2 ^ 1))) < (IntKind.wrap .i64 ((IntKind.wrap .i64 ((IntKind.wrap .i64 (Int.fdiv (IntKind.wrap .u64 (IntKind.wrap .i64 (xa + xb))) (2 ^ 1))) + xm)) - x20l105)))) && (decide ((IntKind.wrap .i64 ((IntKind.wrap .i64 ((IntKind.wrap .i64 (Int.fdiv (IntKind.wrap .u64 (IntKind.wrap .i64 (xa + xb))) (2 ^ 1))) + xm)) - x20l105)) < xb))))] (by kernel_rfl) ?_
                      exact hR44
                    · skip
                      refine Ok.batch 4 [(0, .slice axdata (symV3 xdata xa xm xb xcmp x20l105).length cxdata), (3, .int .i64 xb), (4, vxcmp), (18, .int .i64 (IntKind.wrap .i64 (Int.fdiv (IntKind.wrap .u64 (IntKind.wrap .i64 (xa + xb))) (2 ^ 1)))), (24, .int .i64 (IntKind.wrap .i64 ((IntKind.wrap .i64 ((IntKind.wrap .i64 (Int.fdiv (IntKind.wrap .u64 (IntKind.wrap .i64 (xa + xb))) (2 ^ 1))) + xm)) - x20l105))), (213, .bool false)] (by kernel_rfl) ?_
                      refine Ok.reval 213 rfl (show (.bool false : Value) = .bool ((decide ((IntKind.wrap .i64 (Int.fdiv (IntKind.wrap .u64 (IntKind.wrap .i64 (xa + xb))) (2 ^ 1))) < (IntKind.wrap .i64 ((IntKind.wrap .i64 ((IntKind.wrap .i64 (Int.fdiv (IntKind.wrap .u64 (IntKind.wrap .i64 (xa + xb))) (2 ^ 1))) + xm)) - x20l105)))) && (decide ((IntKind.wrap .i64 ((IntKind.wrap .i64 ((IntKind.wrap .i64 (Int.fdiv (IntKind.wrap .u64 (IntKind.wrap .i64 (xa + xb))) (2 ^ 1))) + xm)) - x20l105)) < xb))) from congrArg Value.bool (mand_f hc45)) ?_
                      refine Ok.batch 0 [(0, .slice axdata (symV3 xdata xa xm xb xcmp x20l105).length cxdata), (3, .int .i64 xb), (4, vxcmp), (18, .int .i64 (IntKind.wrap .i64 (Int.fdiv (IntKind.wrap .u64 (IntKind.wrap .i64 (xa + xb))) (2 ^ 1)))), (24, .int .i64 (IntKind.wrap .i64 ((IntKind.wrap .i64 ((IntKind.wrap .i64 (Int.fdiv (IntKind.wrap .u64 (IntKind.wrap .i64 (xa + xb))) (2 ^ 1))) + xm)) - x20l105))), (213, .bool ((decide ((IntKind.wrap .i64 (Int.fdiv (IntKind.wrap .u64 (IntKind.wrap .i64 (xa + xb))) (2 ^ 1))) < (IntKind.wrap .i64 ((IntKind.wrap .i64 ((IntKind.wrap .i64 (Int.fdiv (IntKind.wrap .u64 (IntKind.wrap .i64 (xa + xb))) (2 ^ 1))) + xm)) - x20l105)))) && (decide ((IntKind.wrap .i64 ((IntKind.wrap .i64 ((IntKind.wrap .i64 (Int.fdiv (IntKind.wrap .u64 (IntKind.wrap .i64 (xa + xb))) (2 ^ 1))) + xm)) - x20l105)) < xb))))] (by kernel_rfl) ?_
                      exact hR44
                  refine Ok.nil ?_
                  refine Ok.thenN ?_
                  refine Ok.cond (b := ((decide ((IntKind.wrap .i64 (Int.fdiv (IntKind.wrap .u64 (IntKind.wrap .i64 (xa + xb))) (2 ^ 1))) < (IntKind.wrap .i64 ((IntKind.wrap .i64 ((IntKind.wrap .i64 (Int.fdiv (IntKind.wrap .u64 (IntKind.wrap .i64 (xa + xb))) (2 ^ 1))) + xm)) - x20l105)))) && (decide ((IntKind.wrap .i64 ((IntKind.wrap .i64 ((IntKind.wrap .i64 (Int.fdiv (IntKind.wrap .u64 (IntKind.wrap .i64 (xa + xb))) (2 ^ 1))) + xm)) - x20l105)) < xb)))) rfl (fun hc46 => ?_) (fun hc46 => ?_)
                  · replace hF := hF.1 hc46
                    refine Ok.region ?_
                    refine Ok.batch 5 [(214, .slice axdata (symV3 xdata xa xm xb xcmp x20l105).length cxdata), (215, .int .i64 (IntKind.wrap .i64 (Int.fdiv (IntKind.wrap .u64 (IntKind.wrap .i64 (xa + xb))) (2 ^ 1)))), (216, .int .i64 (IntKind.wrap .i64 ((IntKind.wrap .i64 ((IntKind.wrap .i64 (Int.fdiv (IntKind.wrap .u64 (IntKind.wrap .i64 (xa + xb))) (2 ^ 1))) + xm)) - x20l105))), (217, .int .i64 xb), (218, vxcmp)] (by kernel_rfl) ?_
                    obtain ⟨hp47, hF⟩ := hF
                    refine Ok.op rfl (OpOk.callH [.own (.slice axdata (symV3 xdata xa xm xb xcmp x20l105).length cxdata) 3 1 (symV3 xdata xa xm xb xcmp x20l105).length xsyown_xdata_0j128] [] (enters (by kernel_rfl) (fun _ => by kernel_rfl)) rfl (ih_sym _ (symV3 xdata xa xm xb xcmp x20l105) (IntKind.wrap .i64 (Int.fdiv (IntKind.wrap .u64 (IntKind.wrap .i64 (xa + xb))) (2 ^ 1))) (IntKind.wrap .i64 ((IntKind.wrap .i64 ((IntKind.wrap .i64 (Int.fdiv (IntKind.wrap .u64 (IntKind.wrap .i64 (xa + xb))) (2 ^ 1))) + xm)) - x20l105)) xb xcmp pxcmp hLyown_xdata_0j128 hfxcmp hp47) rfl fun g48 _ _ hx48 hV48 => ?_)
                    obtain ⟨xs48_0, rfl, hL48_0, rfl, hlen48_0⟩ := hV48
                    replace hLyown_xdata_0j128 := hLyown_xdata_0j128.mono hx48.1
                    replace hfxcmp := (fun y0 y1 hp => (hfxcmp y0 y1 hp).mono hx48.1)
                    refine Ok.reval 214 rfl (show (.slice axdata (symV3 xdata xa xm xb xcmp x20l105).length cxdata : Value) = .slice axdata (symS (symV3 xdata xa xm xb xcmp x20l105) (IntKind.wrap .i64 (Int.fdiv (IntKind.wrap .u64 (IntKind.wrap .i64 (xa + xb))) (2 ^ 1))) (IntKind.wrap .i64 ((IntKind.wrap .i64 ((IntKind.wrap .i64 (Int.fdiv (IntKind.wrap .u64 (IntKind.wrap .i64 (xa + xb))) (2 ^ 1))) + xm)) - x20l105)) xb xcmp).length cxdata from by rw [hlen48_0]) ?_
                    refine Ok.nil ?_
                    exact Ok.resH (vs := []) (.inr rfl) rfl .nil ((((hxj91.trans hxl105).trans hxj122).trans hxj128).trans hx48) ⟨(symS (symV3 xdata xa xm xb xcmp x20l105) (IntKind.wrap .i64 (Int.fdiv (IntKind.wrap .u64 (IntKind.wrap .i64 (xa + xb))) (2 ^ 1))) (IntKind.wrap .i64 ((IntKind.wrap .i64 ((IntKind.wrap .i64 (Int.fdiv (IntKind.wrap .u64 (IntKind.wrap .i64 (xa + xb))) (2 ^ 1))) + xm)) - x20l105)) xb xcmp), xs48_0, rfl, hL48_0, rfl, (by simp only [*]), hF⟩
                  · replace hF := hF.2 hc46
                    refine Ok.skip ?_
                    exact Ok.resH (vs := []) (.inr rfl) rfl .nil (((hxj91.trans hxl105).trans hxj122).trans hxj128) ⟨(symV3 xdata xa xm xb xcmp x20l105), xsyown_xdata_0j128, rfl, hLyown_xdata_0j128, rfl, hnyown_xdata_0j128, hF⟩
open Stb in
theorem sym_up {K : List Int → Prop} {i : Int} : ∀ (n : Nat) (D E Z : List Int) (x : Int), E.length = n → (D ++ x :: E ++ Z).length ≤ 100000 → i = (D.length : Int) + n + 1 → K (D ++ E ++ x :: Z) → syml30 K i (n + 1) (D.length : Int) (D ++ x :: E ++ Z) := by
  intro n
  induction n with
  | zero =>
    intro D E Z x hn hl hi hK
    have := List.eq_nil_of_length_eq_zero hn
    subst this
    have e : IntKind.wrap .i64 (i - 1) = (D.length : Int) := by rw [w64 (by simp only [List.length_append] at hl; omega)]; omega
    refine ⟨fun hh => ?_, fun _ => by simpa using hK⟩
    rw [e] at hh
    have := of_decide_eq_true hh; omega
  | succ n ih =>
    intro D E Z x hn hl hi hK
    cases E with
    | nil => simp at hn
    | cons y E =>
      have hnE : E.length = n := by simpa using hn
      have hlen : (D ++ x :: y :: E ++ Z).length = D.length + 2 + E.length + Z.length := by simp only [List.length_append, List.length_cons]; omega
      have ih := ih (D ++ [y]) E Z x (by simpa using hn) (by simp only [List.length_append, List.length_cons, List.length_nil] at hl ⊢; omega) (by simp only [List.length_append, List.length_cons, List.length_nil]; omega) (by simpa using hK)
      have e : IntKind.wrap .i64 (i - 1) = i - 1 := w64 (by omega)
      have e1 : IntKind.wrap .i64 ((D.length : Int) + 1) = ((D.length + 1 : Nat) : Int) := by rw [w64 (by omega)]; omega
      have g1 : (D ++ x :: y :: E ++ Z).getD D.length default = x := by
        simp
      have g2 : (D ++ x :: y :: E ++ Z).getD (D.length + 1) default = y := by
        simp
      have gs : ((D ++ x :: y :: E ++ Z).set D.length y).set (D.length + 1) x = (D ++ [y]) ++ x :: E ++ Z := by
        have h1 := set_at D (y :: E ++ Z) x y
        rw [show D ++ x :: y :: E ++ Z = D ++ x :: (y :: E ++ Z) by simp, h1]
        have h2 := set_at (D ++ [y]) (E ++ Z) y x
        rw [show (D ++ [y]).length = D.length + 1 by simp] at h2
        rw [show D ++ y :: (y :: E ++ Z) = D ++ [y] ++ y :: (E ++ Z) by simp, h2]; simp
      refine ⟨fun _ => ?_, fun hh => by rw [e] at hh; have := of_decide_eq_false hh; omega⟩
      rw [e1, Int.toNat_natCast, Int.toNat_natCast, g1, g2, gs]
      refine ⟨by omega, by omega, by omega, by omega, by omega, by rw [List.length_set]; omega, ?_⟩
      rw [show (D ++ [y]).length = D.length + 1 by simp] at ih
      exact ih
open Stb in
theorem sym_down {K : List Int → Prop} : ∀ (n : Nat) (D E Z : List Int) (x : Int), E.length = n → (D ++ E ++ x :: Z).length ≤ 100000 → K (D ++ x :: E ++ Z) → syml72 K (D.length : Int) (n + 1) ((D.length + E.length : Nat) : Int) (D ++ E ++ x :: Z) := by
  intro n
  induction n with
  | zero =>
    intro D E Z x hn hl hK
    have := List.eq_nil_of_length_eq_zero hn
    subst this
    exact ⟨fun hh => by have := of_decide_eq_true hh; simp at this, fun _ => by simpa using hK⟩
  | succ n ih =>
    intro D E Z x hn hl hK
    obtain ⟨E, y, rfl, hE⟩ := snoc_of hn
    have ih := ih D E (y :: Z) x hE (by simp only [List.length_append, List.length_cons, List.length_nil] at hl ⊢; omega) (by simpa using hK)
    have hlen : (D ++ (E ++ [y]) ++ x :: Z).length = D.length + E.length + 2 + Z.length := by simp only [List.length_append, List.length_cons, List.length_nil]; omega
    have ek : D.length + (E ++ [y]).length = D.length + E.length + 1 := by simp; omega
    rw [ek]
    have e1 : IntKind.wrap .i64 (((D.length + E.length + 1 : Nat) : Int) - 1) = ((D.length + E.length : Nat) : Int) := by rw [w64 (by omega)]; omega
    have g1 : (D ++ (E ++ [y]) ++ x :: Z).getD (D.length + E.length) default = y := by
      simp
    have g2 : (D ++ (E ++ [y]) ++ x :: Z).getD (D.length + E.length + 1) default = x := by
      simp [Nat.add_assoc]
    have gs : ((D ++ (E ++ [y]) ++ x :: Z).set (D.length + E.length + 1) y).set (D.length + E.length) x = D ++ E ++ x :: (y :: Z) := by
      have h1 := set_at (D ++ E ++ [y]) Z x y
      rw [show (D ++ E ++ [y]).length = D.length + E.length + 1 by simp only [List.length_append, List.length_cons, List.length_nil]] at h1
      rw [show D ++ (E ++ [y]) ++ x :: Z = D ++ E ++ [y] ++ x :: Z by simp, h1]
      have h2 := set_at (D ++ E) (y :: Z) y x
      rw [show (D ++ E).length = D.length + E.length by simp only [List.length_append]] at h2
      rw [show D ++ E ++ [y] ++ y :: Z = D ++ E ++ y :: (y :: Z) by simp, h2]
    refine ⟨fun _ => ?_, fun hh => by have := of_decide_eq_false hh; omega⟩
    rw [e1, Int.toNat_natCast, Int.toNat_natCast, g1, g2, gs]
    exact ⟨by omega, by omega, by omega, by omega, by omega, by rw [List.length_set]; omega, ih⟩
theorem wu64 {n : Nat} (h : n < 18446744073709551616) : IntKind.wrap .u64 (n : Int) = (n : Int) := by
  unfold IntKind.wrap; simp [IntKind.bits, IntKind.signed]; omega
theorem halfI {i j : Int} (h0 : 0 ≤ i) (h1 : i ≤ j) (h2 : j ≤ 100000) : ∃ h : Int, IntKind.wrap .i64 (Int.fdiv (IntKind.wrap .u64 (IntKind.wrap .i64 (i + j))) (2 ^ 1)) = h ∧ i ≤ h ∧ h ≤ j ∧ (i < j → h < j) ∧ 2 * h ≤ i + j ∧ i + j ≤ 2 * h + 1 := by
  have e1 : IntKind.wrap .i64 (i + j) = i + j := w64 (by omega)
  have e2 : IntKind.wrap .u64 (i + j) = i + j := by
    rw [show (i + j) = ((i + j).toNat : Int) by omega]
    exact wu64 (by omega)
  have e3 : Int.fdiv (i + j) (2 ^ 1) = (i + j) / 2 := by
    rw [Int.fdiv_eq_ediv_of_nonneg _ (by omega)]; rfl
  refine ⟨(i + j) / 2, ?_, by omega, by omega, fun _ => by omega, by omega, by omega⟩
  rw [e1, e2, e3]
  exact w64 (by omega)
open Stb in
/-- the first one alone: it is put into the second row -/
theorem sym_one {l : List Int} {a : Int} {c : Int → Int → Int} {p : Int → Int → Prop} {K : List Int → Prop} (hw : Wk (ltc c)) (hpp : ∀ x ∈ l, ∀ y ∈ l, p x y) {X B Z : List Int} {x : Int} (hl : l = X ++ x :: B ++ Z) (hlen : l.length ≤ 100000) (ha : a = X.length) (hB : Srt (ltc c) B) (hK : K (X ++ mrg (ltc c) [x] B ++ Z)) :
    ∀ (n u v : Nat), v - u < n → u ≤ v → v ≤ B.length → (∀ k, k < u → ltc c (B.getD k default) x = true) → (∀ k, v ≤ k → k < B.length → ltc c (B.getD k default) x = false) → syml11 l a c p K n (a + 1 + u) (a + 1 + v) := by
  intro n
  induction n with
  | zero => intro u v h; omega
  | succ n ih =>
    intro u v hn huv hv h1 h2
    have hll : l.length = X.length + 1 + B.length + Z.length := by rw [hl]; simp only [List.length_append, List.length_cons]; omega
    have gx : l.getD X.length default = x := by
      rw [hl]; simp
    have gB : ∀ k, k < B.length → l.getD (X.length + 1 + k) default = B.getD k default := fun k hk => by
      rw [hl, show X ++ x :: B ++ Z = (X ++ [x]) ++ (B ++ Z) by simp, List.getD_eq_getElem?_getD, List.getElem?_append_right (by simp only [List.length_append, List.length_cons, List.length_nil]; omega), show X.length + 1 + k - (X ++ [x]).length = k by simp only [List.length_append, List.length_cons, List.length_nil]; omega,
        List.getElem?_append_left hk, ← List.getD_eq_getElem?_getD]
    refine ⟨fun hh => ?_, fun hh => ?_⟩
    · have hh := of_decide_eq_true hh
      obtain ⟨h, e, b1, b2, b3, -, -⟩ := halfI (i := a + 1 + u) (j := a + 1 + v) (by omega) (by omega) (by omega)
      have b3 := b3 hh
      rw [e]
      have hq : h.toNat = X.length + 1 + (h.toNat - (X.length + 1)) := by omega
      have hqB : h.toNat - (X.length + 1) < B.length := by omega
      have gh : l.getD h.toNat default = B.getD (h.toNat - (X.length + 1)) default := by
        conv => lhs; rw [hq]
        exact gB _ hqB
      have ga : l.getD a.toNat default = x := by rw [ha, Int.toNat_natCast]; exact gx
      have memh : l.getD h.toNat default ∈ l := by
        rw [List.getD_eq_getElem?_getD, List.getElem?_eq_getElem (by omega)]; exact List.getElem_mem _
      have mema : l.getD a.toNat default ∈ l := by
        rw [List.getD_eq_getElem?_getD, List.getElem?_eq_getElem (by omega)]; exact List.getElem_mem _
      have srt : ∀ k k', k < k' → k' < B.length → ltc c (B.getD k' default) (B.getD k default) = false := fun k k' hk hk' => by
        have := List.pairwise_iff_getElem.1 hB k k' (by omega) hk' hk
        rw [List.getD_eq_getElem?_getD, List.getD_eq_getElem?_getD, List.getElem?_eq_getElem hk', List.getElem?_eq_getElem (by omega)]
        exact this
      refine ⟨by omega, by omega, by omega, by omega, hpp _ memh _ mema, fun hc => ?_, fun hc => ?_⟩
      · rw [gh, ga] at hc
        have hc : ltc c (B.getD (h.toNat - (X.length + 1)) default) x = true := hc
        have e2 : IntKind.wrap .i64 (h + 1) = a + 1 + ((h.toNat - (X.length + 1) + 1 : Nat) : Int) := by rw [w64 (by omega)]; omega
        rw [e2]
        refine ih _ v (by omega) (by omega) hv (fun k hk => ?_) h2
        by_cases hk2 : k = h.toNat - (X.length + 1)
        · rw [hk2]; exact hc
        · exact hw.mix2 (srt k _ (by omega) hqB) hc |> fun h9 => by
            cases hx : ltc c (B.getD k default) x with
            | true => rfl
            | false => exact absurd (hw.neg (srt k _ (by omega) hqB) hx) (by rw [hc]; simp)
      · rw [gh, ga] at hc
        have hc : ltc c (B.getD (h.toNat - (X.length + 1)) default) x = false := hc
        rw [show h = a + 1 + ((h.toNat - (X.length + 1) : Nat) : Int) by omega]
        refine ih u _ (by omega) (by omega) (by omega) h1 (fun k hk hk2 => ?_)
        by_cases hk3 : k = h.toNat - (X.length + 1)
        · rw [hk3]; exact hc
        · exact hw.neg (srt _ k (by omega) hk2) hc
    · have hh := of_decide_eq_false hh
      have huv2 : u = v := by omega
      subst huv2
      have hB2 : B = B.take u ++ B.drop u := (List.take_append_drop ..).symm
      have hm : mrg (ltc c) [x] B = B.take u ++ x :: B.drop u := by
        conv => lhs; rw [hB2]
        refine one_mrg _ _ x (fun b hb => ?_) (fun b hb => ?_)
        · obtain ⟨k, hk, e⟩ := List.mem_iff_getElem.1 hb
          rw [List.length_take] at hk
          have := h1 k (by omega)
          rw [List.getD_eq_getElem?_getD, List.getElem?_eq_getElem (by omega)] at this
          rw [← e, List.getElem_take]; exact this
        · obtain ⟨k, hk, e⟩ := List.mem_iff_getElem.1 hb
          rw [List.length_drop] at hk
          have := h2 (u + k) (by omega) (by omega)
          rw [List.getD_eq_getElem?_getD, List.getElem?_eq_getElem (by omega)] at this
          rw [← e, List.getElem_drop]; exact this
      rw [hm] at hK
      refine ⟨u + 1, ?_⟩
      have hup := sym_up (K := K) (i := a + 1 + u) u X (B.take u) (B.drop u ++ Z) x (by rw [List.length_take]; omega) (by simp only [List.length_append, List.length_cons, List.length_take, List.length_drop]; omega) (by omega) (by simpa using hK)
      have e5 : X ++ x :: B.take u ++ (B.drop u ++ Z) = l := by
        rw [hl]
        simp only [List.append_assoc, List.cons_append]
        rw [← List.append_assoc (B.take u), List.take_append_drop]
      rw [← ha, e5] at hup
      exact hup
open Stb in
/-- the second one alone: it is put into the first row -/
theorem sym_two {l : List Int} {m : Int} {c : Int → Int → Int} {p : Int → Int → Prop} {K : List Int → Prop} (hw : Wk (ltc c)) (hpp : ∀ x ∈ l, ∀ y ∈ l, p x y) {X A Z : List Int} {x : Int} (hl : l = X ++ A ++ x :: Z) (hlen : l.length ≤ 100000) (hm : m = (X.length : Int) + A.length) (hA : Srt (ltc c) A) (hK : K (X ++ mrg (ltc c) A [x] ++ Z)) :
    ∀ (n u v : Nat), v - u < n → u ≤ v → v ≤ A.length → (∀ k, k < u → ltc c x (A.getD k default) = false) → (∀ k, v ≤ k → k < A.length → ltc c x (A.getD k default) = true) → syml53 l m c p K n ((X.length : Int) + u) ((X.length : Int) + v) := by
  intro n
  induction n with
  | zero => intro u v h; omega
  | succ n ih =>
    intro u v hn huv hv h1 h2
    have hll : l.length = X.length + A.length + 1 + Z.length := by rw [hl]; simp only [List.length_append, List.length_cons]; omega
    have gx : l.getD m.toNat default = x := by
      have := getD_at default (X ++ A) Z x
      rw [hl, show m.toNat = (X ++ A).length by rw [List.length_append]; omega]; exact this
    have gA : ∀ k, k < A.length → l.getD (X.length + k) default = A.getD k default := fun k hk => by
      rw [hl, show X ++ A ++ x :: Z = X ++ (A ++ x :: Z) by simp, List.getD_eq_getElem?_getD, List.getElem?_append_right (by omega), show X.length + k - X.length = k by omega,
        List.getElem?_append_left hk, ← List.getD_eq_getElem?_getD]
    refine ⟨fun hh => ?_, fun hh => ?_⟩
    · have hh := of_decide_eq_true hh
      obtain ⟨h, e, b1, b2, b3, -, -⟩ := halfI (i := (X.length : Int) + u) (j := (X.length : Int) + v) (by omega) (by omega) (by omega)
      have b3 := b3 hh
      rw [e]
      have hq : h.toNat = X.length + (h.toNat - X.length) := by omega
      have hqA : h.toNat - X.length < A.length := by omega
      have gh : l.getD h.toNat default = A.getD (h.toNat - X.length) default := by
        conv => lhs; rw [hq]
        exact gA _ hqA
      have memh : l.getD h.toNat default ∈ l := by
        rw [List.getD_eq_getElem?_getD, List.getElem?_eq_getElem (by omega)]; exact List.getElem_mem _
      have memm : l.getD m.toNat default ∈ l := by
        rw [List.getD_eq_getElem?_getD, List.getElem?_eq_getElem (by omega)]; exact List.getElem_mem _
      have srt : ∀ k k', k < k' → k' < A.length → ltc c (A.getD k' default) (A.getD k default) = false := fun k k' hk hk' => by
        have := List.pairwise_iff_getElem.1 hA k k' (by omega) hk' hk
        rw [List.getD_eq_getElem?_getD, List.getD_eq_getElem?_getD, List.getElem?_eq_getElem hk', List.getElem?_eq_getElem (by omega)]
        exact this
      refine ⟨by omega, by omega, by omega, by omega, hpp _ memm _ memh, fun hc => ?_, fun hc => ?_⟩
      · rw [gh, gx] at hc
        have hc : ltc c x (A.getD (h.toNat - X.length) default) = false := (Bool.not_eq_true' _).mp hc
        have e2 : IntKind.wrap .i64 (h + 1) = (X.length : Int) + ((h.toNat - X.length + 1 : Nat) : Int) := by rw [w64 (by omega)]; omega
        rw [e2]
        refine ih _ v (by omega) (by omega) hv (fun k hk => ?_) h2
        by_cases hk2 : k = h.toNat - X.length
        · rw [hk2]; exact hc
        · exact hw.neg hc (srt k (h.toNat - X.length) (by omega) hqA)
      · rw [gh, gx] at hc
        have hc : ltc c x (A.getD (h.toNat - X.length) default) = true := (Bool.not_eq_false' _).mp hc
        rw [show h = (X.length : Int) + ((h.toNat - X.length : Nat) : Int) by omega]
        refine ih u _ (by omega) (by omega) (by omega) h1 (fun k hk hk2 => ?_)
        by_cases hk3 : k = h.toNat - X.length
        · rw [hk3]; exact hc
        · cases hx : ltc c x (A.getD k default) with
          | true => rfl
          | false => exact absurd (hw.neg hx (srt (h.toNat - X.length) k (by omega) hk2)) (by rw [hc]; simp)
    · have hh := of_decide_eq_false hh
      have huv2 : u = v := by omega
      subst huv2
      have hA2 : A = A.take u ++ A.drop u := (List.take_append_drop ..).symm
      have hmm : mrg (ltc c) A [x] = A.take u ++ x :: A.drop u := by
        conv => lhs; rw [hA2]
        refine mrg_one _ _ x (fun b hb => ?_) (fun b hb => ?_)
        · obtain ⟨k, hk, e⟩ := List.mem_iff_getElem.1 hb
          rw [List.length_take] at hk
          have := h1 k (by omega)
          rw [List.getD_eq_getElem?_getD, List.getElem?_eq_getElem (by omega)] at this
          rw [← e, List.getElem_take]; exact this
        · obtain ⟨k, hk, e⟩ := List.mem_iff_getElem.1 hb
          rw [List.length_drop] at hk
          have := h2 (u + k) (by omega) (by omega)
          rw [List.getD_eq_getElem?_getD, List.getElem?_eq_getElem (by omega)] at this
          rw [← e, List.getElem_drop]; exact this
      rw [hmm] at hK
      have hdl : (A.drop u).length = A.length - u := List.length_drop ..
      have htl : (X ++ A.take u).length = X.length + u := by simp only [List.length_append, List.length_take]; omega
      refine ⟨A.length - u + 1, ?_⟩
      have hup := sym_down (K := K) (A.length - u) (X ++ A.take u) (A.drop u) Z x hdl (by simp only [List.length_append, List.length_cons, List.length_take, List.length_drop]; omega) (by simpa using hK)
      have e5 : X ++ A.take u ++ A.drop u ++ x :: Z = l := by
        rw [hl, List.append_assoc X, List.take_append_drop]
      rw [e5, htl, hdl, show X.length + u + (A.length - u) = X.length + A.length by omega] at hup
      rw [show (((X.length + A.length : Nat)) : Int) = m by omega, show (((X.length + u : Nat)) : Int) = (X.length : Int) + u by omega] at hup
      exact hup
theorem mid_at (P Q R : List Int) {i n : Nat} (hi : i = P.length) (hn : n = Q.length) : ((P ++ Q ++ R).drop i).take n = Q := by
  subst hi hn
  rw [List.append_assoc, List.drop_left, List.take_left]
open Stb in
theorem symS_at (X A B Z : List Int) (c : Int → Int → Int) {a m b : Int} (ha : a = X.length) (hm : m = a + A.length) (hb : b = m + B.length) : symS (X ++ A ++ B ++ Z) a m b c = X ++ mrg (ltc c) A B ++ Z := by
  unfold symS
  have e1 : (X ++ A ++ B ++ Z).take a.toNat = X := by
    have := mid_at [] X (A ++ B ++ Z) (i := 0) (n := a.toNat) rfl (by omega)
    rw [List.drop_zero] at this; simpa using this
  have e2 : ((X ++ A ++ B ++ Z).drop a.toNat).take (m - a).toNat = A := by
    have := mid_at X A (B ++ Z) (i := a.toNat) (n := (m - a).toNat) (by omega) (by omega)
    simpa using this
  have e3 : ((X ++ A ++ B ++ Z).drop m.toNat).take (b - m).toNat = B := by
    have := mid_at (X ++ A) B Z (i := m.toNat) (n := (b - m).toNat) (by rw [List.length_append]; omega) (by omega)
    simpa using this
  have e4 : (X ++ A ++ B ++ Z).drop b.toNat = Z := by
    rw [show b.toNat = (X ++ A ++ B).length by simp only [List.length_append]; omega, List.drop_left]
  rw [e1, e2, e3, e4]
open Stb in
theorem symP_at {N : Nat} (X A B Z : List Int) {c : Int → Int → Int} {p : Int → Int → Prop} {a m b : Int} (ha : a = X.length) (hm : m = a + A.length) (hb : b = m + B.length) (h1 : 0 < A.length) (h2 : 0 < B.length) (hl : (X ++ A ++ B ++ Z).length ≤ 100000) (hN : b - a ≤ (N : Int)) (hw : Wk (ltc c))
    (hpp : ∀ x ∈ X ++ A ++ B ++ Z, ∀ y ∈ X ++ A ++ B ++ Z, p x y) (hA : Srt (ltc c) A) (hB : Srt (ltc c) B) : symP N (X ++ A ++ B ++ Z) a m b c p := by
  have e2 : ((X ++ A ++ B ++ Z).drop a.toNat).take (m - a).toNat = A := by
    have := mid_at X A (B ++ Z) (i := a.toNat) (n := (m - a).toNat) (by omega) (by omega)
    simpa using this
  have e3 : ((X ++ A ++ B ++ Z).drop m.toNat).take (b - m).toNat = B := by
    have := mid_at (X ++ A) B Z (i := m.toNat) (n := (b - m).toNat) (by rw [List.length_append]; omega) (by omega)
    simpa using this
  refine ⟨by omega, by omega, by omega, by simp only [List.length_append]; omega, hl, hN, hw, hpp, by rw [e2]; exact hA, by rw [e3]; exact hB⟩
open Stb in
theorem sym_tail {N : Nat} {c : Int → Int → Int} {p : Int → Int → Prop} {K : List Int → Prop} (hw : Wk (ltc c)) {X A1 A2 B1 B2 Z l : List Int} {a m b s e mid : Int} (hl : l = X ++ (A1 ++ A2) ++ (B1 ++ B2) ++ Z) (hlen : l.length ≤ 100000) (ha : a = X.length) (hs : s = a + A1.length) (hm : m = s + A2.length) (he : e = m + B1.length) (hb : b = e + B2.length) (hmid : mid = s + B1.length)
    (hpp : ∀ x ∈ l, ∀ y ∈ l, p x y) (hA : Srt (ltc c) (A1 ++ A2)) (hB : Srt (ltc c) (B1 ++ B2)) (hN : b - a ≤ (N : Int) + 1) (hml : a < mid) (hmr : mid < b)
    (eM : IntKind.wrap .i64 (Int.fdiv (IntKind.wrap .u64 (IntKind.wrap .i64 (a + b))) (2 ^ 1)) = mid) (eE : IntKind.wrap .i64 (IntKind.wrap .i64 (mid + m) - s) = e)
    (hK : K (X ++ (mrg (ltc c) A1 B1 ++ mrg (ltc c) A2 B2) ++ Z)) : symj122 N l a m b c p K s := by
  have hll : l.length = X.length + A1.length + A2.length + B1.length + B2.length + Z.length := by rw [hl]; simp only [List.length_append]; omega
  have sA1 : Srt (ltc c) A1 := (List.pairwise_append.1 hA).1
  have sA2 : Srt (ltc c) A2 := (List.pairwise_append.1 hA).2.1
  have sB1 : Srt (ltc c) B1 := (List.pairwise_append.1 hB).1
  have sB2 : Srt (ltc c) B2 := (List.pairwise_append.1 hB).2.1
  have hV2 : symV2 l a m b c s = X ++ A1 ++ B1 ++ (A2 ++ B2 ++ Z) := by
    unfold symV2
    rw [eM, eE]
    by_cases hc : (decide (s < m) && decide (m < e)) = true
    · rw [if_pos hc]
      rw [Bool.and_eq_true, decide_eq_true_eq, decide_eq_true_eq] at hc
      have := rotN_at default (e - s).toNat (X ++ A1) A2 B1 (B2 ++ Z) m.toNat (by rw [List.length_append]; omega) (by omega) (by omega) (by omega)
      unfold sroS
      rw [show (m - s).toNat = A2.length by omega, show (e - m).toNat = B1.length by omega, hl, show X ++ (A1 ++ A2) ++ (B1 ++ B2) ++ Z = X ++ A1 ++ A2 ++ B1 ++ (B2 ++ Z) by simp, this]; simp
    · rw [if_neg hc]
      rw [Bool.and_eq_true, decide_eq_true_eq, decide_eq_true_eq] at hc
      have : A2.length = 0 ∨ B1.length = 0 := by omega
      rcases this with h | h
      · have := List.eq_nil_of_length_eq_zero h; subst this; rw [hl]; simp
      · have := List.eq_nil_of_length_eq_zero h; subst this; rw [hl]; simp
  have mem2 : ∀ x ∈ X ++ A1 ++ B1 ++ (A2 ++ B2 ++ Z), x ∈ l := fun x hx => by
    rw [hl]; simp only [List.mem_append] at hx ⊢; grind
  have hV3 : symV3 l a m b c s = (X ++ mrg (ltc c) A1 B1) ++ A2 ++ B2 ++ Z := by
    unfold symV3
    rw [eM, hV2]
    by_cases hc : (decide (a < s) && decide (s < mid)) = true
    · rw [if_pos hc, symS_at X A1 B1 (A2 ++ B2 ++ Z) c ha hs hmid]; simp
    · rw [if_neg hc]
      rw [Bool.and_eq_true, decide_eq_true_eq, decide_eq_true_eq] at hc
      have : A1.length = 0 ∨ B1.length = 0 := by omega
      rcases this with h | h
      · have := List.eq_nil_of_length_eq_zero h; subst this; rw [nil_mrg]; simp
      · have := List.eq_nil_of_length_eq_zero h; subst this; rw [mrg_nil]; simp
  have hml1 : (mrg (ltc c) A1 B1).length = A1.length + B1.length := mrg_length _ _
  have mem3 : ∀ x ∈ (X ++ mrg (ltc c) A1 B1) ++ A2 ++ B2 ++ Z, x ∈ l := fun x hx => by
    rw [hl]; simp only [List.mem_append, mrg_mem] at hx ⊢; grind
  have j128 : symj128 N l a m b c p K s := by
    unfold symj128
    rw [eM, eE, hV3]
    refine ⟨fun hc => ?_, fun hc => ?_⟩
    · rw [Bool.and_eq_true, decide_eq_true_eq, decide_eq_true_eq] at hc
      refine ⟨symP_at (X ++ mrg (ltc c) A1 B1) A2 B2 Z (by rw [List.length_append]; omega) (by omega) (by omega) (by omega) (by omega) (by simp only [List.length_append, hml1]; omega) (by omega) hw (fun x hx y hy => hpp x (mem3 x hx) y (mem3 y hy)) sA2 sB2, ?_⟩
      rw [symS_at (X ++ mrg (ltc c) A1 B1) A2 B2 Z c (by rw [List.length_append]; omega) (by omega) (by omega)]
      simpa using hK
    · have hc : ¬ (mid < e ∧ e < b) := by
        intro h; rw [decide_eq_true h.1, decide_eq_true h.2] at hc; cases hc
      have : A2.length = 0 ∨ B2.length = 0 := by omega
      rcases this with h | h
      · have := List.eq_nil_of_length_eq_zero h; subst this; rw [nil_mrg] at hK; simpa using hK
      · have := List.eq_nil_of_length_eq_zero h; subst this; rw [mrg_nil] at hK; simpa using hK
  unfold symj122
  rw [eM, hV2]
  refine ⟨fun hc => ?_, fun _ => j128⟩
  rw [Bool.and_eq_true, decide_eq_true_eq, decide_eq_true_eq] at hc
  exact ⟨symP_at X A1 B1 (A2 ++ B2 ++ Z) ha hs hmid (by omega) (by omega) (by simp only [List.length_append]; omega) (by omega) hw (fun x hx y hy => hpp x (mem2 x hx) y (mem2 y hy)) sA1 sB1, j128⟩
open Stb in
theorem sym_srch {N : Nat} {c : Int → Int → Int} {p : Int → Int → Prop} {K : List Int → Prop} (hw : Wk (ltc c)) {X A B Z l : List Int} {a m b mid lo hi : Int} (hl : l = X ++ A ++ B ++ Z) (hlen : l.length ≤ 100000) (ha : a = X.length) (hm : m = a + A.length) (hb : b = m + B.length)
    (hpp : ∀ x ∈ l, ∀ y ∈ l, p x y) (hA : Srt (ltc c) A) (hB : Srt (ltc c) B) (hN : b - a ≤ (N : Int) + 1) (hml : a < mid) (hmr : mid < b)
    (eM : IntKind.wrap .i64 (Int.fdiv (IntKind.wrap .u64 (IntKind.wrap .i64 (a + b))) (2 ^ 1)) = mid) (hlo : lo = a ∨ lo = mid + m - b) (hlo1 : a ≤ lo) (hlo2 : mid + m - b ≤ lo) (hhi : hi = m ∨ hi = mid) (hhi1 : hi ≤ m) (hhi2 : hi ≤ mid)
    (hK : K (X ++ mrg (ltc c) A B ++ Z)) : ∀ (n : Nat) (s r : Int), (r - s).toNat < n → lo ≤ s → s ≤ r → r ≤ hi → (s = lo ∨ ltc c (l.getD (mid + m - s).toNat default) (l.getD (s - 1).toNat default) = false) → (r = hi ∨ ltc c (l.getD (mid + m - 1 - r).toNat default) (l.getD r.toNat default) = true) → syml105 N l a m b c p K n s r := by
  have hll : l.length = X.length + A.length + B.length + Z.length := by rw [hl]; simp only [List.length_append]
  have gA : ∀ k : Nat, k < A.length → ∀ q : Int, q = a + k → l.getD q.toNat default = A.getD k default := fun k hk q hq => by
    rw [show q.toNat = X.length + k by omega, hl, show X ++ A ++ B ++ Z = X ++ (A ++ (B ++ Z)) by simp, List.getD_eq_getElem?_getD, List.getElem?_append_right (by omega), show X.length + k - X.length = k by omega, List.getElem?_append_left hk, ← List.getD_eq_getElem?_getD]
  have gB : ∀ k : Nat, k < B.length → ∀ q : Int, q = m + k → l.getD q.toNat default = B.getD k default := fun k hk q hq => by
    rw [show q.toNat = (X ++ A).length + k by rw [List.length_append]; omega, hl, show X ++ A ++ B ++ Z = (X ++ A) ++ (B ++ Z) by simp, List.getD_eq_getElem?_getD, List.getElem?_append_right (by omega), show (X ++ A).length + k - (X ++ A).length = k by omega, List.getElem?_append_left hk, ← List.getD_eq_getElem?_getD]
  intro n
  induction n with
  | zero => intro s r h; omega
  | succ n ih =>
    intro s r hn h1 h2 h3 h4 h5
    have eMm : IntKind.wrap .i64 (mid + m) = mid + m := w64 (by omega)
    refine ⟨fun hh => ?_, fun hh => ?_⟩
    · have hh := of_decide_eq_true hh
      obtain ⟨h, e, b1, b2, b3, -, -⟩ := halfI (i := s) (j := r) (by omega) (by omega) (by omega)
      have b3 := b3 hh
      have e1 : IntKind.wrap .i64 (mid + m - 1) = mid + m - 1 := w64 (by omega)
      have e2 : IntKind.wrap .i64 (mid + m - 1 - h) = mid + m - 1 - h := w64 (by omega)
      rw [eM, e, eMm, e1, e2]
      have mem1 : l.getD (mid + m - 1 - h).toNat default ∈ l := by
        rw [List.getD_eq_getElem?_getD, List.getElem?_eq_getElem (by omega)]; exact List.getElem_mem _
      have mem2 : l.getD h.toNat default ∈ l := by
        rw [List.getD_eq_getElem?_getD, List.getElem?_eq_getElem (by omega)]; exact List.getElem_mem _
      refine ⟨by omega, by omega, by omega, by omega, hpp _ mem1 _ mem2, fun hc => ?_, fun hc => ?_⟩
      · have hc : ltc c (l.getD (mid + m - 1 - h).toNat default) (l.getD h.toNat default) = false := (Bool.not_eq_true' _).mp hc
        rw [w64 (by omega)]
        refine ih (h + 1) r (by omega) (by omega) (by omega) h3 (.inr ?_) h5
        rw [show mid + m - (h + 1) = mid + m - 1 - h by omega, show h + 1 - 1 = h by omega]; exact hc
      · have hc : ltc c (l.getD (mid + m - 1 - h).toNat default) (l.getD h.toNat default) = true := (Bool.not_eq_false' _).mp hc
        exact ih s h (by omega) h1 (by omega) (by omega) h4 (.inr hc)
    · have hh := of_decide_eq_false hh
      have hsr : s = r := by omega
      subst hsr
      obtain ⟨ka, hka⟩ : ∃ ka : Nat, (ka : Int) = s - a := ⟨(s - a).toNat, by omega⟩
      obtain ⟨kb, hkb⟩ : ∃ kb : Nat, (kb : Int) = mid - s := ⟨(mid - s).toNat, by omega⟩
      have eE : IntKind.wrap .i64 (mid + m - s) = mid + m - s := w64 (by omega)
      have tA : A.take ka ++ A.drop ka = A := List.take_append_drop ..
      have tB : B.take kb ++ B.drop kb = B := List.take_append_drop ..
      have lA : (A.take ka).length = ka := by rw [List.length_take]; omega
      have lB : (B.take kb).length = kb := by rw [List.length_take]; omega
      have lA2 : (A.drop ka).length = A.length - ka := List.length_drop ..
      have lB2 : (B.drop kb).length = B.length - kb := List.length_drop ..
      have hcut : mrg (ltc c) A B = mrg (ltc c) (A.take ka) (B.take kb) ++ mrg (ltc c) (A.drop ka) (B.drop kb) := by
        have := cut_ok hw (a1 := A.take ka) (a2 := A.drop ka) (b1 := B.take kb) (b2 := B.drop kb) (by rw [tA]; exact hA) (by rw [tB]; exact hB) (by
          rcases h5 with h5 | h5
          · rcases hhi with h6 | h6
            · exact .inl (List.eq_nil_of_length_eq_zero (by omega))
            · exact .inr (.inl (List.eq_nil_of_length_eq_zero (by omega)))
          · by_cases hs2 : s = hi
            · rcases hhi with h6 | h6
              · exact .inl (List.eq_nil_of_length_eq_zero (by omega))
              · exact .inr (.inl (List.eq_nil_of_length_eq_zero (by omega)))
            · have k1 : ka < A.length := by omega
              obtain ⟨kc, rfl⟩ : ∃ kc, kb = kc + 1 := ⟨kb - 1, by omega⟩
              refine .inr (.inr ⟨_, _, _, _, drop_get default k1, take_get default (by omega), ?_⟩)
              rw [gA ka k1 s (by omega), gB kc (by omega) (mid + m - 1 - s) (by omega)] at h5
              exact h5) (by
          by_cases hs2 : s = lo
          · rcases hlo with h6 | h6
            · exact .inl (List.eq_nil_of_length_eq_zero (by omega))
            · exact .inr (.inl (List.eq_nil_of_length_eq_zero (by omega)))
          · rcases h4 with h4 | h4
            · exact absurd h4 hs2
            · obtain ⟨kc, rfl⟩ : ∃ kc, ka = kc + 1 := ⟨ka - 1, by omega⟩
              have k1 : kb < B.length := by omega
              refine .inr (.inr ⟨_, _, _, _, take_get default (by omega), drop_get default k1, ?_⟩)
              rw [gA kc (by omega) (s - 1) (by omega), gB kb k1 (mid + m - s) (by omega)] at h4
              exact h4)
        rw [tA, tB] at this
        exact this
      rw [hcut] at hK
      have tail := sym_tail (N := N) (p := p) (K := K) hw (X := X) (A1 := A.take ka) (A2 := A.drop ka) (B1 := B.take kb) (B2 := B.drop kb) (Z := Z) (l := l) (a := a) (m := m) (b := b) (s := s) (e := mid + m - s) (mid := mid) (by rw [tA, tB]; exact hl) hlen ha (by omega) (by omega) (by omega) (by omega) (by omega) hpp (by rw [tA]; exact hA) (by rw [tB]; exact hB) hN hml hmr eM (by rw [eMm, eE]) hK
      rw [eM, eMm, eE]
      refine ⟨fun hc => ⟨?_, tail⟩, fun _ => tail⟩
      rw [Bool.and_eq_true, decide_eq_true_eq, decide_eq_true_eq] at hc
      exact ⟨by omega, by omega, by omega, by omega, by omega⟩
theorem sym_0 (l : List Int) (a m b : Int) (c : Int → Int → Int) (p : Int → Int → Prop) : ¬ symP 0 l a m b c p := fun h => by
  obtain ⟨h0, h1, h2, h3, h4, h5, -⟩ := h; omega
open Stb in
theorem sym_F (N : Nat) (l : List Int) (a m b : Int) (c : Int → Int → Int) (p : Int → Int → Prop) (hp : symP (N + 1) l a m b c p) : symF N l a m b c p (fun r => r = symS l a m b c) := by
  obtain ⟨h0, h1, h2, h3, h4, h5, hw, hpp, hA, hB⟩ := hp
  obtain ⟨X, A, B, Z, hl, ha, hm, hb, hA, hB⟩ : ∃ X A B Z : List Int, l = X ++ A ++ B ++ Z ∧ a = X.length ∧ m = a + A.length ∧ b = m + B.length ∧ Srt (ltc c) A ∧ Srt (ltc c) B := by
    refine ⟨l.take a.toNat, (l.drop a.toNat).take (m - a).toNat, (l.drop m.toNat).take (b - m).toNat, l.drop b.toNat, ?_, by rw [List.length_take]; omega, by rw [List.length_take, List.length_drop]; omega, by rw [List.length_take, List.length_drop]; omega, hA, hB⟩
    have t1 : (l.drop m.toNat).take (b - m).toNat ++ l.drop b.toNat = l.drop m.toNat := by
      rw [show l.drop b.toNat = (l.drop m.toNat).drop (b - m).toNat by rw [List.drop_drop]; congr 1; omega, List.take_append_drop]
    have t2 : (l.drop a.toNat).take (m - a).toNat ++ l.drop m.toNat = l.drop a.toNat := by
      rw [show l.drop m.toNat = (l.drop a.toNat).drop (m - a).toNat by rw [List.drop_drop]; congr 1; omega, List.take_append_drop]
    rw [List.append_assoc, t1, List.append_assoc, t2, List.take_append_drop]
  have hK : X ++ mrg (ltc c) A B ++ Z = symS l a m b c := by rw [hl]; exact (symS_at X A B Z c ha hm hb).symm
  have e1 : IntKind.wrap .i64 (m - a) = m - a := w64 (by omega)
  have e2 : IntKind.wrap .i64 (b - m) = b - m := w64 (by omega)
  refine ⟨fun hc => ?_, fun hc => ⟨fun hd => ?_, fun hd => ?_⟩⟩
  · rw [e1, beq_iff_eq] at hc
    match A, hA, hm, hl, hK with
    | [x], hA, hm, hl, hK =>
      refine ⟨B.length + 1, ?_⟩
      have := sym_one (K := fun r => r = symS l a m b c) (p := p) hw hpp (X := X) (B := B) (Z := Z) (x := x) (a := a) (by rw [hl]; simp) h4 ha hB hK (B.length + 1) 0 B.length (by omega) (by omega) (Nat.le_refl _) (fun k hk => by omega) (fun k hk hk2 => by omega)
      rw [show a + 1 + ((0 : Nat) : Int) = m by omega, show a + 1 + (B.length : Int) = b by omega] at this
      exact this
    | [], hA, hm, hl, hK => simp at hm; omega
    | _ :: _ :: _, hA, hm, hl, hK => simp only [List.length_cons] at hm; omega
  · rw [e2, beq_iff_eq] at hd
    match B, hB, hb, hl, hK with
    | [x], hB, hb, hl, hK =>
      refine ⟨A.length + 1, ?_⟩
      have := sym_two (K := fun r => r = symS l a m b c) (p := p) hw hpp (X := X) (A := A) (Z := Z) (x := x) (m := m) (by rw [hl]; simp) h4 (by omega) hA hK (A.length + 1) 0 A.length (by omega) (by omega) (Nat.le_refl _) (fun k hk => by omega) (fun k hk hk2 => by omega)
      rw [show (X.length : Int) + ((0 : Nat) : Int) = a by omega, show (X.length : Int) + (A.length : Int) = m by omega] at this
      exact this
    | [], hB, hb, hl, hK => simp at hb; omega
    | _ :: _ :: _, hB, hb, hl, hK => simp only [List.length_cons] at hb; omega
  · obtain ⟨mid, eM, b1, b2, b3, b4, b5⟩ := halfI (i := a) (j := b) (by omega) (by omega) (by omega)
    have b3 := b3 (by omega)
    rw [e1, beq_eq_false_iff_ne] at hc
    rw [e2, beq_eq_false_iff_ne] at hd
    have j91 : symj91 N l a m b c p (fun r => r = symS l a m b c) := by
      refine ⟨(symV1 a m b - symV0 a m b).toNat + 1, ?_⟩
      have hx : IntKind.wrap .i64 (IntKind.wrap .i64 (mid + m) - b) = mid + m - b := by rw [w64 (x := mid + m) (by omega), w64 (by omega)]
      by_cases hmm : m > mid
      · have v0 : symV0 a m b = mid + m - b := by unfold symV0; rw [eM, if_pos (decide_eq_true hmm), hx]
        have v1 : symV1 a m b = mid := by unfold symV1; rw [eM, if_pos (decide_eq_true hmm)]
        rw [v0, v1]
        exact sym_srch hw hl h4 ha hm hb hpp hA hB (by omega) (by omega) b3 eM (.inr rfl) (by omega) (Int.le_refl _) (.inr rfl) (by omega) (Int.le_refl _) hK _ _ _ (by omega) (Int.le_refl _) (by omega) (Int.le_refl _) (.inl rfl) (.inl rfl)
      · have v0 : symV0 a m b = a := by unfold symV0; rw [eM, if_neg (by rw [decide_eq_true_eq]; exact hmm)]
        have v1 : symV1 a m b = m := by unfold symV1; rw [eM, if_neg (by rw [decide_eq_true_eq]; exact hmm)]
        rw [v0, v1]
        exact sym_srch hw hl h4 ha hm hb hpp hA hB (by omega) (by omega) b3 eM (.inl rfl) (Int.le_refl _) (by omega) (.inl rfl) (Int.le_refl _) (by omega) hK _ _ _ (by omega) (Int.le_refl _) (by omega) (Int.le_refl _) (.inl rfl) (.inl rfl)
    exact ⟨fun _ => j91, fun _ => j91⟩
set_option linter.unusedVariables false in
theorem sym_rec : ∀ N, sym_C N
  | 0 => (by intro g axdata cxdata xsxdata xdata xa xm xb vxcmp xcmp pxcmp hLxdata hfxcmp hp; exact (sym_0 xdata xa xm xb xcmp pxcmp hp).elim)
  | N + 1 =>
    have ih := sym_rec N
    (by intro g axdata cxdata xsxdata xdata xa xm xb vxcmp xcmp pxcmp hLxdata hfxcmp hp; exact (sym_ok N ih xdata xa xm xb xcmp pxcmp hLxdata hfxcmp _ (sym_F N xdata xa xm xb xcmp pxcmp hp)).mono (by rintro g' H' v _ ⟨fxdata, xsfxdata, rfl, hLfxdata, rfl, hlen0, hK⟩; subst hK; exact ⟨xsfxdata, rfl, hLfxdata, rfl, hlen0⟩))
def symPE (xdata : List (Int)) (xa : Int) (xm : Int) (xb : Int) (xcmp : Int → Int → Int) (pxcmp : Int → Int → Prop) : Prop := ∃ N, symP N xdata xa xm xb xcmp pxcmp
set_option linter.unusedVariables false in
theorem sym_c {g : Ghost} {axdata : Option Addr} {cxdata : Nat} {xsxdata : List Value} (xdata : List (Int)) (xa : Int) (xm : Int) (xb : Int) {vxcmp : Value} (xcmp : Int → Int → Int) (pxcmp : Int → Int → Prop) (hLxdata : RepL g (.int .i64) xsxdata xdata) (hfxcmp : ∀ (y0 : Int) (y1 : Int), pxcmp y0 y1 → FnG Try.prog vxcmp #[.int .i64 y0, .int .i64 y1] g (.int .i64 (xcmp y0 y1)))  (hp : symPE xdata xa xm xb xcmp pxcmp) : CallsH Try.prog 18 #[.slice axdata xdata.length cxdata, .int .i64 xa, .int .i64 xm, .int .i64 xb, vxcmp] g [.own (.slice axdata xdata.length cxdata) 3 1 xdata.length xsxdata] (fun g' H' v => ∃ (xsfxdata : List Value), v = .tuple #[] ∧ RepL g' (.int .i64) xsfxdata (symS xdata xa xm xb xcmp) ∧ H' = [.own (.slice axdata (symS xdata xa xm xb xcmp).length cxdata) 3 1 (symS xdata xa xm xb xcmp).length xsfxdata] ∧ (symS xdata xa xm xb xcmp).length = xdata.length) := by
  obtain ⟨N, hp⟩ := hp
  exact (sym_rec N) _ xdata xa xm xb xcmp pxcmp hLxdata hfxcmp hp
end Go.Proofs.Ytjkimpnppldekaa.So
