/- Selectors: how many tests there are, by the program and by the document. No program in sight. -/
import Derived.Test.YtcnhdkhkadiohaaGreatDoorPl
import Derived.Test.YtcnhdkhkadiohaaGreatDoorUp
namespace Go.Proofs.YtcnhdkhkadiohaaGreatDoor.Se
open Go Go.Eng
set_option linter.unusedVariables false
abbrev Lb := Int × Bs × Int × Bs × Int × Int
abbrev Ts := Tst Lb
abbrev Ph := List (List Ts) × List Int
mutual
def tsT : Ts → Int → Int × Bool
 | .mk _ l, d => ts3 l d 0
def ts3 : List Ph → Int → Int → Int × Bool
 | [], _, n => (n, decide (n ≤ 40))
 | (p, _) :: l, d, n => if (ts2 p d n).2 = true then ts3 l d (ts2 p d n).1 else ((ts2 p d n).1, false)
def ts2 : List (List Ts) → Int → Int → Int × Bool
 | [], _, n => (n, true)
 | s :: l, d, n => if (ts1 s d (n + s.length)).2 = true then ts2 l d (ts1 s d (n + s.length)).1 else ((ts1 s d (n + s.length)).1, false)
def ts1 : List Ts → Int → Int → Int × Bool
 | [], _, n => (n, true)
 | t :: l, d, n => if t.kids.length = 0 then ts1 l d n else if (!((tsT t (d + 1)).2) || (decide (d ≥ 3) || decide (n + (tsT t (d + 1)).1 > 40))) = true then (n + (tsT t (d + 1)).1, false) else ts1 l d (n + (tsT t (d + 1)).1)
end
mutual
def riT : Ts → Int → Int
 | .mk _ l, d => ri3 l d 0
def ri3 : List Ph → Int → Int → Int
 | [], _, n => n
 | (p, _) :: l, d, n => if ri2 p d n < 0 then -1 else ri3 l d (ri2 p d n)
def ri2 : List (List Ts) → Int → Int → Int
 | [], _, n => n
 | s :: l, d, n => if ri1 s d n < 0 then -1 else ri2 l d (ri1 s d n)
def ri1 : List Ts → Int → Int → Int
 | [], _, n => n
 | t :: l, d, n => if t.kids.length = 0 then ri1 l d (n + 1) else if (if (decide (d < 3) && decide (n + 1 ≤ 40)) = true then riT t (d + 1) else -1) < 0 then -1 else ri1 l d (n + 1 + (if (decide (d < 3) && decide (n + 1 ≤ 40)) = true then riT t (d + 1) else -1))
end
mutual
def ctT : Ts → Int
 | .mk _ l => ct3 l
def ct3 : List Ph → Int
 | [] => 0
 | (p, _) :: l => ct2 p + ct3 l
def ct2 : List (List Ts) → Int
 | [] => 0
 | s :: l => (s.length + ns1 s) + ct2 l
def ns1 : List Ts → Int
 | [] => 0
 | t :: l => ctT t + ns1 l
end
mutual
def dpT : Ts → Int → Bool
 | .mk _ l, d => dp3 l d
def dp3 : List Ph → Int → Bool
 | [], _ => true
 | (p, _) :: l, d => dp2 p d && dp3 l d
def dp2 : List (List Ts) → Int → Bool
 | [], _ => true
 | s :: l, d => dp1 s d && dp2 l d
def dp1 : List Ts → Int → Bool
 | [], _ => true
 | t :: l, d => (decide (t.kids.length = 0) || (decide (d < 3) && dpT t (d + 1))) && dp1 l d
end
/-! the program's count -/
/-! the document's count -/
end Go.Proofs.YtcnhdkhkadiohaaGreatDoor.Se
namespace Go.Proofs.YtcnhdkhkadiohaaGreatDoor.Se
open Go Go.Eng
set_option linter.unusedVariables false
def bT (t : Ts) : Nat := bulkT (.tst (.pair (.int .i64) (.pair (.str) (.pair (.int .u8) (.pair (.str) (.pair (.int .i64) (.int .i64))))))) t
def b3 (l : List Ph) : Nat := bulkT (.slice (.pair (.slice (.slice (.tst (.pair (.int .i64) (.pair (.str) (.pair (.int .u8) (.pair (.str) (.pair (.int .i64) (.int .i64))))))))) (.slice (.int .u8)))) l
def w1 : List Ts → Nat
 | [] => 0
 | t :: s => bT t + w1 s
def w2 : List (List Ts) → Nat
 | [] => 0
 | s :: p => w1 s + 1 + w2 p
def w3 : List Ph → Nat
 | [] => 0
 | q :: l => w2 q.1 + q.2.length + 2 + w3 l
theorem w1_eq : ∀ s : List Ts, (s.map bT).sum = w1 s
 | [] => rfl
 | t :: s => by rw [List.map_cons, List.sum_cons, w1_eq s, w1]
theorem w2_eq : ∀ p : List (List Ts), (p.map fun s => (s.map bT).sum + 1).sum = w2 p
 | [] => rfl
 | s :: p => by rw [List.map_cons, List.sum_cons, w2_eq p, w2, w1_eq]
theorem w3_eq : ∀ l : List Ph, (l.map fun q => ((q.1.map fun s => (s.map bT).sum + 1).sum + 1) + ((q.2.map fun _ => 1).sum + 1)).sum = w3 l
 | [] => rfl
 | q :: l => by
  have e : (q.2.map fun _ => 1).sum = q.2.length := by rw [List.map_const']; simp
  rw [List.map_cons, List.sum_cons, w3_eq l, w3, w2_eq, e]; omega
theorem b3_eq (l : List Ph) : b3 l = w3 l + 1 := by
 show (l.map fun q => ((q.1.map fun s => (s.map bT).sum + 1).sum + 1) + ((q.2.map fun _ => 1).sum + 1)).sum + 1 = _
 rw [w3_eq]
theorem bT_mk (x : Lb) (l : List Ph) : bT (.mk x l) = 6 + x.2.1.length + x.2.2.2.1.length + b3 l := by
 rw [b3_eq, ← w3_eq]
 show Tst.sum _ (Tst.mk x l) = _
 rw [Tst.sum, Tst.sum3_eq]
 show 1 + ((x.2.1.length + 1) + (1 + ((x.2.2.2.1.length + 1) + (1 + 1)))) + ((l.map fun q => ((q.1.map fun s => (s.map bT).sum + 1).sum + 1) + ((q.2.map fun _ => 1).sum + 1)).sum + 1) = _
 omega
theorem bT_kids (t : Ts) : b3 t.kids + 6 + t.lab.2.1.length + t.lab.2.2.2.1.length = bT t := by
 obtain ⟨x, l⟩ := t
 rw [bT_mk]
 show b3 l + 6 + x.2.1.length + x.2.2.2.1.length = _
 omega
theorem w1_len : ∀ s : List Ts, 6 * s.length ≤ w1 s
 | [] => Nat.zero_le _
 | t :: s => by
  have := w1_len s
  have := bT_kids t
  rw [w1, List.length_cons]; omega
theorem w2_len : ∀ p : List (List Ts), p.length ≤ w2 p
 | [] => Nat.zero_le _
 | s :: p => by
  have := w2_len p
  rw [w2, List.length_cons]; omega
theorem w3_len : ∀ l : List Ph, 2 * l.length ≤ w3 l
 | [] => Nat.zero_le _
 | q :: l => by
  have := w3_len l
  rw [w3, List.length_cons]; omega
theorem w1_in {t : Ts} : ∀ {s : List Ts}, t ∈ s → bT t ≤ w1 s
 | y :: s, h => by
  rw [w1]
  rcases List.mem_cons.1 h with rfl | h
  ·omega
  have := w1_in h; omega
theorem w2_in {s : List Ts} : ∀ {p : List (List Ts)}, s ∈ p → w1 s + 1 ≤ w2 p
 | y :: p, h => by
  rw [w2]
  rcases List.mem_cons.1 h with rfl | h
  ·omega
  have := w2_in h; omega
theorem w3_in {q : Ph} : ∀ {l : List Ph}, q ∈ l → w2 q.1 + q.2.length + 2 ≤ w3 l
 | y :: l, h => by
  rw [w3]
  rcases List.mem_cons.1 h with rfl | h
  ·omega
  have := w3_in h; omega
theorem get_in {α : Type} {l : List α} {i : Nat} (d : α) (h : i < l.length) : l.getD i d ∈ l := by
 rw [List.getD_eq_getElem?_getD, List.getElem?_eq_getElem h]
 exact List.getElem_mem h
theorem tsT_eq (t : Ts) (d : Int) : tsT t d = ts3 t.kids d 0 := by obtain ⟨x, l⟩ := t; rw [tsT]; rfl
/-! the counts are no more than what is handed in -/
def BdT (t : Ts) : Prop := ∀ d, (0 ≤ (tsT t d).1 ∧ (tsT t d).1 ≤ b3 t.kids) ∧ (-1 ≤ riT t d ∧ riT t d ≤ b3 t.kids)
theorem bd1 : ∀ {s : List Ts} (h : ∀ t ∈ s, BdT t) (d n : Int), (n ≤ (ts1 s d n).1 ∧ (ts1 s d n).1 + s.length ≤ n + w1 s) ∧ (0 ≤ n → -1 ≤ ri1 s d n ∧ ri1 s d n ≤ n + w1 s)
 | [], _, d, n => by rw [ts1, ri1, w1]; exact ⟨⟨by omega, by simp⟩, fun h => ⟨by omega, by omega⟩⟩
 | t :: s, h, d, n => by
  have ht := h t (List.mem_cons_self ..) (d + 1)
  have ih := fun n => bd1 (fun k hk => h k (List.mem_cons_of_mem _ hk)) d n
  have hb := bT_kids t
  have hl : ((t :: s).length : Int) = s.length + 1 := by simp
  rw [ts1, ri1, w1, hl]
  constructor
  ·split
   ·have := (ih n).1; omega
   split
   ·have hw := w1_len s
    show n ≤ n + (tsT t (d + 1)).1 ∧ n + (tsT t (d + 1)).1 + (s.length + 1) ≤ _
    omega
   have := (ih (n + (tsT t (d + 1)).1)).1; omega
  intro hn
  have hm : -1 ≤ (if (decide (d < 3) && decide (n + 1 ≤ 40)) = true then riT t (d + 1) else -1) ∧ (if (decide (d < 3) && decide (n + 1 ≤ 40)) = true then riT t (d + 1) else -1) ≤ b3 t.kids := by
   by_cases hc : (decide (d < 3) && decide (n + 1 ≤ 40)) = true
   ·rw [if_pos hc]; exact ht.2
   rw [if_neg hc]; omega
  generalize (if (decide (d < 3) && decide (n + 1 ≤ 40)) = true then riT t (d + 1) else -1) = mo at hm ⊢
  by_cases hk : t.kids.length = 0
  ·rw [if_pos hk]
   have := (ih (n + 1)).2 om; omega
  rw [if_neg hk]
  by_cases h0 : mo < 0
  ·rw [if_pos h0]; omega
  rw [if_neg h0]
  have := (ih (n + 1 + mo)).2 om; omega
theorem bd2 : ∀ {p : List (List Ts)} (h : ∀ s ∈ p, ∀ t ∈ s, BdT t) (d n : Int), (n ≤ (ts2 p d n).1 ∧ (ts2 p d n).1 ≤ n + w2 p) ∧ (0 ≤ n → -1 ≤ ri2 p d n ∧ ri2 p d n ≤ n + w2 p)
 | [], _, d, n => by rw [ts2, ri2, w2]; exact ⟨⟨by omega, by simp⟩, fun h => ⟨by omega, by omega⟩⟩
 | s :: p, h, d, n => by
  have hs := fun n => bd1 (h s (List.mem_cons_self ..)) d n
  have ih := fun n => bd2 (fun k hk => h k (List.mem_cons_of_mem _ hk)) d n
  rw [ts2, ri2, w2]
  have h1 := (hs (n + s.length)).1
  constructor
  ·split
   ·have := (ih (ts1 s d (n + s.length)).1).1; omega
   show n ≤ (ts1 s d (n + s.length)).1 ∧ (ts1 s d (n + s.length)).1 ≤ _
   omega
  intro hn
  have h2 := (hs n).2 hn
  split
  ·omega
  have := (ih (ri1 s d n)).2 om; omega
theorem bd3 : ∀ {l : List Ph} (h : ∀ q ∈ l, ∀ s ∈ q.1, ∀ t ∈ s, BdT t) (d n : Int), (n ≤ (ts3 l d n).1 ∧ (ts3 l d n).1 ≤ n + w3 l) ∧ (0 ≤ n → -1 ≤ ri3 l d n ∧ ri3 l d n ≤ n + w3 l)
 | [], _, d, n => by rw [ts3, ri3, w3]; exact ⟨⟨by show n ≤ n; omega, by show n ≤ n + ((0 : Nat) : Int); omega⟩, fun h => ⟨by omega, by omega⟩⟩
 | (p, js) :: l, h, d, n => by
  have hs := fun n => bd2 (p := p) (h (p, js) (List.mem_cons_self ..)) d n
  have ih := fun n => bd3 (fun k hk => h k (List.mem_cons_of_mem _ hk)) d n
  rw [ts3, ri3, w3]
  have h1 := (hs n).1
  show (_ ∧ _ ≤ n + ((w2 p + js.length + 2 + w3 l : Nat) : Int)) ∧ (_ → _ ∧ _ ≤ n + ((w2 p + js.length + 2 + w3 l : Nat) : Int))
  constructor
  ·split
   ·have := (ih (ts2 p d n).1).1; omega
   show n ≤ (ts2 p d n).1 ∧ (ts2 p d n).1 ≤ _
   omega
  intro hn
  have h2 := (hs n).2 hn
  split
  ·omega
  have := (ih (ri2 p d n)).2 om; omega
theorem bdT : ∀ t : Ts, BdT t := Tst.ind fun x l ih d => by
 have := bd3 ih d 0
 rw [tsT, riT]
 show (0 ≤ (ts3 l d 0).1 ∧ (ts3 l d 0).1 ≤ b3 l) ∧ (-1 ≤ ri3 l d 0 ∧ ri3 l d 0 ≤ b3 l)
 rw [b3_eq]
 have h2 := this.2 om
 omega
/-! bytes -/
def btN (c : Int) : Prop := 0 ≤ c ∧ c ≤ 255
def okB (t : Ts) : Prop := t.All fun y l => btN y.2.2.1 ∧ ∀ q ∈ l, ∀ z ∈ q.2, btN z
def okB3 (l : List Ph) : Prop := ∀ q ∈ l, (∀ z ∈ q.2, btN z) ∧ ∀ s ∈ q.1, ∀ t ∈ s, okB t
theorem okB_kids {t : Ts} (h : okB t) : btN t.lab.2.2.1 ∧ okB3 t.kids := by
 obtain ⟨x, l⟩ := t
 have h := Tst.all_mk.1 h
 exact ⟨h.1.1, fun q hq => ⟨h.1.2 q hq, h.2 q hq⟩⟩
end Go.Proofs.YtcnhdkhkadiohaaGreatDoor.Se
