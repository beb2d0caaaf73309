/- selector: the text of paths. -/
import Derived.Test.YtcnhdkhkadiohaaGreatDoorSeh
import Derived.Test.YtcnhdkhkadiohaaGreatDoorMta
import Derived.Test.YtcnhdkhkadiohaaGreatDoorQud
namespace Go.Proofs.YtcnhdkhkadiohaaGreatDoor.Se
open Go Go.Eng Go.RowKit Bld Trm Css Tk Ti Me Rp Qu
set_option linter.unusedVariables false
def nthS (a b : Int) : Bs := if b < 0 then Lib.itoa a ++ 110 :: Lib.itoa b else Lib.itoa a ++ 110 :: 43 :: Lib.itoa b
def byteB (z : Int) : UInt8 := UInt8.ofNat z.toNat
def jnS (z : Int) : Bs := if (z == 32) = true then [32] else [32, byteB z, 32]
def opS (z : Int) : Bs := if (z == 61) = true then [] else [byteB z]
def labT (x : Lb) (s : Bs) : Bs :=
 if (x.1 == 1) = true then [42] else if (x.1 == 2) = true then x.2.1 else if (x.1 == 3) = true then 35 :: x.2.1 else if (x.1 == 4) = true then 46 :: x.2.1
 else if (x.1 == 5) = true then (if (x.2.2.1 == 0) = true then 91 :: (x.2.1 ++ [93]) else 91 :: (x.2.1 ++ (opS x.2.2.1 ++ 61 :: (dqS x.2.2.2.1 ++ [93]))))
 else if (x.1 == 6) = true then [58, 114, 111, 111, 116] else if (x.1 == 7) = true then [58, 101, 109, 112, 116, 121]
 else if (x.1 == 8) = true then [58, 110, 116, 104, 45, 99, 104, 105, 108, 100, 40] ++ (nthS x.2.2.2.2.1 x.2.2.2.2.2 ++ [41])
 else if (x.1 == 9) = true then [58, 110, 116, 104, 45, 108, 97, 115, 116, 45, 99, 104, 105, 108, 100, 40] ++ (nthS x.2.2.2.2.1 x.2.2.2.2.2 ++ [41])
 else if (x.1 == 10) = true then [58, 110, 111, 116, 40] ++ (s ++ [41]) else [58, 105, 115, 40] ++ (s ++ [41])
mutual
def txT : Ts → Bs
 | .mk x l => labT x (tx3 l)
def tx3 : List Ph → Bs
 | [] => []
 | (p, js) :: l => tx2 p js ++ tr3 l
def tr3 : List Ph → Bs
 | [] => []
 | (p, js) :: l => 44 :: 32 :: (tx2 p js ++ tr3 l)
def tx2 : List (List Ts) → List Int → Bs
 | [], _ => []
 | s :: p, js => tx1 s ++ tr2 p js
def tr2 : List (List Ts) → List Int → Bs
 | [], _ => []
 | s :: p, js => jnS (js.headD 0) ++ (tx1 s ++ tr2 p js.tail)
def tx1 : List Ts → Bs
 | [] => []
 | t :: s => txT t ++ tx1 s
end
theorem txT_eq (t : Ts) : txT t = labT t.lab (tx3 t.kids) := by obtain ⟨x, l⟩ := t; rw [txT]; rfl
def nthT (t : Ts) : Bs := nthS t.lab.2.2.2.2.1 t.lab.2.2.2.2.2
def nthTP (t : Ts) : Prop := (-1000 ≤ t.lab.2.2.2.2.1 ∧ t.lab.2.2.2.2.1 ≤ 1000) ∧ (-1000 ≤ t.lab.2.2.2.2.2 ∧ t.lab.2.2.2.2.2 ≤ 1000)
theorem itoa_1000 {x : Int} (h : -1000 ≤ x ∧ x ≤ 1000) : i64P x ∧ (Lib.itoa x).length ≤ 1002 := by
 have := itoa_small x
 exact ⟨⟨by omega, by omega⟩, by omega⟩
theorem nth_len {t : Ts} (h : nthTP t) : (nthT t).length ≤ 2006 := by
 obtain ⟨h1, h2⟩ := itoa_1000 h.1
 obtain ⟨h3, h4⟩ := itoa_1000 h.2
 unfold nthT nthS
 split <;> simp only [List.length_append, List.length_cons] <;> omega
theorem lab_ab {t : Ts} {i : Int} (h : labS t.lab i = true) : (nthTP t) ∧ (1 ≤ t.lab.1 ∧ t.lab.1 ≤ 11) := by
 unfold labS at h
 simp only [Bool.and_eq_true, Bool.not_eq_true'] at h
 obtain ⟨h0, -, -, h3⟩ := h
 unfold l0 at h0
 simp only [Bool.or_eq_false_iff, decide_eq_false_iff_not] at h0
 refine ⟨?_, by omega, by omega⟩
 unfold l3 at h3
 unfold nthTP
 generalize t.lab.2.2.2.2.1 = a at *
 generalize t.lab.2.2.2.2.2 = b at *
 have key : ((decide ((if b < a then b else a) < (-1000))) || (decide ((if a < b then b else a) > 1000))) = false := by
  split at h3
  ·simp only [Bool.or_eq_false_iff] at h3 ⊢; exact h3.2.2
  exact h3
 simp only [Bool.or_eq_false_iff, decide_eq_false_iff_not] at key
 obtain ⟨k1, k2⟩ := key
 split at k1 <;> split at k2 <;> omega
theorem ok1_at {i : Nat} : ∀ {s : List Ts} {k : Int}, ok1 s k = true → i < s.length → okT (s.getD i default) (k + i) = true := by
 induction i with
 | zero =>
  intro s k h hi
  match s, h with
  | t :: s, h =>
   rw [ok1, Bool.and_eq_true] at h
   simpa using h.1
 | succ i ih =>
  intro s k h hi
  match s, h with
  | t :: s, h =>
   rw [ok1, Bool.and_eq_true] at h
   have := ih h.2 (by simpa using hi)
   rw [show k + ((i + 1 : Nat) : Int) = k + 1 + (i : Int) by omega]
   simpa using this
theorem ok2_in {s : List Ts} : ∀ {p : List (List Ts)}, ok2 p = true → s ∈ p → ok1 s 0 = true
 | y :: p, h, hs => by
  rw [ok2, Bool.and_eq_true, Bool.and_eq_true] at h
  rcases List.mem_cons.1 hs with rfl | hs
  ·exact h.1
  exact ok2_in h.2.2 hs
theorem ok3_in {q : Ph} : ∀ {l : List Ph}, ok3 l = true → q ∈ l → (q.1 ≠ [] ∧ q.2.length + 1 = q.1.length) ∧ ok2 q.1 = true ∧ q.2.all jnB = true
 | y :: l, h, hs => by
  rw [ok3_cons] at h
  simp only [Bool.and_eq_true, Bool.not_eq_true', Bool.or_eq_false_iff, beq_eq_false_iff_ne] at h
  rcases List.mem_cons.1 hs with rfl | hs
  ·obtain ⟨⟨h1, h2⟩, h3, h4, h5⟩ := h
   have h2 : (q.2.length : Int) = (q.1.length : Int) - 1 := by simpa using h2
   refine ⟨⟨fun e => ?_, by omega⟩, h3, h4⟩
   rw [e] at h1; exact h1 rfl
  exact ok3_in h.2.2.2 hs
theorem labT_len (t : Ts) (s : Bs) (h : nthTP t) : (labT t.lab s).length ≤ 400 * (6 + t.lab.2.1.length + t.lab.2.2.2.1.length) + s.length := by
 have h1 := nth_len h
 have h2 := quote_len t.lab.2.2.2.1
 unfold nthT at h1
 have h3 : (opS t.lab.2.2.1).length ≤ 1 := by unfold opS; split <;> simp
 have h4 : (dqS t.lab.2.2.2.1).length ≤ 2 * t.lab.2.2.2.1.length + 2 := by unfold dqS; simp; omega
 unfold labT
 repeat' split
 all_goals try simp only [List.length_append, List.length_cons, List.length_nil]
 all_goals omega
theorem jnS_len (z : Int) : (jnS z).length ≤ 3 := by unfold jnS; split <;> simp
def TLen (t : Ts) : Prop := ∀ i, okT t i = true → (txT t).length ≤ 400 * bT t
theorem tx1_len : ∀ {s : List Ts} {k : Int} (h : ∀ t ∈ s, TLen t) (hk : ok1 s k = true), (tx1 s).length ≤ 400 * w1 s
 | [], _, _, _ => by rw [tx1, w1]; simp
 | t :: s, k, h, hk => by
  rw [ok1, Bool.and_eq_true] at hk
  have h1 := h t (List.mem_cons_self ..) k hk.1
  have h2 := tx1_len (fun y hy => h y (List.mem_cons_of_mem _ hy)) hk.2
  rw [tx1, w1, List.length_append]; omega
theorem tr2_len : ∀ {p : List (List Ts)} {js : List Int} (h : ∀ s ∈ p, ∀ t ∈ s, TLen t) (hk : ok2 p = true), (tr2 p js).length ≤ 400 * w2 p
 | [], _, _, _ => by rw [tr2, w2]; simp
 | s :: p, js, h, hk => by
  have h1 := tx1_len (h s (List.mem_cons_self ..)) (ok2_in hk (List.mem_cons_self ..))
  rw [ok2, Bool.and_eq_true, Bool.and_eq_true] at hk
  have h2 := tr2_len (js := js.tail) (fun y hy => h y (List.mem_cons_of_mem _ hy)) hk.2.2
  have h3 := jnS_len (js.headD 0)
  rw [tr2, w2, List.length_append, List.length_append]; omega
theorem tx2_len {p : List (List Ts)} {js : List Int} (h : ∀ s ∈ p, ∀ t ∈ s, TLen t) (hk : ok2 p = true) : (tx2 p js).length ≤ 400 * w2 p := by
 match p, h, hk with
 | [], _, _ => rw [tx2, w2]; simp
 | s :: p, h, hk =>
  have h1 := tx1_len (h s (List.mem_cons_self ..)) (ok2_in hk (List.mem_cons_self ..))
  rw [ok2, Bool.and_eq_true, Bool.and_eq_true] at hk
  have h2 := tr2_len (js := js) (fun y hy => h y (List.mem_cons_of_mem _ hy)) hk.2.2
  rw [tx2, w2, List.length_append]; omega
theorem tr3_len : ∀ {l : List Ph} (h : ∀ q ∈ l, ∀ s ∈ q.1, ∀ t ∈ s, TLen t) (hk : ok3 l = true), (tr3 l).length ≤ 400 * w3 l
 | [], _, _ => by rw [tr3, w3]; simp
 | (p, js) :: l, h, hk => by
  have h0 := (ok3_in hk (List.mem_cons_self ..)).2.1
  have h1 : (tx2 p js).length ≤ 400 * w2 p := tx2_len (js := js) (h (p, js) (List.mem_cons_self ..)) h0
  rw [ok3_cons, Bool.and_eq_true, Bool.and_eq_true, Bool.and_eq_true] at hk
  have h2 := tr3_len (fun y hy => h y (List.mem_cons_of_mem _ hy)) hk.2.2.2
  rw [tr3, w3, List.length_cons, List.length_cons, List.length_append]
  show _ ≤ 400 * (w2 p + js.length + 2 + w3 l)
  omega
theorem tx3_len {l : List Ph} (h : ∀ q ∈ l, ∀ s ∈ q.1, ∀ t ∈ s, TLen t) (hk : ok3 l = true) : (tx3 l).length ≤ 400 * w3 l := by
 match l, h, hk with
 | [], _, _ => rw [tx3, w3]; simp
 | (p, js) :: l, h, hk =>
  have h0 := (ok3_in hk (List.mem_cons_self ..)).2.1
  have h1 : (tx2 p js).length ≤ 400 * w2 p := tx2_len (js := js) (h (p, js) (List.mem_cons_self ..)) h0
  rw [ok3_cons, Bool.and_eq_true, Bool.and_eq_true, Bool.and_eq_true] at hk
  have h2 := tr3_len (fun y hy => h y (List.mem_cons_of_mem _ hy)) hk.2.2.2
  rw [tx3, w3, List.length_append]
  show _ ≤ 400 * (w2 p + js.length + 2 + w3 l)
  omega
theorem tlen : ∀ t : Ts, TLen t := Tst.ind fun x l ih i hi => by
 rw [okT_eq, Bool.and_eq_true] at hi
 obtain ⟨hl, hs⟩ := hi
 have h1 := labT_len (.mk x l) (tx3 l) (lab_ab hl).1
 rw [bT_mk, b3_eq, txT]
 have h2 : (tx3 l).length ≤ 400 * w3 l := by
  split at hs
  ·simp only [ptsS, Bool.and_eq_true] at hs
   exact tx3_len ih hs.1
  have : l = [] := by
   have : (l.length : Int) = 0 := eq_of_beq hs
   exact List.eq_nil_of_length_eq_zero om
  subst this
  rw [tx3]; simp
 show (labT x (tx3 l)).length ≤ _
 have h3 : (labT x (tx3 l)).length ≤ 400 * (6 + x.2.1.length + x.2.2.2.1.length) + (tx3 l).length := h1
 omega
/-- what the text of a test, of paths, is asked at -/
def sttP (N : Nat) (t : Ts) : Prop := bT t < N ∧ bT t ≤ 1048600 ∧ okB t ∧ ∃ i, okT t i = true
def stxP (N : Nat) (l : List Ph) : Prop := b3 l < N ∧ b3 l ≤ 1048600 ∧ okB3 l ∧ ok3 l = true
theorem stxP_in {N : Nat} {l : List Ph} (h : stxP (N + 1) l) {q : Ph} (hq : q ∈ l) {s : List Ts} (hs : s ∈ q.1) {i : Nat} (hi : i < s.length) : sttP N (s.getD i default) := by
 obtain ⟨a, b, c, d⟩ := h
 have ht := get_in (l := s) default hi
 obtain ⟨h1, h2, h3⟩ := ptsP_in (N := N) ⟨a, b, c⟩ hq hs ht 0
 exact ⟨h1, h2, h3, _, ok1_at (ok2_in (ok3_in d hq).2.1 hs) hi⟩
theorem sttP_kids {N : Nat} {t : Ts} (h : sttP (N + 1) t) (hk : t.lab.1 = 10 ∨ t.lab.1 = 11) : stxP N t.kids := by
 obtain ⟨a, b, c, i, d⟩ := h
 obtain ⟨h1, h2, h3⟩ := tstP_kids (N := N) (i := i) ⟨a, b, c⟩
 rw [okT_eq, Bool.and_eq_true] at d
 refine ⟨h1, h2, h3, ?_⟩
 have e : ((t.lab.1 == 10) || (t.lab.1 == 11)) = true := by
  rcases hk with h | h <;> rw [h] <;> rfl
 have := d.2
 rw [if_pos e] at this
 simp only [ptsS, Bool.and_eq_true] at this
 exact this.1
theorem tx3_map (l : List Ph) : Lib.join (l.map fun q => tx2 q.1 q.2) [44, 32] = tx3 l := by
 cases l with
 | nil => rw [tx3]; rfl
 | cons q l =>
  obtain ⟨p, js⟩ := q
  rw [List.map_cons, Lib.join_cons, tx3]
  congr 1
  induction l with
  | nil => rw [tr3]; rfl
  | cons q l ih =>
   obtain ⟨p, js⟩ := q
   rw [tr3, ← ih]
   simp [Lib.joinTail]
end Go.Proofs.YtcnhdkhkadiohaaGreatDoor.Se
