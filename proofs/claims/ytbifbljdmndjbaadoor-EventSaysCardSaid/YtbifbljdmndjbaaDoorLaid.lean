/-
 Package variables that start as the text lays them: what a walk is given of them. No program in sight.
-/
import Derived.Test.YtbifbljdmndjbaaDoorLift
import Derived.Test.YtbifbljdmndjbaaDoorSto
import Derived.LaidLaws
import Derived.Handed
import Derived.Shelf.Vars
namespace Go.Eng
open Go.RowKit
open Go.ChangeShapes Go.WideShapes Go.ChangeAt
section
variable {P : Program}
/-- the variable in block g holds the datum D, for good -/
def Glob (g : Ghost) (b : Nat) (e : Ty) (D : e.den) : Prop := ∃ cells, At g b 0 cells ∧ Rep g e cells D
theorem Glob.mono {g g' : Ghost} (h : Gle g g') {b : Nat} {e : Ty} {D : e.den} : Glob g b e D → Glob g' b e D
 | ⟨cells, h1, h2⟩ => ⟨cells, h1.mono h, h2.mono h⟩

/-- the variable in block b is a row of elements -/
def GlobL (g : Ghost) (b : Nat) (e : Ty) (L : List e.den) : Prop := ∃ xs T fz, g b = some (.cells ⟨xs⟩ T fz) ∧ RepL g e xs L
theorem GlobL.mono {g g' : Ghost} (h : Gle g g') {b : Nat} {e : Ty} {L : List e.den} : GlobL g b e L → GlobL g' b e L
 | ⟨xs, T, fz, h1, h2⟩ => ⟨xs, T, fz, h b _ h1, h2.mono h⟩
/-- a package variable that holds some integer -/
def SomeInt (g : Ghost) (q : Nat) : Prop := ∃ cs T fz m, g q = some (.cells cs T fz) ∧ cs[0]? = some (.int .i64 m)
/-- a variable of an interface's type that holds something -/
def SomeIf (g : Ghost) (q : Nat) : Prop := ∃ cs T fz t p, g q = some (.cells cs T fz) ∧ cs[0]? = some (.iface t p)
theorem SomeIf.mono {g g' : Ghost} {q : Nat} (h : SomeIf g q) (hg : Gle g g') : SomeIf g' q := by
 obtain ⟨cs, T, fz, t, p, h1, h2⟩ := h
 exact ⟨cs, T, fz, t, p, hg _ _ h1, h2⟩
theorem SomeInt.mono {g g' : Ghost} {q : Nat} (h : SomeInt g q) (hg : Gle g g') : SomeInt g' q := by
 obtain ⟨cs, T, fz, m, h1, h2⟩ := h
 exact ⟨cs, T, fz, m, hg _ _ h1, h2⟩
section
variable {n : Nat} {w0 : Base} {m : Env} {H : List Ent} {g : Ghost} {R : Act → World → Prop} {Q : Exit → Act → World → Prop}
end
end
/-- a package variable, with what it is to hold -/
def lay (cs : Array Value) : Obj → Obj
 | .cells _ t f => .cells cs t f
 | o => o
section
variable {H : Type} {enc : TypeId × Value → H}
/-- a row whose world fits in shape, with a fact more on its memory -/
theorem returnsInHanded_of_change_andS {a : Assume} {C : Checked} {os : Os} {f : FuncId} {fn : Func} {s : ChangeSpec} {conds : List PathCond} {apart fresh handsOn again : Bool} {X : World → Array Value → Prop}
  (hX : ∀ (w w' : World) (args : Array Value), w.heap = w'.heap → X w args → X w' args)
  (own : ownKnob C.prog.godebug = none) (started : os.Started) (noInit : C.prog.inits.idxOf? f = none) (hfn : C.prog.funcs[f]? = some fn)
  (witness : ∃ (w : World) (tape : Tape) (i : Input), w.os = os ∧ (w.forCall tape i).Shaped C.prog ∧ i.vars = [] ∧ Input.okWide C.prog (w.forCall tape i) .any w.heap.size f i ∧
   ((s.pre enc C.prog fn conds apart (w.forCall tape i).memory i.args ∧ X (w.forCall tape i).memory i.args) ∧ sizedMet enc C.prog fn (OpenSpec.ofChange s) apart (w.forCall tape i).memory i.args) ∧ a.holds C.prog (lone (Frame.enter C.prog f i.args .normal) [] (w.forCall tape i)))
  (contract : ∀ (W : World) (base : Nat) (args : Array Value) (ds gs : List (DataW H)) (before : List MemPlace),
   (∀ (j : Nat) t v, fn.params[j]? = some t → args[j]? = some v → Value.okWide C.prog W .any base t v) →
   DataW.Whole enc C.prog fn.params.toList s.vars apart W args.toList ds gs before →
   (DataW.weightsEach C.prog (fn.params.toList ++ s.plain.varTypes C.prog) (ds ++ gs)).all (· ≤ reachBytes) = true → X W args → W.ShapedOpen C.prog →
   Calls C.prog f args W fun e W' => ∃ v, e = .returned v ∧ s.post enc C.prog fn apart fresh handsOn again W args v W') :
  ReturnsInHanded a C os f .any (fun w args => (s.pre enc C.prog fn conds apart w args ∧ X w args) ∧ sizedMet enc C.prog fn (OpenSpec.ofChange s) apart w args) (s.post enc C.prog fn apart fresh handsOn again) := by
 refine returnsInHanded_of_calls own started noInit witness fun w tape i _ hsh _ hok hpre _ => ?_
 obtain ⟨_, _, _, fn', hfn', _, _, _, _, hval⟩ := hok
 obtain rfl : fn' = fn := Option.some.inj (hfn'.symm.trans hfn)
 obtain ⟨⟨⟨ds, gs, before, hw, hc⟩, hx⟩, hz⟩ := hpre
 refine (contract (w.forCall tape i) w.heap.size i.args ds gs before hval (DataW.Whole.of_heap (w' := w.forCall tape i) (by rfl) hw) (hz.weights hw) (hX _ _ _ (by rfl) hx) hsh).mono fun e W' ⟨v, he, hp⟩ => ?_
 subst he
 exact ChangeSpec.post_blind hp
/-- a law whose package variables start as the text lays them: true, and what was there stays -/
theorem law_lift_laid {C : Checked} {os : Os} {f : FuncId} {fn : Func} {s : ChangeSpec} {conds : List PathCond} {tb : TypeId} {laid : List (String × DataW Unit)}
  (own : ownKnob C.prog.godebug = none) (started : os.Started) (noInit : C.prog.inits.idxOf? f = none) (hfn : C.prog.funcs[f]? = some fn)
  (witness : ∃ (w : World) (tape : Tape) (i : Input), w.os = os ∧ (w.forCall tape i).Shaped C.prog ∧ i.vars = [] ∧ Input.okWide C.prog (w.forCall tape i) .any w.heap.size f i ∧
   ((s.pre enc C.prog fn conds false (w.forCall tape i).memory i.args ∧ laidMet C.prog laid (w.forCall tape i).memory) ∧ sizedMet enc C.prog fn (OpenSpec.ofChange s) false (w.forCall tape i).memory i.args) ∧
   ({} : Assume).holds C.prog (lone (Frame.enter C.prog f i.args .normal) [] (w.forCall tape i)))
  (hvars : s.vars = []) (hspec : ∀ ds : List (DataW H), ds.length = fn.params.toList.length → s.fn H (ds ++ []) = { results := [.lit (.bool true)], args := ds })
  (hres : fn.resultTypes = #[tb]) (htb : C.prog.underlying tb = some .bool) (hl : laidOutB C.prog = true) (ht : (fn.params.toList.all fun t => C.prog.readableRec t && Nat.ble (t + 1) C.prog.types.size) = true)
  (walk : ∀ (W : World) (base : Nat) (args : Array Value) (ds : List (DataW H)) (p : List MemPlace), W.ShapedOpen C.prog → laidMet C.prog laid W → (∀ (j : Nat) t v, fn.params[j]? = some t → args[j]? = some v → Value.okWide C.prog W .any base t v) →
   DataW.TrodAll enc C.prog W 0 (fun _ => true) true fn.params.toList args.toList ds p → (DataW.weightsEach C.prog fn.params.toList ds).all (· ≤ reachBytes) = true → Calls C.prog f args W fun e W' => e = .returned (.bool true) ∧ Below W.heap.size W W') :
  ReturnsInHanded {} C os f .any (fun w args => (s.pre enc C.prog fn conds false w args ∧ laidMet C.prog laid w) ∧ sizedMet enc C.prog fn (OpenSpec.ofChange s) false w args) (s.post enc C.prog fn false true false false) := by
 refine returnsInHanded_of_change_andS (X := fun w _ => laidMet C.prog laid w) (fun _ _ _ hh h => h.of_heap hh) own started noInit hfn witness fun W base args ds gs before hval hW hsz hL hsh => ?_
 have hW' := hW
 obtain ⟨p, q, hA, hV, rfl, -, -⟩ := hW
 rw [hvars] at hV
 obtain ⟨rfl, rfl⟩ := trodVars_none hV
 have hsz : (DataW.weightsEach C.prog fn.params.toList ds).all (· ≤ reachBytes) = true := by
  have e : s.plain.varTypes C.prog = [] := by simp [ChangeSpec.plain, DataSpec.varTypes, hvars]
  rw [e, List.append_nil, List.append_nil] at hsz
  exact hsz
 refine (walk W base args ds p hsh hL hval hA hsz).mono fun e W' ⟨he, hb⟩ => ⟨.bool true, he, ds, [], p ++ [], [], p, [], hW', ?_, ?_, ?_, ?_, fun h => by cases h⟩
 ·rw [hspec ds (TrodAll.length hA), hres]
  exact trodAll_cons_mk (shut_bool htb true) trodAll_mk0
 ·rw [hspec ds (TrodAll.length hA)]
  have hlt : ∀ x ∈ p, x.block < W.heap.size := fun x hx => hW'.lt x (by simpa using hx)
  refine TrodAll.stays hl (fun t h' => ?_) hA (fun x hx => hb.same (hlt x hx)) (fun x hx => by simpa using hlt x hx)
  have := List.all_eq_true.1 ht t h'
  rw [Bool.and_eq_true] at this
  exact ⟨this.1, Nat.le_of_ble_eq_true this.2⟩
 ·rw [hvars]
  rw [hspec ds (TrodAll.length hA)]
  exact rfl
 ·exact hb.frame _
end
end Go.Eng
