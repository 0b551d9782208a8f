-- Words of our own beside the print's: a call through a function value that is known.
import Derived.Test.YtanflefkbbhimaaWMore
namespace Go.Proofs.YtanflefkbbhimaaW.PrintWords
open Go.RowKit Go.Proofs.YtanflefkbbhimaaW.PrintLast
section
variable {P : Program} {ops : Array Oper} {rest : List Oper} {o : Oper} {a : Act} {Q : Exit → Act → World → Prop} {W : World}
/-- The operation is a call through this place. -/
theorem gate_through {j : Tmp} {as : Array Operand} {ts : Array TypeId} (_ho : o.op = .call { callee := .value (.tmp j), args := as, argTypes := ts }) (h : wpList P ops Q (o :: rest) a W) : wpList P ops Q (o :: rest) a W := h
/-- A call through a function value: the callee's contract at the arguments and what the value has captured. -/
theorem goesV_ {oi : Oper} {w : World} (N : Option Tmp) (hd : oi.dst = N) (hg : oi.guard = none) {f : FuncId} {fn : Func} {c : Operand} {as : Array Operand} {ts : Array TypeId} {caps : Array Value}
    (hf : P.funcs[f]? = some fn) (hname : (fn.name == "runtime.NumGoroutine") = false) (hb : fn.body.isSome = true) (args : Array Value)
    (hop : oi.op = .call { callee := .value c, args := as, argTypes := ts }) (hc : a.eval c = .func (.func f) #[] caps) (hargs : as.map a.eval ++ caps = args)
    (h : Calls P f args w fun e w' => ∃ v, e = .returned v ∧ wpList P ops Q rest (a.put N v) w') : wpList P ops Q (oi :: rest) a w := by
  refine wpList_plain hg fun K hK => ?_
  have he := enters_ hf hname hb args w
  have hrun : (execOp a.eval oi).run P w = .ok (.enter f args) w := by
    unfold execOp
    simp [hop, resolve, Deferred.ofValue, invoke, hc, hargs, he]
  unfold Oper.wp
  rw [hrun, Oper.upon_enter]
  refine h.mono fun e w'' hh => ?_
  obtain ⟨v, rfl, hk⟩ := hh
  subst hd
  exact hK _ _ hk
/-- The same in a region that draws. -/
theorem goesVR_ {oi : Oper} {N : Option Tmp} {a : Act} {w : World} {K : Act → World → Prop} {f : FuncId} {fn : Func} {c : Operand} {as : Array Operand} {ts : Array TypeId}
    (hf : P.funcs[f]? = some fn) (hname : (fn.name == "runtime.NumGoroutine") = false) (hb : fn.body.isSome = true) (args caps : Array Value)
    (hw : Region.wanted oi (yielded ops a.tmps) = true) (hN : oi.dst = N) (hop : oi.op = .call { callee := .value c, args := as, argTypes := ts }) (hc : a.eval c = .func (.func f) #[] caps) (hargs : as.map a.eval ++ caps = args)
    (h : Calls P f args w fun e w' => ∃ v, e = .returned v ∧ K (a.put N v) w') : if Region.wanted oi (yielded ops a.tmps) = true then Oper.wp P oi a w K Q else K (a.put N undef) w := by
  refine call_ f args hw hN ?_ h
  have he := enters_ hf hname hb args w
  unfold execOp
  simp [hop, resolve, Deferred.ofValue, invoke, hc, hargs, he]
end
/-- Rows of rows that came in, as the print reads them. -/
theorem C_rows {e : Nat} {k : IntKind} {w : World} {a : Addr} {len cap : Nat} {A : Nat → Option Addr} {L C : Nat → Nat} {Z : Nat → List Int} {base : Nat} (hl : len ≤ cap) (hm : cap ≤ maxLen)
    (hr : ∀ r, r < cap → w.cell? (a.add r) = some (.slice (A r) (L r) (C r)) ∧ L r ≤ C r ∧ C r ≤ maxLen ∧ (Z r).length = C r ∧ (∀ n ∈ Z r, (Lit.int k n).wf = true) ∧ (A r = none → C r = 0) ∧ ∀ a', A r = some a' → base ≤ a'.block ∧ ∀ c, c < C r → w.cell? (a'.add c) = some (.int k ((Z r).getD c 0))) :
    ∃ zs : List (List Int), zs.length = len ∧ (Kd.slice e (Kd.int k)).C w (some a) zs.length zs ∧ ∀ y ∈ zs, y.length ≤ maxLen ∧ ∀ x ∈ y, (Lit.int k x).wf = true := by
  have hlen : ((List.range len).map fun r => (Z r).take (L r)).length = len := by simp
  refine ⟨(List.range len).map fun r => (Z r).take (L r), hlen, ⟨rfl, by rw [hlen]; unfold maxLen at hm; omega, fun _ => ⟨a, rfl, fun j p hj => ?_⟩⟩, fun y hy => ?_⟩
  · obtain ⟨h1, h2⟩ := List.getElem?_eq_some_iff.1 hj
    rw [hlen] at h1
    simp only [List.getElem_map, List.getElem_range] at h2
    subst h2
    obtain ⟨c1, c2, c3, c4, c5, c6, c7⟩ := hr j (by omega)
    have hpl : ((Z j).take (L j)).length = L j := by rw [List.length_take]; omega
    refine ⟨[.slice (A j) (L j) (C j)], rfl, ⟨A j, C j, by rw [hpl], by rw [hpl]; exact c2, ⟨rfl, by rw [hpl]; unfold maxLen at c3; omega, fun hp => ?_⟩⟩, fun i u hu => ?_⟩
    · rw [hpl] at hp
      cases hA : A j with
      | none => have := c6 hA; omega
      | some a' =>
        refine ⟨a', rfl, fun c p hc => ⟨[.int k p], rfl, rfl, fun i u hu => ?_⟩⟩
        obtain ⟨g1, g2⟩ := List.getElem?_eq_some_iff.1 hc
        have hi : i = 0 := by
          have := (List.getElem?_eq_some_iff.1 hu).1
          simpa using this
        subst hi
        obtain rfl : Value.int k p = u := by simpa using hu
        have hcC : c < C j := by rw [hpl] at g1; omega
        have := (c7 a' hA).2 c hcC
        rw [show c * (Kd.int k).sz + 0 = c from Nat.mul_one c, this, ← g2, List.getElem_take, List.getD_eq_getElem?_getD, List.getElem?_eq_getElem (by omega)]
        rfl
    · have hi : i = 0 := by
        have := (List.getElem?_eq_some_iff.1 hu).1
        simpa using this
      subst hi
      obtain rfl : Value.slice (A j) (L j) (C j) = u := by simpa using hu
      rw [show j * (Kd.slice e (Kd.int k)).sz + 0 = j from Nat.mul_one j]
      exact c1
  · obtain ⟨j, hj, rfl⟩ := List.mem_map.1 hy
    obtain ⟨c1, c2, c3, c4, c5, c6, c7⟩ := hr j (by have := List.mem_range.1 hj; omega)
    exact ⟨by rw [List.length_take]; omega, fun x hx => c5 x (List.mem_of_mem_take hx)⟩
/-- A package-level variable holds what it held. -/
theorem var_below {P : Program} {w w' : World} {n : String} {cs : Array Value} (h : w.var? P n = some cs) (hb : Below w.heap.size w w') : w'.var? P n = some cs := by
  unfold World.var? at h ⊢
  cases hg : P.globalNamed n with
  | none => simp [hg] at h
  | some g =>
    simp only [hg, Option.bind_some] at h ⊢
    have hlt : g < w.heap.size := by
      rcases Nat.lt_or_ge g w.heap.size with h' | h'
      · exact h'
      · simp [Array.getElem?_eq_none h'] at h
    rw [hb.block _ hlt]
    exact h
/-- A function value is stored into its variable. -/
@[go_sem] theorem run_store_func {P : Program} {a : Addr} {w : World} {m : Mode} (f : Fn) (xs caps : Array Value) : (store a (.func f xs caps) m).run P w = stored P w a (.func f xs caps) m := run_store P w a _ m rfl
end Go.Proofs.YtanflefkbbhimaaW.PrintWords
