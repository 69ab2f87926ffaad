/- From a walk in company to a row's contract. -/
import Derived.Test.YtngoijkcbmchdaaGreatDoorLaw
import Derived.Test.YtngoijkcbmchdaaGreatDoorWu
import Derived.Test.YtngoijkcbmchdaaGreatDoorMl
import Derived.Conc.LeavingOf
set_option linter.unusedVariables false
set_option linter.unusedSimpArgs false
namespace Go.Tx
open Go.Conc Go.ConcN Go.RowKit

/-- The outermost call, up to its return. -/
def TopA (P : Program) (B0 : Nat) (f : FuncId) (args : Array Value) (G : Mem) (Post : Value → Mem → Prop) : Prop :=
  ∀ w, B0 ≤ w.heap.size → St w G w G [] → Run1 P true w.heap.size (OAc P B0) (Ret P fun v w' => ∃ G' u, St { w with output := u } G w' G' [] ∧ Post v G') (Conc.G (Frame.enter P f args .normal) []) w
theorem topA_of {P : Program} {B0 : Nat} {f : FuncId} {args : Array Value} {G : Mem} {Post : Value → Mem → Prop} {fn : Func} {c : Code}
    (hf : P.funcs[f]? = some fn) (n : Nat) (fr : List (Nat × Value)) (hb : fn.body = some c) (hi : P.inits.idxOf? f = none) (hres : ∀ tmps, ∃ v, results fn tmps = Sem.pure v)
    (h : ∀ w0, B0 ≤ w0.heap.size → TC ⟨P, n, [], w0, G, OAc P B0⟩ c (bodyPostS P fn (BPA w0 G Post)) fr G [])
    (hn : fn.ntmps = n := by rfl) (ha : Nat.ble args.size n = true := by rfl)
    (hfr : (fr.map fun p => args[p.1]?) = fr.map fun p => some p.2 := by as_aux_lemma => kernel_rfl) : TopA P B0 f args G Post := by
  intro w hB hw
  rw [enter_at _ hf hb]
  have fin : ∀ (a' : Act) (w' : World) (todo : List Item), bodyPostS P fn (BPA w G Post) .ret a' w' → Run1 P true w.heap.size (OAc P B0) (Ret P fun v w' => ∃ G' u, St { w with output := u } G w' G' [] ∧ Post v G') (Conc.G { (Go.Conc.base f).at a' todo with mode := .returning } []) w' := by
    intro a' w' todo ⟨hd, v, h1, _, v2, G', u, e, hS, hp⟩
    cases e
    obtain ⟨v3, hv3⟩ := hres a'.tmps
    have h1' := h1 w' (Push.refl _)
    rw [hv3] at h1'
    simp only [Sem.run, Result.ok.injEq] at h1'
    obtain ⟨rfl, _⟩ := h1'
    refine .stop fun w1 p => ⟨rfl, v3, fun W hO => ?_, G', u, hS.push p, hp⟩
    obtain ⟨T, D⟩ := a'
    simp only at hd hv3
    subst hd
    simp [Conc.G, stepG, unwind, doReturn, Go.Conc.base, Frame.at, hf, hv3, Sem.runT, seen, GStep.after, hi]
  refine h w hB _ w (by rw [hn]; exact fr_enter fr hfr (Nat.le_of_ble_eq_true ha)) hw true _ (Acs.le_refl _) (Go.Conc.base f) [] [] _ (by simp [Go.Conc.base]) fun e a' w' q => ?_
  cases e with
  | normal => exact .idle rfl (fun _ => stepG_end) (fin a' w' [] q)
  | ret => exact fun todo => fin a' w' todo q
  | exit id => exact q.elim
  | goto l => exact q.elim
  | panic ch => exact q.elim
  | outgrown => exact q.elim
end Go.Tx
namespace Go.Proofs.YtngoijkcbmchdaaGreatDoor
open Go.Tx Go.Conc Go.ConcN Go.RowKit Go.WideShapes Go.ChangeShapes Go.ChangeAt
section
variable {H : Type} {enc : TypeId × Value → H} {P : Program}
theorem law_company {f : Func} {k : FuncId} {s : ChangeSpec} {t : TypeId} {fresh handsOn again : Bool} (hlo : laidOutB P = true)
    (hr : rowsFine P f.params.toList = true) (hv : s.vars = [])
    (ho : ∀ ds : List (DataW H), ds.length = f.params.toList.length → s.fn H ds = { results := [.lit (.bool true)], args := ds }) (ht : f.resultTypes = #[t]) (hu : P.underlying t = some .bool)
    (hcon : ∀ (B0 : Nat) (G : Mem) (args : Array Value) (n : Nat), RdA P G f.params.toList args.toList n → TopA P B0 k args G (fun v G' => v = Bo true))
    (W : World) (base : Nat) (args : Array Value) (ds gs : List (DataW H)) (before : List MemPlace)
    (hval : ∀ (j : Nat) t v, f.params[j]? = some t → args[j]? = some v → Value.okWide P W .any base t v)
    (hW : DataW.Whole enc P f.params.toList s.vars false W args.toList ds gs before)
    (hsz : (DataW.weightsEach P (f.params.toList ++ s.plain.varTypes P) (ds ++ gs)).all (· ≤ reachBytes) = true) :
    ∃ M last o w' t', runNT P (M + 1) (solo (Conc.G (Frame.enter P k args .normal) []) W) #[] = (.ended o w', t') ∧ runN P M (solo (Conc.G (Frame.enter P k args .normal) []) W) = .next last ∧
      step P last = .ended o w' ∧ Conc.Good P (fun v W' => s.post enc P f false fresh handsOn again W args v W') last o w' t' := by
  have hW' := hW
  obtain ⟨p, q, hA, hV, rfl, hfz, hnd⟩ := hW
  rw [hv] at hV
  obtain ⟨rfl, rfl⟩ := trodVars_none hV
  have hvt : s.plain.varTypes P = [] := by simp [DataSpec.varTypes, ChangeSpec.plain, hv]
  rw [hvt, List.append_nil, List.append_nil] at hsz
  have hlen : ∀ (ts : List TypeId) (vs : List Value) (ds : List (DataW H)) (ps : List MemPlace), DataW.TrodAll enc P W 0 (fun _ => true) true ts vs ds ps → ds.length = ts.length := by
    intro ts
    induction ts with
    | nil => intro vs ds ps h; have := (trodAll_nil h).2.1; subst this; rfl
    | cons t ts ih =>
      intro vs ds ps h
      obtain ⟨v, vs', d, ds', p, q, rfl, rfl, rfl, h1, h2⟩ := trodAll_cons h
      simp [ih _ _ _ h2]
  have hR := rdA_of (base := base) _ _ _ _ hA (val_list hval) (all_le hsz)
  have hG : ∀ b o v, memOf W b o = some v → W.own.cell? ⟨b, o, none⟩ = some v := by
    intro b o v h
    unfold memOf World.cell? at h
    unfold World.cell? World.own
    simp only [Array.getElem?_map]
    cases hh : W.heap[b]? with
    | none => rw [hh] at h; simp at h
    | some x =>
      rw [hh] at h
      cases x <;> first | (simp at h; done) | (simp only [Option.map_some, isView, Bool.false_eq_true, if_false]; exact h)
  have hrun := hcon W.heap.size (memOf W) args _ hR W.own (by rw [own_size]; exact Nat.le_refl _) (St.start hG)
  rw [own_size] at hrun
  refine company_run (fun v w' W' hq hs hout hold => ?_) hrun
  obtain ⟨G', u, hS, rfl⟩ := hq
  refine law_post hlo hr hv hW' (ho ds (hlen _ _ _ _ hA)) ht hu ⟨hs.os.trans hS.below.os, hs.tape.trans hS.below.tape, hout, ?_, hold⟩
  have := hS.below.size
  have h2 := hs.size
  simp only [own_size] at this
  omega
end
end Go.Proofs.YtngoijkcbmchdaaGreatDoor
