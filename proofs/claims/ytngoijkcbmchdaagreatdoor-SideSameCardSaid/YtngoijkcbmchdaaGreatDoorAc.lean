/- The acts of a pool: a starter that starts workers behind a WaitGroup's Add, sends them jobs over a channel without a buffer, closes it and waits; what each may do, and what it knows then. -/
import Derived.Test.YtngoijkcbmchdaaGreatDoorTm
import Derived.Conc.CrowdRun
import Derived.Conc.CrowdComm
set_option linter.unusedVariables false
set_option linter.unusedSimpArgs false
namespace Go.Tx
open Go.Conc Go.ConcN
open Go.ConcR (KK wgBlock WgAt stA smA rd wr mk)

/-- What a goroutine knows besides: three numbers, in its view's output. -/
def gho (a b c : Nat) : Array (Nat × ByteArray) := #[(a, .empty), (b, .empty), (c, .empty)]
theorem gho_inj {a b c a' b' c' : Nat} (h : gho a b c = gho a' b' c') : a = a' ∧ b = b' ∧ c = c' := by simpa [gho] using h
end Go.Tx
namespace Go
open Go.Tx in
def World.say (w : World) (a b c : Nat) : World := { w with output := gho a b c }
end Go
namespace Go.Tx
open Go.Conc Go.ConcN
open Go.ConcR (KK wgBlock WgAt stA smA rd wr mk)

/-- A pool's data: the group's block, the channel's, the results'; how many workers, how many jobs; what is sent; what is stored. -/
structure Ph where
  tWg : TypeId
  Wg : Nat
  ch : Nat
  ob : Nat
  ety : TypeId
  cpe : Nat
  n : Nat
  N : Nat
  z : Value
  C : Nat
  cty : TypeId
  cv : Value
  jv : Nat → Value
  F : Nat → List Value

/-- The step of g in whatever world over its view that holds the group's block and Pre. -/
def Does (P : Program) (ph : Ph) (main : Bool) (g : Goroutine) (w : World) (Pre : World → Prop) (turn : World → World) (es : Array Event) (Q : Goroutine → Prop) : Prop :=
  ∀ W, Over (Psn w) w W → WgLive ph.tWg ph.Wg W → Pre W → ∃ g', stepG P main g W = .go g' (turn W) es ∧ Q g'

def rdSaid (ph : Ph) : Event := ⟨.mark (.read (smA ph.Wg)), false, true⟩
def wrSaid (ph : Ph) : Event := ⟨.mark (.write (smA ph.Wg)), false, true⟩

/-- The cells of job i's result. -/
def putAt (cs : Array Value) (o : Nat) (l : List Value) : Array Value := (l.zipIdx.foldl (fun cs p => cs.setIfInBounds (o + p.2) p.1) cs)
def stEv (ph : Ph) (i : Nat) : Array Event := ((List.range ph.cpe).map fun k => (⟨.cell ⟨ph.ob, i * ph.cpe + k, none⟩, true, false⟩ : Event)).toArray

/-- A worker's places of its own: none that the library's walks need. -/
def NoL : Nat → Loc → Prop := fun _ _ => False
/-- The cell that stands: the box in which the group's pointer lies. -/
def Cst (ph : Ph) (W : World) : Prop := W.heap[ph.C]? = some (.cells #[ph.cv] ph.cty)

/-- What a worker may do: 0 it may receive a job at or behind the b-th; 1 it has job b; 2 it has found the channel closed: it goes into the library's Done. -/
inductive WAc (P : Program) (ph : Ph) : Acs
  | idle {main : Bool} {g : Goroutine} {w : World} {K : Goroutine → World → Prop} (hw : w.output = gho 2 0 0) (h : Does P ph main g w (Cst ph) id #[] (fun g' => K g' w)) : WAc P ph main g w K
  | recv {main : Bool} {g : Goroutine} {w : World} {K : Goroutine → World → Prop} {b : Nat} (hw : w.output = gho 0 b 0)
      (h : ∀ W, Over (Psn w) w W → stepG P main g W = .comm (core g) #[rcase ph.ch ph.z] true (.recv true) W #[])
      (hj : ∀ i, b ≤ i → i < ph.N → K (Conc.served (core g) (.tuple #[ph.jv i, .bool true])) (w.say 1 i 0)) (hc : K (Conc.served (core g) (.tuple #[ph.z, .bool false])) (w.say 2 0 0)) : WAc P ph main g w K
  | store {main : Bool} {g : Goroutine} {w : World} {K : Goroutine → World → Prop} {i : Nat} (hw : w.output = gho 1 i 0)
      (h : ∀ W cs, Over (Psn w) w W → W.heap[ph.ob]? = some (.cells cs ph.ety) → cs.size = ph.N * ph.cpe →
        ∃ g' es, stepG P main g W = .go g' { W with heap := W.heap.setIfInBounds ph.ob (.cells (putAt cs (i * ph.cpe) (ph.F i)) ph.ety) } es ∧ (∀ e ∈ es, e ∈ stEv ph i) ∧ K g' (w.say 0 (i + 1) 0)) : WAc P ph main g w K
  | rel {main : Bool} {g : Goroutine} {w : World} {K : Goroutine → World → Prop} (hw : w.output = gho 2 0 0)
      (h : ∀ W, Over (Psn w) w W → WgLive ph.tWg ph.Wg W → Cst ph W → ∃ g', stepG P main g W = .go g' W #[mk (.releaseMerge (stA ph.Wg))] ∧
        ∃ m, Goes P false (@RW ⟨ph.cty⟩ ph.tWg ph.Wg ph.C 1 0 0) Go.ConcR.DC0 (@ConcN.AtK1 ⟨ph.cty⟩ P ph.tWg ph.Wg ph.C 1 0 1) m g' W) : WAc P ph main g w K

end Go.Tx
namespace Go
open Go.Tx in
/-- What the child of a go statement is given to see: the blocks below B'. -/
def World.lend (w : World) (B' : Nat) : World := { w with heap := w.heap.mapIdx fun b o => if b < B' then o else poison, output := gho 0 0 0 }
end Go
namespace Go.Tx
open Go.Conc Go.ConcN
open Go.ConcR (KK wgBlock WgAt stA smA rd wr mk)

/-- All results, and the group's cells. -/
def allOf (F : Nat → List Value) (N : Nat) : Array Value := ((List.range N).flatMap F).toArray

/-- What the starter may do: 0 b workers are started, c jobs sent; 1, 2, 3 inside Add and behind it; 10 closed; 11 .. 17 inside Wait. -/
inductive MAc (P : Program) (ph : Ph) (B' : Nat) : Acs
  | idle {main : Bool} {g : Goroutine} {w : World} {K : Goroutine → World → Prop} {a b c : Nat} (hw : w.output = gho a b c) (ha : a ≤ 17) (h : Does P ph main g w (fun _ => True) id #[] (fun g' => K g' w)) : MAc P ph B' main g w K
  | dis {main : Bool} {g : Goroutine} {w : World} {K : Goroutine → World → Prop} {j : Nat} (hw : w.output = gho 0 j 0) (hj : j < ph.n) (h : Does P ph main g w (fun _ => True) id #[mk .disable] (fun g' => K g' (w.say 1 j 0))) : MAc P ph B' main g w K
  | add {main : Bool} {g : Goroutine} {w : World} {K : Goroutine → World → Prop} {j : Nat} (hw : w.output = gho 1 j 0)
      (h : Does P ph main g w (fun W => WgAt ph.tWg ph.Wg W ((j : Int) * KK) 0) (fun W => W.setCell (stA ph.Wg) (.int .u64 (((j : Int) + 1) * KK))) #[rd (stA ph.Wg), wr (stA ph.Wg)] (fun g' => K g' (w.say 2 j 0))) : MAc P ph B' main g w K
  | said {main : Bool} {g : Goroutine} {w : World} {K : Goroutine → World → Prop} {j : Nat} (hw : w.output = gho 2 j 0) (h : Does P ph main g w (fun _ => True) id #[rdSaid ph] (fun g' => K g' w)) : MAc P ph B' main g w K
  | en {main : Bool} {g : Goroutine} {w : World} {K : Goroutine → World → Prop} {j : Nat} (hw : w.output = gho 2 j 0) (h : Does P ph main g w (fun _ => True) id #[mk .enable] (fun g' => K g' (w.say 3 j 0))) : MAc P ph B' main g w K
  | go {main : Bool} {g : Goroutine} {w : World} {K : Goroutine → World → Prop} {j : Nat} (hw : w.output = gho 3 j 0)
      (h : ∀ W, Over (Psn w) w W → ∃ g' child, stepG P main g W = .spawn g' child W #[] ∧ Run1 P false w.heap.size (WAc P ph) (fun _ _ => False) child (w.lend B') ∧ K g' (w.say 0 (j + 1) 0)) : MAc P ph B' main g w K
  | send {main : Bool} {g : Goroutine} {w : World} {K : Goroutine → World → Prop} {i : Nat} (z : Value) (hw : w.output = gho 0 ph.n i) (hi : i < ph.N)
      (h : ∀ W, Over (Psn w) w W → stepG P main g W = .comm (core g) #[scase ph.ch (ph.jv i) z] true .send W #[]) (hk : K (Conc.served (core g) undef) (w.say 0 ph.n (i + 1))) : MAc P ph B' main g w K
  | close {main : Bool} {g : Goroutine} {w : World} {K : Goroutine → World → Prop} (hw : w.output = gho 0 ph.n ph.N) (hm : mayWake P g = true)
      (h : ∀ W s r tm, Over (Psn w) w W → W.heap[ph.ch]? = some (.chan 0 #[] false s r tm) → ∃ g', stepG P main g W = .go g' (W.shut ph.ch s r tm) #[⟨.obj ph.ch, false, true⟩, ⟨.obj ph.ch, true, true⟩] ∧ g'.status = .running ∧ K g' (w.say 10 0 0)) : MAc P ph B' main g w K
  | disW {main : Bool} {g : Goroutine} {w : World} {K : Goroutine → World → Prop} (hw : w.output = gho 10 0 0) (h : Does P ph main g w (fun _ => True) id #[mk .disable] (fun g' => K g' (w.say 11 ph.n 0))) : MAc P ph B' main g w K
  | load {main : Bool} {g : Goroutine} {w : World} {K : Goroutine → World → Prop} {b : Nat} (hw : w.output = gho 11 b 0)
      (h : ∀ v : Nat, v ≤ b → Does P ph main g w (fun W => WgAt ph.tWg ph.Wg W ((v : Int) * KK) 0) id #[rd (stA ph.Wg)] (fun g' => (v = 0 → K g' (w.say 14 0 0)) ∧ (v ≠ 0 → K g' (w.say 12 v 0)))) : MAc P ph B' main g w K
  | cas {main : Bool} {g : Goroutine} {w : World} {K : Goroutine → World → Prop} {b : Nat} (hw : w.output = gho 12 b 0)
      (hit : Does P ph main g w (fun W => WgAt ph.tWg ph.Wg W ((b : Int) * KK) 0) (fun W => W.setCell (stA ph.Wg) (.int .u64 ((b : Int) * KK + 1))) #[rd (stA ph.Wg), wr (stA ph.Wg)] (fun g' => K g' (w.say 13 0 0)))
      (miss : ∀ v : Nat, v < b → Does P ph main g w (fun W => WgAt ph.tWg ph.Wg W ((v : Int) * KK) 0) id #[rd (stA ph.Wg)] (fun g' => K g' (w.say 11 v 0))) : MAc P ph B' main g w K
  | saidW {main : Bool} {g : Goroutine} {w : World} {K : Goroutine → World → Prop} (hw : w.output = gho 13 0 0) (h : Does P ph main g w (fun _ => True) id #[wrSaid ph] (fun g' => K g' w)) : MAc P ph B' main g w K
  | acq {main : Bool} {g : Goroutine} {w : World} {K : Goroutine → World → Prop} (hw : w.output = gho 13 0 0) (hof : g.offers = none)
      (hb : ∀ W st, Over (Psn w) w W → WgAt ph.tWg ph.Wg W st 0 → stepG P main g W = .go { g with status := .blocked } W #[])
      (h : Does P ph main g w (fun W => WgAt ph.tWg ph.Wg W 0 1) (fun W => W.setCell (smA ph.Wg) (.int .u32 0)) (semEvents (smA ph.Wg)) (fun g' => K g' (w.say 15 0 0))) : MAc P ph B' main g w K
  | load0 {main : Bool} {g : Goroutine} {w : World} {K : Goroutine → World → Prop} (hw : w.output = gho 15 0 0) (h : Does P ph main g w (fun W => WgAt ph.tWg ph.Wg W 0 0) id #[rd (stA ph.Wg)] (fun g' => K g' (w.say 14 0 0))) : MAc P ph B' main g w K
  | enW {main : Bool} {g : Goroutine} {w : World} {K : Goroutine → World → Prop} (hw : w.output = gho 14 0 0) (h : Does P ph main g w (fun _ => True) id #[mk .enable] (fun g' => K g' (w.say 16 0 0))) : MAc P ph B' main g w K
  | joined {main : Bool} {g : Goroutine} {w : World} {K : Goroutine → World → Prop} (hw : w.output = gho 16 0 0)
      (h : Does P ph main g w (fun _ => True) id #[mk (.acquire (stA ph.Wg))] (fun g' => K g' { w with heap := w.heap.setIfInBounds ph.ob (.cells (allOf ph.F ph.N) ph.ety), output := gho 17 0 0 })) : MAc P ph B' main g w K

/-- What the starter may do outside: make a channel; go through a whole pool (its own blocks below B' are lent meanwhile). -/
inductive OAc (P : Program) (B0 : Nat) : Acs
  | chan {main : Bool} {g : Goroutine} {w : World} {K : Goroutine → World → Prop} (tm : Bool)
      (h : ∀ W, Over (Psn w) w W → ∃ g', stepG P main g W = .go g' { W with heap := W.heap.push (.chan 0 #[] false 0 0 tm) } #[] ∧ K g' { w with heap := w.heap.push poison, output := gho 30 w.heap.size 0 }) : OAc P B0 main g w K
  | pool {main : Bool} {g : Goroutine} {w : World} {K : Goroutine → World → Prop} (ph : Ph) (cs : Array Value) (hw : w.output = gho 30 ph.ch 0)
      (hWg : w.heap[ph.Wg]? = some (wgBlock ph.tWg 0 0)) (hWgB : B0 ≤ ph.Wg) (hob : w.heap[ph.ob]? = some (.cells cs ph.ety)) (hobB : B0 ≤ ph.ob) (hobP : ¬ Psn w ph.ob) (hne : ph.Wg ≠ ph.ob) (hsz : cs.size = ph.N * ph.cpe) (hcp : 0 < ph.cpe)
      (hC : Cst ph w) (hCW : ph.C ≠ ph.Wg) (hCo : ph.C ≠ ph.ob)
      (hF : ∀ i, i < ph.N → (ph.F i).length = ph.cpe) (hn : 0 < ph.n) (hn' : ph.n < 2147483648)
      (h : Run1 P main w.heap.size (MAc P ph w.heap.size) (fun g' w' => w'.output = gho 17 0 0 ∧ K g' w') g { w with heap := (w.heap.setIfInBounds ph.Wg poison).setIfInBounds ph.ob poison, output := gho 0 0 0 }) : OAc P B0 main g w K
end Go.Tx
