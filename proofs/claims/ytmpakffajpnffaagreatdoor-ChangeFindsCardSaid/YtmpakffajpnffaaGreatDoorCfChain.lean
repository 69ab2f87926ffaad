import Derived.Test.YtmpakffajpnffaaGreatDoorCfHeadN
namespace Go.Proofs.YtmpakffajpnffaaGreatDoor
open Go.Tx
set_option linter.unusedVariables false
set_option linter.unusedSimpArgs false
def linkB (x y : HeadD) : Bool := decide (headNext x y.root y.at_ = (y, 0))
def lnk : List HeadD → Nat → Int
  | x :: y :: r, i => if linkB x y then lnk (y :: r) (i + 1) else (i : Int)
  | _, _ => -1
structure ChainOk (l : List HeadD) : Prop where
  len1 : 1 ≤ l.length
  len : l.length ≤ 40
  ok : ∀ h ∈ l, headCheck h = 0
  lnk : ∀ (k : Nat) x y, l[k]? = some x → l[k + 1]? = some y → linkB x y = true
def firstH (l : List HeadD) : HeadD := l[0]?.getD headZ
theorem ChainOk.first {l : List HeadD} (h : ChainOk l) : l[0]? = some (firstH l) := by
  have := h.len1
  have e : l[0]? = some (l[0]'(by omega)) := List.getElem?_eq_getElem (by omega)
  rw [e]; unfold firstH; rw [e]; rfl
theorem linkB_epoch {x y : HeadD} (h : linkB x y = true) : y.epoch = x.epoch + 1 := by
  unfold linkB at h
  rw [decide_eq_true_eq] at h
  have h0 : (headNext x y.root y.at_).2 = 0 := by rw [h]
  have := (headNext_ok h0).2.2.2.1
  rw [h] at this
  have := congrArg (fun p => p.1.epoch) this
  simpa using this
theorem ChainOk.epoch {l : List HeadD} (h : ChainOk l) : ∀ (k : Nat) x, l[k]? = some x → x.epoch = (firstH l).epoch + k
  | 0, x, hx => by rw [h.first] at hx; rw [← Option.some.inj hx]; simp
  | k + 1, x, hx => by
    have hk := (List.getElem?_eq_some_iff.1 hx).1
    have e : l[k]? = some (l[k]'(by omega)) := List.getElem?_eq_getElem (by omega)
    have := h.epoch k _ e
    have := linkB_epoch (h.lnk k _ _ e hx)
    omega
theorem ChainOk.sub {l : List HeadD} (h : ChainOk l) {a b : Nat} (hab : a < b) (hb : b ≤ l.length) : ChainOk ((l.take b).drop a) := by
  refine ⟨by simp; omega, by simp; have := h.len; omega, fun x hx => h.ok x (List.mem_of_mem_take (List.mem_of_mem_drop hx)), fun k x y hx hy => ?_⟩
  rw [List.getElem?_drop, List.getElem?_take] at hx hy
  have h1 : a + k < b := by apply Classical.byContradiction; intro hc; rw [if_neg hc] at hx; cases hx
  have h2 : a + (k + 1) < b := by apply Classical.byContradiction; intro hc; rw [if_neg hc] at hy; cases hy
  rw [if_pos h1] at hx
  rw [if_pos h2] at hy
  exact h.lnk (a + k) x y hx hy
end Go.Proofs.YtmpakffajpnffaaGreatDoor
