import Derived.Test.YtnnlpbjdignhaaaGreatDoorThHeadN
namespace Go.Proofs.YtnnlpbjdignhaaaGreatDoor
open Go.Tx
set_option linter.unusedVariables false
set_option linter.unusedSimpArgs false
def Jfz (x y:JS):Bool:=decide (Jx x y.root y.at_ = (y,0))
theorem Jh6 {x y:JS}:Jfz x y = true ↔ (Jx x y.root y.at_).2 = 0 ∧ (Jx x y.root y.at_).1.epoch = y.epoch ∧ (Jx x y.root y.at_).1.root = y.root ∧ (Jx x y.root y.at_).1.prev = y.prev ∧ (Jx x y.root y.at_).1.at_ = y.at_:=by
 unfold Jfz
 rw [decide_eq_true_eq]
 constructor
 ·
  intro h;rw [h];simp
 ·
  rintro ⟨h1,h2⟩
  exact Prod.ext (Jgm.2 h2) h1
def lnk:List JS → Nat → Int
 | x :: y :: r,i=>if Jfz x y then lnk (y :: r) (i + 1) else (i:Int)
 | _,_=>-1
def JbP (l:List JS):Int:=lnk l 1
theorem Jro {l:List JS} {i:Nat} (h:l.length ≤ 1):lnk l i = -1:=by
 match l,h with
 | [],_=>rfl
 | [_],_=>rfl
theorem Jqs {l:List JS} {i:Nat} {x y:JS} (hi:1 ≤ i) (hx:l[i - 1]? = some x) (hy:l[i]? = some y) (h:Jfz x y = true):lnk (l.drop (i - 1)) i = lnk (l.drop (i + 1 - 1)) (i + 1):=by
 obtain ⟨h1,rfl⟩:=List.getElem?_eq_some_iff.1 hx
 obtain ⟨h2,rfl⟩:=List.getElem?_eq_some_iff.1 hy
 rw [List.drop_eq_getElem_cons h1,show i - 1 + 1 = i by omega,show i + 1 - 1 = i by omega,List.drop_eq_getElem_cons h2]
 show (if Jfz _ _ = true then _ else _) = _
 rw [if_pos h]
theorem Jqt {l:List JS} {i:Nat} {x y:JS} (hi:1 ≤ i) (hx:l[i - 1]? = some x) (hy:l[i]? = some y) (h:¬ Jfz x y = true):lnk (l.drop (i - 1)) i = (i:Int):=by
 obtain ⟨h1,rfl⟩:=List.getElem?_eq_some_iff.1 hx
 obtain ⟨h2,rfl⟩:=List.getElem?_eq_some_iff.1 hy
 rw [List.drop_eq_getElem_cons h1,show i - 1 + 1 = i by omega,List.drop_eq_getElem_cons h2]
 show (if Jfz _ _ = true then _ else _) = _
 rw [if_neg h]
theorem Jn7:∀ (l:List JS) (i:Nat),lnk l i < 0 ↔ ∀ (k:Nat) x y,l[k]? = some x → l[k + 1]? = some y → Jfz x y = true
 | [],i=>by simp [lnk]
 | [a],i=>by simp [lnk]
 | a :: b :: r,i=>by
  have ih:=Jn7 (b :: r) (i + 1)
  unfold lnk
  split
  ·
   rename_i h
   rw [ih]
   constructor
   ·
    intro hh k x y hx hy
    cases k with
    | zero=>simp at hx hy;subst hx hy;exact h
    | succ k=>exact hh k x y hx hy
   ·
    intro hh k x y hx hy
    exact hh (k + 1) x y hx hy
  ·
   rename_i h
   constructor
   ·
    intro hh;omega
   ·
    intro hh;exact absurd (hh 0 a b rfl rfl) h
def JeI:List JS → Nat → Int × Int
 | [],_=>(0,0)
 | h :: l,i=>if JC h = 0 then JeI l (i + 1) else (JC h,(i:Int))
theorem Jmk {l:List JS} {i:Nat} {x:JS} (hx:l[i]? = some x) (h:JC x = 0):JeI (l.drop i) i = JeI (l.drop (i + 1)) (i + 1):=by
 obtain ⟨h1,rfl⟩:=List.getElem?_eq_some_iff.1 hx
 rw [List.drop_eq_getElem_cons h1]
 show (if JC _ = 0 then _ else _) = _
 rw [if_pos h]
theorem Jpe {l:List JS} {i:Nat} {x:JS} (hx:l[i]? = some x) (h:¬ JC x = 0):JeI (l.drop i) i = (JC x,(i:Int)):=by
 obtain ⟨h1,rfl⟩:=List.getElem?_eq_some_iff.1 hx
 rw [List.drop_eq_getElem_cons h1]
 show (if JC _ = 0 then _ else _) = _
 rw [if_neg h]
theorem Jjz:∀ (l:List JS) (i:Nat),(JeI l i).1 = 0 ↔ ∀ h ∈ l,JC h = 0
 | [],i=>by simp [JeI]
 | h :: l,i=>by
  have ih:=Jjz l (i + 1)
  unfold JeI
  split
  ·
   rename_i e;rw [ih];simp [e]
  ·
   rename_i e;simp [e]
def J9 (l:List JS):Int × Int:=if l.length = 0 then (5,0) else if 40 < l.length then (2,0) else if (JeI l 0).1 ≠ 0 then JeI l 0 else if 0 ≤ JbP l then (8,JbP l) else (0,0)
structure JcI (l:List JS):Prop where
 len1:1 ≤ l.length
 len:l.length ≤ 40
 ok:∀ h ∈ l,JC h = 0
 lnk:∀ (k:Nat) x y,l[k]? = some x → l[k + 1]? = some y → Jfz x y = true
theorem JaW {l:List JS}:(J9 l).1 = 0 ↔ JcI l:=by
 unfold J9
 have e1:=Jjz l 0
 have e2:=Jn7 l 1
 constructor
 ·
  intro h
  split at h
  ·
   cases h
  split at h
  ·
   cases h
  split at h
  ·
   contradiction
  split at h
  ·
   cases h
  ·
   rename_i h1 h2 h3 h4
   exact ⟨by omega,by omega,e1.1 (Decidable.not_not.1 h3),e2.1 (by unfold JbP at h4;omega)⟩
 ·
  rintro ⟨h1,h2,h3,h4⟩
  rw [if_neg (by omega),if_neg (by omega),if_neg (by have:=e1.2 h3;omega),if_neg (by have:=e2.2 h4;unfold JbP;omega)]
def JaH:List (List JS) → Int
 | []=>0
 | l :: r=>if (J9 l).1 = 0 then JaH r else (J9 l).1
theorem JjZ {l:List (List JS)} {i:Nat} {x:List JS} (hx:l[i]? = some x) (h:(J9 x).1 = 0):JaH (l.drop i) = JaH (l.drop (i + 1)):=by
 obtain ⟨h1,rfl⟩:=List.getElem?_eq_some_iff.1 hx
 rw [List.drop_eq_getElem_cons h1]
 show (if (J9 _).1 = 0 then _ else _) = _
 rw [if_pos h]
theorem Jml {l:List (List JS)} {i:Nat} {x:List JS} (hx:l[i]? = some x) (h:¬ (J9 x).1 = 0):JaH (l.drop i) = (J9 x).1:=by
 obtain ⟨h1,rfl⟩:=List.getElem?_eq_some_iff.1 hx
 rw [List.drop_eq_getElem_cons h1]
 show (if (J9 _).1 = 0 then _ else _) = _
 rw [if_neg h]
theorem Jhw:∀ (l:List (List JS)),JaH l = 0 ↔ ∀ x ∈ l,JcI x
 | []=>by simp [JaH]
 | a :: l=>by
  have ih:=Jhw l
  unfold JaH
  split
  ·
   rename_i e;rw [ih];simp [JaW.1 e]
  ·
   rename_i e;constructor
   ·
    intro h;exact absurd h e
   ·
    intro h;exact absurd (JaW.2 (h a (by simp))) e
theorem Jbe {l:List JS}:JaH [l] = 0 ↔ JcI l:=by rw [Jhw];simp
def JcO (l:List JS):JS:=l[l.length - 1]?.getD JcV
def Jck (l:List JS):JS:=l[0]?.getD JcV
theorem Jb7 {l:List JS} {k:Nat} {x:JS} (hk:k = l.length - 1) (h:l[k]? = some x):x = JcO l:=by unfold JcO;rw [← hk,h];rfl
theorem Jcl {l:List JS} {x:JS} (h:l[0]? = some x):x = Jck l:=by unfold Jck;rw [h];rfl
def Jdp (l:List JS) (root at_:Int):Int:=if JaH [l] ≠ 0 then JaH [l] else if (l.length:Int) = 40 then 7 else (Jx (JcO l) root at_).2
def Ja6 (l:List JS) (root at_:Int):List JS × Int:=if Jdp l root at_ ≠ 0 then ([],Jdp l root at_) else (l ++ [(Jx (JcO l) root at_).1],0)
def cut (l:List JS) (a b:Int):List JS:=(l.take (b - (Jck l).epoch + 1).toNat).drop (a - (Jck l).epoch).toNat
def Jcz (l:List JS) (a b:Int):List JS × Int:=if JaH [l] ≠ 0 then ([],JaH [l]) else if b < a ∨ a < (Jck l).epoch ∨ (JcO l).epoch < b then ([],4) else (cut l a b,0)
def Jbu (h:JS) (l:List JS):Bool × Int:=if JaH [l] ≠ 0 then (false,JaH [l]) else if JC h ≠ 0 then (false,JC h) else (decide (JbP [h,Jck l] < 0),0)
theorem JcI.first {l:List JS} (h:JcI l):l[0]? = some (Jck l):=by
 have:=h.len1
 have e:l[0]? = some (l[0]'(by omega)):=List.getElem?_eq_getElem (by omega)
 rw [e];unfold Jck;rw [e];rfl
theorem JcI.last {l:List JS} (h:JcI l):l[l.length - 1]? = some (JcO l):=by
 have:=h.len1
 have e:l[l.length - 1]? = some (l[l.length - 1]'(by omega)):=List.getElem?_eq_getElem (by omega)
 rw [e];unfold JcO;rw [e];rfl
theorem Jmm {x y:JS} (h:Jfz x y = true):y.epoch = x.epoch + 1:=by
 unfold Jfz at h
 rw [decide_eq_true_eq] at h
 have h0:(Jx x y.root y.at_).2 = 0:=by rw [h]
 have:=(Jfx h0).2.2.2.1
 rw [h] at this
 have:=congrArg (fun p=>p.1.epoch) this
 simpa using this
theorem JcI.epoch {l:List JS} (h:JcI l):∀ (k:Nat) x,l[k]? = some x → x.epoch = (Jck l).epoch + k
 | 0,x,hx=>by rw [h.first] at hx;rw [← Option.some.inj hx];simp
 | k + 1,x,hx=>by
  have hk:=(List.getElem?_eq_some_iff.1 hx).1
  have e:l[k]? = some (l[k]'(by omega)):=List.getElem?_eq_getElem (by omega)
  have:=h.epoch k _ e
  have:=Jmm (h.lnk k _ _ e hx)
  omega
theorem JcI.lastE {l:List JS} (h:JcI l):(JcO l).epoch = (Jck l).epoch + l.length - 1:=by
 have:=h.epoch _ _ h.last
 have:=h.len1
 omega
theorem JcI.fb {l:List JS} (h:JcI l):0 ≤ (Jck l).epoch ∧ (Jck l).epoch ≤ 1000000:=by
 have:=JcW (h.ok _ (List.mem_of_getElem? h.first));omega
theorem JcI.lb {l:List JS} (h:JcI l):0 ≤ (JcO l).epoch ∧ (JcO l).epoch ≤ 1000000:=by
 have:=JcW (h.ok _ (List.mem_of_getElem? h.last));omega
theorem Jhx {l:List JS} {r t:Int} (h:(Ja6 l r t).2 = 0):JcI l ∧ l.length < 40 ∧ (Jx (JcO l) r t).2 = 0 ∧ Ja6 l r t = (l ++ [(Jx (JcO l) r t).1],0):=by
 unfold Ja6 at h ⊢
 split at h
 ·
  contradiction
 ·
  rename_i h1
  rw [if_neg h1]
  unfold Jdp at h1
  by_cases e1:JaH [l] = 0
  ·
   rw [if_neg (by omega)] at h1
   have hc:=Jbe.1 e1
   by_cases e2:(l.length:Int) = 40
   ·
    rw [if_pos e2] at h1;omega
   ·
    rw [if_neg e2] at h1
    exact ⟨hc,by have:=hc.len;omega,Decidable.not_not.1 h1,rfl⟩
  ·
   rw [if_pos e1] at h1;omega
theorem Jj0 {l:List JS} {r t:Int} (h:¬ (Ja6 l r t).2 = 0):(Ja6 l r t).1 = []:=by
 revert h;unfold Ja6;split <;> simp
theorem JcI.snoc {l:List JS} (h:JcI l) (hl:l.length < 40) {n:JS} (hn:JC n = 0) (hk:Jfz (JcO l) n = true):JcI (l ++ [n]):=by
 refine ⟨by simp,by simp;omega,fun x hx=>?_,fun k x y hx hy=>?_⟩
 ·
  rcases List.mem_append.1 hx with hx | hx
  ·
   exact h.ok x hx
  ·
   rw [List.mem_singleton.1 hx];exact hn
 ·
  by_cases e:k + 1 < l.length
  ·
   rw [List.getElem?_append_left (by omega)] at hx hy
   exact h.lnk k x y hx hy
  ·
   have hy1:=(List.getElem?_eq_some_iff.1 hy).1
   simp at hy1
   have e2:k = l.length - 1:=by have:=h.len1;omega
   have:=h.len1
   rw [List.getElem?_append_left (by omega),e2,h.last] at hx
   rw [List.getElem?_append_right (by omega),show k + 1 - l.length = 0 by omega] at hy
   simp at hy
   rw [← Option.some.inj hx,← hy];exact hk
theorem Jnm {x:JS} {r t:Int} (h:(Jx x r t).2 = 0):Jfz x (Jx x r t).1 = true ∧ JC (Jx x r t).1 = 0:=by
 obtain ⟨h1,h2,h3,h4,h5⟩:=Jfx h
 have e1:(Jx x r t).1.root = r:=by rw [h4]
 have e2:(Jx x r t).1.at_ = t:=by rw [h4]
 refine ⟨?_,by rw [h4];exact h5⟩
 unfold Jfz
 rw [decide_eq_true_eq,e1,e2]
 exact Prod.ext rfl h
theorem JdE {x:JS} {r t:Int} (hr:0 ≤ r) (h:(Jx x r t).2 = 0):(0 ≤ (Jx x r t).1.epoch ∧ (Jx x r t).1.epoch ≤ 1000000) ∧ (0 ≤ (Jx x r t).1.root ∧ (Jx x r t).1.root < 2305843009213693951) ∧ (0 ≤ (Jx x r t).1.prev ∧ (Jx x r t).1.prev < 2305843009213693951) ∧ 0 ≤ (Jx x r t).1.at_ ∧ (Jx x r t).1.at_ ≤ 1000000000:=by
 obtain ⟨h1,h2,h3,h4,h5⟩:=Jfx h
 have:=JcW h5
 have:=Jbn (JeQ x)
 rw [h4]
 simp only at *
 omega
theorem Jgr (G:Jt) (a_l:Option Addr) (c_l:Nat) (l:List JS) (h_l:RS Jaz G a_l c_l l) :Con Tryz.prog 77 #[Sl a_l l.length c_l] G [] (fun u G' L'=>u = I (JbP l)):=by
 refine JL Tryz.func77 42 [(0,Sl a_l l.length c_l)] rfl (fun w0 G0=>?_)
 refine Jg [0] [(0,Sl a_l l.length c_l)] (Je ?_)
 refine Jg [0] [(0,Sl a_l l.length c_l),(3,I 1)] (Jy ?_)
 have hlm_h_l:l.length ≤ 9223372036854775807:=Nat.le_trans (h_l).le (h_l).max
 refine Ja8 (σ:=Nat) (fun q_=>(1 ≤ q_ ∧ (q_ ≤ l.length ∨ q_ = 1)) ∧ (JbP l = lnk (l.drop (q_ - 1)) q_)) (fun q_=>[(0,Sl a_l l.length c_l),(3,I (q_:Int))]) (fun q_=>G) (fun q_=>[]) (fun q_=>l.length - q_) 1 ⟨⟨Nat.le_refl _,.inr rfl⟩,rfl⟩ (fun q_ hs=>?_)
 revert hs;revert q_;intro i hs
 obtain ⟨hi,hn⟩:=hs
 refine JaJ (fr':=[(0,Sl a_l l.length c_l),(3,I (i:Int))]) (L':=[]) rfl rfl ?_
 refine Je ?_
 refine Jg [0,0,0,0] [(0,Sl a_l l.length c_l),(3,I (i:Int)),(9,Bo (decide ((i:Int) < (l.length:Int))))] ?_
 refine Jo (decide ((i:Int) < (l.length:Int))) (fun h1=>?_) (fun h1=>?_)
 try simp only [BB] at h1
 refine Jn (Ja (Je (Jy (Je ?_))))
 have e1:IntKind.i64.wrap ((i:Int) - 1) = ((i - 1:Nat):Int):=(IntWalk.i64_in _ (by omega)).trans (show (i:Int) - 1 = ((i - 1:Nat):Int) by omega)
 obtain ⟨b1,o1,rfl⟩:=RS.addr h_l (k:=i - 1) (by omega)
 obtain ⟨x1,hx1⟩:=Jb1 (l:=l) (k:=i - 1) (by omega)
 obtain ⟨_,⟨rfl,w1,w2,w3,w4⟩,hc1⟩:=RS.get h_l hx1
 obtain ⟨x2,hx2⟩:=Jb1 (l:=l) (k:=i) (by omega)
 obtain ⟨_,⟨rfl,_,w6,_,w8⟩,hc2⟩:=RS.get h_l hx2
 refine Jau [19,20] ?_
 refine Jb6 [(0,Sl (At b1 o1) l.length c_l),(1,I (i:Int)),(2,I ((i - 1:Nat):Int)),(3,Pt b1 (o1 + (i - 1) * 4)),(4,.agg #[I x1.epoch,U x1.root,U x1.prev,I x1.at_]),(5,Sl (At b1 o1) l.length c_l),(6,I (i:Int)),(7,Pt b1 (o1 + i * 4)),(8,Pt b1 (o1 + i * 4 + 1)),(9,U x2.root),(10,Sl (At b1 o1) l.length c_l),(11,I (i:Int)),(12,Pt b1 (o1 + i * 4)),(13,Pt b1 (o1 + i * 4 + 3)),(14,I x2.at_),(15,.tuple #[(Jes (Jx x1 x2.root x2.at_).1),I ((Jx x1 x2.root x2.at_).2)]),(16,.tuple #[(Jes (Jx x1 x2.root x2.at_).1),I ((Jx x1 x2.root x2.at_).2)]),(17,(Jes (Jx x1 x2.root x2.at_).1)),(18,I ((Jx x1 x2.root x2.at_).2))] ?_
 refine JZ [] [(0,0),(1,0),(5,0),(6,0),(8,0),(10,0),(11,0),(13,0),(16,0),(17,0),(18,0)] [2,3,4,7,9,12,14,15] [19] (List.forall_mem_cons.2 ⟨?_,(List.forall_mem_cons.2 ⟨?_,(List.forall_mem_cons.2 ⟨?_,(List.forall_mem_cons.2 ⟨?_,(List.forall_mem_cons.2 ⟨?_,(List.forall_mem_cons.2 ⟨?_,(List.forall_mem_cons.2 ⟨?_,(List.forall_mem_cons.2 ⟨?_,List.forall_mem_nil _⟩)⟩)⟩)⟩)⟩)⟩)⟩)⟩) (List.forall_mem_cons.2 ⟨?_,List.forall_mem_nil _⟩)
 refine Jq 2 15 (I ((i - 1:Nat):Int)) [(14,I (i:Int))] (fun X=>?_)
 exact JaI 15 (I (IntKind.i64.wrap ((i:Int) - 1))) (I ((i - 1:Nat):Int)) (by simp only [e1]) Jm
 refine Jq 3 16 (Pt b1 (o1 + (i - 1) * 4)) [(13,Sl (At b1 o1) l.length c_l),(15,I ((i - 1:Nat):Int))] (fun X=>?_)
 exact Jac (b:=b1) (off:=o1) (len:=l.length) (cap:=c_l) (ik:=.i64) 16 50 4 (i - 1) (by omega) Jm
 refine Jq 4 17 (.agg #[I x1.epoch,U x1.root,U x1.prev,I x1.at_]) [(16,Pt b1 (o1 + (i - 1) * 4))] (fun X=>?_)
 exact J6 17 50 (cs:=[I x1.epoch,U x1.root,U x1.prev,I x1.at_]) 0 (.agg #[I x1.epoch,U x1.root,U x1.prev,I x1.at_]) hc1 Jm
 refine Jq 7 20 (Pt b1 (o1 + i * 4)) [(18,Sl (At b1 o1) l.length c_l),(19,I (i:Int))] (fun X=>?_)
 exact Jac (b:=b1) (off:=o1) (len:=l.length) (cap:=c_l) (ik:=.i64) 20 50 4 i (by omega) Jm
 refine Jq 9 22 (U x2.root) [(21,Pt b1 (o1 + i * 4 + 1))] (fun X=>?_)
 exact J6 22 48 (cs:=[I x2.epoch,U x2.root,U x2.prev,I x2.at_]) 1 (U x2.root) hc2 Jm
 refine Jq 12 25 (Pt b1 (o1 + i * 4)) [(23,Sl (At b1 o1) l.length c_l),(24,I (i:Int))] (fun X=>?_)
 exact Jac (b:=b1) (off:=o1) (len:=l.length) (cap:=c_l) (ik:=.i64) 25 50 4 i (by omega) Jm
 refine Jq 14 27 (I x2.at_) [(26,Pt b1 (o1 + i * 4 + 3))] (fun X=>?_)
 exact J6 27 2 (cs:=[I x2.epoch,U x2.root,U x2.prev,I x2.at_]) 3 (I x2.at_) hc2 Jm
 refine Jq 15 28 (.tuple #[(Jes (Jx x1 x2.root x2.at_).1),I ((Jx x1 x2.root x2.at_).2)]) [(17,.agg #[I x1.epoch,U x1.root,U x1.prev,I x1.at_]),(22,U x2.root),(27,I x2.at_)] (fun X=>?_)
 exact Ji 28 (.tuple #[(Jes (Jx x1 x2.root x2.at_).1),I ((Jx x1 x2.root x2.at_).2)]) (JfW G [I x1.epoch,U x1.root,U x1.prev,I x1.at_] x1 (⟨rfl,w1,w2,w3,w4⟩) x2.root w6 x2.at_ w8) Jm
 refine JP 19 [] (fun X=>?_)
 refine Ju 4 #[I 0,U 0,U 0,I 0] 50 (fun b2=>?_)
 have e2:IntKind.i64.wrap ((i:Int) - 1) = ((i - 1:Nat):Int):=(IntWalk.i64_in _ (by omega)).trans (show (i:Int) - 1 = ((i - 1:Nat):Int) by omega)
 refine JU [(19,Pt b2 0)] ?_
 refine JZ [] [(0,0),(1,0),(5,0),(6,0),(8,0),(10,0),(11,0),(13,0),(16,0),(17,0),(18,0)] [2,3,4,7,9,12,14,15] [20] (List.forall_mem_cons.2 ⟨?_,(List.forall_mem_cons.2 ⟨?_,(List.forall_mem_cons.2 ⟨?_,(List.forall_mem_cons.2 ⟨?_,(List.forall_mem_cons.2 ⟨?_,(List.forall_mem_cons.2 ⟨?_,(List.forall_mem_cons.2 ⟨?_,(List.forall_mem_cons.2 ⟨?_,List.forall_mem_nil _⟩)⟩)⟩)⟩)⟩)⟩)⟩)⟩) (List.forall_mem_cons.2 ⟨?_,List.forall_mem_nil _⟩)
 refine Jq 2 15 (I ((i - 1:Nat):Int)) [(14,I (i:Int))] (fun X=>?_)
 exact JaI 15 (I (IntKind.i64.wrap ((i:Int) - 1))) (I ((i - 1:Nat):Int)) (by simp only [e2]) Jm
 refine Jq 3 16 (Pt b1 (o1 + (i - 1) * 4)) [(13,Sl (At b1 o1) l.length c_l),(15,I ((i - 1:Nat):Int))] (fun X=>?_)
 exact Jac (b:=b1) (off:=o1) (len:=l.length) (cap:=c_l) (ik:=.i64) 16 50 4 (i - 1) (by omega) Jm
 refine Jq 4 17 (.agg #[I x1.epoch,U x1.root,U x1.prev,I x1.at_]) [(16,Pt b1 (o1 + (i - 1) * 4))] (fun X=>?_)
 exact J6 17 50 (cs:=[I x1.epoch,U x1.root,U x1.prev,I x1.at_]) 0 (.agg #[I x1.epoch,U x1.root,U x1.prev,I x1.at_]) hc1 Jm
 refine Jq 7 20 (Pt b1 (o1 + i * 4)) [(18,Sl (At b1 o1) l.length c_l),(19,I (i:Int))] (fun X=>?_)
 exact Jac (b:=b1) (off:=o1) (len:=l.length) (cap:=c_l) (ik:=.i64) 20 50 4 i (by omega) Jm
 refine Jq 9 22 (U x2.root) [(21,Pt b1 (o1 + i * 4 + 1))] (fun X=>?_)
 exact J6 22 48 (cs:=[I x2.epoch,U x2.root,U x2.prev,I x2.at_]) 1 (U x2.root) hc2 Jm
 refine Jq 12 25 (Pt b1 (o1 + i * 4)) [(23,Sl (At b1 o1) l.length c_l),(24,I (i:Int))] (fun X=>?_)
 exact Jac (b:=b1) (off:=o1) (len:=l.length) (cap:=c_l) (ik:=.i64) 25 50 4 i (by omega) Jm
 refine Jq 14 27 (I x2.at_) [(26,Pt b1 (o1 + i * 4 + 3))] (fun X=>?_)
 exact J6 27 2 (cs:=[I x2.epoch,U x2.root,U x2.prev,I x2.at_]) 3 (I x2.at_) hc2 Jm
 refine Jq 15 28 (.tuple #[(Jes (Jx x1 x2.root x2.at_).1),I ((Jx x1 x2.root x2.at_).2)]) [(17,.agg #[I x1.epoch,U x1.root,U x1.prev,I x1.at_]),(22,U x2.root),(27,I x2.at_)] (fun X=>?_)
 exact Ji 28 (.tuple #[(Jes (Jx x1 x2.root x2.at_).1),I ((Jx x1 x2.root x2.at_).2)]) (JfW G [I x1.epoch,U x1.root,U x1.prev,I x1.at_] x1 (⟨rfl,w1,w2,w3,w4⟩) x2.root w6 x2.at_ w8) Jm
 refine JP 20 [(4,Pt b2 0),(29,(Jes (Jx x1 x2.root x2.at_).1))] (fun X=>?_)
 refine JaU 0 [[Sg b2 0 (Jgk (Jx x1 x2.root x2.at_).1)]] ?_
 refine Jao [(21,I ((Jx x1 x2.root x2.at_).2))] ?_
 refine Jav [0,1,2,3,4,5,6,7,8,9,10,11,12,13,14,15,16,17] [(18,0),(21,0)] [] [(0,Sl (At b1 o1) l.length c_l),(3,I (i:Int)),(4,Pt b2 0),(5,I ((Jx x1 x2.root x2.at_).2))] (List.forall_mem_nil _) ?_
 refine Ja (Je ?_)
 rcases Bool.eq_false_or_eq_true (!decide ((Jx x1 x2.root x2.at_).2 = 0)) with h2 | h2
 have h2d:=h2
 try simp only [BB] at h2d
 refine Jau [] ?_
 refine Jb6 [(0,I ((Jx x1 x2.root x2.at_).2)),(1,Bo true),(2,Bo true),(3,undef),(4,undef),(5,undef),(6,undef),(7,undef),(8,undef),(9,Bo true)] ?_
 refine Jav [] [(0,0),(2,0),(3,1),(4,1),(5,1),(6,1),(7,1),(8,1),(9,0)] [1] [(0,Sl (At b1 o1) l.length c_l),(3,I (i:Int)),(40,Bo true)] (List.forall_mem_cons.2 ⟨?_,List.forall_mem_nil _⟩) ?_
 refine Jq 1 32 (Bo true) [(31,I ((Jx x1 x2.root x2.at_).2))] (fun X=>?_)
 exact JaI 32 (Bo (!decide ((Jx x1 x2.root x2.at_).2 = 0))) (Bo true) (by rw [h2]) Jm
 refine Ja ?_
 refine JT ?_
 refine Jg [0,0] [(2,I (i:Int))] (Jk (Js (Jh (Jbc (Js (Jh ?_))))))
 refine Jl [0] [I (i:Int)] (Jw (Jt.le_refl _) ?_)
 have hf_:(JbP l) = (i:Int):=by
  rw [hn];exact Jqt (by omega) hx1 hx2 (by rw [Jh6];simp_all)
 · (try rw [hf_]);(simp only [JM];done)
 have h2d:=h2
 try simp only [BB] at h2d
 refine Jau [] ?_
 refine Jb6 [(0,I ((Jx x1 x2.root x2.at_).2)),(1,Bo false),(2,Bo false),(3,(Jes (Jx x1 x2.root x2.at_).1)),(4,Sl (At b1 o1) l.length c_l),(5,I (i:Int)),(6,Pt b1 (o1 + i * 4)),(7,.agg #[I x2.epoch,U x2.root,U x2.prev,I x2.at_]),(8,Bo (!(decide (((Jx x1 x2.root x2.at_).1).epoch = x2.epoch) && decide (((Jx x1 x2.root x2.at_).1).root = x2.root) && decide (((Jx x1 x2.root x2.at_).1).prev = x2.prev) && decide (((Jx x1 x2.root x2.at_).1).at_ = x2.at_)))),(9,Bo (!(decide (((Jx x1 x2.root x2.at_).1).epoch = x2.epoch) && decide (((Jx x1 x2.root x2.at_).1).root = x2.root) && decide (((Jx x1 x2.root x2.at_).1).prev = x2.prev) && decide (((Jx x1 x2.root x2.at_).1).at_ = x2.at_))))] ?_
 refine Jav [] [(0,0),(2,0),(3,2),(4,0),(5,0),(9,0)] [1,6,7,8] [(0,Sl (At b1 o1) l.length c_l),(3,I (i:Int)),(40,Bo (!(decide (((Jx x1 x2.root x2.at_).1).epoch = x2.epoch) && decide (((Jx x1 x2.root x2.at_).1).root = x2.root) && decide (((Jx x1 x2.root x2.at_).1).prev = x2.prev) && decide (((Jx x1 x2.root x2.at_).1).at_ = x2.at_))))] (List.forall_mem_cons.2 ⟨?_,(List.forall_mem_cons.2 ⟨?_,(List.forall_mem_cons.2 ⟨?_,(List.forall_mem_cons.2 ⟨?_,List.forall_mem_nil _⟩)⟩)⟩)⟩) ?_
 refine Jq 1 32 (Bo false) [(31,I ((Jx x1 x2.root x2.at_).2))] (fun X=>?_)
 exact JaI 32 (Bo (!decide ((Jx x1 x2.root x2.at_).2 = 0))) (Bo false) (by rw [h2]) Jm
 refine Jq 6 37 (Pt b1 (o1 + i * 4)) [(33,Bo false),(35,Sl (At b1 o1) l.length c_l),(36,I (i:Int))] (fun X=>?_)
 exact Jac (b:=b1) (off:=o1) (len:=l.length) (cap:=c_l) (ik:=.i64) 37 50 4 i (by omega) Jm
 refine Jq 7 38 (.agg #[I x2.epoch,U x2.root,U x2.prev,I x2.at_]) [(33,Bo false),(37,Pt b1 (o1 + i * 4))] (fun X=>?_)
 exact J6 38 50 (cs:=[I x2.epoch,U x2.root,U x2.prev,I x2.at_]) 0 (.agg #[I x2.epoch,U x2.root,U x2.prev,I x2.at_]) hc2 Jm
 refine Jq 8 39 (Bo (!(decide (((Jx x1 x2.root x2.at_).1).epoch = x2.epoch) && decide (((Jx x1 x2.root x2.at_).1).root = x2.root) && decide (((Jx x1 x2.root x2.at_).1).prev = x2.prev) && decide (((Jx x1 x2.root x2.at_).1).at_ = x2.at_)))) [(33,Bo false),(34,(Jes (Jx x1 x2.root x2.at_).1)),(38,.agg #[I x2.epoch,U x2.root,U x2.prev,I x2.at_])] (fun X=>?_)
 exact Jhi 39 (Bo (!(decide (((Jx x1 x2.root x2.at_).1).epoch = x2.epoch) && (decide (((Jx x1 x2.root x2.at_).1).root = x2.root) && (decide (((Jx x1 x2.root x2.at_).1).prev = x2.prev) && (decide (((Jx x1 x2.root x2.at_).1).at_ = x2.at_) && true)))))) (Bo (!(decide (((Jx x1 x2.root x2.at_).1).epoch = x2.epoch) && decide (((Jx x1 x2.root x2.at_).1).root = x2.root) && decide (((Jx x1 x2.root x2.at_).1).prev = x2.prev) && decide (((Jx x1 x2.root x2.at_).1).at_ = x2.at_)))) (by simp [JcB,Bool.and_assoc]) Jm
 refine Ja ?_
 refine Jo (!(decide (((Jx x1 x2.root x2.at_).1).epoch = x2.epoch) && decide (((Jx x1 x2.root x2.at_).1).root = x2.root) && decide (((Jx x1 x2.root x2.at_).1).prev = x2.prev) && decide (((Jx x1 x2.root x2.at_).1).at_ = x2.at_))) (fun h3=>?_) (fun h3=>?_)
 try simp only [BB] at h3
 refine Jg [0,0] [(2,I (i:Int))] (Jk (Js (Jh (Jbc (Js (Jh ?_))))))
 refine Jl [0] [I (i:Int)] (Jw (Jt.le_refl _) ?_)
 have hf_:(JbP l) = (i:Int):=by
  rw [hn];exact Jqt (by omega) hx1 hx2 (by rw [Jh6];simp_all)
 · (try rw [hf_]);(simp only [JM];done)
 try simp only [BB] at h3
 refine Jn (JK (Ja (Jb ?_)))
 refine Jd [0,0,0] [(0,Sl (At b1 o1) l.length c_l),(3,I (IntKind.i64.wrap ((i:Int) + 1)))] ?_
 have e3:IntKind.i64.wrap ((i:Int) + 1) = (i:Int) + 1:=IntWalk.i64_in _ (by omega)
 refine J1 (fr':=[(0,Sl (At b1 o1) l.length c_l),(3,I ((i:Int) + 1))]) (L':=[[Sg b2 0 [I (((Jx x1 x2.root x2.at_).1).epoch),U (((Jx x1 x2.root x2.at_).1).root),U (((Jx x1 x2.root x2.at_).1).prev),I (((Jx x1 x2.root x2.at_).1).at_)]]]) (by simp only [Jgk,Jes,e3];first | done | rfl) (by rfl) ?_
 clear e3
 refine Jc ?_
 refine JbT [] (.cons _ .slnil) ?_
 exact Jba (i + 1) ⟨⟨by (try dsimp only);omega,.inl (by (try dsimp only);omega)⟩,(by rw [hn];exact Jqs (by omega) hx1 hx2 (Jh6.2 (by simp_all)))⟩ (by (try dsimp only);omega)
 try simp only [BB] at h1
 refine JaT (J2 (Jaf (JW (Ja ?_))))
 refine Jg [0] [(2,I (-1))] (Jk ?_)
 refine Jl [0] [I (-1)] (Jw (Jt.le_refl _) ?_)
 have hf_:(JbP l) = (-1):=by
  rw [hn];exact Jro (by simp;omega)
 · (try rw [hf_]);(simp only [JM];done)
theorem Jfo (G:Jt) (a_l:Option Addr) (c_l:Nat) (l:List JS) (h_l:RS Jaz G a_l c_l l) :Con Tryz.prog 36 #[Sl a_l l.length c_l] G [] (fun u G' L'=>u = .tuple #[I ((J9 l).1),I ((J9 l).2)]):=by
 refine JL Tryz.func36 35 [(0,Sl a_l l.length c_l)] rfl (fun w0 G0=>?_)
 refine Jg [0,0] [(0,Sl a_l l.length c_l)] (Je (Jy ?_))
 refine Jg [0,0,0,0] [(0,Sl a_l l.length c_l),(8,Bo (decide ((l.length:Int) = 0)))] ?_
 refine Jo (decide ((l.length:Int) = 0)) (fun h1=>?_) (fun h1=>?_)
 try simp only [BB] at h1
 refine Jg [0,0] [(2,I 5),(3,I 0)] (Jk (Js (Jh ?_)))
 refine Jl [0,0] [I 5,I 0] (Jw (Jt.le_refl _) ?_)
 have hf_:(J9 l) = (5,0):=by
  unfold J9;(rw [if_pos (by omega)];done)
 · (try rw [hf_]);(simp only [JM];done)
 try simp only [BB] at h1
 refine Jg [0,0,0,0] [(0,Sl a_l l.length c_l),(12,Bo (decide ((l.length:Int) > 40)))] ?_
 refine Jo (decide ((l.length:Int) > 40)) (fun h2=>?_) (fun h2=>?_)
 try simp only [BB] at h2
 refine Jg [0,0] [(2,I 2),(3,I 0)] (Jk (Js (Jh ?_)))
 refine Jl [0,0] [I 2,I 0] (Jw (Jt.le_refl _) ?_)
 have hf_:(J9 l) = (2,0):=by
  unfold J9;(rw [if_neg (by omega),if_pos (by omega)];done)
 · (try rw [hf_]);(simp only [JM];done)
 try simp only [BB] at h2
 refine Jn (JK (Ja (Je ?_)))
 refine Jg [0,0,0] [(0,Sl a_l l.length c_l),(16,Sl a_l l.length c_l),(17,I (l.length:Int)),(18,I 0)] (Jy ?_)
 have hlm_h_l:l.length ≤ 9223372036854775807:=Nat.le_trans (h_l).le (h_l).max
 refine Ja8 (σ:=Nat) (fun q_=>(q_ ≤ l.length) ∧ (JeI l 0 = JeI (l.drop q_) q_)) (fun q_=>[(0,Sl a_l l.length c_l),(16,Sl a_l l.length c_l),(17,I (l.length:Int)),(18,I (q_:Int))]) (fun q_=>G) (fun q_=>[]) (fun q_=>l.length - q_) 0 ⟨(by (try dsimp only);exact Nat.zero_le _),rfl⟩ (fun q_ hs=>?_)
 revert hs;revert q_;intro i hs
 obtain ⟨hi,hn⟩:=hs
 refine JaJ (fr':=[(0,Sl a_l l.length c_l),(16,Sl a_l l.length c_l),(17,I (l.length:Int)),(18,I (i:Int))]) (L':=[]) rfl rfl ?_
 refine Jg [0] [(0,Sl a_l l.length c_l),(16,Sl a_l l.length c_l),(17,I (l.length:Int)),(18,I (i:Int)),(19,Bo (decide ((i:Int) < (l.length:Int))))] (Je ?_)
 refine Jo (decide ((i:Int) < (l.length:Int))) (fun h3=>?_) (fun h3=>?_)
 try simp only [BB] at h3
 refine Jn (Ja (Je (Jy (Je (Jb ?_)))))
 refine Jd [0] [(0,Sl a_l l.length c_l),(16,Sl a_l l.length c_l),(17,I (l.length:Int)),(18,I (i:Int)),(20,I (i:Int))] ?_
 obtain ⟨b1,o1,rfl⟩:=RS.addr h_l (k:=i) (by omega)
 obtain ⟨x1,hx1⟩:=Jb1 (l:=l) (k:=i) (by omega)
 obtain ⟨_,⟨rfl,_,_,_,_⟩,hc1⟩:=RS.get h_l hx1
 refine Jac (b:=b1) (off:=o1) (len:=l.length) (cap:=c_l) (ik:=.i64) 21 50 4 i (by omega) ?_
 refine J6 22 50 (cs:=[I x1.epoch,U x1.root,U x1.prev,I x1.at_]) 0 (.agg #[I x1.epoch,U x1.root,U x1.prev,I x1.at_]) hc1 ?_
 refine Ju 5 #[I 0,U 0,U 0,I 0] 50 (fun b2=>?_)
 refine Jaa [0,3] [(0,Sl (At b1 o1) l.length c_l),(4,I (i:Int)),(5,Pt b2 0),(16,Sl (At b1 o1) l.length c_l),(17,I (l.length:Int)),(18,I (i:Int))] [[Sg b2 0 [I x1.epoch,U x1.root,U x1.prev,I x1.at_]]] (Jc (Ja (Je (Jb ?_))))
 refine Jd [2] [(0,Sl (At b1 o1) l.length c_l),(4,I (i:Int)),(16,Sl (At b1 o1) l.length c_l),(17,I (l.length:Int)),(18,I (i:Int)),(23,.agg #[I x1.epoch,U x1.root,U x1.prev,I x1.at_])] ?_
 refine Ji 24 (I (JC x1)) (Jdn x1 G) ?_
 refine Jd [0] [(0,Sl (At b1 o1) l.length c_l),(4,I (i:Int)),(6,I (JC x1)),(16,Sl (At b1 o1) l.length c_l),(17,I (l.length:Int)),(18,I (i:Int))] (Jc (Ja ?_))
 refine Jg [0,0] [(0,Sl (At b1 o1) l.length c_l),(4,I (i:Int)),(6,I (JC x1)),(16,Sl (At b1 o1) l.length c_l),(17,I (l.length:Int)),(18,I (i:Int)),(26,Bo (!decide (JC x1 = 0)))] ?_
 refine Jo (!decide (JC x1 = 0)) (fun h4=>?_) (fun h4=>?_)
 try simp only [BB] at h4
 refine Jg [0,0,0,0] [(2,I (JC x1)),(3,I (i:Int))] (Jk (Js (Jh (Jbc (Js (Jh ?_))))))
 refine Jl [0,0] [I (JC x1),I (i:Int)] (Jw (Jt.le_refl _) ?_)
 have hf_:(J9 l) = ((JC x1),(i:Int)):=by
  unfold J9;(rw [if_neg (by omega),if_neg (by omega)];(have e_:=Jpe hx1 ‹_›;rw [← hn] at e_;rw [if_pos (by rw [e_];assumption),e_];done))
 · (try rw [hf_]);(simp only [JM];done)
 try simp only [BB] at h4
 refine Jn (JK (Ja (Jb ?_)))
 refine Jd [0,0] [(0,Sl (At b1 o1) l.length c_l),(16,Sl (At b1 o1) l.length c_l),(17,I (l.length:Int)),(18,I (IntKind.i64.wrap ((i:Int) + 1)))] ?_
 have e1:IntKind.i64.wrap ((i:Int) + 1) = (i:Int) + 1:=IntWalk.i64_in _ (by omega)
 refine J1 (fr':=[(0,Sl (At b1 o1) l.length c_l),(16,Sl (At b1 o1) l.length c_l),(17,I (l.length:Int)),(18,I ((i:Int) + 1))]) (L':=[[Sg b2 0 [I x1.epoch,U x1.root,U x1.prev,I x1.at_]]]) (by simp only [e1]) (by rfl) ?_
 clear e1
 refine Jc ?_
 refine JbT [] (.cons _ .slnil) ?_
 exact Jba (i + 1) ⟨(by omega),(by rw [hn];exact Jmk hx1 ‹_›)⟩ (by (try dsimp only);omega)
 try simp only [BB] at h3
 refine JaT (J2 (Jaf (JW (Ja (Je (Je (Jb ?_)))))))
 refine Jd [0] [(30,Sl a_l l.length c_l)] ?_
 refine Ji 31 (I (JbP l)) (Jgr G a_l c_l l h_l) ?_
 refine Jd [0] [(7,I (JbP l))] (Jc (Ja ?_))
 refine Jg [0,0] [(7,I (JbP l)),(33,Bo (decide (JbP l ≥ 0)))] ?_
 refine Jo (decide (JbP l ≥ 0)) (fun h5=>?_) (fun h5=>?_)
 try simp only [BB] at h5
 refine Jg [0,0,0] [(2,I 8),(3,I (JbP l))] (Jk (Jh ?_))
 refine Jl [0,0] [I 8,I (JbP l)] (Jw (Jt.le_refl _) ?_)
 have hf_:(J9 l) = (8,(JbP l)):=by
  unfold J9;(rw [if_neg (by omega),if_neg (by omega)];(have e_:JeI l 0 = (0,0):=(by rw [hn,List.drop_eq_nil_of_le (by omega)];rfl);rw [if_neg (by rw [e_];simp)];(rw [if_pos (by omega)];done)))
 · (try rw [hf_]);(simp only [JM];done)
 try simp only [BB] at h5
 refine Jn (Ja ?_)
 refine Jg [0,0] [(2,I 0),(3,I 0)] (Jk ?_)
 refine Jl [0,0] [I 0,I 0] (Jw (Jt.le_refl _) ?_)
 have hf_:(J9 l) = (0,0):=by
  unfold J9;(rw [if_neg (by omega),if_neg (by omega)];(have e_:JeI l 0 = (0,0):=(by rw [hn,List.drop_eq_nil_of_le (by omega)];rfl);rw [if_neg (by rw [e_];simp)];(rw [if_neg (by omega)];done)))
 · (try rw [hf_]);(simp only [JM];done)
theorem Jf2 (G:Jt) (a_l:Option Addr) (c_l:Nat) (l:List (List JS)) (h_l:RS JiW G a_l c_l l) :Con Tryz.prog 102 #[Sl a_l l.length c_l] G [] (fun u G' L'=>u = I (JaH l)):=by
 refine JL Tryz.func102 22 [(0,Sl a_l l.length c_l)] rfl (fun w0 G0=>?_)
 refine Jg [0] [(0,Sl a_l l.length c_l)] (Je ?_)
 refine Jg [0,0,0] [(7,Sl a_l l.length c_l),(8,I (l.length:Int)),(9,I 0)] (Jy ?_)
 have hlm_h_l:l.length ≤ 9223372036854775807:=Nat.le_trans (h_l).le (h_l).max
 refine Ja8 (σ:=Nat) (fun q_=>(q_ ≤ l.length) ∧ (JaH l = JaH (l.drop q_))) (fun q_=>[(7,Sl a_l l.length c_l),(8,I (l.length:Int)),(9,I (q_:Int))]) (fun q_=>G) (fun q_=>[]) (fun q_=>l.length - q_) 0 ⟨(by (try dsimp only);exact Nat.zero_le _),rfl⟩ (fun q_ hs=>?_)
 revert hs;revert q_;intro i hs
 obtain ⟨hi,hn⟩:=hs
 refine JaJ (fr':=[(7,Sl a_l l.length c_l),(8,I (l.length:Int)),(9,I (i:Int))]) (L':=[]) rfl rfl ?_
 refine Jg [0] [(7,Sl a_l l.length c_l),(8,I (l.length:Int)),(9,I (i:Int)),(10,Bo (decide ((i:Int) < (l.length:Int))))] (Je ?_)
 refine Jo (decide ((i:Int) < (l.length:Int))) (fun h1=>?_) (fun h1=>?_)
 try simp only [BB] at h1
 refine Jn (Ja (Je (Jy (Je (Jb ?_)))))
 obtain ⟨b1,o1,rfl⟩:=RS.addr h_l (k:=i) (by omega)
 obtain ⟨x1,hx1⟩:=Jb1 (l:=l) (k:=i) (by omega)
 obtain ⟨_,⟨a1,c1,rfl,hs1⟩,hc1⟩:=RS.get h_l hx1
 refine Jac (b:=b1) (off:=o1) (len:=l.length) (cap:=c_l) (ik:=.i64) 11 31 1 i (by omega) ?_
 refine J6 12 31 (cs:=[Sl a1 x1.length c1]) 0 (Sl a1 x1.length c1) hc1 ?_
 refine Jd [0] [(4,Sl a1 x1.length c1),(7,Sl (At b1 o1) l.length c_l),(8,I (l.length:Int)),(9,I (i:Int))] (Jc (Ja (Je (Jb ?_))))
 refine Jd [0] [(7,Sl (At b1 o1) l.length c_l),(8,I (l.length:Int)),(9,I (i:Int)),(14,Sl a1 x1.length c1)] ?_
 refine Ji 15 (.tuple #[I ((J9 x1).1),I ((J9 x1).2)]) (Jfo G a1 c1 x1 hs1) ?_
 refine Jd [0,0,0,0,0] [(5,I ((J9 x1).1)),(7,Sl (At b1 o1) l.length c_l),(8,I (l.length:Int)),(9,I (i:Int))] (Jc (Ja ?_))
 refine Jg [0,0] [(5,I ((J9 x1).1)),(7,Sl (At b1 o1) l.length c_l),(8,I (l.length:Int)),(9,I (i:Int)),(19,Bo (!decide ((J9 x1).1 = 0)))] ?_
 refine Jo (!decide ((J9 x1).1 = 0)) (fun h2=>?_) (fun h2=>?_)
 try simp only [BB] at h2
 refine Jg [0,0] [(2,I ((J9 x1).1))] (Jk (Js (Jh (Jbc (Js (Jh ?_))))))
 refine Jl [0] [I ((J9 x1).1)] (Jw (Jt.le_refl _) ?_)
 have hf_:(JaH l) = ((J9 x1).1):=by
  rw [hn];exact Jml hx1 ‹_›
 · (try rw [hf_]);(simp only [JM];done)
 try simp only [BB] at h2
 refine Jn (JK (Ja (Jb ?_)))
 refine Jd [0,0] [(7,Sl (At b1 o1) l.length c_l),(8,I (l.length:Int)),(9,I (IntKind.i64.wrap ((i:Int) + 1)))] ?_
 have e1:IntKind.i64.wrap ((i:Int) + 1) = (i:Int) + 1:=IntWalk.i64_in _ (by omega)
 refine J1 (fr':=[(7,Sl (At b1 o1) l.length c_l),(8,I (l.length:Int)),(9,I ((i:Int) + 1))]) (L':=[]) (by simp only [e1]) (by rfl) ?_
 clear e1
 refine Jc ?_
 exact Jba (i + 1) ⟨(by omega),(by rw [hn];exact JjZ hx1 ‹_›)⟩ (by (try dsimp only);omega)
 try simp only [BB] at h1
 refine JaT (J2 (Jaf (JW (Ja ?_))))
 refine Jg [0] [(2,I 0)] (Jk ?_)
 refine Jl [0] [I 0] (Jw (Jt.le_refl _) ?_)
 have hf_:(JaH l) = 0:=by
  rw [hn];(rw [List.drop_eq_nil_of_le (by omega)];rfl)
 · (try rw [hf_]);(simp only [JM];done)
theorem Jj1 (G:Jt) (a_l:Option Addr) (c_l:Nat) (l:List JS) (h_l:RS Jaz G a_l c_l l) (root:Int) (hw_root:rU root) (a:Int) (hw_a:rI a) :Con Tryz.prog 63 #[Sl a_l l.length c_l,U root,I a] G [] (fun u G' L'=>∃ (a1:Option Addr) (c2:Nat) (r3:List Seg),u = .tuple #[Sl a1 (((Ja6 l root a).1).length) c2,I ((Ja6 l root a).2)] ∧ (J8 Jaz G' a1 c2 ((Ja6 l root a).1) r3) ∧ L' = [r3]):=by
 refine JL Tryz.func63 41 [(0,Sl a_l l.length c_l),(1,U root),(2,I a)] rfl (fun w0 G0=>?_)
 refine Jg [0,0] [(0,Sl a_l l.length c_l),(1,U root),(2,I a)] (Je (Jb ?_))
 refine Jd [0] [(0,Sl a_l l.length c_l),(1,U root),(2,I a),(10,Sl a_l l.length c_l)] ?_
 refine JaB 11 1 #[Sl a_l l.length c_l] 31 (fun b1=>?_)
 refine JbH (b:=b1) (o:=0) (cs:=[Sl a_l l.length c_l]) 0 (fun G1 hl1 hz1=>?_)
 have hs1:RS JiW G1 (At b1 0) 1 [l]:=RS.lit [[Sl a_l l.length c_l]] [l] ⟨⟨a_l,c_l,rfl,(h_l.mono hl1)⟩,trivial⟩ hz1 (Nat.le_of_ble_eq_true rfl) (Nat.le_of_ble_eq_true rfl)
 refine Ji 12 (I (JaH ([l]))) (Jf2 G1 (At b1 0) 1 ([l]) hs1) ?_
 refine Jd [0] [(0,Sl a_l l.length c_l),(1,U root),(2,I a),(8,I (JaH ([l])))] (Jc (Ja (Je (Jy ?_))))
 refine Jg [0,0,0] [(0,Sl a_l l.length c_l),(1,U root),(2,I a),(8,I (JaH ([l]))),(13,Bo (!decide (JaH ([l]) = 0)))] ?_
 refine Jo (!decide (JaH ([l]) = 0)) (fun h1=>?_) (fun h1=>?_)
 try simp only [BB] at h1
 refine Jg [0,0,0] [(6,Sl none 0 0),(7,I (JaH ([l])))] (Jk (Js (Jh ?_)))
 refine Jc0 ?_
 refine Jj 0 ?_
 have hf1:Ja6 l root a = ([],JaH ([l])):=by
  unfold Ja6 Jdp;(simp_all;done)
 refine Jl [0,0] [Sl none 0 0,I (JaH ([l]))] (JY [[]] (.cons_cons _ (.cons _ .slnil)) hl1 ?_)
 rw [hf1]
 try dsimp only
 exact ⟨none,0,([]),rfl,(J8.none Jaz _),rfl⟩
 try simp only [BB] at h1
 refine Jg [0,0,0,0] [(0,Sl a_l l.length c_l),(1,U root),(2,I a),(17,Bo (decide ((l.length:Int) = 40)))] ?_
 refine Jo (decide ((l.length:Int) = 40)) (fun h2=>?_) (fun h2=>?_)
 try simp only [BB] at h2
 refine Jg [0,0] [(6,Sl none 0 0),(7,I 7)] (Jk (Js (Jh ?_)))
 refine Jc0 ?_
 refine Jj 0 ?_
 have hf2:Ja6 l root a = ([],7):=by
  unfold Ja6 Jdp;(simp_all;done)
 refine Jl [0,0] [Sl none 0 0,I 7] (JY [[]] (.cons_cons _ (.cons _ .slnil)) hl1 ?_)
 rw [hf2]
 try dsimp only
 exact ⟨none,0,([]),rfl,(J8.none Jaz _),rfl⟩
 try simp only [BB] at h2
 refine Jn (JK (Ja (Je (Jb ?_))))
 refine Jd [0,0,0,0] [(0,Sl a_l l.length c_l),(1,U root),(2,I a),(22,Sl a_l l.length c_l),(25,I (IntKind.i64.wrap ((l.length:Int) - 1)))] ?_
 have e1:IntKind.i64.wrap ((l.length:Int) - 1) = ((l.length - 1:Nat):Int):=(IntWalk.i64_in _ (by (have q_:=Jbe.1 ‹_›;have q1_:=q_.len1;have q2_:=q_.len;have q3_:=q_.lastE;have q4_:=q_.fb;have q5_:=q_.lb;omega))).trans (show (l.length:Int) - 1 = ((l.length - 1:Nat):Int) by (have q_:=Jbe.1 ‹_›;have q1_:=q_.len1;have q2_:=q_.len;have q3_:=q_.lastE;have q4_:=q_.fb;have q5_:=q_.lb;omega))
 refine J1 (fr':=[(0,Sl a_l l.length c_l),(1,U root),(2,I a),(22,Sl a_l l.length c_l),(25,I ((l.length - 1:Nat):Int))]) (L':=[[]]) (by simp only [Jgk,Jes,e1];first | done | rfl) (by rfl) ?_
 clear e1
 obtain ⟨b2,o1,rfl⟩:=RS.addr (h_l.mono hl1) (k:=l.length - 1) (by (have q_:=Jbe.1 ‹_›;have q1_:=q_.len1;have q2_:=q_.len;have q3_:=q_.lastE;have q4_:=q_.fb;have q5_:=q_.lb;omega))
 obtain ⟨x1,hx1⟩:=Jb1 (l:=l) (k:=l.length - 1) (by (have q_:=Jbe.1 ‹_›;have q1_:=q_.len1;have q2_:=q_.len;have q3_:=q_.lastE;have q4_:=q_.fb;have q5_:=q_.lb;omega))
 obtain ⟨_,⟨rfl,w1,w2,w3,w4⟩,hc1⟩:=RS.get (h_l.mono hl1) hx1
 refine Jac (b:=b2) (off:=o1) (len:=l.length) (cap:=c_l) (ik:=.i64) 26 50 4 (l.length - 1) (by (have q_:=Jbe.1 ‹_›;have q1_:=q_.len1;have q2_:=q_.len;have q3_:=q_.lastE;have q4_:=q_.fb;have q5_:=q_.lb;omega)) ?_
 refine J6 27 50 (cs:=[I x1.epoch,U x1.root,U x1.prev,I x1.at_]) 0 (.agg #[I x1.epoch,U x1.root,U x1.prev,I x1.at_]) hc1 ?_
 refine Jd [0,0] [(0,Sl (At b2 o1) l.length c_l),(27,.agg #[I x1.epoch,U x1.root,U x1.prev,I x1.at_]),(28,U root),(29,I a)] ?_
 refine Ji 30 (.tuple #[(Jes (Jx x1 root a).1),I ((Jx x1 root a).2)]) (JfW G1 [I x1.epoch,U x1.root,U x1.prev,I x1.at_] x1 (⟨rfl,w1,w2,w3,w4⟩) root ‹_› a ‹_›) ?_
 refine Jd [0,0,0] [(0,Sl (At b2 o1) l.length c_l),(31,(Jes (Jx x1 root a).1)),(32,I ((Jx x1 root a).2))] ?_
 refine Ju 9 #[I 0,U 0,U 0,I 0] 50 (fun b3=>?_)
 refine Jaa [3,0] [(0,Sl (At b2 o1) l.length c_l),(8,I ((Jx x1 root a).2)),(9,Pt b3 0)] [[Sg b3 0 (Jgk (Jx x1 root a).1)],[]] (Jc (Ja (Je ?_)))
 refine Jg [0,0] [(0,Sl (At b2 o1) l.length c_l),(8,I ((Jx x1 root a).2)),(9,Pt b3 0),(34,Bo (!decide ((Jx x1 root a).2 = 0)))] ?_
 refine Jo (!decide ((Jx x1 root a).2 = 0)) (fun h3=>?_) (fun h3=>?_)
 try simp only [BB] at h3
 refine Jg [0,0,0] [(6,Sl none 0 0),(7,I ((Jx x1 root a).2))] (Jk (Jh ?_))
 refine Jc0 ?_
 refine Jj 0 ?_
 have hf3:Ja6 l root a = ([],(Jx x1 root a).2):=by
  unfold Ja6 Jdp;(have hl_:=Jb7 (l:=l) (k:=l.length - 1) rfl ‹_›;subst hl_;(simp_all;done))
 refine Jl [0,0] [Sl none 0 0,I ((Jx x1 root a).2)] (JY [[]] (.cons_cons _ (.cons _ (.cons _ .slnil))) hl1 ?_)
 rw [hf3]
 try dsimp only
 exact ⟨none,0,([]),rfl,(J8.none Jaz _),rfl⟩
 try simp only [BB] at h3
 refine Jn (Ja (Je ?_))
 refine Jau [1,3,4] ?_
 refine Jb6 [(0,Sl (At b2 o1) l.length c_l),(2,(Jes (Jx x1 root a).1))] ?_
 refine JZ [] [(0,0),(2,2)] [] [1,3] (List.forall_mem_nil _) (List.forall_mem_cons.2 ⟨?_,(List.forall_mem_cons.2 ⟨?_,List.forall_mem_nil _⟩)⟩)
 refine JP 1 [(36,Sl (At b2 o1) l.length c_l)] (fun X=>?_)
 refine JN 37 (Jez G1 (At b2 o1) c_l l (h_l.mono hl1)) (fun v G2 L1 hl2 hp=>?_)
 obtain ⟨a1,c1,_,rfl,hr1,rfl⟩:=hp
 refine JU [(1,Sl a1 l.length c1)] ?_
 refine JZ [0] [(2,4)] [] [3] (List.forall_mem_nil _) (List.forall_mem_cons.2 ⟨?_,List.forall_mem_nil _⟩)
 refine JP 3 [(38,(Jes (Jx x1 root a).1))] (fun X=>?_)
 refine JaB 39 1 #[I (((Jx x1 root a).1).epoch),U (((Jx x1 root a).1).root),U (((Jx x1 root a).1).prev),I (((Jx x1 root a).1).at_)] 50 (fun b4=>?_)
 refine JU [(3,Sl (At b4 0) 1 1)] ?_
 refine JZ [0,2] [] [] [4] (List.forall_mem_nil _) (List.forall_mem_cons.2 ⟨?_,List.forall_mem_nil _⟩)
 refine JP 4 [(37,Sl a1 l.length c1),(39,Sl (At b4 0) 1 1)] (fun X=>?_)
 refine JbA (b:=b4) (cs:=(Jgk (Jx x1 root a).1)) 40 50 1 0 (E:=Jaz) ((Jx x1 root a).1) hr1 ⟨rfl,(by have q_:=JdE (x:=x1) (r:=root) (t:=a) (by omega) ‹_›;omega),(by have q_:=JdE (x:=x1) (r:=root) (t:=a) (by omega) ‹_›;omega),(by have q_:=JdE (x:=x1) (r:=root) (t:=a) (by omega) ‹_›;omega),(by have q_:=JdE (x:=x1) (r:=root) (t:=a) (by omega) ‹_›;omega)⟩ (by have q_:=Jbe.1 ‹_›;have q1_:=q_.len1;have q2_:=q_.len;have q3_:=q_.lastE;have q4_:=q_.fb;have q5_:=q_.lb;(try simp only [Jaz,List.length_append,List.length_cons,List.length_nil]);omega) (by have q_:=Jbe.1 ‹_›;have q1_:=q_.len1;have q2_:=q_.len;have q3_:=q_.lastE;have q4_:=q_.fb;have q5_:=q_.lb;(try simp only [Jaz,List.length_append,List.length_cons,List.length_nil]);omega) (fun a2 c2 r2 hr2=>?_)
 refine JU [(4,Sl a2 ((l ++ [((Jx x1 root a).1)]).length) c2),(5,Sl a2 ((l ++ [((Jx x1 root a).1)]).length) c2),(6,I 0)] ?_
 refine Jav [0,2] [(5,0),(6,0)] [] [(6,Sl a2 ((l ++ [((Jx x1 root a).1)]).length) c2),(7,I 0)] (List.forall_mem_nil _) ?_
 refine Ja (Jk ?_)
 refine Jj 1 ?_
 have hf4:Ja6 l root a = (l ++ [((Jx x1 root a).1)],0):=by
  unfold Ja6 Jdp;(have hl_:=Jb7 (l:=l) (k:=l.length - 1) rfl ‹_›;subst hl_;(simp_all;done))
 refine Jl [0,0] [Sl a2 ((l ++ [((Jx x1 root a).1)]).length) c2,I 0] (JY [r2] (.cons_cons _ (.cons _ (.cons _ (.cons _ .slnil)))) (Jt.le_trans hl1 hl2) ?_)
 rw [hf4]
 try dsimp only
 exact ⟨a2,c2,r2,rfl,hr2,rfl⟩
 refine JP 3 [(38,(Jes (Jx x1 root a).1))] (fun X=>?_)
 refine JaB 39 1 #[I (((Jx x1 root a).1).epoch),U (((Jx x1 root a).1).root),U (((Jx x1 root a).1).prev),I (((Jx x1 root a).1).at_)] 50 (fun b5=>?_)
 refine JU [(3,Sl (At b5 0) 1 1)] ?_
 refine JZ [2] [(0,0)] [] [1] (List.forall_mem_nil _) (List.forall_mem_cons.2 ⟨?_,List.forall_mem_nil _⟩)
 refine JP 1 [(36,Sl (At b2 o1) l.length c_l)] (fun X=>?_)
 refine JN 37 (Jez G1 (At b2 o1) c_l l (h_l.mono hl1)) (fun v G3 L1 hl3 hp=>?_)
 obtain ⟨a3,c3,r3,rfl,hr3,rfl⟩:=hp
 refine JU [(1,Sl a3 l.length c3)] ?_
 refine JZ [0,2] [] [] [4] (List.forall_mem_nil _) (List.forall_mem_cons.2 ⟨?_,List.forall_mem_nil _⟩)
 refine JP 4 [(37,Sl a3 l.length c3),(39,Sl (At b5 0) 1 1)] (fun X=>?_)
 refine JbA (b:=b5) (cs:=(Jgk (Jx x1 root a).1)) 40 50 0 1 (E:=Jaz) ((Jx x1 root a).1) hr3 ⟨rfl,(by have q_:=JdE (x:=x1) (r:=root) (t:=a) (by omega) ‹_›;omega),(by have q_:=JdE (x:=x1) (r:=root) (t:=a) (by omega) ‹_›;omega),(by have q_:=JdE (x:=x1) (r:=root) (t:=a) (by omega) ‹_›;omega),(by have q_:=JdE (x:=x1) (r:=root) (t:=a) (by omega) ‹_›;omega)⟩ (by have q_:=Jbe.1 ‹_›;have q1_:=q_.len1;have q2_:=q_.len;have q3_:=q_.lastE;have q4_:=q_.fb;have q5_:=q_.lb;(try simp only [Jaz,List.length_append,List.length_cons,List.length_nil]);omega) (by have q_:=Jbe.1 ‹_›;have q1_:=q_.len1;have q2_:=q_.len;have q3_:=q_.lastE;have q4_:=q_.fb;have q5_:=q_.lb;(try simp only [Jaz,List.length_append,List.length_cons,List.length_nil]);omega) (fun a4 c4 r4 hr4=>?_)
 refine JU [(4,Sl a4 ((l ++ [((Jx x1 root a).1)]).length) c4),(5,Sl a4 ((l ++ [((Jx x1 root a).1)]).length) c4),(6,I 0)] ?_
 refine Jav [0,2] [(5,0),(6,0)] [] [(6,Sl a4 ((l ++ [((Jx x1 root a).1)]).length) c4),(7,I 0)] (List.forall_mem_nil _) ?_
 refine Ja (Jk ?_)
 refine Jj 0 ?_
 have hf5:Ja6 l root a = (l ++ [((Jx x1 root a).1)],0):=by
  unfold Ja6 Jdp;(have hl_:=Jb7 (l:=l) (k:=l.length - 1) rfl ‹_›;subst hl_;(simp_all;done))
 refine Jl [0,0] [Sl a4 ((l ++ [((Jx x1 root a).1)]).length) c4,I 0] (JY [r4] (.cons_cons _ (.cons _ (.cons _ (.cons _ .slnil)))) (Jt.le_trans hl1 hl3) ?_)
 rw [hf5]
 try dsimp only
 exact ⟨a4,c4,r4,rfl,hr4,rfl⟩
theorem Jj2 (G:Jt) (a_l:Option Addr) (c_l:Nat) (l:List JS) (h_l:RS Jaz G a_l c_l l) (a:Int) (hw_a:rI a) (b:Int) (hw_b:rI b) :Con Tryz.prog 178 #[Sl a_l l.length c_l,I a,I b] G [] (fun u G' L'=>∃ (a1:Option Addr) (c2:Nat),u = .tuple #[Sl a1 (((Jcz l a b).1).length) c2,I ((Jcz l a b).2)] ∧ (RS Jaz G' a1 c2 ((Jcz l a b).1)) ∧ L' = []):=by
 refine JL Tryz.func178 51 [(0,Sl a_l l.length c_l),(1,I a),(2,I b)] rfl (fun w0 G0=>?_)
 refine Jg [0,0] [(0,Sl a_l l.length c_l),(1,I a),(2,I b)] (Je (Je (Jb ?_)))
 refine Jd [0] [(0,Sl a_l l.length c_l),(1,I a),(2,I b),(11,Sl a_l l.length c_l)] ?_
 refine JaB 12 1 #[Sl a_l l.length c_l] 31 (fun b1=>?_)
 refine JbH (b:=b1) (o:=0) (cs:=[Sl a_l l.length c_l]) 0 (fun G1 hl1 hz1=>?_)
 have hs1:RS JiW G1 (At b1 0) 1 [l]:=RS.lit [[Sl a_l l.length c_l]] [l] ⟨⟨a_l,c_l,rfl,(h_l.mono hl1)⟩,trivial⟩ hz1 (Nat.le_of_ble_eq_true rfl) (Nat.le_of_ble_eq_true rfl)
 refine Ji 13 (I (JaH ([l]))) (Jf2 G1 (At b1 0) 1 ([l]) hs1) ?_
 refine Jd [0] [(0,Sl a_l l.length c_l),(1,I a),(2,I b),(8,I (JaH ([l])))] (Jc (Ja ?_))
 refine Jg [0,0] [(0,Sl a_l l.length c_l),(1,I a),(2,I b),(8,I (JaH ([l]))),(15,Bo (!decide (JaH ([l]) = 0)))] ?_
 refine Jo (!decide (JaH ([l]) = 0)) (fun h1=>?_) (fun h1=>?_)
 try simp only [BB] at h1
 refine Jg [0,0,0] [(6,Sl none 0 0),(7,I (JaH ([l])))] (Jk (Jh ?_))
 have hf1:Jcz l a b = ([],JaH ([l])):=by
  unfold Jcz;(simp_all;done)
 refine Jl [0,0] [Sl none 0 0,I (JaH ([l]))] (JY [] (.cons _ .slnil) hl1 ?_)
 rw [hf1]
 try dsimp only
 exact ⟨none,0,rfl,(RS.nil' Jaz G1),rfl⟩
 try simp only [BB] at h1
 refine Jn (Ja (Je ?_))
 obtain ⟨b2,o1,rfl⟩:=RS.addr (h_l.mono hl1) (k:=0) (by (have q_:=Jbe.1 ‹_›;have q1_:=q_.len1;have q2_:=q_.len;have q3_:=q_.lastE;have q4_:=q_.fb;have q5_:=q_.lb;omega))
 obtain ⟨x1,hx1⟩:=Jb1 (l:=l) (k:=0) (by (have q_:=Jbe.1 ‹_›;have q1_:=q_.len1;have q2_:=q_.len;have q3_:=q_.lastE;have q4_:=q_.fb;have q5_:=q_.lb;omega))
 obtain ⟨_,⟨rfl,_,_,_,_⟩,hc1⟩:=RS.get (h_l.mono hl1) hx1
 have e1:IntKind.i64.wrap ((l.length:Int) - 1) = ((l.length - 1:Nat):Int):=(IntWalk.i64_in _ (by (have q_:=Jbe.1 ‹_›;have q1_:=q_.len1;have q2_:=q_.len;have q3_:=q_.lastE;have q4_:=q_.fb;have q5_:=q_.lb;omega))).trans (show (l.length:Int) - 1 = ((l.length - 1:Nat):Int) by (have q_:=Jbe.1 ‹_›;have q1_:=q_.len1;have q2_:=q_.len;have q3_:=q_.lastE;have q4_:=q_.fb;have q5_:=q_.lb;omega))
 obtain ⟨x2,hx2⟩:=Jb1 (l:=l) (k:=l.length - 1) (by (have q_:=Jbe.1 ‹_›;have q1_:=q_.len1;have q2_:=q_.len;have q3_:=q_.lastE;have q4_:=q_.fb;have q5_:=q_.lb;omega))
 obtain ⟨_,⟨rfl,_,_,_,_⟩,hc2⟩:=RS.get (h_l.mono hl1) hx2
 refine Jau [] ?_
 refine Jb6 [(0,Sl (At b2 o1) l.length c_l),(1,Pt b2 (o1 + 0 * 4)),(2,Pt b2 (o1 + 0 * 4)),(3,I x1.epoch),(4,Sl (At b2 o1) l.length c_l),(5,Sl (At b2 o1) l.length c_l),(6,I (l.length:Int)),(7,I ((l.length - 1:Nat):Int)),(8,Pt b2 (o1 + (l.length - 1) * 4)),(9,Pt b2 (o1 + (l.length - 1) * 4)),(10,I x2.epoch),(11,I x1.epoch),(12,I x2.epoch)] ?_
 refine Jav [] [(0,0),(2,0),(4,0),(5,0),(6,0),(9,0),(11,0),(12,0)] [1,3,7,8,10] [(0,Sl (At b2 o1) l.length c_l),(1,I a),(2,I b),(9,I x1.epoch),(10,I x2.epoch)] (List.forall_mem_cons.2 ⟨?_,(List.forall_mem_cons.2 ⟨?_,(List.forall_mem_cons.2 ⟨?_,(List.forall_mem_cons.2 ⟨?_,(List.forall_mem_cons.2 ⟨?_,List.forall_mem_nil _⟩)⟩)⟩)⟩)⟩) ?_
 refine Jq 1 18 (Pt b2 (o1 + 0 * 4)) [(17,Sl (At b2 o1) l.length c_l)] (fun X=>?_)
 exact Jac (b:=b2) (off:=o1) (len:=l.length) (cap:=c_l) (ik:=.i64) 18 50 4 0 (by (have hl_:=Jb7 (l:=l) (k:=l.length - 1) rfl hx2;have hf_:=Jcl hx1;subst hl_;subst hf_;have q_:=Jbe.1 ‹_›;have q1_:=q_.len1;have q2_:=q_.len;have q3_:=q_.lastE;have q4_:=q_.fb;have q5_:=q_.lb;omega)) Jm
 refine Jq 3 20 (I x1.epoch) [(19,Pt b2 (o1 + 0 * 4))] (fun X=>?_)
 exact J6 20 2 (cs:=[I x1.epoch,U x1.root,U x1.prev,I x1.at_]) 0 (I x1.epoch) hc1 Jm
 refine Jq 7 24 (I ((l.length - 1:Nat):Int)) [(23,I (l.length:Int))] (fun X=>?_)
 exact JaI 24 (I (IntKind.i64.wrap ((l.length:Int) - 1))) (I ((l.length - 1:Nat):Int)) (by simp only [e1]) Jm
 refine Jq 8 25 (Pt b2 (o1 + (l.length - 1) * 4)) [(21,Sl (At b2 o1) l.length c_l),(24,I ((l.length - 1:Nat):Int))] (fun X=>?_)
 exact Jac (b:=b2) (off:=o1) (len:=l.length) (cap:=c_l) (ik:=.i64) 25 50 4 (l.length - 1) (by (have hl_:=Jb7 (l:=l) (k:=l.length - 1) rfl hx2;have hf_:=Jcl hx1;subst hl_;subst hf_;have q_:=Jbe.1 ‹_›;have q1_:=q_.len1;have q2_:=q_.len;have q3_:=q_.lastE;have q4_:=q_.fb;have q5_:=q_.lb;omega)) Jm
 refine Jq 10 27 (I x2.epoch) [(26,Pt b2 (o1 + (l.length - 1) * 4))] (fun X=>?_)
 exact J6 27 2 (cs:=[I x2.epoch,U x2.root,U x2.prev,I x2.at_]) 0 (I x2.epoch) hc2 Jm
 refine Ja (Je (Je (Jb ?_)))
 refine Jd [0,0,0,0] [(0,Sl (At b2 o1) l.length c_l),(1,I a),(2,I b),(9,I x1.epoch),(10,I x2.epoch),(31,Bo (decide (a > b)))] ?_
 refine Jay (decide (a > b)) (fun bb=>[(0,Sl (At b2 o1) l.length c_l),(1,I a),(2,I b),(9,I x1.epoch),(10,I x2.epoch),(31,Bo bb)]) [1,1,1,0] [0,0,0,0] (fun bb=>[(0,Sl (At b2 o1) l.length c_l),(1,I a),(2,I b),(9,I x1.epoch),(10,I x2.epoch),(35,Bo (bb || (decide (a < x1.epoch))))]) ?_
 refine Jd [0] [(0,Sl (At b2 o1) l.length c_l),(1,I a),(2,I b),(9,I x1.epoch),(10,I x2.epoch),(36,Bo ((decide (a > b)) || (decide (a < x1.epoch))))] ?_
 refine Jay ((decide (a > b)) || (decide (a < x1.epoch))) (fun bb=>[(0,Sl (At b2 o1) l.length c_l),(1,I a),(2,I b),(9,I x1.epoch),(10,I x2.epoch),(36,Bo bb)]) [1,1,1,0] [0,0,0,0] (fun bb=>[(0,Sl (At b2 o1) l.length c_l),(1,I a),(2,I b),(9,I x1.epoch),(40,Bo (bb || (decide (b > x2.epoch))))]) ?_
 refine Jc (Ja ?_)
 refine Jo (((decide (a > b)) || (decide (a < x1.epoch))) || (decide (b > x2.epoch))) (fun h2=>?_) (fun h2=>?_)
 try simp only [BB] at h2
 refine Jg [0,0] [(6,Sl none 0 0),(7,I 4)] (Jk (Jh ?_))
 have hf2:Jcz l a b = ([],4):=by
  unfold Jcz;(have hl_:=Jb7 (l:=l) (k:=l.length - 1) rfl hx2;have hf_:=Jcl hx1;subst hl_;subst hf_;rw [if_neg (by omega)];(rw [if_pos (by omega)];done))
 refine Jl [0,0] [Sl none 0 0,I 4] (JY [] (.cons _ .slnil) hl1 ?_)
 rw [hf2]
 try dsimp only
 exact ⟨none,0,rfl,(RS.nil' Jaz G1),rfl⟩
 try simp only [BB] at h2
 refine Jn (Ja (Je (Jb ?_)))
 refine Jd [0,0,0,0,0,0,0,0] [(41,Sl (At b2 o1) l.length c_l),(44,I (IntKind.i64.wrap (a - x1.epoch))),(48,I (IntKind.i64.wrap ((IntKind.i64.wrap (b - x1.epoch)) + 1)))] ?_
 have e2:IntKind.i64.wrap (a - x1.epoch) = a - x1.epoch:=IntWalk.i64_in _ (by (have hl_:=Jb7 (l:=l) (k:=l.length - 1) rfl hx2;have hf_:=Jcl hx1;subst hl_;subst hf_;have q_:=Jbe.1 ‹_›;have q1_:=q_.len1;have q2_:=q_.len;have q3_:=q_.lastE;have q4_:=q_.fb;have q5_:=q_.lb;omega))
 have e3:IntKind.i64.wrap (b - x1.epoch) = b - x1.epoch:=IntWalk.i64_in _ (by (have hl_:=Jb7 (l:=l) (k:=l.length - 1) rfl hx2;have hf_:=Jcl hx1;subst hl_;subst hf_;have q_:=Jbe.1 ‹_›;have q1_:=q_.len1;have q2_:=q_.len;have q3_:=q_.lastE;have q4_:=q_.fb;have q5_:=q_.lb;omega))
 have e4:IntKind.i64.wrap ((b - x1.epoch) + 1) = (b - x1.epoch) + 1:=IntWalk.i64_in _ (by (have hl_:=Jb7 (l:=l) (k:=l.length - 1) rfl hx2;have hf_:=Jcl hx1;subst hl_;subst hf_;have q_:=Jbe.1 ‹_›;have q1_:=q_.len1;have q2_:=q_.len;have q3_:=q_.lastE;have q4_:=q_.fb;have q5_:=q_.lb;omega))
 refine J1 (fr':=[(41,Sl (At b2 o1) l.length c_l),(44,I (a - x1.epoch)),(48,I ((b - x1.epoch) + 1))]) (L':=[[]]) (by simp only [e2,e3,e4]) (by rfl) ?_
 clear e4 e3 e2
 obtain ⟨kn1,hkn1⟩:∃ k_:Nat,a - x1.epoch = (k_:Int):=⟨(a - x1.epoch).toNat,by omega⟩
 have e5:a - x1.epoch = (kn1:Int):=hkn1
 refine Jd [] [(41,Sl (At b2 o1) l.length c_l),(44,I (a - x1.epoch)),(48,I ((b - x1.epoch) + 1))] ?_
 refine J1 (fr':=[(41,Sl (At b2 o1) l.length c_l),(44,I (kn1:Int)),(48,I ((b - x1.epoch) + 1))]) (L':=[[]]) (by (simp only [e5];done)) (by rfl) ?_
 obtain ⟨kn2,hkn2⟩:∃ k_:Nat,(b - x1.epoch) + 1 = (k_:Int):=⟨((b - x1.epoch) + 1).toNat,by omega⟩
 have e6:(b - x1.epoch) + 1 = (kn2:Int):=hkn2
 refine Jd [] [(41,Sl (At b2 o1) l.length c_l),(44,I (kn1:Int)),(48,I ((b - x1.epoch) + 1))] ?_
 refine J1 (fr':=[(41,Sl (At b2 o1) l.length c_l),(44,I (kn1:Int)),(48,I (kn2:Int))]) (L':=[[]]) (by (simp only [e6];done)) (by rfl) ?_
 obtain ⟨a1,c1,ea1,ec1,en1,eh1,hs2⟩:=RS.reslX (h_l.mono hl1) kn1 kn2 (by omega) (by (have hl_:=Jb7 (l:=l) (k:=l.length - 1) rfl hx2;have hf_:=Jcl hx1;subst hl_;subst hf_;have q_:=Jbe.1 ‹_›;have q1_:=q_.len1;have q2_:=q_.len;have q3_:=q_.lastE;have q4_:=q_.fb;have q5_:=q_.lb;omega))
 refine JcU (a:=At b2 o1) (len:=l.length) (cap:=c_l) 49 4 (some (I (kn1:Int))) (some (I (kn2:Int))) kn1 kn2 (.inr ⟨_,rfl⟩) (.inr ⟨_,rfl⟩) (by omega) ea1 ec1 en1 eh1 ?_
 refine JN 50 (Jez G1 a1 c1 ((l.take kn2).drop kn1) hs2) (fun v G2 L1 hl2 hp=>?_)
 obtain ⟨a2,c2,_,rfl,hr1,rfl⟩:=hp
 refine Jd [0,0] [(6,Sl a2 (((l.take kn2).drop kn1).length) c2),(7,I 0)] (Jc (Ja (Jk ?_)))
 refine Jcb (E:=Jaz) 0 hr1 (by exact (hs2).fit) (fun G3 hl3 hs3=>?_)
 have hf3:Jcz l a b = ((l.take kn2).drop kn1,0):=by
  unfold Jcz;(have hl_:=Jb7 (l:=l) (k:=l.length - 1) rfl hx2;have hf_:=Jcl hx1;subst hl_;subst hf_;rw [if_neg (by omega)];(rw [if_neg (by omega)];unfold cut;rw [show (a - (Jck l).epoch).toNat = kn1 by omega,show (b - (Jck l).epoch + 1).toNat = kn2 by omega];done))
 refine Jl [0,0] [Sl a2 (((l.take kn2).drop kn1).length) c2,I 0] (JY [] (.cons _ (.cons _ .slnil)) (Jt.le_trans (Jt.le_trans hl1 hl2) hl3) ?_)
 rw [hf3]
 try dsimp only
 exact ⟨a2,c2,rfl,hs3,rfl⟩
theorem Jh7 (G:Jt) (vs_h:List Value) (h:JS) (h_h:Jaz.R G vs_h h) (a_l:Option Addr) (c_l:Nat) (l:List JS) (h_l:RS Jaz G a_l c_l l) :Con Tryz.prog 203 #[.agg vs_h.toArray,Sl a_l l.length c_l] G [] (fun u G' L'=>u = .tuple #[Bo ((Jbu h l).1),I ((Jbu h l).2)]):=by
 obtain ⟨rfl,w1,w2,w3,w4⟩:=h_h
 refine JL Tryz.func203 24 [(0,.agg #[I h.epoch,U h.root,U h.prev,I h.at_]),(1,Sl a_l l.length c_l)] rfl (fun w0 G0=>?_)
 refine Je (Jb ?_)
 refine Ju 2 #[I h.epoch,U h.root,U h.prev,I h.at_] 50 (fun b1=>?_)
 refine Jd [0,0] [(1,Sl a_l l.length c_l),(2,Pt b1 0)] (Jc (Ja (Je (Jb ?_))))
 refine Jd [0] [(1,Sl a_l l.length c_l),(2,Pt b1 0),(7,Sl a_l l.length c_l)] ?_
 refine JaB 8 1 #[Sl a_l l.length c_l] 31 (fun b2=>?_)
 refine JbH (b:=b2) (o:=0) (cs:=[Sl a_l l.length c_l]) 0 (fun G1 hl1 hz1=>?_)
 have hs1:RS JiW G1 (At b2 0) 1 [l]:=RS.lit [[Sl a_l l.length c_l]] [l] ⟨⟨a_l,c_l,rfl,(h_l.mono hl1)⟩,trivial⟩ hz1 (Nat.le_of_ble_eq_true rfl) (Nat.le_of_ble_eq_true rfl)
 refine Ji 9 (I (JaH ([l]))) (Jf2 G1 (At b2 0) 1 ([l]) hs1) ?_
 refine Jd [0] [(1,Sl a_l l.length c_l),(2,Pt b1 0),(6,I (JaH ([l])))] (Jc (Ja (Je ?_)))
 refine Jg [0,0] [(1,Sl a_l l.length c_l),(2,Pt b1 0),(6,I (JaH ([l]))),(11,Bo (decide (JaH ([l]) = 0)))] ?_
 refine Jo (decide (JaH ([l]) = 0)) (fun h1=>?_) (fun h1=>?_)
 try simp only [BB] at h1
 refine Jb ?_
 refine Jd [4] [(1,Sl a_l l.length c_l),(2,Pt b1 0),(6,I (JaH ([l]))),(12,.agg #[I h.epoch,U h.root,U h.prev,I h.at_])] ?_
 refine Ji 13 (I (JC h)) (Jdn h G1) ?_
 refine Jd [0] [(1,Sl a_l l.length c_l),(2,Pt b1 0),(6,I (JC h))] (Jc (Ja (Je ?_)))
 refine Jg [0,0] [(1,Sl a_l l.length c_l),(2,Pt b1 0),(6,I (JC h)),(15,Bo (!decide (JC h = 0)))] ?_
 refine Jo (!decide (JC h = 0)) (fun h2=>?_) (fun h2=>?_)
 try simp only [BB] at h2
 refine Jg [0,0,0] [(4,Bo false),(5,I (JC h))] (Jk (Jh ?_))
 refine Jl [0,0] [Bo false,I (JC h)] (Jw hl1 ?_)
 have hf_:(Jbu h l) = (false,(JC h)):=by
  unfold Jbu;(simp_all;done)
 · (try rw [hf_]);(simp only [JM];done)
 try simp only [BB] at h2
 refine Jn (Ja (Je ?_))
 obtain ⟨b3,o1,rfl⟩:=RS.addr (h_l.mono hl1) (k:=0) (by (have q_:=Jbe.1 ‹_›;have q1_:=q_.len1;have q2_:=q_.len;have q3_:=q_.lastE;have q4_:=q_.fb;have q5_:=q_.lb;omega))
 obtain ⟨x1,hx1⟩:=Jb1 (l:=l) (k:=0) (by (have q_:=Jbe.1 ‹_›;have q1_:=q_.len1;have q2_:=q_.len;have q3_:=q_.lastE;have q4_:=q_.fb;have q5_:=q_.lb;omega))
 obtain ⟨_,⟨rfl,w5,w6,w7,w8⟩,hc1⟩:=RS.get (h_l.mono hl1) hx1
 refine Jau [4,5] ?_
 refine Jb6 [(0,.agg #[I h.epoch,U h.root,U h.prev,I h.at_]),(1,Sl (At b3 o1) l.length c_l),(2,Pt b3 (o1 + 0 * 4)),(3,.agg #[I x1.epoch,U x1.root,U x1.prev,I x1.at_])] ?_
 refine JZ [] [(0,4),(1,0)] [2,3] [4] (List.forall_mem_cons.2 ⟨?_,(List.forall_mem_cons.2 ⟨?_,List.forall_mem_nil _⟩)⟩) (List.forall_mem_cons.2 ⟨?_,List.forall_mem_nil _⟩)
 refine Jq 2 19 (Pt b3 (o1 + 0 * 4)) [(18,Sl (At b3 o1) l.length c_l)] (fun X=>?_)
 exact Jac (b:=b3) (off:=o1) (len:=l.length) (cap:=c_l) (ik:=.i64) 19 50 4 0 (by (have q_:=Jbe.1 ‹_›;have q1_:=q_.len1;have q2_:=q_.len;have q3_:=q_.lastE;have q4_:=q_.fb;have q5_:=q_.lb;omega)) Jm
 refine Jq 3 20 (.agg #[I x1.epoch,U x1.root,U x1.prev,I x1.at_]) [(19,Pt b3 (o1 + 0 * 4))] (fun X=>?_)
 exact J6 20 50 (cs:=[I x1.epoch,U x1.root,U x1.prev,I x1.at_]) 0 (.agg #[I x1.epoch,U x1.root,U x1.prev,I x1.at_]) hc1 Jm
 refine JP 4 [(17,.agg #[I h.epoch,U h.root,U h.prev,I h.at_]),(20,.agg #[I x1.epoch,U x1.root,U x1.prev,I x1.at_])] (fun X=>?_)
 refine JaB 21 2 #[I h.epoch,U h.root,U h.prev,I h.at_,I x1.epoch,U x1.root,U x1.prev,I x1.at_] 50 (fun b4=>?_)
 refine JU [(4,Sl (At b4 0) 2 2)] ?_
 refine JZ [0,1,2,3] [] [] [5] (List.forall_mem_nil _) (List.forall_mem_cons.2 ⟨?_,List.forall_mem_nil _⟩)
 refine JP 5 [(21,Sl (At b4 0) 2 2)] (fun X=>?_)
 refine JbH (b:=b4) (o:=0) (cs:=[I h.epoch,U h.root,U h.prev,I h.at_,I x1.epoch,U x1.root,U x1.prev,I x1.at_]) 0 (fun G2 hl2 hz2=>?_)
 have hs2:RS Jaz G2 (At b4 0) 2 [h,x1]:=RS.lit [[I h.epoch,U h.root,U h.prev,I h.at_],[I x1.epoch,U x1.root,U x1.prev,I x1.at_]] [h,x1] ⟨⟨rfl,w1,w2,w3,w4⟩,⟨⟨rfl,w5,w6,w7,w8⟩,trivial⟩⟩ hz2 (Nat.le_of_ble_eq_true rfl) (Nat.le_of_ble_eq_true rfl)
 refine Ji 22 (I (JbP ([h,x1]))) (Jgr G2 (At b4 0) 2 ([h,x1]) hs2) ?_
 refine JU [(5,I (JbP ([h,x1]))),(6,Bo (decide (JbP ([h,x1]) < 0))),(7,Bo (decide (JbP ([h,x1]) < 0))),(8,I 0)] ?_
 refine Jav [0,1,2,3] [(6,0),(7,0),(8,0)] [] [(4,Bo (decide (JbP ([h,x1]) < 0))),(5,I 0)] (List.forall_mem_nil _) ?_
 refine Ja (Jk ?_)
 refine Jl [0,0] [Bo (decide (JbP ([h,x1]) < 0)),I 0] (Jw (Jt.le_trans hl1 hl2) ?_)
 have hf_:(Jbu h l) = ((decide (JbP ([h,x1]) < 0)),0):=by
  unfold Jbu;(have hf_:=Jcl hx1;subst hf_;simp_all;done)
 · (try rw [hf_]);(simp only [JM];done)
 try simp only [BB] at h1
 refine Jn (Ja (Je ?_))
 refine Jg [0,0] [(1,Sl a_l l.length c_l),(2,Pt b1 0),(6,I (JaH ([l]))),(15,Bo (!decide (JaH ([l]) = 0)))] ?_
 refine Jo (!decide (JaH ([l]) = 0)) (fun h3=>?_) (fun h3=>?_)
 try simp only [BB] at h3
 refine Jg [0,0,0] [(4,Bo false),(5,I (JaH ([l])))] (Jk (Jh ?_))
 refine Jl [0,0] [Bo false,I (JaH ([l]))] (Jw hl1 ?_)
 have hf_:(Jbu h l) = (false,(JaH ([l]))):=by
  unfold Jbu;(simp_all;done)
 · (try rw [hf_]);(simp only [JM];done)
 try simp only [BB] at h3
 refine Jn (Ja (Je ?_))
 obtain ⟨b5,o2,rfl⟩:=RS.addr (h_l.mono hl1) (k:=0) (by omega)
 obtain ⟨x2,hx2⟩:=Jb1 (l:=l) (k:=0) (by omega)
 obtain ⟨_,⟨rfl,w9,w10,w11,w12⟩,hc2⟩:=RS.get (h_l.mono hl1) hx2
 refine Jau [4,5] ?_
 refine Jb6 [(0,.agg #[I h.epoch,U h.root,U h.prev,I h.at_]),(1,Sl (At b5 o2) l.length c_l),(2,Pt b5 (o2 + 0 * 4)),(3,.agg #[I x2.epoch,U x2.root,U x2.prev,I x2.at_])] ?_
 refine JZ [] [(0,4),(1,0)] [2,3] [4] (List.forall_mem_cons.2 ⟨?_,(List.forall_mem_cons.2 ⟨?_,List.forall_mem_nil _⟩)⟩) (List.forall_mem_cons.2 ⟨?_,List.forall_mem_nil _⟩)
 refine Jq 2 19 (Pt b5 (o2 + 0 * 4)) [(18,Sl (At b5 o2) l.length c_l)] (fun X=>?_)
 exact Jac (b:=b5) (off:=o2) (len:=l.length) (cap:=c_l) (ik:=.i64) 19 50 4 0 (by omega) Jm
 refine Jq 3 20 (.agg #[I x2.epoch,U x2.root,U x2.prev,I x2.at_]) [(19,Pt b5 (o2 + 0 * 4))] (fun X=>?_)
 exact J6 20 50 (cs:=[I x2.epoch,U x2.root,U x2.prev,I x2.at_]) 0 (.agg #[I x2.epoch,U x2.root,U x2.prev,I x2.at_]) hc2 Jm
 refine JP 4 [(17,.agg #[I h.epoch,U h.root,U h.prev,I h.at_]),(20,.agg #[I x2.epoch,U x2.root,U x2.prev,I x2.at_])] (fun X=>?_)
 refine JaB 21 2 #[I h.epoch,U h.root,U h.prev,I h.at_,I x2.epoch,U x2.root,U x2.prev,I x2.at_] 50 (fun b6=>?_)
 refine JU [(4,Sl (At b6 0) 2 2)] ?_
 refine JZ [0,1,2,3] [] [] [5] (List.forall_mem_nil _) (List.forall_mem_cons.2 ⟨?_,List.forall_mem_nil _⟩)
 refine JP 5 [(21,Sl (At b6 0) 2 2)] (fun X=>?_)
 refine JbH (b:=b6) (o:=0) (cs:=[I h.epoch,U h.root,U h.prev,I h.at_,I x2.epoch,U x2.root,U x2.prev,I x2.at_]) 0 (fun G3 hl3 hz3=>?_)
 have hs3:RS Jaz G3 (At b6 0) 2 [h,x2]:=RS.lit [[I h.epoch,U h.root,U h.prev,I h.at_],[I x2.epoch,U x2.root,U x2.prev,I x2.at_]] [h,x2] ⟨⟨rfl,w1,w2,w3,w4⟩,⟨⟨rfl,w9,w10,w11,w12⟩,trivial⟩⟩ hz3 (Nat.le_of_ble_eq_true rfl) (Nat.le_of_ble_eq_true rfl)
 refine Ji 22 (I (JbP ([h,x2]))) (Jgr G3 (At b6 0) 2 ([h,x2]) hs3) ?_
 refine JU [(5,I (JbP ([h,x2]))),(6,Bo (decide (JbP ([h,x2]) < 0))),(7,Bo (decide (JbP ([h,x2]) < 0))),(8,I 0)] ?_
 refine Jav [0,1,2,3] [(6,0),(7,0),(8,0)] [] [(4,Bo (decide (JbP ([h,x2]) < 0))),(5,I 0)] (List.forall_mem_nil _) ?_
 refine Ja (Jk ?_)
 refine Jl [0,0] [Bo (decide (JbP ([h,x2]) < 0)),I 0] (Jw (Jt.le_trans hl1 hl3) ?_)
 have hf_:(Jbu h l) = ((decide (JbP ([h,x2]) < 0)),0):=by
  unfold Jbu;(simp_all;done)
 · (try rw [hf_]);(simp only [JM];done)
end Go.Proofs.YtnnlpbjdignhaaaGreatDoor
