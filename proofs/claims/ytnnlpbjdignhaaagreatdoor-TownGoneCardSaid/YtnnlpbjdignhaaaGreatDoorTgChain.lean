import Derived.Test.YtnnlpbjdignhaaaGreatDoorTgHeadN
namespace Go.Proofs.YtnnlpbjdignhaaaGreatDoor
open Go.Tx
set_option linter.unusedVariables false
set_option linter.unusedSimpArgs false
def V3 (x y:JS):Bool:=decide (Jy x y.root y.at_=(y,0))
theorem JcN {x y:JS}:V3 x y=true ↔ (Jy x y.root y.at_).2=0∧(Jy x y.root y.at_).1.epoch=y.epoch∧(Jy x y.root y.at_).1.root=y.root∧(Jy x y.root y.at_).1.prev=y.prev∧(Jy x y.root y.at_).1.at_=y.at_:=by
 unfold V3
 rw [decide_eq_true_eq]
 constructor
 ·
  intro h;rw [h];simp
 ·
  rintro ⟨h1,h2⟩
  exact Prod.ext (Ja1.2 h2) h1
def lnk:List JS→Nat→Int
 | x::y::r,i=>if V3 x y then lnk (y::r) (i+1) else (i:Int)
 | _,_=>-1
def QT (l:List JS):Int:=lnk l 1
theorem JmG {l:List JS} {i:Nat} (h:l.length≤1):lnk l i=-1:=by
 match l,h with
 | [],_=>rfl
 | [_],_=>rfl
theorem Jlz {l:List JS} {i:Nat} {x y:JS} (hi:1≤i) (hx:l[i-1]? = some x) (hy:l[i]? = some y) (h:V3 x y=true):lnk (l.drop (i-1)) i=lnk (l.drop (i+1-1)) (i+1):=by
 obtain ⟨h1,rfl⟩:=List.getElem?_eq_some_iff.1 hx
 obtain ⟨h2,rfl⟩:=List.getElem?_eq_some_iff.1 hy
 rw [List.drop_eq_getElem_cons h1,show i-1+1=i by omega,show i+1-1=i by omega,List.drop_eq_getElem_cons h2]
 show (if V3 _ _=true then _ else _)=_
 rw [if_pos h]
theorem JlA {l:List JS} {i:Nat} {x y:JS} (hi:1≤i) (hx:l[i-1]? = some x) (hy:l[i]? = some y) (h:¬ V3 x y=true):lnk (l.drop (i-1)) i=(i:Int):=by
 obtain ⟨h1,rfl⟩:=List.getElem?_eq_some_iff.1 hx
 obtain ⟨h2,rfl⟩:=List.getElem?_eq_some_iff.1 hy
 rw [List.drop_eq_getElem_cons h1,show i-1+1=i by omega,List.drop_eq_getElem_cons h2]
 show (if V3 _ _=true then _ else _)=_
 rw [if_neg h]
theorem Jgf:∀ (l:List JS) (i:Nat),lnk l i<0 ↔ ∀ (k:Nat) x y,l[k]? = some x→l[k+1]? = some y→V3 x y=true
 | [],i=>by simp [lnk]
 | [a],i=>by simp [lnk]
 | a::b::r,i=>by
  have ih:=Jgf (b::r) (i+1)
  unfold lnk
  split
  ·
   rename_i h
   rw [ih]
   constructor
   ·
    intro hh k x y hx hy
    cases k with
    | zero=>simp at hx hy;subst hx hy;exact h
    | succ k=>exact hh k x y hx hy
   ·
    intro hh k x y hx hy
    exact hh (k+1) x y hx hy
  ·
   rename_i h
   constructor
   ·
    intro hh;omega
   ·
    intro hh;exact absurd (hh 0 a b rfl rfl) h
def Y7:List JS→Nat→Int×Int
 | [],_=>(0,0)
 | h::l,i=>if JE h=0 then Y7 l (i+1) else (JE h,(i:Int))
theorem Jhh {l:List JS} {i:Nat} {x:JS} (hx:l[i]? = some x) (h:JE x=0):Y7 (l.drop i) i=Y7 (l.drop (i+1)) (i+1):=by
 obtain ⟨h1,rfl⟩:=List.getElem?_eq_some_iff.1 hx
 rw [List.drop_eq_getElem_cons h1]
 show (if JE _=0 then _ else _)=_
 rw [if_pos h]
theorem Jkj {l:List JS} {i:Nat} {x:JS} (hx:l[i]? = some x) (h:¬ JE x=0):Y7 (l.drop i) i=(JE x,(i:Int)):=by
 obtain ⟨h1,rfl⟩:=List.getElem?_eq_some_iff.1 hx
 rw [List.drop_eq_getElem_cons h1]
 show (if JE _=0 then _ else _)=_
 rw [if_neg h]
theorem Jef:∀ (l:List JS) (i:Nat),(Y7 l i).1=0 ↔ ∀ h∈l,JE h=0
 | [],i=>by simp [Y7]
 | h::l,i=>by
  have ih:=Jef l (i+1)
  unfold Y7
  split
  ·
   rename_i e;rw [ih];simp [e]
  ·
   rename_i e;simp [e]
def Kc (l:List JS):Int×Int:=if l.length=0 then (5,0) else if 40<l.length then (2,0) else if (Y7 l 0).1 ≠ 0 then Y7 l 0 else if 0≤QT l then (8,QT l) else (0,0)
structure Wc (l:List JS):Prop where
 len1:1≤l.length
 len:l.length≤40
 ok:∀ h∈l,JE h=0
 lnk:∀ (k:Nat) x y,l[k]? = some x→l[k+1]? = some y→V3 x y=true
theorem KZ {l:List JS}:(Kc l).1=0 ↔ Wc l:=by
 unfold Kc
 have e1:=Jef l 0
 have e2:=Jgf l 1
 constructor
 ·
  intro h
  split at h
  ·
   cases h
  split at h
  ·
   cases h
  split at h
  ·
   contradiction
  split at h
  ·
   cases h
  ·
   rename_i h1 h2 h3 h4
   exact ⟨by omega,by omega,e1.1 (Decidable.not_not.1 h3),e2.1 (by unfold QT at h4;omega)⟩
 ·
  rintro ⟨h1,h2,h3,h4⟩
  rw [if_neg (by omega),if_neg (by omega),if_neg (by have:=e1.2 h3;omega),if_neg (by have:=e2.2 h4;unfold QT;omega)]
def KN:List (List JS)→Int
 | []=>0
 | l::r=>if (Kc l).1=0 then KN r else (Kc l).1
theorem JeJ {l:List (List JS)} {i:Nat} {x:List JS} (hx:l[i]? = some x) (h:(Kc x).1=0):KN (l.drop i)=KN (l.drop (i+1)):=by
 obtain ⟨h1,rfl⟩:=List.getElem?_eq_some_iff.1 hx
 rw [List.drop_eq_getElem_cons h1]
 show (if (Kc _).1=0 then _ else _)=_
 rw [if_pos h]
theorem Jhi {l:List (List JS)} {i:Nat} {x:List JS} (hx:l[i]? = some x) (h:¬ (Kc x).1=0):KN (l.drop i)=(Kc x).1:=by
 obtain ⟨h1,rfl⟩:=List.getElem?_eq_some_iff.1 hx
 rw [List.drop_eq_getElem_cons h1]
 show (if (Kc _).1=0 then _ else _)=_
 rw [if_neg h]
theorem Jca:∀ (l:List (List JS)),KN l=0 ↔ ∀ x∈l,Wc x
 | []=>by simp [KN]
 | a::l=>by
  have ih:=Jca l
  unfold KN
  split
  ·
   rename_i e;rw [ih];simp [KZ.1 e]
  ·
   rename_i e;constructor
   ·
    intro h;exact absurd h e
   ·
    intro h;exact absurd (KZ.2 (h a (by simp))) e
theorem Qc {l:List JS}:KN [l]=0 ↔ Wc l:=by rw [Jca];simp
def WC (l:List JS):JS:=l[l.length-1]?.getD W0
def QX (l:List JS):JS:=l[0]?.getD W0
theorem Wk {l:List JS} {k:Nat} {x:JS} (hk:k=l.length-1) (h:l[k]? = some x):x=WC l:=by unfold WC;rw [← hk,h];rfl
theorem WB {l:List JS} {x:JS} (h:l[0]? = some x):x=QX l:=by unfold QX;rw [h];rfl
def Zy (l:List JS) (root at_:Int):Int:=if KN [l] ≠ 0 then KN [l] else if (l.length:Int)=40 then 7 else (Jy (WC l) root at_).2
def Qf (l:List JS) (root at_:Int):List JS×Int:=if Zy l root at_ ≠ 0 then ([],Zy l root at_) else (l++[(Jy (WC l) root at_).1],0)
def cut (l:List JS) (a b:Int):List JS:=(l.take (b-(QX l).epoch+1).toNat).drop (a-(QX l).epoch).toNat
def Wp (l:List JS) (a b:Int):List JS×Int:=if KN [l] ≠ 0 then ([],KN [l]) else if b<a∨a<(QX l).epoch∨(WC l).epoch<b then ([],4) else (cut l a b,0)
def Qu (h:JS) (l:List JS):Bool×Int:=if KN [l] ≠ 0 then (false,KN [l]) else if JE h ≠ 0 then (false,JE h) else (decide (QT [h,QX l]<0),0)
theorem Wc.first {l:List JS} (h:Wc l):l[0]? = some (QX l):=by
 have:=h.len1
 have e:l[0]? = some (l[0]'(by omega)):=List.getElem?_eq_getElem (by omega)
 rw [e];unfold QX;rw [e];rfl
theorem Wc.last {l:List JS} (h:Wc l):l[l.length-1]? = some (WC l):=by
 have:=h.len1
 have e:l[l.length-1]? = some (l[l.length-1]'(by omega)):=List.getElem?_eq_getElem (by omega)
 rw [e];unfold WC;rw [e];rfl
theorem Jhj {x y:JS} (h:V3 x y=true):y.epoch=x.epoch+1:=by
 unfold V3 at h
 rw [decide_eq_true_eq] at h
 have h0:(Jy x y.root y.at_).2=0:=by rw [h]
 have:=(V1 h0).2.2.2.1
 rw [h] at this
 have:=congrArg (fun p=>p.1.epoch) this
 simpa using this
theorem Wc.epoch {l:List JS} (h:Wc l):∀ (k:Nat) x,l[k]? = some x→x.epoch=(QX l).epoch+k
 | 0,x,hx=>by rw [h.first] at hx;rw [← Option.some.inj hx];simp
 | k+1,x,hx=>by
  have hk:=(List.getElem?_eq_some_iff.1 hx).1
  have e:l[k]? = some (l[k]'(by omega)):=List.getElem?_eq_getElem (by omega)
  have:=h.epoch k _ e
  have:=Jhj (h.lnk k _ _ e hx)
  omega
theorem Wc.lastE {l:List JS} (h:Wc l):(WC l).epoch=(QX l).epoch+l.length-1:=by
 have:=h.epoch _ _ h.last
 have:=h.len1
 omega
theorem Wc.fb {l:List JS} (h:Wc l):0≤(QX l).epoch∧(QX l).epoch≤1000000:=by
 have:=W8 (h.ok _ (List.mem_of_getElem? h.first));omega
theorem Wc.lb {l:List JS} (h:Wc l):0≤(WC l).epoch∧(WC l).epoch≤1000000:=by
 have:=W8 (h.ok _ (List.mem_of_getElem? h.last));omega
theorem Wc.sub {l:List JS} (h:Wc l) {a b:Nat} (hab:a<b) (hb:b≤l.length):Wc ((l.take b).drop a):=by
 refine ⟨by simp;omega,by simp;have:=h.len;omega,fun x hx=>h.ok x (List.mem_of_mem_take (List.mem_of_mem_drop hx)),fun k x y hx hy=>?_⟩
 rw [List.getElem?_drop,List.getElem?_take] at hx hy
 have h1:a+k<b:=by apply Classical.byContradiction;intro hc;rw [if_neg hc] at hx;cases hx
 have h2:a+(k+1)<b:=by apply Classical.byContradiction;intro hc;rw [if_neg hc] at hy;cases hy
 rw [if_pos h1] at hx
 rw [if_pos h2] at hy
 exact h.lnk (a+k) x y hx hy
theorem JaH {l:List JS} {a b:Int} (h:Wc l) (h1:a≤b) (h2:(QX l).epoch≤a) (h3:b≤(WC l).epoch):Wp l a b=(cut l a b,0):=by
 unfold Wp
 rw [if_neg (by have:=Qc.2 h;omega),if_neg (by omega)]
theorem cut_ok {l:List JS} {a b:Int} (h:Wc l) (h1:a≤b) (h2:(QX l).epoch≤a) (h3:b≤(WC l).epoch):Wc (cut l a b)∧(cut l a b).length=b-a+1∧(cut l a b).length≤l.length∧(QX (cut l a b)).epoch=a∧(WC (cut l a b)).epoch=b:=by
 have hl:=h.lastE
 have hs:Wc (cut l a b):=h.sub (by omega) (by omega)
 have hlen:((cut l a b).length:Int)=b-a+1:=by unfold cut;simp;omega
 have hf:(QX (cut l a b)).epoch=a:=by
  have e:=hs.first
  have e2:(cut l a b)[0]? = l[(a-(QX l).epoch).toNat]?:=by
   unfold cut;rw [List.getElem?_drop,List.getElem?_take,if_pos (by omega)];simp
  rw [e2] at e
  have:=h.epoch _ _ e
  omega
 refine ⟨hs,hlen,by omega,hf,?_⟩
 rw [hs.lastE,hf];omega
theorem Jcb {l:List JS} {r t:Int} (h:(Qf l r t).2=0):Wc l∧l.length<40∧(Jy (WC l) r t).2=0∧Qf l r t=(l++[(Jy (WC l) r t).1],0):=by
 unfold Qf at h ⊢
 split at h
 ·
  contradiction
 ·
  rename_i h1
  rw [if_neg h1]
  unfold Zy at h1
  by_cases e1:KN [l]=0
  ·
   rw [if_neg (by omega)] at h1
   have hc:=Qc.1 e1
   by_cases e2:(l.length:Int)=40
   ·
    rw [if_pos e2] at h1;omega
   ·
    rw [if_neg e2] at h1
    exact ⟨hc,by have:=hc.len;omega,Decidable.not_not.1 h1,rfl⟩
  ·
   rw [if_pos e1] at h1;omega
theorem JeK {l:List JS} {r t:Int} (h:¬ (Qf l r t).2=0):(Qf l r t).1=[]:=by
 revert h;unfold Qf;split <;> simp
theorem Wc.snoc {l:List JS} (h:Wc l) (hl:l.length<40) {n:JS} (hn:JE n=0) (hk:V3 (WC l) n=true):Wc (l++[n]):=by
 refine ⟨by simp,by simp;omega,fun x hx=>?_,fun k x y hx hy=>?_⟩
 ·
  rcases List.mem_append.1 hx with hx | hx
  ·
   exact h.ok x hx
  ·
   rw [List.mem_singleton.1 hx];exact hn
 ·
  by_cases e:k+1<l.length
  ·
   rw [List.getElem?_append_left (by omega)] at hx hy
   exact h.lnk k x y hx hy
  ·
   have hy1:=(List.getElem?_eq_some_iff.1 hy).1
   simp at hy1
   have e2:k=l.length-1:=by have:=h.len1;omega
   have:=h.len1
   rw [List.getElem?_append_left (by omega),e2,h.last] at hx
   rw [List.getElem?_append_right (by omega),show k+1-l.length=0 by omega] at hy
   simp at hy
   rw [← Option.some.inj hx,← hy];exact hk
theorem Jik {x:JS} {r t:Int} (h:(Jy x r t).2=0):V3 x (Jy x r t).1=true∧JE (Jy x r t).1=0:=by
 obtain ⟨h1,h2,h3,h4,h5⟩:=V1 h
 have e1:(Jy x r t).1.root=r:=by rw [h4]
 have e2:(Jy x r t).1.at_=t:=by rw [h4]
 refine ⟨?_,by rw [h4];exact h5⟩
 unfold V3
 rw [decide_eq_true_eq,e1,e2]
 exact Prod.ext rfl h
theorem ZP {x:JS} {r t:Int} (hr:0≤r) (h:(Jy x r t).2=0):(0≤(Jy x r t).1.epoch∧(Jy x r t).1.epoch≤1000000)∧(0≤(Jy x r t).1.root∧(Jy x r t).1.root<2305843009213693951)∧(0≤(Jy x r t).1.prev∧(Jy x r t).1.prev<2305843009213693951)∧0≤(Jy x r t).1.at_∧(Jy x r t).1.at_≤1000000000:=by
 obtain ⟨h1,h2,h3,h4,h5⟩:=V1 h
 have:=W8 h5
 have:=Qz (Vc x)
 rw [h4]
 simp only at *
 omega
theorem Ja8 (G:Jt) (a_l:Option Addr) (c_l:Nat) (l:List JS) (h_l:RS KE G a_l c_l l) :QI Tryz.prog 77 #[Sl a_l l.length c_l] G [] (fun u G' L'=>u=I (QT l)):=by
 refine JK Tryz.func77 42 [(0,Sl a_l l.length c_l)] rfl (fun w0 G0=>?_)
 refine Jg [0] [(0,Sl a_l l.length c_l)] (Je (Jg [0] [(0,Sl a_l l.length c_l),(3,I 1)] (Jz ?_)))
 have hlm_h_l:l.length≤9223372036854775807:=Nat.le_trans (h_l).le (h_l).max
 refine Qe (σ:=Nat) (fun q_=>(1≤q_∧(q_≤l.length∨q_=1))∧(QT l=lnk (l.drop (q_-1)) q_)) (fun q_=>[(0,Sl a_l l.length c_l),(3,I (q_:Int))]) (fun q_=>G) (fun q_=>[]) (fun q_=>l.length-q_) 1 ⟨⟨Nat.le_refl _,.inr rfl⟩,rfl⟩ (fun q_ hs=>?_)
 revert hs;revert q_;intro i hs
 obtain ⟨hi,hn⟩:=hs
 refine KP (fr':=[(0,Sl a_l l.length c_l),(3,I (i:Int))]) (L':=[]) rfl rfl (Je (Jg [0,0,0,0] [(0,Sl a_l l.length c_l),(3,I (i:Int)),(9,Bo (decide ((i:Int)<(l.length:Int))))] (Jo (decide ((i:Int)<(l.length:Int))) (fun h1=>?_) (fun h1=>?_))))
 try simp only [BB] at h1
 refine Jn (Ja (Je (Jz (Je ?_))))
 have e1:IntKind.i64.wrap ((i:Int)-1)=((i-1:Nat):Int):=(IntWalk.i64_in _ (by omega)).trans (show (i:Int)-1=((i-1:Nat):Int) by omega)
 obtain ⟨b1,o1,rfl⟩:=RS.addr h_l (k:=i-1) (by omega)
 obtain ⟨x1,hx1⟩:=Wj (l:=l) (k:=i-1) (by omega)
 obtain ⟨_,⟨rfl,w1,w2,w3,w4⟩,hc1⟩:=RS.get h_l hx1
 obtain ⟨x2,hx2⟩:=Wj (l:=l) (k:=i) (by omega)
 obtain ⟨_,⟨rfl,_,w6,_,w8⟩,hc2⟩:=RS.get h_l hx2
 refine KA [19,20] (Ws [(0,Sl (At b1 o1) l.length c_l),(1,I (i:Int)),(2,I ((i-1:Nat):Int)),(3,Pt b1 (o1+(i-1)*4)),(4,.agg #[I x1.epoch,U x1.root,U x1.prev,I x1.at_]),(5,Sl (At b1 o1) l.length c_l),(6,I (i:Int)),(7,Pt b1 (o1+i*4)),(8,Pt b1 (o1+i*4+1)),(9,U x2.root),(10,Sl (At b1 o1) l.length c_l),(11,I (i:Int)),(12,Pt b1 (o1+i*4)),(13,Pt b1 (o1+i*4+3)),(14,I x2.at_),(15,.tuple #[(YJ (Jy x1 x2.root x2.at_).1),I ((Jy x1 x2.root x2.at_).2)]),(16,.tuple #[(YJ (Jy x1 x2.root x2.at_).1),I ((Jy x1 x2.root x2.at_).2)]),(17,(YJ (Jy x1 x2.root x2.at_).1)),(18,I ((Jy x1 x2.root x2.at_).2))] (J2 [] [(0,0),(1,0),(5,0),(6,0),(8,0),(10,0),(11,0),(13,0),(16,0),(17,0),(18,0)] [2,3,4,7,9,12,14,15] [19] (List.forall_mem_cons.2 ⟨?_,(List.forall_mem_cons.2 ⟨?_,(List.forall_mem_cons.2 ⟨?_,(List.forall_mem_cons.2 ⟨?_,(List.forall_mem_cons.2 ⟨?_,(List.forall_mem_cons.2 ⟨?_,(List.forall_mem_cons.2 ⟨?_,(List.forall_mem_cons.2 ⟨?_,List.forall_mem_nil _⟩)⟩)⟩)⟩)⟩)⟩)⟩)⟩) (List.forall_mem_cons.2 ⟨?_,List.forall_mem_nil _⟩)))
 refine Jr 2 15 (I ((i-1:Nat):Int)) [(14,I (i:Int))] (fun X=>?_)
 exact K7 15 (I (IntKind.i64.wrap ((i:Int)-1))) (I ((i-1:Nat):Int)) (by simp only [e1]) Jp
 refine Jr 3 16 (Pt b1 (o1+(i-1)*4)) [(13,Sl (At b1 o1) l.length c_l),(15,I ((i-1:Nat):Int))] (fun X=>?_)
 exact Ki (b:=b1) (off:=o1) (len:=l.length) (cap:=c_l) (ik:=.i64) 16 50 4 (i-1) (by omega) Jp
 refine Jr 4 17 (.agg #[I x1.epoch,U x1.root,U x1.prev,I x1.at_]) [(16,Pt b1 (o1+(i-1)*4))] (fun X=>?_)
 exact Ka 17 50 (cs:=[I x1.epoch,U x1.root,U x1.prev,I x1.at_]) 0 (.agg #[I x1.epoch,U x1.root,U x1.prev,I x1.at_]) hc1 Jp
 refine Jr 7 20 (Pt b1 (o1+i*4)) [(18,Sl (At b1 o1) l.length c_l),(19,I (i:Int))] (fun X=>?_)
 exact Ki (b:=b1) (off:=o1) (len:=l.length) (cap:=c_l) (ik:=.i64) 20 50 4 i (by omega) Jp
 refine Jr 9 22 (U x2.root) [(21,Pt b1 (o1+i*4+1))] (fun X=>?_)
 exact Ka 22 48 (cs:=[I x2.epoch,U x2.root,U x2.prev,I x2.at_]) 1 (U x2.root) hc2 Jp
 refine Jr 12 25 (Pt b1 (o1+i*4)) [(23,Sl (At b1 o1) l.length c_l),(24,I (i:Int))] (fun X=>?_)
 exact Ki (b:=b1) (off:=o1) (len:=l.length) (cap:=c_l) (ik:=.i64) 25 50 4 i (by omega) Jp
 refine Jr 14 27 (I x2.at_) [(26,Pt b1 (o1+i*4+3))] (fun X=>?_)
 exact Ka 27 2 (cs:=[I x2.epoch,U x2.root,U x2.prev,I x2.at_]) 3 (I x2.at_) hc2 Jp
 refine Jr 15 28 (.tuple #[(YJ (Jy x1 x2.root x2.at_).1),I ((Jy x1 x2.root x2.at_).2)]) [(17,.agg #[I x1.epoch,U x1.root,U x1.prev,I x1.at_]),(22,U x2.root),(27,I x2.at_)] (fun X=>?_)
 exact Ji 28 (.tuple #[(YJ (Jy x1 x2.root x2.at_).1),I ((Jy x1 x2.root x2.at_).2)]) (JaA G [I x1.epoch,U x1.root,U x1.prev,I x1.at_] x1 (⟨rfl,w1,w2,w3,w4⟩) x2.root w6 x2.at_ w8) Jp
 refine JT 19 [] (fun X=>?_)
 refine Ju 4 #[I 0,U 0,U 0,I 0] 50 (fun b2=>?_)
 have e2:IntKind.i64.wrap ((i:Int)-1)=((i-1:Nat):Int):=(IntWalk.i64_in _ (by omega)).trans (show (i:Int)-1=((i-1:Nat):Int) by omega)
 refine JX [(19,Pt b2 0)] (J2 [] [(0,0),(1,0),(5,0),(6,0),(8,0),(10,0),(11,0),(13,0),(16,0),(17,0),(18,0)] [2,3,4,7,9,12,14,15] [20] (List.forall_mem_cons.2 ⟨?_,(List.forall_mem_cons.2 ⟨?_,(List.forall_mem_cons.2 ⟨?_,(List.forall_mem_cons.2 ⟨?_,(List.forall_mem_cons.2 ⟨?_,(List.forall_mem_cons.2 ⟨?_,(List.forall_mem_cons.2 ⟨?_,(List.forall_mem_cons.2 ⟨?_,List.forall_mem_nil _⟩)⟩)⟩)⟩)⟩)⟩)⟩)⟩) (List.forall_mem_cons.2 ⟨?_,List.forall_mem_nil _⟩))
 refine Jr 2 15 (I ((i-1:Nat):Int)) [(14,I (i:Int))] (fun X=>?_)
 exact K7 15 (I (IntKind.i64.wrap ((i:Int)-1))) (I ((i-1:Nat):Int)) (by simp only [e2]) Jp
 refine Jr 3 16 (Pt b1 (o1+(i-1)*4)) [(13,Sl (At b1 o1) l.length c_l),(15,I ((i-1:Nat):Int))] (fun X=>?_)
 exact Ki (b:=b1) (off:=o1) (len:=l.length) (cap:=c_l) (ik:=.i64) 16 50 4 (i-1) (by omega) Jp
 refine Jr 4 17 (.agg #[I x1.epoch,U x1.root,U x1.prev,I x1.at_]) [(16,Pt b1 (o1+(i-1)*4))] (fun X=>?_)
 exact Ka 17 50 (cs:=[I x1.epoch,U x1.root,U x1.prev,I x1.at_]) 0 (.agg #[I x1.epoch,U x1.root,U x1.prev,I x1.at_]) hc1 Jp
 refine Jr 7 20 (Pt b1 (o1+i*4)) [(18,Sl (At b1 o1) l.length c_l),(19,I (i:Int))] (fun X=>?_)
 exact Ki (b:=b1) (off:=o1) (len:=l.length) (cap:=c_l) (ik:=.i64) 20 50 4 i (by omega) Jp
 refine Jr 9 22 (U x2.root) [(21,Pt b1 (o1+i*4+1))] (fun X=>?_)
 exact Ka 22 48 (cs:=[I x2.epoch,U x2.root,U x2.prev,I x2.at_]) 1 (U x2.root) hc2 Jp
 refine Jr 12 25 (Pt b1 (o1+i*4)) [(23,Sl (At b1 o1) l.length c_l),(24,I (i:Int))] (fun X=>?_)
 exact Ki (b:=b1) (off:=o1) (len:=l.length) (cap:=c_l) (ik:=.i64) 25 50 4 i (by omega) Jp
 refine Jr 14 27 (I x2.at_) [(26,Pt b1 (o1+i*4+3))] (fun X=>?_)
 exact Ka 27 2 (cs:=[I x2.epoch,U x2.root,U x2.prev,I x2.at_]) 3 (I x2.at_) hc2 Jp
 refine Jr 15 28 (.tuple #[(YJ (Jy x1 x2.root x2.at_).1),I ((Jy x1 x2.root x2.at_).2)]) [(17,.agg #[I x1.epoch,U x1.root,U x1.prev,I x1.at_]),(22,U x2.root),(27,I x2.at_)] (fun X=>?_)
 exact Ji 28 (.tuple #[(YJ (Jy x1 x2.root x2.at_).1),I ((Jy x1 x2.root x2.at_).2)]) (JaA G [I x1.epoch,U x1.root,U x1.prev,I x1.at_] x1 (⟨rfl,w1,w2,w3,w4⟩) x2.root w6 x2.at_ w8) Jp
 refine JT 20 [(4,Pt b2 0),(29,(YJ (Jy x1 x2.root x2.at_).1))] (fun X=>?_)
 refine K3 0 [[Sg b2 0 (JaZ (Jy x1 x2.root x2.at_).1)]] (Kq [(21,I ((Jy x1 x2.root x2.at_).2))] (Kz [0,1,2,3,4,5,6,7,8,9,10,11,12,13,14,15,16,17] [(18,0),(21,0)] [] [(0,Sl (At b1 o1) l.length c_l),(3,I (i:Int)),(4,Pt b2 0),(5,I ((Jy x1 x2.root x2.at_).2))] (List.forall_mem_nil _) (Ja (Je ?_))))
 rcases Bool.eq_false_or_eq_true (!decide ((Jy x1 x2.root x2.at_).2=0)) with h2 | h2
 have h2d:=h2
 try simp only [BB] at h2d
 refine KA [] (Ws [(0,I ((Jy x1 x2.root x2.at_).2)),(1,Bo true),(2,Bo true),(3,undef),(4,undef),(5,undef),(6,undef),(7,undef),(8,undef),(9,Bo true)] (Kz [] [(0,0),(2,0),(3,1),(4,1),(5,1),(6,1),(7,1),(8,1),(9,0)] [1] [(0,Sl (At b1 o1) l.length c_l),(3,I (i:Int)),(40,Bo true)] (List.forall_mem_cons.2 ⟨?_,List.forall_mem_nil _⟩) ?_))
 refine Jr 1 32 (Bo true) [(31,I ((Jy x1 x2.root x2.at_).2))] (fun X=>?_)
 exact K7 32 (Bo (!decide ((Jy x1 x2.root x2.at_).2=0))) (Bo true) (by rw [h2]) Jp
 refine Ja (JZ (Jg [0,0] [(2,I (i:Int))] (Jk (Js (Jh (QD (Js (Jh (Jl [0] [I (i:Int)] (Jv (Jt.le_refl _) ?_))))))))))
 have hf_:(QT l)=(i:Int):=by
  rw [hn];exact JlA (by omega) hx1 hx2 (by rw [JcN];simp_all)
 · (try rw [hf_]);(simp only [JM];done)
 have h2d:=h2
 try simp only [BB] at h2d
 refine KA [] (Ws [(0,I ((Jy x1 x2.root x2.at_).2)),(1,Bo false),(2,Bo false),(3,(YJ (Jy x1 x2.root x2.at_).1)),(4,Sl (At b1 o1) l.length c_l),(5,I (i:Int)),(6,Pt b1 (o1+i*4)),(7,.agg #[I x2.epoch,U x2.root,U x2.prev,I x2.at_]),(8,Bo (!(decide (((Jy x1 x2.root x2.at_).1).epoch=x2.epoch) && decide (((Jy x1 x2.root x2.at_).1).root=x2.root) && decide (((Jy x1 x2.root x2.at_).1).prev=x2.prev) && decide (((Jy x1 x2.root x2.at_).1).at_=x2.at_)))),(9,Bo (!(decide (((Jy x1 x2.root x2.at_).1).epoch=x2.epoch) && decide (((Jy x1 x2.root x2.at_).1).root=x2.root) && decide (((Jy x1 x2.root x2.at_).1).prev=x2.prev) && decide (((Jy x1 x2.root x2.at_).1).at_=x2.at_))))] (Kz [] [(0,0),(2,0),(3,2),(4,0),(5,0),(9,0)] [1,6,7,8] [(0,Sl (At b1 o1) l.length c_l),(3,I (i:Int)),(40,Bo (!(decide (((Jy x1 x2.root x2.at_).1).epoch=x2.epoch) && decide (((Jy x1 x2.root x2.at_).1).root=x2.root) && decide (((Jy x1 x2.root x2.at_).1).prev=x2.prev) && decide (((Jy x1 x2.root x2.at_).1).at_=x2.at_))))] (List.forall_mem_cons.2 ⟨?_,(List.forall_mem_cons.2 ⟨?_,(List.forall_mem_cons.2 ⟨?_,(List.forall_mem_cons.2 ⟨?_,List.forall_mem_nil _⟩)⟩)⟩)⟩) ?_))
 refine Jr 1 32 (Bo false) [(31,I ((Jy x1 x2.root x2.at_).2))] (fun X=>?_)
 exact K7 32 (Bo (!decide ((Jy x1 x2.root x2.at_).2=0))) (Bo false) (by rw [h2]) Jp
 refine Jr 6 37 (Pt b1 (o1+i*4)) [(33,Bo false),(35,Sl (At b1 o1) l.length c_l),(36,I (i:Int))] (fun X=>?_)
 exact Ki (b:=b1) (off:=o1) (len:=l.length) (cap:=c_l) (ik:=.i64) 37 50 4 i (by omega) Jp
 refine Jr 7 38 (.agg #[I x2.epoch,U x2.root,U x2.prev,I x2.at_]) [(33,Bo false),(37,Pt b1 (o1+i*4))] (fun X=>?_)
 exact Ka 38 50 (cs:=[I x2.epoch,U x2.root,U x2.prev,I x2.at_]) 0 (.agg #[I x2.epoch,U x2.root,U x2.prev,I x2.at_]) hc2 Jp
 refine Jr 8 39 (Bo (!(decide (((Jy x1 x2.root x2.at_).1).epoch=x2.epoch) && decide (((Jy x1 x2.root x2.at_).1).root=x2.root) && decide (((Jy x1 x2.root x2.at_).1).prev=x2.prev) && decide (((Jy x1 x2.root x2.at_).1).at_=x2.at_)))) [(33,Bo false),(34,(YJ (Jy x1 x2.root x2.at_).1)),(38,.agg #[I x2.epoch,U x2.root,U x2.prev,I x2.at_])] (fun X=>?_)
 exact JbY 39 (Bo (!(decide (((Jy x1 x2.root x2.at_).1).epoch=x2.epoch) && (decide (((Jy x1 x2.root x2.at_).1).root=x2.root) && (decide (((Jy x1 x2.root x2.at_).1).prev=x2.prev) && (decide (((Jy x1 x2.root x2.at_).1).at_=x2.at_) && true)))))) (Bo (!(decide (((Jy x1 x2.root x2.at_).1).epoch=x2.epoch) && decide (((Jy x1 x2.root x2.at_).1).root=x2.root) && decide (((Jy x1 x2.root x2.at_).1).prev=x2.prev) && decide (((Jy x1 x2.root x2.at_).1).at_=x2.at_)))) (by simp [Zc,Bool.and_assoc]) Jp
 refine Ja (Jo (!(decide (((Jy x1 x2.root x2.at_).1).epoch=x2.epoch) && decide (((Jy x1 x2.root x2.at_).1).root=x2.root) && decide (((Jy x1 x2.root x2.at_).1).prev=x2.prev) && decide (((Jy x1 x2.root x2.at_).1).at_=x2.at_))) (fun h3=>?_) (fun h3=>?_))
 try simp only [BB] at h3
 refine Jg [0,0] [(2,I (i:Int))] (Jk (Js (Jh (QD (Js (Jh (Jl [0] [I (i:Int)] (Jv (Jt.le_refl _) ?_))))))))
 have hf_:(QT l)=(i:Int):=by
  rw [hn];exact JlA (by omega) hx1 hx2 (by rw [JcN];simp_all)
 · (try rw [hf_]);(simp only [JM];done)
 try simp only [BB] at h3
 refine Jn (JN (Ja (Jb (Jd [0,0,0] [(0,Sl (At b1 o1) l.length c_l),(3,I (IntKind.i64.wrap ((i:Int)+1)))] ?_))))
 have e3:IntKind.i64.wrap ((i:Int)+1)=(i:Int)+1:=IntWalk.i64_in _ (by omega)
 refine J4 (fr':=[(0,Sl (At b1 o1) l.length c_l),(3,I ((i:Int)+1))]) (L':=[[Sg b2 0 [I (((Jy x1 x2.root x2.at_).1).epoch),U (((Jy x1 x2.root x2.at_).1).root),U (((Jy x1 x2.root x2.at_).1).prev),I (((Jy x1 x2.root x2.at_).1).at_)]]]) (by simp only [JaZ,YJ,e3];first | done | rfl) (by rfl) ?_
 clear e3
 exact Jc (Q4 [] (.cons _ .slnil) (Qh (i+1) ⟨⟨by (try dsimp only);omega,.inl (by (try dsimp only);omega)⟩,(by rw [hn];exact Jlz (by omega) hx1 hx2 (JcN.2 (by simp_all)))⟩ (by (try dsimp only);omega)))
 try simp only [BB] at h1
 refine K2 (J3 (Kf (JV (Ja (Jg [0] [(2,I (-1))] (Jk (Jl [0] [I (-1)] (Jv (Jt.le_refl _) ?_))))))))
 have hf_:(QT l)=(-1):=by
  rw [hn];exact JmG (by simp;omega)
 · (try rw [hf_]);(simp only [JM];done)
theorem VQ (G:Jt) (a_l:Option Addr) (c_l:Nat) (l:List JS) (h_l:RS KE G a_l c_l l) :QI Tryz.prog 36 #[Sl a_l l.length c_l] G [] (fun u G' L'=>u=.tuple #[I ((Kc l).1),I ((Kc l).2)]):=by
 refine JK Tryz.func36 35 [(0,Sl a_l l.length c_l)] rfl (fun w0 G0=>?_)
 refine Jg [0,0] [(0,Sl a_l l.length c_l)] (Je (Jz (Jg [0,0,0,0] [(0,Sl a_l l.length c_l),(8,Bo (decide ((l.length:Int)=0)))] (Jo (decide ((l.length:Int)=0)) (fun h1=>?_) (fun h1=>?_)))))
 try simp only [BB] at h1
 refine Jg [0,0] [(2,I 5),(3,I 0)] (Jk (Js (Jh (Jl [0,0] [I 5,I 0] (Jv (Jt.le_refl _) ?_)))))
 have hf_:(Kc l)=(5,0):=by
  unfold Kc;(rw [if_pos (by omega)];done)
 · (try rw [hf_]);(simp only [JM];done)
 try simp only [BB] at h1
 refine Jg [0,0,0,0] [(0,Sl a_l l.length c_l),(12,Bo (decide ((l.length:Int) > 40)))] (Jo (decide ((l.length:Int) > 40)) (fun h2=>?_) (fun h2=>?_))
 try simp only [BB] at h2
 refine Jg [0,0] [(2,I 2),(3,I 0)] (Jk (Js (Jh (Jl [0,0] [I 2,I 0] (Jv (Jt.le_refl _) ?_)))))
 have hf_:(Kc l)=(2,0):=by
  unfold Kc;(rw [if_neg (by omega),if_pos (by omega)];done)
 · (try rw [hf_]);(simp only [JM];done)
 try simp only [BB] at h2
 refine Jn (JN (Ja (Je (Jg [0,0,0] [(0,Sl a_l l.length c_l),(16,Sl a_l l.length c_l),(17,I (l.length:Int)),(18,I 0)] (Jz ?_)))))
 have hlm_h_l:l.length≤9223372036854775807:=Nat.le_trans (h_l).le (h_l).max
 refine Qe (σ:=Nat) (fun q_=>(q_≤l.length)∧(Y7 l 0=Y7 (l.drop q_) q_)) (fun q_=>[(0,Sl a_l l.length c_l),(16,Sl a_l l.length c_l),(17,I (l.length:Int)),(18,I (q_:Int))]) (fun q_=>G) (fun q_=>[]) (fun q_=>l.length-q_) 0 ⟨(by (try dsimp only);exact Nat.zero_le _),rfl⟩ (fun q_ hs=>?_)
 revert hs;revert q_;intro i hs
 obtain ⟨hi,hn⟩:=hs
 refine KP (fr':=[(0,Sl a_l l.length c_l),(16,Sl a_l l.length c_l),(17,I (l.length:Int)),(18,I (i:Int))]) (L':=[]) rfl rfl (Jg [0] [(0,Sl a_l l.length c_l),(16,Sl a_l l.length c_l),(17,I (l.length:Int)),(18,I (i:Int)),(19,Bo (decide ((i:Int)<(l.length:Int))))] (Je (Jo (decide ((i:Int)<(l.length:Int))) (fun h3=>?_) (fun h3=>?_))))
 try simp only [BB] at h3
 refine Jn (Ja (Je (Jz (Je (Jb (Jd [0] [(0,Sl a_l l.length c_l),(16,Sl a_l l.length c_l),(17,I (l.length:Int)),(18,I (i:Int)),(20,I (i:Int))] ?_))))))
 obtain ⟨b1,o1,rfl⟩:=RS.addr h_l (k:=i) (by omega)
 obtain ⟨x1,hx1⟩:=Wj (l:=l) (k:=i) (by omega)
 obtain ⟨_,⟨rfl,_,_,_,_⟩,hc1⟩:=RS.get h_l hx1
 refine Ki (b:=b1) (off:=o1) (len:=l.length) (cap:=c_l) (ik:=.i64) 21 50 4 i (by omega) (Ka 22 50 (cs:=[I x1.epoch,U x1.root,U x1.prev,I x1.at_]) 0 (.agg #[I x1.epoch,U x1.root,U x1.prev,I x1.at_]) hc1 (Ju 5 #[I 0,U 0,U 0,I 0] 50 (fun b2=>Kd [0,3] [(0,Sl (At b1 o1) l.length c_l),(4,I (i:Int)),(5,Pt b2 0),(16,Sl (At b1 o1) l.length c_l),(17,I (l.length:Int)),(18,I (i:Int))] [[Sg b2 0 [I x1.epoch,U x1.root,U x1.prev,I x1.at_]]] (Jc (Ja (Je (Jb (Jd [2] [(0,Sl (At b1 o1) l.length c_l),(4,I (i:Int)),(16,Sl (At b1 o1) l.length c_l),(17,I (l.length:Int)),(18,I (i:Int)),(23,.agg #[I x1.epoch,U x1.root,U x1.prev,I x1.at_])] (Ji 24 (I (JE x1)) (Zw x1 G) (Jd [0] [(0,Sl (At b1 o1) l.length c_l),(4,I (i:Int)),(6,I (JE x1)),(16,Sl (At b1 o1) l.length c_l),(17,I (l.length:Int)),(18,I (i:Int))] (Jc (Ja (Jg [0,0] [(0,Sl (At b1 o1) l.length c_l),(4,I (i:Int)),(6,I (JE x1)),(16,Sl (At b1 o1) l.length c_l),(17,I (l.length:Int)),(18,I (i:Int)),(26,Bo (!decide (JE x1=0)))] (Jo (!decide (JE x1=0)) (fun h4=>?_) (fun h4=>?_)))))))))))))))
 try simp only [BB] at h4
 refine Jg [0,0,0,0] [(2,I (JE x1)),(3,I (i:Int))] (Jk (Js (Jh (QD (Js (Jh (Jl [0,0] [I (JE x1),I (i:Int)] (Jv (Jt.le_refl _) ?_))))))))
 have hf_:(Kc l)=((JE x1),(i:Int)):=by
  unfold Kc;(rw [if_neg (by omega),if_neg (by omega)];(have e_:=Jkj hx1 ‹_›;rw [← hn] at e_;rw [if_pos (by rw [e_];assumption),e_];done))
 · (try rw [hf_]);(simp only [JM];done)
 try simp only [BB] at h4
 refine Jn (JN (Ja (Jb (Jd [0,0] [(0,Sl (At b1 o1) l.length c_l),(16,Sl (At b1 o1) l.length c_l),(17,I (l.length:Int)),(18,I (IntKind.i64.wrap ((i:Int)+1)))] ?_))))
 have e1:IntKind.i64.wrap ((i:Int)+1)=(i:Int)+1:=IntWalk.i64_in _ (by omega)
 refine J4 (fr':=[(0,Sl (At b1 o1) l.length c_l),(16,Sl (At b1 o1) l.length c_l),(17,I (l.length:Int)),(18,I ((i:Int)+1))]) (L':=[[Sg b2 0 [I x1.epoch,U x1.root,U x1.prev,I x1.at_]]]) (by simp only [e1]) (by rfl) ?_
 clear e1
 exact Jc (Q4 [] (.cons _ .slnil) (Qh (i+1) ⟨(by omega),(by rw [hn];exact Jhh hx1 ‹_›)⟩ (by (try dsimp only);omega)))
 try simp only [BB] at h3
 refine K2 (J3 (Kf (JV (Ja (Je (Je (Jb (Jd [0] [(30,Sl a_l l.length c_l)] (Ji 31 (I (QT l)) (Ja8 G a_l c_l l h_l) (Jd [0] [(7,I (QT l))] (Jc (Ja (Jg [0,0] [(7,I (QT l)),(33,Bo (decide (QT l ≥ 0)))] (Jo (decide (QT l ≥ 0)) (fun h5=>?_) (fun h5=>?_)))))))))))))))
 try simp only [BB] at h5
 refine Jg [0,0,0] [(2,I 8),(3,I (QT l))] (Jk (Jh (Jl [0,0] [I 8,I (QT l)] (Jv (Jt.le_refl _) ?_))))
 have hf_:(Kc l)=(8,(QT l)):=by
  unfold Kc;(rw [if_neg (by omega),if_neg (by omega)];(have e_:Y7 l 0=(0,0):=(by rw [hn,List.drop_eq_nil_of_le (by omega)];rfl);rw [if_neg (by rw [e_];simp)];(rw [if_pos (by omega)];done)))
 · (try rw [hf_]);(simp only [JM];done)
 try simp only [BB] at h5
 refine Jn (Ja (Jg [0,0] [(2,I 0),(3,I 0)] (Jk (Jl [0,0] [I 0,I 0] (Jv (Jt.le_refl _) ?_)))))
 have hf_:(Kc l)=(0,0):=by
  unfold Kc;(rw [if_neg (by omega),if_neg (by omega)];(have e_:Y7 l 0=(0,0):=(by rw [hn,List.drop_eq_nil_of_le (by omega)];rfl);rw [if_neg (by rw [e_];simp)];(rw [if_neg (by omega)];done)))
 · (try rw [hf_]);(simp only [JM];done)
theorem JaI (G:Jt) (a_l:Option Addr) (c_l:Nat) (l:List (List JS)) (h_l:RS JdD G a_l c_l l) :QI Tryz.prog 102 #[Sl a_l l.length c_l] G [] (fun u G' L'=>u=I (KN l)):=by
 refine JK Tryz.func102 22 [(0,Sl a_l l.length c_l)] rfl (fun w0 G0=>?_)
 refine Jg [0] [(0,Sl a_l l.length c_l)] (Je (Jg [0,0,0] [(7,Sl a_l l.length c_l),(8,I (l.length:Int)),(9,I 0)] (Jz ?_)))
 have hlm_h_l:l.length≤9223372036854775807:=Nat.le_trans (h_l).le (h_l).max
 refine Qe (σ:=Nat) (fun q_=>(q_≤l.length)∧(KN l=KN (l.drop q_))) (fun q_=>[(7,Sl a_l l.length c_l),(8,I (l.length:Int)),(9,I (q_:Int))]) (fun q_=>G) (fun q_=>[]) (fun q_=>l.length-q_) 0 ⟨(by (try dsimp only);exact Nat.zero_le _),rfl⟩ (fun q_ hs=>?_)
 revert hs;revert q_;intro i hs
 obtain ⟨hi,hn⟩:=hs
 refine KP (fr':=[(7,Sl a_l l.length c_l),(8,I (l.length:Int)),(9,I (i:Int))]) (L':=[]) rfl rfl (Jg [0] [(7,Sl a_l l.length c_l),(8,I (l.length:Int)),(9,I (i:Int)),(10,Bo (decide ((i:Int)<(l.length:Int))))] (Je (Jo (decide ((i:Int)<(l.length:Int))) (fun h1=>?_) (fun h1=>?_))))
 try simp only [BB] at h1
 refine Jn (Ja (Je (Jz (Je (Jb ?_)))))
 obtain ⟨b1,o1,rfl⟩:=RS.addr h_l (k:=i) (by omega)
 obtain ⟨x1,hx1⟩:=Wj (l:=l) (k:=i) (by omega)
 obtain ⟨_,⟨a1,c1,rfl,hs1⟩,hc1⟩:=RS.get h_l hx1
 refine Ki (b:=b1) (off:=o1) (len:=l.length) (cap:=c_l) (ik:=.i64) 11 31 1 i (by omega) (Ka 12 31 (cs:=[Sl a1 x1.length c1]) 0 (Sl a1 x1.length c1) hc1 (Jd [0] [(4,Sl a1 x1.length c1),(7,Sl (At b1 o1) l.length c_l),(8,I (l.length:Int)),(9,I (i:Int))] (Jc (Ja (Je (Jb (Jd [0] [(7,Sl (At b1 o1) l.length c_l),(8,I (l.length:Int)),(9,I (i:Int)),(14,Sl a1 x1.length c1)] (Ji 15 (.tuple #[I ((Kc x1).1),I ((Kc x1).2)]) (VQ G a1 c1 x1 hs1) (Jd [0,0,0,0,0] [(5,I ((Kc x1).1)),(7,Sl (At b1 o1) l.length c_l),(8,I (l.length:Int)),(9,I (i:Int))] (Jc (Ja (Jg [0,0] [(5,I ((Kc x1).1)),(7,Sl (At b1 o1) l.length c_l),(8,I (l.length:Int)),(9,I (i:Int)),(19,Bo (!decide ((Kc x1).1=0)))] (Jo (!decide ((Kc x1).1=0)) (fun h2=>?_) (fun h2=>?_))))))))))))))
 try simp only [BB] at h2
 refine Jg [0,0] [(2,I ((Kc x1).1))] (Jk (Js (Jh (QD (Js (Jh (Jl [0] [I ((Kc x1).1)] (Jv (Jt.le_refl _) ?_))))))))
 have hf_:(KN l)=((Kc x1).1):=by
  rw [hn];exact Jhi hx1 ‹_›
 · (try rw [hf_]);(simp only [JM];done)
 try simp only [BB] at h2
 refine Jn (JN (Ja (Jb (Jd [0,0] [(7,Sl (At b1 o1) l.length c_l),(8,I (l.length:Int)),(9,I (IntKind.i64.wrap ((i:Int)+1)))] ?_))))
 have e1:IntKind.i64.wrap ((i:Int)+1)=(i:Int)+1:=IntWalk.i64_in _ (by omega)
 refine J4 (fr':=[(7,Sl (At b1 o1) l.length c_l),(8,I (l.length:Int)),(9,I ((i:Int)+1))]) (L':=[]) (by simp only [e1]) (by rfl) ?_
 clear e1
 exact Jc (Qh (i+1) ⟨(by omega),(by rw [hn];exact JeJ hx1 ‹_›)⟩ (by (try dsimp only);omega))
 try simp only [BB] at h1
 refine K2 (J3 (Kf (JV (Ja (Jg [0] [(2,I 0)] (Jk (Jl [0] [I 0] (Jv (Jt.le_refl _) ?_))))))))
 have hf_:(KN l)=0:=by
  rw [hn];(rw [List.drop_eq_nil_of_le (by omega)];rfl)
 · (try rw [hf_]);(simp only [JM];done)
theorem JeL (G:Jt) (a_l:Option Addr) (c_l:Nat) (l:List JS) (h_l:RS KE G a_l c_l l) (root:Int) (hw_root:rU root) (a:Int) (hw_a:rI a) :QI Tryz.prog 63 #[Sl a_l l.length c_l,U root,I a] G [] (fun u G' L'=>∃ (a1:Option Addr) (c2:Nat) (r3:List Ks),u=.tuple #[Sl a1 (((Qf l root a).1).length) c2,I ((Qf l root a).2)]∧(J9 KE G' a1 c2 ((Qf l root a).1) r3)∧L'=[r3]):=by
 refine JK Tryz.func63 41 [(0,Sl a_l l.length c_l),(1,U root),(2,I a)] rfl (fun w0 G0=>?_)
 refine Jg [0,0] [(0,Sl a_l l.length c_l),(1,U root),(2,I a)] (Je (Jb (Jd [0] [(0,Sl a_l l.length c_l),(1,U root),(2,I a),(10,Sl a_l l.length c_l)] (KG 11 1 #[Sl a_l l.length c_l] 31 (fun b1=>QS (b:=b1) (o:=0) (cs:=[Sl a_l l.length c_l]) 0 (fun G1 hl1 hz1=>?_))))))
 have hs1:RS JdD G1 (At b1 0) 1 [l]:=RS.lit [[Sl a_l l.length c_l]] [l] ⟨⟨a_l,c_l,rfl,(h_l.mono hl1)⟩,trivial⟩ hz1 (Nat.le_of_ble_eq_true rfl) (Nat.le_of_ble_eq_true rfl)
 refine Ji 12 (I (KN ([l]))) (JaI G1 (At b1 0) 1 ([l]) hs1) (Jd [0] [(0,Sl a_l l.length c_l),(1,U root),(2,I a),(8,I (KN ([l])))] (Jc (Ja (Je (Jz (Jg [0,0,0] [(0,Sl a_l l.length c_l),(1,U root),(2,I a),(8,I (KN ([l]))),(13,Bo (!decide (KN ([l])=0)))] (Jo (!decide (KN ([l])=0)) (fun h1=>?_) (fun h1=>?_))))))))
 try simp only [BB] at h1
 refine Jg [0,0,0] [(6,Sl none 0 0),(7,I (KN ([l])))] (Jk (Js (Jh (Zd (Jj 0 ?_)))))
 have hf1:Qf l root a=([],KN ([l])):=by
  unfold Qf Zy;(simp_all;done)
 refine Jl [0,0] [Sl none 0 0,I (KN ([l]))] (JY [[]] (.cons_cons _ (.cons _ .slnil)) hl1 ?_)
 rw [hf1]
 try dsimp only
 exact ⟨none,0,([]),rfl,(J9.none KE _),rfl⟩
 try simp only [BB] at h1
 refine Jg [0,0,0,0] [(0,Sl a_l l.length c_l),(1,U root),(2,I a),(17,Bo (decide ((l.length:Int)=40)))] (Jo (decide ((l.length:Int)=40)) (fun h2=>?_) (fun h2=>?_))
 try simp only [BB] at h2
 refine Jg [0,0] [(6,Sl none 0 0),(7,I 7)] (Jk (Js (Jh (Zd (Jj 0 ?_)))))
 have hf2:Qf l root a=([],7):=by
  unfold Qf Zy;(simp_all;done)
 refine Jl [0,0] [Sl none 0 0,I 7] (JY [[]] (.cons_cons _ (.cons _ .slnil)) hl1 ?_)
 rw [hf2]
 try dsimp only
 exact ⟨none,0,([]),rfl,(J9.none KE _),rfl⟩
 try simp only [BB] at h2
 refine Jn (JN (Ja (Je (Jb (Jd [0,0,0,0] [(0,Sl a_l l.length c_l),(1,U root),(2,I a),(22,Sl a_l l.length c_l),(25,I (IntKind.i64.wrap ((l.length:Int)-1)))] ?_)))))
 have e1:IntKind.i64.wrap ((l.length:Int)-1)=((l.length-1:Nat):Int):=(IntWalk.i64_in _ (by (have q_:=Qc.1 ‹_›;have q1_:=q_.len1;have q2_:=q_.len;have q3_:=q_.lastE;have q4_:=q_.fb;have q5_:=q_.lb;omega))).trans (show (l.length:Int)-1=((l.length-1:Nat):Int) by (have q_:=Qc.1 ‹_›;have q1_:=q_.len1;have q2_:=q_.len;have q3_:=q_.lastE;have q4_:=q_.fb;have q5_:=q_.lb;omega))
 refine J4 (fr':=[(0,Sl a_l l.length c_l),(1,U root),(2,I a),(22,Sl a_l l.length c_l),(25,I ((l.length-1:Nat):Int))]) (L':=[[]]) (by simp only [JaZ,YJ,e1];first | done | rfl) (by rfl) ?_
 clear e1
 obtain ⟨b2,o1,rfl⟩:=RS.addr (h_l.mono hl1) (k:=l.length-1) (by (have q_:=Qc.1 ‹_›;have q1_:=q_.len1;have q2_:=q_.len;have q3_:=q_.lastE;have q4_:=q_.fb;have q5_:=q_.lb;omega))
 obtain ⟨x1,hx1⟩:=Wj (l:=l) (k:=l.length-1) (by (have q_:=Qc.1 ‹_›;have q1_:=q_.len1;have q2_:=q_.len;have q3_:=q_.lastE;have q4_:=q_.fb;have q5_:=q_.lb;omega))
 obtain ⟨_,⟨rfl,w1,w2,w3,w4⟩,hc1⟩:=RS.get (h_l.mono hl1) hx1
 refine Ki (b:=b2) (off:=o1) (len:=l.length) (cap:=c_l) (ik:=.i64) 26 50 4 (l.length-1) (by (have q_:=Qc.1 ‹_›;have q1_:=q_.len1;have q2_:=q_.len;have q3_:=q_.lastE;have q4_:=q_.fb;have q5_:=q_.lb;omega)) (Ka 27 50 (cs:=[I x1.epoch,U x1.root,U x1.prev,I x1.at_]) 0 (.agg #[I x1.epoch,U x1.root,U x1.prev,I x1.at_]) hc1 (Jd [0,0] [(0,Sl (At b2 o1) l.length c_l),(27,.agg #[I x1.epoch,U x1.root,U x1.prev,I x1.at_]),(28,U root),(29,I a)] (Ji 30 (.tuple #[(YJ (Jy x1 root a).1),I ((Jy x1 root a).2)]) (JaA G1 [I x1.epoch,U x1.root,U x1.prev,I x1.at_] x1 (⟨rfl,w1,w2,w3,w4⟩) root ‹_› a ‹_›) (Jd [0,0,0] [(0,Sl (At b2 o1) l.length c_l),(31,(YJ (Jy x1 root a).1)),(32,I ((Jy x1 root a).2))] (Ju 9 #[I 0,U 0,U 0,I 0] 50 (fun b3=>Kd [3,0] [(0,Sl (At b2 o1) l.length c_l),(8,I ((Jy x1 root a).2)),(9,Pt b3 0)] [[Sg b3 0 (JaZ (Jy x1 root a).1)],[]] (Jc (Ja (Je (Jg [0,0] [(0,Sl (At b2 o1) l.length c_l),(8,I ((Jy x1 root a).2)),(9,Pt b3 0),(34,Bo (!decide ((Jy x1 root a).2=0)))] (Jo (!decide ((Jy x1 root a).2=0)) (fun h3=>?_) (fun h3=>?_))))))))))))
 try simp only [BB] at h3
 refine Jg [0,0,0] [(6,Sl none 0 0),(7,I ((Jy x1 root a).2))] (Jk (Jh (Zd (Jj 0 ?_))))
 have hf3:Qf l root a=([],(Jy x1 root a).2):=by
  unfold Qf Zy;(have hl_:=Wk (l:=l) (k:=l.length-1) rfl ‹_›;subst hl_;(simp_all;done))
 refine Jl [0,0] [Sl none 0 0,I ((Jy x1 root a).2)] (JY [[]] (.cons_cons _ (.cons _ (.cons _ .slnil))) hl1 ?_)
 rw [hf3]
 try dsimp only
 exact ⟨none,0,([]),rfl,(J9.none KE _),rfl⟩
 try simp only [BB] at h3
 refine Jn (Ja (Je (KA [1,3,4] (Ws [(0,Sl (At b2 o1) l.length c_l),(2,(YJ (Jy x1 root a).1))] (J2 [] [(0,0),(2,2)] [] [1,3] (List.forall_mem_nil _) (List.forall_mem_cons.2 ⟨?_,(List.forall_mem_cons.2 ⟨?_,List.forall_mem_nil _⟩)⟩))))))
 refine JT 1 [(36,Sl (At b2 o1) l.length c_l)] (fun X=>?_)
 refine JQ 37 (YU G1 (At b2 o1) c_l l (h_l.mono hl1)) (fun v G2 L1 hl2 hp=>?_)
 obtain ⟨a1,c1,_,rfl,hr1,rfl⟩:=hp
 refine JX [(1,Sl a1 l.length c1)] (J2 [0] [(2,4)] [] [3] (List.forall_mem_nil _) (List.forall_mem_cons.2 ⟨?_,List.forall_mem_nil _⟩))
 refine JT 3 [(38,(YJ (Jy x1 root a).1))] (fun X=>?_)
 refine KG 39 1 #[I (((Jy x1 root a).1).epoch),U (((Jy x1 root a).1).root),U (((Jy x1 root a).1).prev),I (((Jy x1 root a).1).at_)] 50 (fun b4=>JX [(3,Sl (At b4 0) 1 1)] (J2 [0,2] [] [] [4] (List.forall_mem_nil _) (List.forall_mem_cons.2 ⟨?_,List.forall_mem_nil _⟩)))
 refine JT 4 [(37,Sl a1 l.length c1),(39,Sl (At b4 0) 1 1)] (fun X=>?_)
 refine QM (b:=b4) (cs:=(JaZ (Jy x1 root a).1)) 40 50 1 0 (E:=KE) ((Jy x1 root a).1) hr1 ⟨rfl,(by have q_:=ZP (x:=x1) (r:=root) (t:=a) (by omega) ‹_›;omega),(by have q_:=ZP (x:=x1) (r:=root) (t:=a) (by omega) ‹_›;omega),(by have q_:=ZP (x:=x1) (r:=root) (t:=a) (by omega) ‹_›;omega),(by have q_:=ZP (x:=x1) (r:=root) (t:=a) (by omega) ‹_›;omega)⟩ (by have q_:=Qc.1 ‹_›;have q1_:=q_.len1;have q2_:=q_.len;have q3_:=q_.lastE;have q4_:=q_.fb;have q5_:=q_.lb;(try simp only [KE,List.length_append,List.length_cons,List.length_nil]);omega) (by have q_:=Qc.1 ‹_›;have q1_:=q_.len1;have q2_:=q_.len;have q3_:=q_.lastE;have q4_:=q_.fb;have q5_:=q_.lb;(try simp only [KE,List.length_append,List.length_cons,List.length_nil]);omega) (fun a2 c2 r2 hr2=>JX [(4,Sl a2 ((l++[((Jy x1 root a).1)]).length) c2),(5,Sl a2 ((l++[((Jy x1 root a).1)]).length) c2),(6,I 0)] (Kz [0,2] [(5,0),(6,0)] [] [(6,Sl a2 ((l++[((Jy x1 root a).1)]).length) c2),(7,I 0)] (List.forall_mem_nil _) (Ja (Jk (Jj 1 ?_)))))
 have hf4:Qf l root a=(l++[((Jy x1 root a).1)],0):=by
  unfold Qf Zy;(have hl_:=Wk (l:=l) (k:=l.length-1) rfl ‹_›;subst hl_;(simp_all;done))
 refine Jl [0,0] [Sl a2 ((l++[((Jy x1 root a).1)]).length) c2,I 0] (JY [r2] (.cons_cons _ (.cons _ (.cons _ (.cons _ .slnil)))) (Jt.le_trans hl1 hl2) ?_)
 rw [hf4]
 try dsimp only
 exact ⟨a2,c2,r2,rfl,hr2,rfl⟩
 refine JT 3 [(38,(YJ (Jy x1 root a).1))] (fun X=>?_)
 refine KG 39 1 #[I (((Jy x1 root a).1).epoch),U (((Jy x1 root a).1).root),U (((Jy x1 root a).1).prev),I (((Jy x1 root a).1).at_)] 50 (fun b5=>JX [(3,Sl (At b5 0) 1 1)] (J2 [2] [(0,0)] [] [1] (List.forall_mem_nil _) (List.forall_mem_cons.2 ⟨?_,List.forall_mem_nil _⟩)))
 refine JT 1 [(36,Sl (At b2 o1) l.length c_l)] (fun X=>?_)
 refine JQ 37 (YU G1 (At b2 o1) c_l l (h_l.mono hl1)) (fun v G3 L1 hl3 hp=>?_)
 obtain ⟨a3,c3,r3,rfl,hr3,rfl⟩:=hp
 refine JX [(1,Sl a3 l.length c3)] (J2 [0,2] [] [] [4] (List.forall_mem_nil _) (List.forall_mem_cons.2 ⟨?_,List.forall_mem_nil _⟩))
 refine JT 4 [(37,Sl a3 l.length c3),(39,Sl (At b5 0) 1 1)] (fun X=>?_)
 refine QM (b:=b5) (cs:=(JaZ (Jy x1 root a).1)) 40 50 0 1 (E:=KE) ((Jy x1 root a).1) hr3 ⟨rfl,(by have q_:=ZP (x:=x1) (r:=root) (t:=a) (by omega) ‹_›;omega),(by have q_:=ZP (x:=x1) (r:=root) (t:=a) (by omega) ‹_›;omega),(by have q_:=ZP (x:=x1) (r:=root) (t:=a) (by omega) ‹_›;omega),(by have q_:=ZP (x:=x1) (r:=root) (t:=a) (by omega) ‹_›;omega)⟩ (by have q_:=Qc.1 ‹_›;have q1_:=q_.len1;have q2_:=q_.len;have q3_:=q_.lastE;have q4_:=q_.fb;have q5_:=q_.lb;(try simp only [KE,List.length_append,List.length_cons,List.length_nil]);omega) (by have q_:=Qc.1 ‹_›;have q1_:=q_.len1;have q2_:=q_.len;have q3_:=q_.lastE;have q4_:=q_.fb;have q5_:=q_.lb;(try simp only [KE,List.length_append,List.length_cons,List.length_nil]);omega) (fun a4 c4 r4 hr4=>JX [(4,Sl a4 ((l++[((Jy x1 root a).1)]).length) c4),(5,Sl a4 ((l++[((Jy x1 root a).1)]).length) c4),(6,I 0)] (Kz [0,2] [(5,0),(6,0)] [] [(6,Sl a4 ((l++[((Jy x1 root a).1)]).length) c4),(7,I 0)] (List.forall_mem_nil _) (Ja (Jk (Jj 0 ?_)))))
 have hf5:Qf l root a=(l++[((Jy x1 root a).1)],0):=by
  unfold Qf Zy;(have hl_:=Wk (l:=l) (k:=l.length-1) rfl ‹_›;subst hl_;(simp_all;done))
 refine Jl [0,0] [Sl a4 ((l++[((Jy x1 root a).1)]).length) c4,I 0] (JY [r4] (.cons_cons _ (.cons _ (.cons _ (.cons _ .slnil)))) (Jt.le_trans hl1 hl3) ?_)
 rw [hf5]
 try dsimp only
 exact ⟨a4,c4,r4,rfl,hr4,rfl⟩
theorem JeM (G:Jt) (a_l:Option Addr) (c_l:Nat) (l:List JS) (h_l:RS KE G a_l c_l l) (a:Int) (hw_a:rI a) (b:Int) (hw_b:rI b) :QI Tryz.prog 178 #[Sl a_l l.length c_l,I a,I b] G [] (fun u G' L'=>∃ (a1:Option Addr) (c2:Nat),u=.tuple #[Sl a1 (((Wp l a b).1).length) c2,I ((Wp l a b).2)]∧(RS KE G' a1 c2 ((Wp l a b).1))∧L'=[]):=by
 refine JK Tryz.func178 51 [(0,Sl a_l l.length c_l),(1,I a),(2,I b)] rfl (fun w0 G0=>?_)
 refine Jg [0,0] [(0,Sl a_l l.length c_l),(1,I a),(2,I b)] (Je (Je (Jb (Jd [0] [(0,Sl a_l l.length c_l),(1,I a),(2,I b),(11,Sl a_l l.length c_l)] (KG 12 1 #[Sl a_l l.length c_l] 31 (fun b1=>QS (b:=b1) (o:=0) (cs:=[Sl a_l l.length c_l]) 0 (fun G1 hl1 hz1=>?_)))))))
 have hs1:RS JdD G1 (At b1 0) 1 [l]:=RS.lit [[Sl a_l l.length c_l]] [l] ⟨⟨a_l,c_l,rfl,(h_l.mono hl1)⟩,trivial⟩ hz1 (Nat.le_of_ble_eq_true rfl) (Nat.le_of_ble_eq_true rfl)
 refine Ji 13 (I (KN ([l]))) (JaI G1 (At b1 0) 1 ([l]) hs1) (Jd [0] [(0,Sl a_l l.length c_l),(1,I a),(2,I b),(8,I (KN ([l])))] (Jc (Ja (Jg [0,0] [(0,Sl a_l l.length c_l),(1,I a),(2,I b),(8,I (KN ([l]))),(15,Bo (!decide (KN ([l])=0)))] (Jo (!decide (KN ([l])=0)) (fun h1=>?_) (fun h1=>?_))))))
 try simp only [BB] at h1
 refine Jg [0,0,0] [(6,Sl none 0 0),(7,I (KN ([l])))] (Jk (Jh ?_))
 have hf1:Wp l a b=([],KN ([l])):=by
  unfold Wp;(simp_all;done)
 refine Jl [0,0] [Sl none 0 0,I (KN ([l]))] (JY [] (.cons _ .slnil) hl1 ?_)
 rw [hf1]
 try dsimp only
 exact ⟨none,0,rfl,(RS.nil' KE G1),rfl⟩
 try simp only [BB] at h1
 refine Jn (Ja (Je ?_))
 obtain ⟨b2,o1,rfl⟩:=RS.addr (h_l.mono hl1) (k:=0) (by (have q_:=Qc.1 ‹_›;have q1_:=q_.len1;have q2_:=q_.len;have q3_:=q_.lastE;have q4_:=q_.fb;have q5_:=q_.lb;omega))
 obtain ⟨x1,hx1⟩:=Wj (l:=l) (k:=0) (by (have q_:=Qc.1 ‹_›;have q1_:=q_.len1;have q2_:=q_.len;have q3_:=q_.lastE;have q4_:=q_.fb;have q5_:=q_.lb;omega))
 obtain ⟨_,⟨rfl,_,_,_,_⟩,hc1⟩:=RS.get (h_l.mono hl1) hx1
 have e1:IntKind.i64.wrap ((l.length:Int)-1)=((l.length-1:Nat):Int):=(IntWalk.i64_in _ (by (have q_:=Qc.1 ‹_›;have q1_:=q_.len1;have q2_:=q_.len;have q3_:=q_.lastE;have q4_:=q_.fb;have q5_:=q_.lb;omega))).trans (show (l.length:Int)-1=((l.length-1:Nat):Int) by (have q_:=Qc.1 ‹_›;have q1_:=q_.len1;have q2_:=q_.len;have q3_:=q_.lastE;have q4_:=q_.fb;have q5_:=q_.lb;omega))
 obtain ⟨x2,hx2⟩:=Wj (l:=l) (k:=l.length-1) (by (have q_:=Qc.1 ‹_›;have q1_:=q_.len1;have q2_:=q_.len;have q3_:=q_.lastE;have q4_:=q_.fb;have q5_:=q_.lb;omega))
 obtain ⟨_,⟨rfl,_,_,_,_⟩,hc2⟩:=RS.get (h_l.mono hl1) hx2
 refine KA [] (Ws [(0,Sl (At b2 o1) l.length c_l),(1,Pt b2 (o1+0*4)),(2,Pt b2 (o1+0*4)),(3,I x1.epoch),(4,Sl (At b2 o1) l.length c_l),(5,Sl (At b2 o1) l.length c_l),(6,I (l.length:Int)),(7,I ((l.length-1:Nat):Int)),(8,Pt b2 (o1+(l.length-1)*4)),(9,Pt b2 (o1+(l.length-1)*4)),(10,I x2.epoch),(11,I x1.epoch),(12,I x2.epoch)] (Kz [] [(0,0),(2,0),(4,0),(5,0),(6,0),(9,0),(11,0),(12,0)] [1,3,7,8,10] [(0,Sl (At b2 o1) l.length c_l),(1,I a),(2,I b),(9,I x1.epoch),(10,I x2.epoch)] (List.forall_mem_cons.2 ⟨?_,(List.forall_mem_cons.2 ⟨?_,(List.forall_mem_cons.2 ⟨?_,(List.forall_mem_cons.2 ⟨?_,(List.forall_mem_cons.2 ⟨?_,List.forall_mem_nil _⟩)⟩)⟩)⟩)⟩) ?_))
 refine Jr 1 18 (Pt b2 (o1+0*4)) [(17,Sl (At b2 o1) l.length c_l)] (fun X=>?_)
 exact Ki (b:=b2) (off:=o1) (len:=l.length) (cap:=c_l) (ik:=.i64) 18 50 4 0 (by (have hl_:=Wk (l:=l) (k:=l.length-1) rfl hx2;have hf_:=WB hx1;subst hl_;subst hf_;have q_:=Qc.1 ‹_›;have q1_:=q_.len1;have q2_:=q_.len;have q3_:=q_.lastE;have q4_:=q_.fb;have q5_:=q_.lb;omega)) Jp
 refine Jr 3 20 (I x1.epoch) [(19,Pt b2 (o1+0*4))] (fun X=>?_)
 exact Ka 20 2 (cs:=[I x1.epoch,U x1.root,U x1.prev,I x1.at_]) 0 (I x1.epoch) hc1 Jp
 refine Jr 7 24 (I ((l.length-1:Nat):Int)) [(23,I (l.length:Int))] (fun X=>?_)
 exact K7 24 (I (IntKind.i64.wrap ((l.length:Int)-1))) (I ((l.length-1:Nat):Int)) (by simp only [e1]) Jp
 refine Jr 8 25 (Pt b2 (o1+(l.length-1)*4)) [(21,Sl (At b2 o1) l.length c_l),(24,I ((l.length-1:Nat):Int))] (fun X=>?_)
 exact Ki (b:=b2) (off:=o1) (len:=l.length) (cap:=c_l) (ik:=.i64) 25 50 4 (l.length-1) (by (have hl_:=Wk (l:=l) (k:=l.length-1) rfl hx2;have hf_:=WB hx1;subst hl_;subst hf_;have q_:=Qc.1 ‹_›;have q1_:=q_.len1;have q2_:=q_.len;have q3_:=q_.lastE;have q4_:=q_.fb;have q5_:=q_.lb;omega)) Jp
 refine Jr 10 27 (I x2.epoch) [(26,Pt b2 (o1+(l.length-1)*4))] (fun X=>?_)
 exact Ka 27 2 (cs:=[I x2.epoch,U x2.root,U x2.prev,I x2.at_]) 0 (I x2.epoch) hc2 Jp
 refine Ja (Je (Je (Jb (Jd [0,0,0,0] [(0,Sl (At b2 o1) l.length c_l),(1,I a),(2,I b),(9,I x1.epoch),(10,I x2.epoch),(31,Bo (decide (a > b)))] (KD (decide (a > b)) (fun bb=>[(0,Sl (At b2 o1) l.length c_l),(1,I a),(2,I b),(9,I x1.epoch),(10,I x2.epoch),(31,Bo bb)]) [1,1,1,0] [0,0,0,0] (fun bb=>[(0,Sl (At b2 o1) l.length c_l),(1,I a),(2,I b),(9,I x1.epoch),(10,I x2.epoch),(35,Bo (bb || (decide (a<x1.epoch))))]) (Jd [0] [(0,Sl (At b2 o1) l.length c_l),(1,I a),(2,I b),(9,I x1.epoch),(10,I x2.epoch),(36,Bo ((decide (a > b)) || (decide (a<x1.epoch))))] (KD ((decide (a > b)) || (decide (a<x1.epoch))) (fun bb=>[(0,Sl (At b2 o1) l.length c_l),(1,I a),(2,I b),(9,I x1.epoch),(10,I x2.epoch),(36,Bo bb)]) [1,1,1,0] [0,0,0,0] (fun bb=>[(0,Sl (At b2 o1) l.length c_l),(1,I a),(2,I b),(9,I x1.epoch),(40,Bo (bb || (decide (b > x2.epoch))))]) (Jc (Ja (Jo (((decide (a > b)) || (decide (a<x1.epoch))) || (decide (b > x2.epoch))) (fun h2=>?_) (fun h2=>?_)))))))))))
 try simp only [BB] at h2
 refine Jg [0,0] [(6,Sl none 0 0),(7,I 4)] (Jk (Jh ?_))
 have hf2:Wp l a b=([],4):=by
  unfold Wp;(have hl_:=Wk (l:=l) (k:=l.length-1) rfl hx2;have hf_:=WB hx1;subst hl_;subst hf_;rw [if_neg (by omega)];(rw [if_pos (by omega)];done))
 refine Jl [0,0] [Sl none 0 0,I 4] (JY [] (.cons _ .slnil) hl1 ?_)
 rw [hf2]
 try dsimp only
 exact ⟨none,0,rfl,(RS.nil' KE G1),rfl⟩
 try simp only [BB] at h2
 refine Jn (Ja (Je (Jb (Jd [0,0,0,0,0,0,0,0] [(41,Sl (At b2 o1) l.length c_l),(44,I (IntKind.i64.wrap (a-x1.epoch))),(48,I (IntKind.i64.wrap ((IntKind.i64.wrap (b-x1.epoch))+1)))] ?_))))
 have e2:IntKind.i64.wrap (a-x1.epoch)=a-x1.epoch:=IntWalk.i64_in _ (by (have hl_:=Wk (l:=l) (k:=l.length-1) rfl hx2;have hf_:=WB hx1;subst hl_;subst hf_;have q_:=Qc.1 ‹_›;have q1_:=q_.len1;have q2_:=q_.len;have q3_:=q_.lastE;have q4_:=q_.fb;have q5_:=q_.lb;omega))
 have e3:IntKind.i64.wrap (b-x1.epoch)=b-x1.epoch:=IntWalk.i64_in _ (by (have hl_:=Wk (l:=l) (k:=l.length-1) rfl hx2;have hf_:=WB hx1;subst hl_;subst hf_;have q_:=Qc.1 ‹_›;have q1_:=q_.len1;have q2_:=q_.len;have q3_:=q_.lastE;have q4_:=q_.fb;have q5_:=q_.lb;omega))
 have e4:IntKind.i64.wrap ((b-x1.epoch)+1)=(b-x1.epoch)+1:=IntWalk.i64_in _ (by (have hl_:=Wk (l:=l) (k:=l.length-1) rfl hx2;have hf_:=WB hx1;subst hl_;subst hf_;have q_:=Qc.1 ‹_›;have q1_:=q_.len1;have q2_:=q_.len;have q3_:=q_.lastE;have q4_:=q_.fb;have q5_:=q_.lb;omega))
 refine J4 (fr':=[(41,Sl (At b2 o1) l.length c_l),(44,I (a-x1.epoch)),(48,I ((b-x1.epoch)+1))]) (L':=[[]]) (by simp only [e2,e3,e4]) (by rfl) ?_
 clear e4 e3 e2
 obtain ⟨kn1,hkn1⟩:∃ k_:Nat,a-x1.epoch=(k_:Int):=⟨(a-x1.epoch).toNat,by omega⟩
 have e5:a-x1.epoch=(kn1:Int):=hkn1
 refine Jd [] [(41,Sl (At b2 o1) l.length c_l),(44,I (a-x1.epoch)),(48,I ((b-x1.epoch)+1))] (J4 (fr':=[(41,Sl (At b2 o1) l.length c_l),(44,I (kn1:Int)),(48,I ((b-x1.epoch)+1))]) (L':=[[]]) (by (simp only [e5];done)) (by rfl) ?_)
 obtain ⟨kn2,hkn2⟩:∃ k_:Nat,(b-x1.epoch)+1=(k_:Int):=⟨((b-x1.epoch)+1).toNat,by omega⟩
 have e6:(b-x1.epoch)+1=(kn2:Int):=hkn2
 refine Jd [] [(41,Sl (At b2 o1) l.length c_l),(44,I (kn1:Int)),(48,I ((b-x1.epoch)+1))] (J4 (fr':=[(41,Sl (At b2 o1) l.length c_l),(44,I (kn1:Int)),(48,I (kn2:Int))]) (L':=[[]]) (by (simp only [e6];done)) (by rfl) ?_)
 obtain ⟨a1,c1,ea1,ec1,en1,eh1,hs2⟩:=RS.reslX (h_l.mono hl1) kn1 kn2 (by omega) (by (have hl_:=Wk (l:=l) (k:=l.length-1) rfl hx2;have hf_:=WB hx1;subst hl_;subst hf_;have q_:=Qc.1 ‹_›;have q1_:=q_.len1;have q2_:=q_.len;have q3_:=q_.lastE;have q4_:=q_.fb;have q5_:=q_.lb;omega))
 refine W5 (a:=At b2 o1) (len:=l.length) (cap:=c_l) 49 4 (some (I (kn1:Int))) (some (I (kn2:Int))) kn1 kn2 (.inr ⟨_,rfl⟩) (.inr ⟨_,rfl⟩) (by omega) ea1 ec1 en1 eh1 (JQ 50 (YU G1 a1 c1 ((l.take kn2).drop kn1) hs2) (fun v G2 L1 hl2 hp=>?_))
 obtain ⟨a2,c2,_,rfl,hr1,rfl⟩:=hp
 refine Jd [0,0] [(6,Sl a2 (((l.take kn2).drop kn1).length) c2),(7,I 0)] (Jc (Ja (Jk (Wn (E:=KE) 0 hr1 (by exact (hs2).fit) (fun G3 hl3 hs3=>?_)))))
 have hf3:Wp l a b=((l.take kn2).drop kn1,0):=by
  unfold Wp;(have hl_:=Wk (l:=l) (k:=l.length-1) rfl hx2;have hf_:=WB hx1;subst hl_;subst hf_;rw [if_neg (by omega)];(rw [if_neg (by omega)];unfold cut;rw [show (a-(QX l).epoch).toNat=kn1 by omega,show (b-(QX l).epoch+1).toNat=kn2 by omega];done))
 refine Jl [0,0] [Sl a2 (((l.take kn2).drop kn1).length) c2,I 0] (JY [] (.cons _ (.cons _ .slnil)) (Jt.le_trans (Jt.le_trans hl1 hl2) hl3) ?_)
 rw [hf3]
 try dsimp only
 exact ⟨a2,c2,rfl,hs3,rfl⟩
theorem JcO (G:Jt) (vs_h:List Value) (h:JS) (h_h:KE.R G vs_h h) (a_l:Option Addr) (c_l:Nat) (l:List JS) (h_l:RS KE G a_l c_l l) :QI Tryz.prog 203 #[.agg vs_h.toArray,Sl a_l l.length c_l] G [] (fun u G' L'=>u=.tuple #[Bo ((Qu h l).1),I ((Qu h l).2)]):=by
 obtain ⟨rfl,w1,w2,w3,w4⟩:=h_h
 refine JK Tryz.func203 24 [(0,.agg #[I h.epoch,U h.root,U h.prev,I h.at_]),(1,Sl a_l l.length c_l)] rfl (fun w0 G0=>?_)
 refine Je (Jb (Ju 2 #[I h.epoch,U h.root,U h.prev,I h.at_] 50 (fun b1=>Jd [0,0] [(1,Sl a_l l.length c_l),(2,Pt b1 0)] (Jc (Ja (Je (Jb (Jd [0] [(1,Sl a_l l.length c_l),(2,Pt b1 0),(7,Sl a_l l.length c_l)] (KG 8 1 #[Sl a_l l.length c_l] 31 (fun b2=>QS (b:=b2) (o:=0) (cs:=[Sl a_l l.length c_l]) 0 (fun G1 hl1 hz1=>?_)))))))))))
 have hs1:RS JdD G1 (At b2 0) 1 [l]:=RS.lit [[Sl a_l l.length c_l]] [l] ⟨⟨a_l,c_l,rfl,(h_l.mono hl1)⟩,trivial⟩ hz1 (Nat.le_of_ble_eq_true rfl) (Nat.le_of_ble_eq_true rfl)
 refine Ji 9 (I (KN ([l]))) (JaI G1 (At b2 0) 1 ([l]) hs1) (Jd [0] [(1,Sl a_l l.length c_l),(2,Pt b1 0),(6,I (KN ([l])))] (Jc (Ja (Je (Jg [0,0] [(1,Sl a_l l.length c_l),(2,Pt b1 0),(6,I (KN ([l]))),(11,Bo (decide (KN ([l])=0)))] (Jo (decide (KN ([l])=0)) (fun h1=>?_) (fun h1=>?_)))))))
 try simp only [BB] at h1
 refine Jb (Jd [4] [(1,Sl a_l l.length c_l),(2,Pt b1 0),(6,I (KN ([l]))),(12,.agg #[I h.epoch,U h.root,U h.prev,I h.at_])] (Ji 13 (I (JE h)) (Zw h G1) (Jd [0] [(1,Sl a_l l.length c_l),(2,Pt b1 0),(6,I (JE h))] (Jc (Ja (Je (Jg [0,0] [(1,Sl a_l l.length c_l),(2,Pt b1 0),(6,I (JE h)),(15,Bo (!decide (JE h=0)))] (Jo (!decide (JE h=0)) (fun h2=>?_) (fun h2=>?_)))))))))
 try simp only [BB] at h2
 refine Jg [0,0,0] [(4,Bo false),(5,I (JE h))] (Jk (Jh (Jl [0,0] [Bo false,I (JE h)] (Jv hl1 ?_))))
 have hf_:(Qu h l)=(false,(JE h)):=by
  unfold Qu;(simp_all;done)
 · (try rw [hf_]);(simp only [JM];done)
 try simp only [BB] at h2
 refine Jn (Ja (Je ?_))
 obtain ⟨b3,o1,rfl⟩:=RS.addr (h_l.mono hl1) (k:=0) (by (have q_:=Qc.1 ‹_›;have q1_:=q_.len1;have q2_:=q_.len;have q3_:=q_.lastE;have q4_:=q_.fb;have q5_:=q_.lb;omega))
 obtain ⟨x1,hx1⟩:=Wj (l:=l) (k:=0) (by (have q_:=Qc.1 ‹_›;have q1_:=q_.len1;have q2_:=q_.len;have q3_:=q_.lastE;have q4_:=q_.fb;have q5_:=q_.lb;omega))
 obtain ⟨_,⟨rfl,w5,w6,w7,w8⟩,hc1⟩:=RS.get (h_l.mono hl1) hx1
 refine KA [4,5] (Ws [(0,.agg #[I h.epoch,U h.root,U h.prev,I h.at_]),(1,Sl (At b3 o1) l.length c_l),(2,Pt b3 (o1+0*4)),(3,.agg #[I x1.epoch,U x1.root,U x1.prev,I x1.at_])] (J2 [] [(0,4),(1,0)] [2,3] [4] (List.forall_mem_cons.2 ⟨?_,(List.forall_mem_cons.2 ⟨?_,List.forall_mem_nil _⟩)⟩) (List.forall_mem_cons.2 ⟨?_,List.forall_mem_nil _⟩)))
 refine Jr 2 19 (Pt b3 (o1+0*4)) [(18,Sl (At b3 o1) l.length c_l)] (fun X=>?_)
 exact Ki (b:=b3) (off:=o1) (len:=l.length) (cap:=c_l) (ik:=.i64) 19 50 4 0 (by (have q_:=Qc.1 ‹_›;have q1_:=q_.len1;have q2_:=q_.len;have q3_:=q_.lastE;have q4_:=q_.fb;have q5_:=q_.lb;omega)) Jp
 refine Jr 3 20 (.agg #[I x1.epoch,U x1.root,U x1.prev,I x1.at_]) [(19,Pt b3 (o1+0*4))] (fun X=>?_)
 exact Ka 20 50 (cs:=[I x1.epoch,U x1.root,U x1.prev,I x1.at_]) 0 (.agg #[I x1.epoch,U x1.root,U x1.prev,I x1.at_]) hc1 Jp
 refine JT 4 [(17,.agg #[I h.epoch,U h.root,U h.prev,I h.at_]),(20,.agg #[I x1.epoch,U x1.root,U x1.prev,I x1.at_])] (fun X=>?_)
 refine KG 21 2 #[I h.epoch,U h.root,U h.prev,I h.at_,I x1.epoch,U x1.root,U x1.prev,I x1.at_] 50 (fun b4=>JX [(4,Sl (At b4 0) 2 2)] (J2 [0,1,2,3] [] [] [5] (List.forall_mem_nil _) (List.forall_mem_cons.2 ⟨?_,List.forall_mem_nil _⟩)))
 refine JT 5 [(21,Sl (At b4 0) 2 2)] (fun X=>?_)
 refine QS (b:=b4) (o:=0) (cs:=[I h.epoch,U h.root,U h.prev,I h.at_,I x1.epoch,U x1.root,U x1.prev,I x1.at_]) 0 (fun G2 hl2 hz2=>?_)
 have hs2:RS KE G2 (At b4 0) 2 [h,x1]:=RS.lit [[I h.epoch,U h.root,U h.prev,I h.at_],[I x1.epoch,U x1.root,U x1.prev,I x1.at_]] [h,x1] ⟨⟨rfl,w1,w2,w3,w4⟩,⟨⟨rfl,w5,w6,w7,w8⟩,trivial⟩⟩ hz2 (Nat.le_of_ble_eq_true rfl) (Nat.le_of_ble_eq_true rfl)
 refine Ji 22 (I (QT ([h,x1]))) (Ja8 G2 (At b4 0) 2 ([h,x1]) hs2) (JX [(5,I (QT ([h,x1]))),(6,Bo (decide (QT ([h,x1])<0))),(7,Bo (decide (QT ([h,x1])<0))),(8,I 0)] (Kz [0,1,2,3] [(6,0),(7,0),(8,0)] [] [(4,Bo (decide (QT ([h,x1])<0))),(5,I 0)] (List.forall_mem_nil _) (Ja (Jk (Jl [0,0] [Bo (decide (QT ([h,x1])<0)),I 0] (Jv (Jt.le_trans hl1 hl2) ?_))))))
 have hf_:(Qu h l)=((decide (QT ([h,x1])<0)),0):=by
  unfold Qu;(have hf_:=WB hx1;subst hf_;simp_all;done)
 · (try rw [hf_]);(simp only [JM];done)
 try simp only [BB] at h1
 refine Jn (Ja (Je (Jg [0,0] [(1,Sl a_l l.length c_l),(2,Pt b1 0),(6,I (KN ([l]))),(15,Bo (!decide (KN ([l])=0)))] (Jo (!decide (KN ([l])=0)) (fun h3=>?_) (fun h3=>?_)))))
 try simp only [BB] at h3
 refine Jg [0,0,0] [(4,Bo false),(5,I (KN ([l])))] (Jk (Jh (Jl [0,0] [Bo false,I (KN ([l]))] (Jv hl1 ?_))))
 have hf_:(Qu h l)=(false,(KN ([l]))):=by
  unfold Qu;(simp_all;done)
 · (try rw [hf_]);(simp only [JM];done)
 try simp only [BB] at h3
 refine Jn (Ja (Je ?_))
 obtain ⟨b5,o2,rfl⟩:=RS.addr (h_l.mono hl1) (k:=0) (by omega)
 obtain ⟨x2,hx2⟩:=Wj (l:=l) (k:=0) (by omega)
 obtain ⟨_,⟨rfl,w9,w10,w11,w12⟩,hc2⟩:=RS.get (h_l.mono hl1) hx2
 refine KA [4,5] (Ws [(0,.agg #[I h.epoch,U h.root,U h.prev,I h.at_]),(1,Sl (At b5 o2) l.length c_l),(2,Pt b5 (o2+0*4)),(3,.agg #[I x2.epoch,U x2.root,U x2.prev,I x2.at_])] (J2 [] [(0,4),(1,0)] [2,3] [4] (List.forall_mem_cons.2 ⟨?_,(List.forall_mem_cons.2 ⟨?_,List.forall_mem_nil _⟩)⟩) (List.forall_mem_cons.2 ⟨?_,List.forall_mem_nil _⟩)))
 refine Jr 2 19 (Pt b5 (o2+0*4)) [(18,Sl (At b5 o2) l.length c_l)] (fun X=>?_)
 exact Ki (b:=b5) (off:=o2) (len:=l.length) (cap:=c_l) (ik:=.i64) 19 50 4 0 (by omega) Jp
 refine Jr 3 20 (.agg #[I x2.epoch,U x2.root,U x2.prev,I x2.at_]) [(19,Pt b5 (o2+0*4))] (fun X=>?_)
 exact Ka 20 50 (cs:=[I x2.epoch,U x2.root,U x2.prev,I x2.at_]) 0 (.agg #[I x2.epoch,U x2.root,U x2.prev,I x2.at_]) hc2 Jp
 refine JT 4 [(17,.agg #[I h.epoch,U h.root,U h.prev,I h.at_]),(20,.agg #[I x2.epoch,U x2.root,U x2.prev,I x2.at_])] (fun X=>?_)
 refine KG 21 2 #[I h.epoch,U h.root,U h.prev,I h.at_,I x2.epoch,U x2.root,U x2.prev,I x2.at_] 50 (fun b6=>JX [(4,Sl (At b6 0) 2 2)] (J2 [0,1,2,3] [] [] [5] (List.forall_mem_nil _) (List.forall_mem_cons.2 ⟨?_,List.forall_mem_nil _⟩)))
 refine JT 5 [(21,Sl (At b6 0) 2 2)] (fun X=>?_)
 refine QS (b:=b6) (o:=0) (cs:=[I h.epoch,U h.root,U h.prev,I h.at_,I x2.epoch,U x2.root,U x2.prev,I x2.at_]) 0 (fun G3 hl3 hz3=>?_)
 have hs3:RS KE G3 (At b6 0) 2 [h,x2]:=RS.lit [[I h.epoch,U h.root,U h.prev,I h.at_],[I x2.epoch,U x2.root,U x2.prev,I x2.at_]] [h,x2] ⟨⟨rfl,w1,w2,w3,w4⟩,⟨⟨rfl,w9,w10,w11,w12⟩,trivial⟩⟩ hz3 (Nat.le_of_ble_eq_true rfl) (Nat.le_of_ble_eq_true rfl)
 refine Ji 22 (I (QT ([h,x2]))) (Ja8 G3 (At b6 0) 2 ([h,x2]) hs3) (JX [(5,I (QT ([h,x2]))),(6,Bo (decide (QT ([h,x2])<0))),(7,Bo (decide (QT ([h,x2])<0))),(8,I 0)] (Kz [0,1,2,3] [(6,0),(7,0),(8,0)] [] [(4,Bo (decide (QT ([h,x2])<0))),(5,I 0)] (List.forall_mem_nil _) (Ja (Jk (Jl [0,0] [Bo (decide (QT ([h,x2])<0)),I 0] (Jv (Jt.le_trans hl1 hl3) ?_))))))
 have hf_:(Qu h l)=((decide (QT ([h,x2])<0)),0):=by
  unfold Qu;(simp_all;done)
 · (try rw [hf_]);(simp only [JM];done)
end Go.Proofs.YtnnlpbjdignhaaaGreatDoor
