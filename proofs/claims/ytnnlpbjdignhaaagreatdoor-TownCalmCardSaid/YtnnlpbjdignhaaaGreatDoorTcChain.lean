import Derived.Test.YtnnlpbjdignhaaaGreatDoorTcHeadN
namespace Go.Proofs.YtnnlpbjdignhaaaGreatDoor
open Go.Tx
set_option linter.unusedVariables false
set_option linter.unusedSimpArgs false
def VY (x y:JR):Bool:=decide (Jy x y.root y.at_=(y,0))
theorem JcD {x y:JR}:VY x y=true ↔ (Jy x y.root y.at_).2=0∧(Jy x y.root y.at_).1.epoch=y.epoch∧(Jy x y.root y.at_).1.root=y.root∧(Jy x y.root y.at_).1.prev=y.prev∧(Jy x y.root y.at_).1.at_=y.at_:=by
 unfold VY
 rw [decide_eq_true_eq]
 constructor
 ·
  intro h;rw [h];simp
 ·
  rintro ⟨h1,h2⟩
  exact Prod.ext (JaU.2 h2) h1
def lnk:List JR→Nat→Int
 | x::y::r,i=>if VY x y then lnk (y::r) (i+1) else (i:Int)
 | _,_=>-1
def QR (l:List JR):Int:=lnk l 1
theorem Jmy {l:List JR} {i:Nat} (h:l.length≤1):lnk l i=-1:=by
 match l,h with
 | [],_=>rfl
 | [_],_=>rfl
theorem Jlq {l:List JR} {i:Nat} {x y:JR} (hi:1≤i) (hx:l[i-1]? = some x) (hy:l[i]? = some y) (h:VY x y=true):lnk (l.drop (i-1)) i=lnk (l.drop (i+1-1)) (i+1):=by
 obtain ⟨h1,rfl⟩:=List.getElem?_eq_some_iff.1 hx
 obtain ⟨h2,rfl⟩:=List.getElem?_eq_some_iff.1 hy
 rw [List.drop_eq_getElem_cons h1,show i-1+1=i by omega,show i+1-1=i by omega,List.drop_eq_getElem_cons h2]
 show (if VY _ _=true then _ else _)=_
 rw [if_pos h]
theorem Jlr {l:List JR} {i:Nat} {x y:JR} (hi:1≤i) (hx:l[i-1]? = some x) (hy:l[i]? = some y) (h:¬ VY x y=true):lnk (l.drop (i-1)) i=(i:Int):=by
 obtain ⟨h1,rfl⟩:=List.getElem?_eq_some_iff.1 hx
 obtain ⟨h2,rfl⟩:=List.getElem?_eq_some_iff.1 hy
 rw [List.drop_eq_getElem_cons h1,show i-1+1=i by omega,List.drop_eq_getElem_cons h2]
 show (if VY _ _=true then _ else _)=_
 rw [if_neg h]
theorem Jf6:∀ (l:List JR) (i:Nat),lnk l i<0 ↔ ∀ (k:Nat) x y,l[k]? = some x→l[k+1]? = some y→VY x y=true
 | [],i=>by simp [lnk]
 | [a],i=>by simp [lnk]
 | a::b::r,i=>by
  have ih:=Jf6 (b::r) (i+1)
  unfold lnk
  split
  ·
   rename_i h
   rw [ih]
   constructor
   ·
    intro hh k x y hx hy
    cases k with
    | zero=>simp at hx hy;subst hx hy;exact h
    | succ k=>exact hh k x y hx hy
   ·
    intro hh k x y hx hy
    exact hh (k+1) x y hx hy
  ·
   rename_i h
   constructor
   ·
    intro hh;omega
   ·
    intro hh;exact absurd (hh 0 a b rfl rfl) h
def Y1:List JR→Nat→Int×Int
 | [],_=>(0,0)
 | h::l,i=>if JD h=0 then Y1 l (i+1) else (JD h,(i:Int))
theorem Jg8 {l:List JR} {i:Nat} {x:JR} (hx:l[i]? = some x) (h:JD x=0):Y1 (l.drop i) i=Y1 (l.drop (i+1)) (i+1):=by
 obtain ⟨h1,rfl⟩:=List.getElem?_eq_some_iff.1 hx
 rw [List.drop_eq_getElem_cons h1]
 show (if JD _=0 then _ else _)=_
 rw [if_pos h]
theorem Jkb {l:List JR} {i:Nat} {x:JR} (hx:l[i]? = some x) (h:¬ JD x=0):Y1 (l.drop i) i=(JD x,(i:Int)):=by
 obtain ⟨h1,rfl⟩:=List.getElem?_eq_some_iff.1 hx
 rw [List.drop_eq_getElem_cons h1]
 show (if JD _=0 then _ else _)=_
 rw [if_neg h]
theorem Jd6:∀ (l:List JR) (i:Nat),(Y1 l i).1=0 ↔ ∀ h∈l,JD h=0
 | [],i=>by simp [Y1]
 | h::l,i=>by
  have ih:=Jd6 l (i+1)
  unfold Y1
  split
  ·
   rename_i e;rw [ih];simp [e]
  ·
   rename_i e;simp [e]
def Kc (l:List JR):Int×Int:=if l.length=0 then (5,0) else if 40<l.length then (2,0) else if (Y1 l 0).1 ≠ 0 then Y1 l 0 else if 0≤QR l then (8,QR l) else (0,0)
structure Wa (l:List JR):Prop where
 len1:1≤l.length
 len:l.length≤40
 ok:∀ h∈l,JD h=0
 lnk:∀ (k:Nat) x y,l[k]? = some x→l[k+1]? = some y→VY x y=true
theorem KY {l:List JR}:(Kc l).1=0 ↔ Wa l:=by
 unfold Kc
 have e1:=Jd6 l 0
 have e2:=Jf6 l 1
 constructor
 ·
  intro h
  split at h
  ·
   cases h
  split at h
  ·
   cases h
  split at h
  ·
   contradiction
  split at h
  ·
   cases h
  ·
   rename_i h1 h2 h3 h4
   exact ⟨by omega,by omega,e1.1 (Decidable.not_not.1 h3),e2.1 (by unfold QR at h4;omega)⟩
 ·
  rintro ⟨h1,h2,h3,h4⟩
  rw [if_neg (by omega),if_neg (by omega),if_neg (by have:=e1.2 h3;omega),if_neg (by have:=e2.2 h4;unfold QR;omega)]
def KO:List (List JR)→Int
 | []=>0
 | l::r=>if (Kc l).1=0 then KO r else (Kc l).1
theorem JeA {l:List (List JR)} {i:Nat} {x:List JR} (hx:l[i]? = some x) (h:(Kc x).1=0):KO (l.drop i)=KO (l.drop (i+1)):=by
 obtain ⟨h1,rfl⟩:=List.getElem?_eq_some_iff.1 hx
 rw [List.drop_eq_getElem_cons h1]
 show (if (Kc _).1=0 then _ else _)=_
 rw [if_pos h]
theorem Jg9 {l:List (List JR)} {i:Nat} {x:List JR} (hx:l[i]? = some x) (h:¬ (Kc x).1=0):KO (l.drop i)=(Kc x).1:=by
 obtain ⟨h1,rfl⟩:=List.getElem?_eq_some_iff.1 hx
 rw [List.drop_eq_getElem_cons h1]
 show (if (Kc _).1=0 then _ else _)=_
 rw [if_neg h]
theorem Jb2:∀ (l:List (List JR)),KO l=0 ↔ ∀ x∈l,Wa x
 | []=>by simp [KO]
 | a::l=>by
  have ih:=Jb2 l
  unfold KO
  split
  ·
   rename_i e;rw [ih];simp [KY.1 e]
  ·
   rename_i e;constructor
   ·
    intro h;exact absurd h e
   ·
    intro h;exact absurd (KY.2 (h a (by simp))) e
theorem Qb {l:List JR}:KO [l]=0 ↔ Wa l:=by rw [Jb2];simp
def WA (l:List JR):JR:=l[l.length-1]?.getD WY
def QW (l:List JR):JR:=l[0]?.getD WY
theorem Wi {l:List JR} {k:Nat} {x:JR} (hk:k=l.length-1) (h:l[k]? = some x):x=WA l:=by unfold WA;rw [← hk,h];rfl
theorem Wz {l:List JR} {x:JR} (h:l[0]? = some x):x=QW l:=by unfold QW;rw [h];rfl
def Zx (l:List JR) (root at_:Int):Int:=if KO [l] ≠ 0 then KO [l] else if (l.length:Int)=40 then 7 else (Jy (WA l) root at_).2
def Qe (l:List JR) (root at_:Int):List JR×Int:=if Zx l root at_ ≠ 0 then ([],Zx l root at_) else (l++[(Jy (WA l) root at_).1],0)
def cut (l:List JR) (a b:Int):List JR:=(l.take (b-(QW l).epoch+1).toNat).drop (a-(QW l).epoch).toNat
def Wo (l:List JR) (a b:Int):List JR×Int:=if KO [l] ≠ 0 then ([],KO [l]) else if b<a∨a<(QW l).epoch∨(WA l).epoch<b then ([],4) else (cut l a b,0)
def Qt (h:JR) (l:List JR):Bool×Int:=if KO [l] ≠ 0 then (false,KO [l]) else if JD h ≠ 0 then (false,JD h) else (decide (QR [h,QW l]<0),0)
theorem Wa.first {l:List JR} (h:Wa l):l[0]? = some (QW l):=by
 have:=h.len1
 have e:l[0]? = some (l[0]'(by omega)):=List.getElem?_eq_getElem (by omega)
 rw [e];unfold QW;rw [e];rfl
theorem Wa.last {l:List JR} (h:Wa l):l[l.length-1]? = some (WA l):=by
 have:=h.len1
 have e:l[l.length-1]? = some (l[l.length-1]'(by omega)):=List.getElem?_eq_getElem (by omega)
 rw [e];unfold WA;rw [e];rfl
theorem Jha {x y:JR} (h:VY x y=true):y.epoch=x.epoch+1:=by
 unfold VY at h
 rw [decide_eq_true_eq] at h
 have h0:(Jy x y.root y.at_).2=0:=by rw [h]
 have:=(VW h0).2.2.2.1
 rw [h] at this
 have:=congrArg (fun p=>p.1.epoch) this
 simpa using this
theorem Wa.epoch {l:List JR} (h:Wa l):∀ (k:Nat) x,l[k]? = some x→x.epoch=(QW l).epoch+k
 | 0,x,hx=>by rw [h.first] at hx;rw [← Option.some.inj hx];simp
 | k+1,x,hx=>by
  have hk:=(List.getElem?_eq_some_iff.1 hx).1
  have e:l[k]? = some (l[k]'(by omega)):=List.getElem?_eq_getElem (by omega)
  have:=h.epoch k _ e
  have:=Jha (h.lnk k _ _ e hx)
  omega
theorem Wa.lastE {l:List JR} (h:Wa l):(WA l).epoch=(QW l).epoch+l.length-1:=by
 have:=h.epoch _ _ h.last
 have:=h.len1
 omega
theorem Wa.fb {l:List JR} (h:Wa l):0≤(QW l).epoch∧(QW l).epoch≤1000000:=by
 have:=W6 (h.ok _ (List.mem_of_getElem? h.first));omega
theorem Wa.lb {l:List JR} (h:Wa l):0≤(WA l).epoch∧(WA l).epoch≤1000000:=by
 have:=W6 (h.ok _ (List.mem_of_getElem? h.last));omega
theorem Wa.sub {l:List JR} (h:Wa l) {a b:Nat} (hab:a<b) (hb:b≤l.length):Wa ((l.take b).drop a):=by
 refine ⟨by simp;omega,by simp;have:=h.len;omega,fun x hx=>h.ok x (List.mem_of_mem_take (List.mem_of_mem_drop hx)),fun k x y hx hy=>?_⟩
 rw [List.getElem?_drop,List.getElem?_take] at hx hy
 have h1:a+k<b:=by apply Classical.byContradiction;intro hc;rw [if_neg hc] at hx;cases hx
 have h2:a+(k+1)<b:=by apply Classical.byContradiction;intro hc;rw [if_neg hc] at hy;cases hy
 rw [if_pos h1] at hx
 rw [if_pos h2] at hy
 exact h.lnk (a+k) x y hx hy
theorem Jaz {l:List JR} {a b:Int} (h:Wa l) (h1:a≤b) (h2:(QW l).epoch≤a) (h3:b≤(WA l).epoch):Wo l a b=(cut l a b,0):=by
 unfold Wo
 rw [if_neg (by have:=Qb.2 h;omega),if_neg (by omega)]
theorem cut_ok {l:List JR} {a b:Int} (h:Wa l) (h1:a≤b) (h2:(QW l).epoch≤a) (h3:b≤(WA l).epoch):Wa (cut l a b)∧(cut l a b).length=b-a+1∧(cut l a b).length≤l.length∧(QW (cut l a b)).epoch=a∧(WA (cut l a b)).epoch=b:=by
 have hl:=h.lastE
 have hs:Wa (cut l a b):=h.sub (by omega) (by omega)
 have hlen:((cut l a b).length:Int)=b-a+1:=by unfold cut;simp;omega
 have hf:(QW (cut l a b)).epoch=a:=by
  have e:=hs.first
  have e2:(cut l a b)[0]? = l[(a-(QW l).epoch).toNat]?:=by
   unfold cut;rw [List.getElem?_drop,List.getElem?_take,if_pos (by omega)];simp
  rw [e2] at e
  have:=h.epoch _ _ e
  omega
 refine ⟨hs,hlen,by omega,hf,?_⟩
 rw [hs.lastE,hf];omega
theorem Jb3 {l:List JR} {r t:Int} (h:(Qe l r t).2=0):Wa l∧l.length<40∧(Jy (WA l) r t).2=0∧Qe l r t=(l++[(Jy (WA l) r t).1],0):=by
 unfold Qe at h ⊢
 split at h
 ·
  contradiction
 ·
  rename_i h1
  rw [if_neg h1]
  unfold Zx at h1
  by_cases e1:KO [l]=0
  ·
   rw [if_neg (by omega)] at h1
   have hc:=Qb.1 e1
   by_cases e2:(l.length:Int)=40
   ·
    rw [if_pos e2] at h1;omega
   ·
    rw [if_neg e2] at h1
    exact ⟨hc,by have:=hc.len;omega,Decidable.not_not.1 h1,rfl⟩
  ·
   rw [if_pos e1] at h1;omega
theorem JeB {l:List JR} {r t:Int} (h:¬ (Qe l r t).2=0):(Qe l r t).1=[]:=by
 revert h;unfold Qe;split <;> simp
theorem Wa.snoc {l:List JR} (h:Wa l) (hl:l.length<40) {n:JR} (hn:JD n=0) (hk:VY (WA l) n=true):Wa (l++[n]):=by
 refine ⟨by simp,by simp;omega,fun x hx=>?_,fun k x y hx hy=>?_⟩
 ·
  rcases List.mem_append.1 hx with hx | hx
  ·
   exact h.ok x hx
  ·
   rw [List.mem_singleton.1 hx];exact hn
 ·
  by_cases e:k+1<l.length
  ·
   rw [List.getElem?_append_left (by omega)] at hx hy
   exact h.lnk k x y hx hy
  ·
   have hy1:=(List.getElem?_eq_some_iff.1 hy).1
   simp at hy1
   have e2:k=l.length-1:=by have:=h.len1;omega
   have:=h.len1
   rw [List.getElem?_append_left (by omega),e2,h.last] at hx
   rw [List.getElem?_append_right (by omega),show k+1-l.length=0 by omega] at hy
   simp at hy
   rw [← Option.some.inj hx,← hy];exact hk
theorem Jic {x:JR} {r t:Int} (h:(Jy x r t).2=0):VY x (Jy x r t).1=true∧JD (Jy x r t).1=0:=by
 obtain ⟨h1,h2,h3,h4,h5⟩:=VW h
 have e1:(Jy x r t).1.root=r:=by rw [h4]
 have e2:(Jy x r t).1.at_=t:=by rw [h4]
 refine ⟨?_,by rw [h4];exact h5⟩
 unfold VY
 rw [decide_eq_true_eq,e1,e2]
 exact Prod.ext rfl h
theorem ZM {x:JR} {r t:Int} (hr:0≤r) (h:(Jy x r t).2=0):(0≤(Jy x r t).1.epoch∧(Jy x r t).1.epoch≤1000000)∧(0≤(Jy x r t).1.root∧(Jy x r t).1.root<2305843009213693951)∧(0≤(Jy x r t).1.prev∧(Jy x r t).1.prev<2305843009213693951)∧0≤(Jy x r t).1.at_∧(Jy x r t).1.at_≤1000000000:=by
 obtain ⟨h1,h2,h3,h4,h5⟩:=VW h
 have:=W6 h5
 have:=Qy (Y8 x)
 rw [h4]
 simp only at *
 omega
theorem Ja1 (G:Jt) (a_l:Option Addr) (c_l:Nat) (l:List JR) (h_l:RS KE G a_l c_l l) :QF Tryz.prog 77 #[Sl a_l l.length c_l] G [] (fun u G' L'=>u=I (QR l)):=by
 refine JJ Tryz.func77 42 [(0,Sl a_l l.length c_l)] rfl (fun w0 G0=>?_)
 refine Jg [0] [(0,Sl a_l l.length c_l)] (Je (Jg [0] [(0,Sl a_l l.length c_l),(3,I 1)] (Jz ?_)))
 have hlm_h_l:l.length≤9223372036854775807:=Nat.le_trans (h_l).le (h_l).max
 refine Qc (σ:=Nat) (fun q_=>(1≤q_∧(q_≤l.length∨q_=1))∧(QR l=lnk (l.drop (q_-1)) q_)) (fun q_=>[(0,Sl a_l l.length c_l),(3,I (q_:Int))]) (fun q_=>G) (fun q_=>[]) (fun q_=>l.length-q_) 1 ⟨⟨Nat.le_refl _,.inr rfl⟩,rfl⟩ (fun q_ hs=>?_)
 revert hs;revert q_;intro i hs
 obtain ⟨hi,hn⟩:=hs
 refine KQ (fr':=[(0,Sl a_l l.length c_l),(3,I (i:Int))]) (L':=[]) rfl rfl (Je (Jg [0,0,0,0] [(0,Sl a_l l.length c_l),(3,I (i:Int)),(9,Bo (decide ((i:Int)<(l.length:Int))))] (Jo (decide ((i:Int)<(l.length:Int))) (fun h1=>?_) (fun h1=>?_))))
 try simp only [BB] at h1
 refine Jm (Ja (Je (Jz (Je ?_))))
 have e1:IntKind.i64.wrap ((i:Int)-1)=((i-1:Nat):Int):=(IntWalk.i64_in _ (by omega)).trans (show (i:Int)-1=((i-1:Nat):Int) by omega)
 obtain ⟨b1,o1,rfl⟩:=RS.addr h_l (k:=i-1) (by omega)
 obtain ⟨x1,hx1⟩:=Wh (l:=l) (k:=i-1) (by omega)
 obtain ⟨_,⟨rfl,w1,w2,w3,w4⟩,hc1⟩:=RS.get h_l hx1
 obtain ⟨x2,hx2⟩:=Wh (l:=l) (k:=i) (by omega)
 obtain ⟨_,⟨rfl,_,w6,_,w8⟩,hc2⟩:=RS.get h_l hx2
 refine KB [19,20] (Wr [(0,Sl (At b1 o1) l.length c_l),(1,I (i:Int)),(2,I ((i-1:Nat):Int)),(3,Pt b1 (o1+(i-1)*4)),(4,.agg #[I x1.epoch,U x1.root,U x1.prev,I x1.at_]),(5,Sl (At b1 o1) l.length c_l),(6,I (i:Int)),(7,Pt b1 (o1+i*4)),(8,Pt b1 (o1+i*4+1)),(9,U x2.root),(10,Sl (At b1 o1) l.length c_l),(11,I (i:Int)),(12,Pt b1 (o1+i*4)),(13,Pt b1 (o1+i*4+3)),(14,I x2.at_),(15,.tuple #[(YC (Jy x1 x2.root x2.at_).1),I ((Jy x1 x2.root x2.at_).2)]),(16,.tuple #[(YC (Jy x1 x2.root x2.at_).1),I ((Jy x1 x2.root x2.at_).2)]),(17,(YC (Jy x1 x2.root x2.at_).1)),(18,I ((Jy x1 x2.root x2.at_).2))] (J1 [] [(0,0),(1,0),(5,0),(6,0),(8,0),(10,0),(11,0),(13,0),(16,0),(17,0),(18,0)] [2,3,4,7,9,12,14,15] [19] (List.forall_mem_cons.2 ⟨?_,(List.forall_mem_cons.2 ⟨?_,(List.forall_mem_cons.2 ⟨?_,(List.forall_mem_cons.2 ⟨?_,(List.forall_mem_cons.2 ⟨?_,(List.forall_mem_cons.2 ⟨?_,(List.forall_mem_cons.2 ⟨?_,(List.forall_mem_cons.2 ⟨?_,List.forall_mem_nil _⟩)⟩)⟩)⟩)⟩)⟩)⟩)⟩) (List.forall_mem_cons.2 ⟨?_,List.forall_mem_nil _⟩)))
 refine Jr 2 15 (I ((i-1:Nat):Int)) [(14,I (i:Int))] (fun X=>?_)
 exact K6 15 (I (IntKind.i64.wrap ((i:Int)-1))) (I ((i-1:Nat):Int)) (by simp only [e1]) Jp
 refine Jr 3 16 (Pt b1 (o1+(i-1)*4)) [(13,Sl (At b1 o1) l.length c_l),(15,I ((i-1:Nat):Int))] (fun X=>?_)
 exact Kh (b:=b1) (off:=o1) (len:=l.length) (cap:=c_l) (ik:=.i64) 16 50 4 (i-1) (by omega) Jp
 refine Jr 4 17 (.agg #[I x1.epoch,U x1.root,U x1.prev,I x1.at_]) [(16,Pt b1 (o1+(i-1)*4))] (fun X=>?_)
 exact Ka 17 50 (cs:=[I x1.epoch,U x1.root,U x1.prev,I x1.at_]) 0 (.agg #[I x1.epoch,U x1.root,U x1.prev,I x1.at_]) hc1 Jp
 refine Jr 7 20 (Pt b1 (o1+i*4)) [(18,Sl (At b1 o1) l.length c_l),(19,I (i:Int))] (fun X=>?_)
 exact Kh (b:=b1) (off:=o1) (len:=l.length) (cap:=c_l) (ik:=.i64) 20 50 4 i (by omega) Jp
 refine Jr 9 22 (U x2.root) [(21,Pt b1 (o1+i*4+1))] (fun X=>?_)
 exact Ka 22 48 (cs:=[I x2.epoch,U x2.root,U x2.prev,I x2.at_]) 1 (U x2.root) hc2 Jp
 refine Jr 12 25 (Pt b1 (o1+i*4)) [(23,Sl (At b1 o1) l.length c_l),(24,I (i:Int))] (fun X=>?_)
 exact Kh (b:=b1) (off:=o1) (len:=l.length) (cap:=c_l) (ik:=.i64) 25 50 4 i (by omega) Jp
 refine Jr 14 27 (I x2.at_) [(26,Pt b1 (o1+i*4+3))] (fun X=>?_)
 exact Ka 27 2 (cs:=[I x2.epoch,U x2.root,U x2.prev,I x2.at_]) 3 (I x2.at_) hc2 Jp
 refine Jr 15 28 (.tuple #[(YC (Jy x1 x2.root x2.at_).1),I ((Jy x1 x2.root x2.at_).2)]) [(17,.agg #[I x1.epoch,U x1.root,U x1.prev,I x1.at_]),(22,U x2.root),(27,I x2.at_)] (fun X=>?_)
 exact Ji 28 (.tuple #[(YC (Jy x1 x2.root x2.at_).1),I ((Jy x1 x2.root x2.at_).2)]) (Jas G [I x1.epoch,U x1.root,U x1.prev,I x1.at_] x1 (⟨rfl,w1,w2,w3,w4⟩) x2.root w6 x2.at_ w8) Jp
 refine JS 19 [] (fun X=>?_)
 refine Ju 4 #[I 0,U 0,U 0,I 0] 50 (fun b2=>?_)
 have e2:IntKind.i64.wrap ((i:Int)-1)=((i-1:Nat):Int):=(IntWalk.i64_in _ (by omega)).trans (show (i:Int)-1=((i-1:Nat):Int) by omega)
 refine JW [(19,Pt b2 0)] (J1 [] [(0,0),(1,0),(5,0),(6,0),(8,0),(10,0),(11,0),(13,0),(16,0),(17,0),(18,0)] [2,3,4,7,9,12,14,15] [20] (List.forall_mem_cons.2 ⟨?_,(List.forall_mem_cons.2 ⟨?_,(List.forall_mem_cons.2 ⟨?_,(List.forall_mem_cons.2 ⟨?_,(List.forall_mem_cons.2 ⟨?_,(List.forall_mem_cons.2 ⟨?_,(List.forall_mem_cons.2 ⟨?_,(List.forall_mem_cons.2 ⟨?_,List.forall_mem_nil _⟩)⟩)⟩)⟩)⟩)⟩)⟩)⟩) (List.forall_mem_cons.2 ⟨?_,List.forall_mem_nil _⟩))
 refine Jr 2 15 (I ((i-1:Nat):Int)) [(14,I (i:Int))] (fun X=>?_)
 exact K6 15 (I (IntKind.i64.wrap ((i:Int)-1))) (I ((i-1:Nat):Int)) (by simp only [e2]) Jp
 refine Jr 3 16 (Pt b1 (o1+(i-1)*4)) [(13,Sl (At b1 o1) l.length c_l),(15,I ((i-1:Nat):Int))] (fun X=>?_)
 exact Kh (b:=b1) (off:=o1) (len:=l.length) (cap:=c_l) (ik:=.i64) 16 50 4 (i-1) (by omega) Jp
 refine Jr 4 17 (.agg #[I x1.epoch,U x1.root,U x1.prev,I x1.at_]) [(16,Pt b1 (o1+(i-1)*4))] (fun X=>?_)
 exact Ka 17 50 (cs:=[I x1.epoch,U x1.root,U x1.prev,I x1.at_]) 0 (.agg #[I x1.epoch,U x1.root,U x1.prev,I x1.at_]) hc1 Jp
 refine Jr 7 20 (Pt b1 (o1+i*4)) [(18,Sl (At b1 o1) l.length c_l),(19,I (i:Int))] (fun X=>?_)
 exact Kh (b:=b1) (off:=o1) (len:=l.length) (cap:=c_l) (ik:=.i64) 20 50 4 i (by omega) Jp
 refine Jr 9 22 (U x2.root) [(21,Pt b1 (o1+i*4+1))] (fun X=>?_)
 exact Ka 22 48 (cs:=[I x2.epoch,U x2.root,U x2.prev,I x2.at_]) 1 (U x2.root) hc2 Jp
 refine Jr 12 25 (Pt b1 (o1+i*4)) [(23,Sl (At b1 o1) l.length c_l),(24,I (i:Int))] (fun X=>?_)
 exact Kh (b:=b1) (off:=o1) (len:=l.length) (cap:=c_l) (ik:=.i64) 25 50 4 i (by omega) Jp
 refine Jr 14 27 (I x2.at_) [(26,Pt b1 (o1+i*4+3))] (fun X=>?_)
 exact Ka 27 2 (cs:=[I x2.epoch,U x2.root,U x2.prev,I x2.at_]) 3 (I x2.at_) hc2 Jp
 refine Jr 15 28 (.tuple #[(YC (Jy x1 x2.root x2.at_).1),I ((Jy x1 x2.root x2.at_).2)]) [(17,.agg #[I x1.epoch,U x1.root,U x1.prev,I x1.at_]),(22,U x2.root),(27,I x2.at_)] (fun X=>?_)
 exact Ji 28 (.tuple #[(YC (Jy x1 x2.root x2.at_).1),I ((Jy x1 x2.root x2.at_).2)]) (Jas G [I x1.epoch,U x1.root,U x1.prev,I x1.at_] x1 (⟨rfl,w1,w2,w3,w4⟩) x2.root w6 x2.at_ w8) Jp
 refine JS 20 [(4,Pt b2 0),(29,(YC (Jy x1 x2.root x2.at_).1))] (fun X=>?_)
 refine K2 0 [[Sg b2 0 (JaS (Jy x1 x2.root x2.at_).1)]] (Kp [(21,I ((Jy x1 x2.root x2.at_).2))] (KA [0,1,2,3,4,5,6,7,8,9,10,11,12,13,14,15,16,17] [(18,0),(21,0)] [] [(0,Sl (At b1 o1) l.length c_l),(3,I (i:Int)),(4,Pt b2 0),(5,I ((Jy x1 x2.root x2.at_).2))] (List.forall_mem_nil _) (Ja (Je ?_))))
 rcases Bool.eq_false_or_eq_true (!decide ((Jy x1 x2.root x2.at_).2=0)) with h2 | h2
 have h2d:=h2
 try simp only [BB] at h2d
 refine KB [] (Wr [(0,I ((Jy x1 x2.root x2.at_).2)),(1,Bo true),(2,Bo true),(3,undef),(4,undef),(5,undef),(6,undef),(7,undef),(8,undef),(9,Bo true)] (KA [] [(0,0),(2,0),(3,1),(4,1),(5,1),(6,1),(7,1),(8,1),(9,0)] [1] [(0,Sl (At b1 o1) l.length c_l),(3,I (i:Int)),(40,Bo true)] (List.forall_mem_cons.2 ⟨?_,List.forall_mem_nil _⟩) ?_))
 refine Jr 1 32 (Bo true) [(31,I ((Jy x1 x2.root x2.at_).2))] (fun X=>?_)
 exact K6 32 (Bo (!decide ((Jy x1 x2.root x2.at_).2=0))) (Bo true) (by rw [h2]) Jp
 refine Ja (JZ (Jg [0,0] [(2,I (i:Int))] (Jk (Js (Jh (QC (Js (Jh (Jl [0] [I (i:Int)] (Jv (Jt.le_refl _) ?_))))))))))
 have hf_:(QR l)=(i:Int):=by
  rw [hn];exact Jlr (by omega) hx1 hx2 (by rw [JcD];simp_all)
 · (try rw [hf_]);(simp only [JL];done)
 have h2d:=h2
 try simp only [BB] at h2d
 refine KB [] (Wr [(0,I ((Jy x1 x2.root x2.at_).2)),(1,Bo false),(2,Bo false),(3,(YC (Jy x1 x2.root x2.at_).1)),(4,Sl (At b1 o1) l.length c_l),(5,I (i:Int)),(6,Pt b1 (o1+i*4)),(7,.agg #[I x2.epoch,U x2.root,U x2.prev,I x2.at_]),(8,Bo (!(decide (((Jy x1 x2.root x2.at_).1).epoch=x2.epoch) && decide (((Jy x1 x2.root x2.at_).1).root=x2.root) && decide (((Jy x1 x2.root x2.at_).1).prev=x2.prev) && decide (((Jy x1 x2.root x2.at_).1).at_=x2.at_)))),(9,Bo (!(decide (((Jy x1 x2.root x2.at_).1).epoch=x2.epoch) && decide (((Jy x1 x2.root x2.at_).1).root=x2.root) && decide (((Jy x1 x2.root x2.at_).1).prev=x2.prev) && decide (((Jy x1 x2.root x2.at_).1).at_=x2.at_))))] (KA [] [(0,0),(2,0),(3,2),(4,0),(5,0),(9,0)] [1,6,7,8] [(0,Sl (At b1 o1) l.length c_l),(3,I (i:Int)),(40,Bo (!(decide (((Jy x1 x2.root x2.at_).1).epoch=x2.epoch) && decide (((Jy x1 x2.root x2.at_).1).root=x2.root) && decide (((Jy x1 x2.root x2.at_).1).prev=x2.prev) && decide (((Jy x1 x2.root x2.at_).1).at_=x2.at_))))] (List.forall_mem_cons.2 ⟨?_,(List.forall_mem_cons.2 ⟨?_,(List.forall_mem_cons.2 ⟨?_,(List.forall_mem_cons.2 ⟨?_,List.forall_mem_nil _⟩)⟩)⟩)⟩) ?_))
 refine Jr 1 32 (Bo false) [(31,I ((Jy x1 x2.root x2.at_).2))] (fun X=>?_)
 exact K6 32 (Bo (!decide ((Jy x1 x2.root x2.at_).2=0))) (Bo false) (by rw [h2]) Jp
 refine Jr 6 37 (Pt b1 (o1+i*4)) [(33,Bo false),(35,Sl (At b1 o1) l.length c_l),(36,I (i:Int))] (fun X=>?_)
 exact Kh (b:=b1) (off:=o1) (len:=l.length) (cap:=c_l) (ik:=.i64) 37 50 4 i (by omega) Jp
 refine Jr 7 38 (.agg #[I x2.epoch,U x2.root,U x2.prev,I x2.at_]) [(33,Bo false),(37,Pt b1 (o1+i*4))] (fun X=>?_)
 exact Ka 38 50 (cs:=[I x2.epoch,U x2.root,U x2.prev,I x2.at_]) 0 (.agg #[I x2.epoch,U x2.root,U x2.prev,I x2.at_]) hc2 Jp
 refine Jr 8 39 (Bo (!(decide (((Jy x1 x2.root x2.at_).1).epoch=x2.epoch) && decide (((Jy x1 x2.root x2.at_).1).root=x2.root) && decide (((Jy x1 x2.root x2.at_).1).prev=x2.prev) && decide (((Jy x1 x2.root x2.at_).1).at_=x2.at_)))) [(33,Bo false),(34,(YC (Jy x1 x2.root x2.at_).1)),(38,.agg #[I x2.epoch,U x2.root,U x2.prev,I x2.at_])] (fun X=>?_)
 exact JbQ 39 (Bo (!(decide (((Jy x1 x2.root x2.at_).1).epoch=x2.epoch) && (decide (((Jy x1 x2.root x2.at_).1).root=x2.root) && (decide (((Jy x1 x2.root x2.at_).1).prev=x2.prev) && (decide (((Jy x1 x2.root x2.at_).1).at_=x2.at_) && true)))))) (Bo (!(decide (((Jy x1 x2.root x2.at_).1).epoch=x2.epoch) && decide (((Jy x1 x2.root x2.at_).1).root=x2.root) && decide (((Jy x1 x2.root x2.at_).1).prev=x2.prev) && decide (((Jy x1 x2.root x2.at_).1).at_=x2.at_)))) (by simp [Za,Bool.and_assoc]) Jp
 refine Ja (Jo (!(decide (((Jy x1 x2.root x2.at_).1).epoch=x2.epoch) && decide (((Jy x1 x2.root x2.at_).1).root=x2.root) && decide (((Jy x1 x2.root x2.at_).1).prev=x2.prev) && decide (((Jy x1 x2.root x2.at_).1).at_=x2.at_))) (fun h3=>?_) (fun h3=>?_))
 try simp only [BB] at h3
 refine Jg [0,0] [(2,I (i:Int))] (Jk (Js (Jh (QC (Js (Jh (Jl [0] [I (i:Int)] (Jv (Jt.le_refl _) ?_))))))))
 have hf_:(QR l)=(i:Int):=by
  rw [hn];exact Jlr (by omega) hx1 hx2 (by rw [JcD];simp_all)
 · (try rw [hf_]);(simp only [JL];done)
 try simp only [BB] at h3
 refine Jm (JM (Ja (Jb (Jd [0,0,0] [(0,Sl (At b1 o1) l.length c_l),(3,I (IntKind.i64.wrap ((i:Int)+1)))] ?_))))
 have e3:IntKind.i64.wrap ((i:Int)+1)=(i:Int)+1:=IntWalk.i64_in _ (by omega)
 refine J3 (fr':=[(0,Sl (At b1 o1) l.length c_l),(3,I ((i:Int)+1))]) (L':=[[Sg b2 0 [I (((Jy x1 x2.root x2.at_).1).epoch),U (((Jy x1 x2.root x2.at_).1).root),U (((Jy x1 x2.root x2.at_).1).prev),I (((Jy x1 x2.root x2.at_).1).at_)]]]) (by simp only [JaS,YC,e3];first | done | rfl) (by rfl) ?_
 clear e3
 exact Jc (Q4 [] (.cons _ .slnil) (Qg (i+1) ⟨⟨by (try dsimp only);omega,.inl (by (try dsimp only);omega)⟩,(by rw [hn];exact Jlq (by omega) hx1 hx2 (JcD.2 (by simp_all)))⟩ (by (try dsimp only);omega)))
 try simp only [BB] at h1
 refine K0 (J2 (Kf (JU (Ja (Jg [0] [(2,I (-1))] (Jk (Jl [0] [I (-1)] (Jv (Jt.le_refl _) ?_))))))))
 have hf_:(QR l)=(-1):=by
  rw [hn];exact Jmy (by simp;omega)
 · (try rw [hf_]);(simp only [JL];done)
theorem VL (G:Jt) (a_l:Option Addr) (c_l:Nat) (l:List JR) (h_l:RS KE G a_l c_l l) :QF Tryz.prog 36 #[Sl a_l l.length c_l] G [] (fun u G' L'=>u=.tuple #[I ((Kc l).1),I ((Kc l).2)]):=by
 refine JJ Tryz.func36 35 [(0,Sl a_l l.length c_l)] rfl (fun w0 G0=>?_)
 refine Jg [0,0] [(0,Sl a_l l.length c_l)] (Je (Jz (Jg [0,0,0,0] [(0,Sl a_l l.length c_l),(8,Bo (decide ((l.length:Int)=0)))] (Jo (decide ((l.length:Int)=0)) (fun h1=>?_) (fun h1=>?_)))))
 try simp only [BB] at h1
 refine Jg [0,0] [(2,I 5),(3,I 0)] (Jk (Js (Jh (Jl [0,0] [I 5,I 0] (Jv (Jt.le_refl _) ?_)))))
 have hf_:(Kc l)=(5,0):=by
  unfold Kc;(rw [if_pos (by omega)];done)
 · (try rw [hf_]);(simp only [JL];done)
 try simp only [BB] at h1
 refine Jg [0,0,0,0] [(0,Sl a_l l.length c_l),(12,Bo (decide ((l.length:Int) > 40)))] (Jo (decide ((l.length:Int) > 40)) (fun h2=>?_) (fun h2=>?_))
 try simp only [BB] at h2
 refine Jg [0,0] [(2,I 2),(3,I 0)] (Jk (Js (Jh (Jl [0,0] [I 2,I 0] (Jv (Jt.le_refl _) ?_)))))
 have hf_:(Kc l)=(2,0):=by
  unfold Kc;(rw [if_neg (by omega),if_pos (by omega)];done)
 · (try rw [hf_]);(simp only [JL];done)
 try simp only [BB] at h2
 refine Jm (JM (Ja (Je (Jg [0,0,0] [(0,Sl a_l l.length c_l),(16,Sl a_l l.length c_l),(17,I (l.length:Int)),(18,I 0)] (Jz ?_)))))
 have hlm_h_l:l.length≤9223372036854775807:=Nat.le_trans (h_l).le (h_l).max
 refine Qc (σ:=Nat) (fun q_=>(q_≤l.length)∧(Y1 l 0=Y1 (l.drop q_) q_)) (fun q_=>[(0,Sl a_l l.length c_l),(16,Sl a_l l.length c_l),(17,I (l.length:Int)),(18,I (q_:Int))]) (fun q_=>G) (fun q_=>[]) (fun q_=>l.length-q_) 0 ⟨(by (try dsimp only);exact Nat.zero_le _),rfl⟩ (fun q_ hs=>?_)
 revert hs;revert q_;intro i hs
 obtain ⟨hi,hn⟩:=hs
 refine KQ (fr':=[(0,Sl a_l l.length c_l),(16,Sl a_l l.length c_l),(17,I (l.length:Int)),(18,I (i:Int))]) (L':=[]) rfl rfl (Jg [0] [(0,Sl a_l l.length c_l),(16,Sl a_l l.length c_l),(17,I (l.length:Int)),(18,I (i:Int)),(19,Bo (decide ((i:Int)<(l.length:Int))))] (Je (Jo (decide ((i:Int)<(l.length:Int))) (fun h3=>?_) (fun h3=>?_))))
 try simp only [BB] at h3
 refine Jm (Ja (Je (Jz (Je (Jb (Jd [0] [(0,Sl a_l l.length c_l),(16,Sl a_l l.length c_l),(17,I (l.length:Int)),(18,I (i:Int)),(20,I (i:Int))] ?_))))))
 obtain ⟨b1,o1,rfl⟩:=RS.addr h_l (k:=i) (by omega)
 obtain ⟨x1,hx1⟩:=Wh (l:=l) (k:=i) (by omega)
 obtain ⟨_,⟨rfl,_,_,_,_⟩,hc1⟩:=RS.get h_l hx1
 refine Kh (b:=b1) (off:=o1) (len:=l.length) (cap:=c_l) (ik:=.i64) 21 50 4 i (by omega) (Ka 22 50 (cs:=[I x1.epoch,U x1.root,U x1.prev,I x1.at_]) 0 (.agg #[I x1.epoch,U x1.root,U x1.prev,I x1.at_]) hc1 (Ju 5 #[I 0,U 0,U 0,I 0] 50 (fun b2=>Kd [0,3] [(0,Sl (At b1 o1) l.length c_l),(4,I (i:Int)),(5,Pt b2 0),(16,Sl (At b1 o1) l.length c_l),(17,I (l.length:Int)),(18,I (i:Int))] [[Sg b2 0 [I x1.epoch,U x1.root,U x1.prev,I x1.at_]]] (Jc (Ja (Je (Jb (Jd [2] [(0,Sl (At b1 o1) l.length c_l),(4,I (i:Int)),(16,Sl (At b1 o1) l.length c_l),(17,I (l.length:Int)),(18,I (i:Int)),(23,.agg #[I x1.epoch,U x1.root,U x1.prev,I x1.at_])] (Ji 24 (I (JD x1)) (Zv x1 G) (Jd [0] [(0,Sl (At b1 o1) l.length c_l),(4,I (i:Int)),(6,I (JD x1)),(16,Sl (At b1 o1) l.length c_l),(17,I (l.length:Int)),(18,I (i:Int))] (Jc (Ja (Jg [0,0] [(0,Sl (At b1 o1) l.length c_l),(4,I (i:Int)),(6,I (JD x1)),(16,Sl (At b1 o1) l.length c_l),(17,I (l.length:Int)),(18,I (i:Int)),(26,Bo (!decide (JD x1=0)))] (Jo (!decide (JD x1=0)) (fun h4=>?_) (fun h4=>?_)))))))))))))))
 try simp only [BB] at h4
 refine Jg [0,0,0,0] [(2,I (JD x1)),(3,I (i:Int))] (Jk (Js (Jh (QC (Js (Jh (Jl [0,0] [I (JD x1),I (i:Int)] (Jv (Jt.le_refl _) ?_))))))))
 have hf_:(Kc l)=((JD x1),(i:Int)):=by
  unfold Kc;(rw [if_neg (by omega),if_neg (by omega)];(have e_:=Jkb hx1 ‹_›;rw [← hn] at e_;rw [if_pos (by rw [e_];assumption),e_];done))
 · (try rw [hf_]);(simp only [JL];done)
 try simp only [BB] at h4
 refine Jm (JM (Ja (Jb (Jd [0,0] [(0,Sl (At b1 o1) l.length c_l),(16,Sl (At b1 o1) l.length c_l),(17,I (l.length:Int)),(18,I (IntKind.i64.wrap ((i:Int)+1)))] ?_))))
 have e1:IntKind.i64.wrap ((i:Int)+1)=(i:Int)+1:=IntWalk.i64_in _ (by omega)
 refine J3 (fr':=[(0,Sl (At b1 o1) l.length c_l),(16,Sl (At b1 o1) l.length c_l),(17,I (l.length:Int)),(18,I ((i:Int)+1))]) (L':=[[Sg b2 0 [I x1.epoch,U x1.root,U x1.prev,I x1.at_]]]) (by simp only [e1]) (by rfl) ?_
 clear e1
 exact Jc (Q4 [] (.cons _ .slnil) (Qg (i+1) ⟨(by omega),(by rw [hn];exact Jg8 hx1 ‹_›)⟩ (by (try dsimp only);omega)))
 try simp only [BB] at h3
 refine K0 (J2 (Kf (JU (Ja (Je (Je (Jb (Jd [0] [(30,Sl a_l l.length c_l)] (Ji 31 (I (QR l)) (Ja1 G a_l c_l l h_l) (Jd [0] [(7,I (QR l))] (Jc (Ja (Jg [0,0] [(7,I (QR l)),(33,Bo (decide (QR l ≥ 0)))] (Jo (decide (QR l ≥ 0)) (fun h5=>?_) (fun h5=>?_)))))))))))))))
 try simp only [BB] at h5
 refine Jg [0,0,0] [(2,I 8),(3,I (QR l))] (Jk (Jh (Jl [0,0] [I 8,I (QR l)] (Jv (Jt.le_refl _) ?_))))
 have hf_:(Kc l)=(8,(QR l)):=by
  unfold Kc;(rw [if_neg (by omega),if_neg (by omega)];(have e_:Y1 l 0=(0,0):=(by rw [hn,List.drop_eq_nil_of_le (by omega)];rfl);rw [if_neg (by rw [e_];simp)];(rw [if_pos (by omega)];done)))
 · (try rw [hf_]);(simp only [JL];done)
 try simp only [BB] at h5
 refine Jm (Ja (Jg [0,0] [(2,I 0),(3,I 0)] (Jk (Jl [0,0] [I 0,I 0] (Jv (Jt.le_refl _) ?_)))))
 have hf_:(Kc l)=(0,0):=by
  unfold Kc;(rw [if_neg (by omega),if_neg (by omega)];(have e_:Y1 l 0=(0,0):=(by rw [hn,List.drop_eq_nil_of_le (by omega)];rfl);rw [if_neg (by rw [e_];simp)];(rw [if_neg (by omega)];done)))
 · (try rw [hf_]);(simp only [JL];done)
theorem JaA (G:Jt) (a_l:Option Addr) (c_l:Nat) (l:List (List JR)) (h_l:RS Jdv G a_l c_l l) :QF Tryz.prog 102 #[Sl a_l l.length c_l] G [] (fun u G' L'=>u=I (KO l)):=by
 refine JJ Tryz.func102 22 [(0,Sl a_l l.length c_l)] rfl (fun w0 G0=>?_)
 refine Jg [0] [(0,Sl a_l l.length c_l)] (Je (Jg [0,0,0] [(7,Sl a_l l.length c_l),(8,I (l.length:Int)),(9,I 0)] (Jz ?_)))
 have hlm_h_l:l.length≤9223372036854775807:=Nat.le_trans (h_l).le (h_l).max
 refine Qc (σ:=Nat) (fun q_=>(q_≤l.length)∧(KO l=KO (l.drop q_))) (fun q_=>[(7,Sl a_l l.length c_l),(8,I (l.length:Int)),(9,I (q_:Int))]) (fun q_=>G) (fun q_=>[]) (fun q_=>l.length-q_) 0 ⟨(by (try dsimp only);exact Nat.zero_le _),rfl⟩ (fun q_ hs=>?_)
 revert hs;revert q_;intro i hs
 obtain ⟨hi,hn⟩:=hs
 refine KQ (fr':=[(7,Sl a_l l.length c_l),(8,I (l.length:Int)),(9,I (i:Int))]) (L':=[]) rfl rfl (Jg [0] [(7,Sl a_l l.length c_l),(8,I (l.length:Int)),(9,I (i:Int)),(10,Bo (decide ((i:Int)<(l.length:Int))))] (Je (Jo (decide ((i:Int)<(l.length:Int))) (fun h1=>?_) (fun h1=>?_))))
 try simp only [BB] at h1
 refine Jm (Ja (Je (Jz (Je (Jb ?_)))))
 obtain ⟨b1,o1,rfl⟩:=RS.addr h_l (k:=i) (by omega)
 obtain ⟨x1,hx1⟩:=Wh (l:=l) (k:=i) (by omega)
 obtain ⟨_,⟨a1,c1,rfl,hs1⟩,hc1⟩:=RS.get h_l hx1
 refine Kh (b:=b1) (off:=o1) (len:=l.length) (cap:=c_l) (ik:=.i64) 11 31 1 i (by omega) (Ka 12 31 (cs:=[Sl a1 x1.length c1]) 0 (Sl a1 x1.length c1) hc1 (Jd [0] [(4,Sl a1 x1.length c1),(7,Sl (At b1 o1) l.length c_l),(8,I (l.length:Int)),(9,I (i:Int))] (Jc (Ja (Je (Jb (Jd [0] [(7,Sl (At b1 o1) l.length c_l),(8,I (l.length:Int)),(9,I (i:Int)),(14,Sl a1 x1.length c1)] (Ji 15 (.tuple #[I ((Kc x1).1),I ((Kc x1).2)]) (VL G a1 c1 x1 hs1) (Jd [0,0,0,0,0] [(5,I ((Kc x1).1)),(7,Sl (At b1 o1) l.length c_l),(8,I (l.length:Int)),(9,I (i:Int))] (Jc (Ja (Jg [0,0] [(5,I ((Kc x1).1)),(7,Sl (At b1 o1) l.length c_l),(8,I (l.length:Int)),(9,I (i:Int)),(19,Bo (!decide ((Kc x1).1=0)))] (Jo (!decide ((Kc x1).1=0)) (fun h2=>?_) (fun h2=>?_))))))))))))))
 try simp only [BB] at h2
 refine Jg [0,0] [(2,I ((Kc x1).1))] (Jk (Js (Jh (QC (Js (Jh (Jl [0] [I ((Kc x1).1)] (Jv (Jt.le_refl _) ?_))))))))
 have hf_:(KO l)=((Kc x1).1):=by
  rw [hn];exact Jg9 hx1 ‹_›
 · (try rw [hf_]);(simp only [JL];done)
 try simp only [BB] at h2
 refine Jm (JM (Ja (Jb (Jd [0,0] [(7,Sl (At b1 o1) l.length c_l),(8,I (l.length:Int)),(9,I (IntKind.i64.wrap ((i:Int)+1)))] ?_))))
 have e1:IntKind.i64.wrap ((i:Int)+1)=(i:Int)+1:=IntWalk.i64_in _ (by omega)
 refine J3 (fr':=[(7,Sl (At b1 o1) l.length c_l),(8,I (l.length:Int)),(9,I ((i:Int)+1))]) (L':=[]) (by simp only [e1]) (by rfl) ?_
 clear e1
 exact Jc (Qg (i+1) ⟨(by omega),(by rw [hn];exact JeA hx1 ‹_›)⟩ (by (try dsimp only);omega))
 try simp only [BB] at h1
 refine K0 (J2 (Kf (JU (Ja (Jg [0] [(2,I 0)] (Jk (Jl [0] [I 0] (Jv (Jt.le_refl _) ?_))))))))
 have hf_:(KO l)=0:=by
  rw [hn];(rw [List.drop_eq_nil_of_le (by omega)];rfl)
 · (try rw [hf_]);(simp only [JL];done)
theorem JeC (G:Jt) (a_l:Option Addr) (c_l:Nat) (l:List JR) (h_l:RS KE G a_l c_l l) (root:Int) (hw_root:rU root) (a:Int) (hw_a:rI a) :QF Tryz.prog 63 #[Sl a_l l.length c_l,U root,I a] G [] (fun u G' L'=>∃ (a1:Option Addr) (c2:Nat) (r3:List Ks),u=.tuple #[Sl a1 (((Qe l root a).1).length) c2,I ((Qe l root a).2)]∧(J9 KE G' a1 c2 ((Qe l root a).1) r3)∧L'=[r3]):=by
 refine JJ Tryz.func63 41 [(0,Sl a_l l.length c_l),(1,U root),(2,I a)] rfl (fun w0 G0=>?_)
 refine Jg [0,0] [(0,Sl a_l l.length c_l),(1,U root),(2,I a)] (Je (Jb (Jd [0] [(0,Sl a_l l.length c_l),(1,U root),(2,I a),(10,Sl a_l l.length c_l)] (KH 11 1 #[Sl a_l l.length c_l] 31 (fun b1=>QQ (b:=b1) (o:=0) (cs:=[Sl a_l l.length c_l]) 0 (fun G1 hl1 hz1=>?_))))))
 have hs1:RS Jdv G1 (At b1 0) 1 [l]:=RS.lit [[Sl a_l l.length c_l]] [l] ⟨⟨a_l,c_l,rfl,(h_l.mono hl1)⟩,trivial⟩ hz1 (Nat.le_of_ble_eq_true rfl) (Nat.le_of_ble_eq_true rfl)
 refine Ji 12 (I (KO ([l]))) (JaA G1 (At b1 0) 1 ([l]) hs1) (Jd [0] [(0,Sl a_l l.length c_l),(1,U root),(2,I a),(8,I (KO ([l])))] (Jc (Ja (Je (Jz (Jg [0,0,0] [(0,Sl a_l l.length c_l),(1,U root),(2,I a),(8,I (KO ([l]))),(13,Bo (!decide (KO ([l])=0)))] (Jo (!decide (KO ([l])=0)) (fun h1=>?_) (fun h1=>?_))))))))
 try simp only [BB] at h1
 refine Jg [0,0,0] [(6,Sl none 0 0),(7,I (KO ([l])))] (Jk (Js (Jh (Zb (Jj 0 ?_)))))
 have hf1:Qe l root a=([],KO ([l])):=by
  unfold Qe Zx;(simp_all;done)
 refine Jl [0,0] [Sl none 0 0,I (KO ([l]))] (JY [[]] (.cons_cons _ (.cons _ .slnil)) hl1 ?_)
 rw [hf1]
 try dsimp only
 exact ⟨none,0,([]),rfl,(J9.none KE _),rfl⟩
 try simp only [BB] at h1
 refine Jg [0,0,0,0] [(0,Sl a_l l.length c_l),(1,U root),(2,I a),(17,Bo (decide ((l.length:Int)=40)))] (Jo (decide ((l.length:Int)=40)) (fun h2=>?_) (fun h2=>?_))
 try simp only [BB] at h2
 refine Jg [0,0] [(6,Sl none 0 0),(7,I 7)] (Jk (Js (Jh (Zb (Jj 0 ?_)))))
 have hf2:Qe l root a=([],7):=by
  unfold Qe Zx;(simp_all;done)
 refine Jl [0,0] [Sl none 0 0,I 7] (JY [[]] (.cons_cons _ (.cons _ .slnil)) hl1 ?_)
 rw [hf2]
 try dsimp only
 exact ⟨none,0,([]),rfl,(J9.none KE _),rfl⟩
 try simp only [BB] at h2
 refine Jm (JM (Ja (Je (Jb (Jd [0,0,0,0] [(0,Sl a_l l.length c_l),(1,U root),(2,I a),(22,Sl a_l l.length c_l),(25,I (IntKind.i64.wrap ((l.length:Int)-1)))] ?_)))))
 have e1:IntKind.i64.wrap ((l.length:Int)-1)=((l.length-1:Nat):Int):=(IntWalk.i64_in _ (by (have q_:=Qb.1 ‹_›;have q1_:=q_.len1;have q2_:=q_.len;have q3_:=q_.lastE;have q4_:=q_.fb;have q5_:=q_.lb;omega))).trans (show (l.length:Int)-1=((l.length-1:Nat):Int) by (have q_:=Qb.1 ‹_›;have q1_:=q_.len1;have q2_:=q_.len;have q3_:=q_.lastE;have q4_:=q_.fb;have q5_:=q_.lb;omega))
 refine J3 (fr':=[(0,Sl a_l l.length c_l),(1,U root),(2,I a),(22,Sl a_l l.length c_l),(25,I ((l.length-1:Nat):Int))]) (L':=[[]]) (by simp only [JaS,YC,e1];first | done | rfl) (by rfl) ?_
 clear e1
 obtain ⟨b2,o1,rfl⟩:=RS.addr (h_l.mono hl1) (k:=l.length-1) (by (have q_:=Qb.1 ‹_›;have q1_:=q_.len1;have q2_:=q_.len;have q3_:=q_.lastE;have q4_:=q_.fb;have q5_:=q_.lb;omega))
 obtain ⟨x1,hx1⟩:=Wh (l:=l) (k:=l.length-1) (by (have q_:=Qb.1 ‹_›;have q1_:=q_.len1;have q2_:=q_.len;have q3_:=q_.lastE;have q4_:=q_.fb;have q5_:=q_.lb;omega))
 obtain ⟨_,⟨rfl,w1,w2,w3,w4⟩,hc1⟩:=RS.get (h_l.mono hl1) hx1
 refine Kh (b:=b2) (off:=o1) (len:=l.length) (cap:=c_l) (ik:=.i64) 26 50 4 (l.length-1) (by (have q_:=Qb.1 ‹_›;have q1_:=q_.len1;have q2_:=q_.len;have q3_:=q_.lastE;have q4_:=q_.fb;have q5_:=q_.lb;omega)) (Ka 27 50 (cs:=[I x1.epoch,U x1.root,U x1.prev,I x1.at_]) 0 (.agg #[I x1.epoch,U x1.root,U x1.prev,I x1.at_]) hc1 (Jd [0,0] [(0,Sl (At b2 o1) l.length c_l),(27,.agg #[I x1.epoch,U x1.root,U x1.prev,I x1.at_]),(28,U root),(29,I a)] (Ji 30 (.tuple #[(YC (Jy x1 root a).1),I ((Jy x1 root a).2)]) (Jas G1 [I x1.epoch,U x1.root,U x1.prev,I x1.at_] x1 (⟨rfl,w1,w2,w3,w4⟩) root ‹_› a ‹_›) (Jd [0,0,0] [(0,Sl (At b2 o1) l.length c_l),(31,(YC (Jy x1 root a).1)),(32,I ((Jy x1 root a).2))] (Ju 9 #[I 0,U 0,U 0,I 0] 50 (fun b3=>Kd [3,0] [(0,Sl (At b2 o1) l.length c_l),(8,I ((Jy x1 root a).2)),(9,Pt b3 0)] [[Sg b3 0 (JaS (Jy x1 root a).1)],[]] (Jc (Ja (Je (Jg [0,0] [(0,Sl (At b2 o1) l.length c_l),(8,I ((Jy x1 root a).2)),(9,Pt b3 0),(34,Bo (!decide ((Jy x1 root a).2=0)))] (Jo (!decide ((Jy x1 root a).2=0)) (fun h3=>?_) (fun h3=>?_))))))))))))
 try simp only [BB] at h3
 refine Jg [0,0,0] [(6,Sl none 0 0),(7,I ((Jy x1 root a).2))] (Jk (Jh (Zb (Jj 0 ?_))))
 have hf3:Qe l root a=([],(Jy x1 root a).2):=by
  unfold Qe Zx;(have hl_:=Wi (l:=l) (k:=l.length-1) rfl ‹_›;subst hl_;(simp_all;done))
 refine Jl [0,0] [Sl none 0 0,I ((Jy x1 root a).2)] (JY [[]] (.cons_cons _ (.cons _ (.cons _ .slnil))) hl1 ?_)
 rw [hf3]
 try dsimp only
 exact ⟨none,0,([]),rfl,(J9.none KE _),rfl⟩
 try simp only [BB] at h3
 refine Jm (Ja (Je (KB [1,3,4] (Wr [(0,Sl (At b2 o1) l.length c_l),(2,(YC (Jy x1 root a).1))] (J1 [] [(0,0),(2,2)] [] [1,3] (List.forall_mem_nil _) (List.forall_mem_cons.2 ⟨?_,(List.forall_mem_cons.2 ⟨?_,List.forall_mem_nil _⟩)⟩))))))
 refine JS 1 [(36,Sl (At b2 o1) l.length c_l)] (fun X=>?_)
 refine JQ 37 (YM G1 (At b2 o1) c_l l (h_l.mono hl1)) (fun v G2 L1 hl2 hp=>?_)
 obtain ⟨a1,c1,_,rfl,hr1,rfl⟩:=hp
 refine JW [(1,Sl a1 l.length c1)] (J1 [0] [(2,4)] [] [3] (List.forall_mem_nil _) (List.forall_mem_cons.2 ⟨?_,List.forall_mem_nil _⟩))
 refine JS 3 [(38,(YC (Jy x1 root a).1))] (fun X=>?_)
 refine KH 39 1 #[I (((Jy x1 root a).1).epoch),U (((Jy x1 root a).1).root),U (((Jy x1 root a).1).prev),I (((Jy x1 root a).1).at_)] 50 (fun b4=>JW [(3,Sl (At b4 0) 1 1)] (J1 [0,2] [] [] [4] (List.forall_mem_nil _) (List.forall_mem_cons.2 ⟨?_,List.forall_mem_nil _⟩)))
 refine JS 4 [(37,Sl a1 l.length c1),(39,Sl (At b4 0) 1 1)] (fun X=>?_)
 refine QJ (b:=b4) (cs:=(JaS (Jy x1 root a).1)) 40 50 1 0 (E:=KE) ((Jy x1 root a).1) hr1 ⟨rfl,(by have q_:=ZM (x:=x1) (r:=root) (t:=a) (by omega) ‹_›;omega),(by have q_:=ZM (x:=x1) (r:=root) (t:=a) (by omega) ‹_›;omega),(by have q_:=ZM (x:=x1) (r:=root) (t:=a) (by omega) ‹_›;omega),(by have q_:=ZM (x:=x1) (r:=root) (t:=a) (by omega) ‹_›;omega)⟩ (by have q_:=Qb.1 ‹_›;have q1_:=q_.len1;have q2_:=q_.len;have q3_:=q_.lastE;have q4_:=q_.fb;have q5_:=q_.lb;(try simp only [KE,List.length_append,List.length_cons,List.length_nil]);omega) (by have q_:=Qb.1 ‹_›;have q1_:=q_.len1;have q2_:=q_.len;have q3_:=q_.lastE;have q4_:=q_.fb;have q5_:=q_.lb;(try simp only [KE,List.length_append,List.length_cons,List.length_nil]);omega) (fun a2 c2 r2 hr2=>JW [(4,Sl a2 ((l++[((Jy x1 root a).1)]).length) c2),(5,Sl a2 ((l++[((Jy x1 root a).1)]).length) c2),(6,I 0)] (KA [0,2] [(5,0),(6,0)] [] [(6,Sl a2 ((l++[((Jy x1 root a).1)]).length) c2),(7,I 0)] (List.forall_mem_nil _) (Ja (Jk (Jj 1 ?_)))))
 have hf4:Qe l root a=(l++[((Jy x1 root a).1)],0):=by
  unfold Qe Zx;(have hl_:=Wi (l:=l) (k:=l.length-1) rfl ‹_›;subst hl_;(simp_all;done))
 refine Jl [0,0] [Sl a2 ((l++[((Jy x1 root a).1)]).length) c2,I 0] (JY [r2] (.cons_cons _ (.cons _ (.cons _ (.cons _ .slnil)))) (Jt.le_trans hl1 hl2) ?_)
 rw [hf4]
 try dsimp only
 exact ⟨a2,c2,r2,rfl,hr2,rfl⟩
 refine JS 3 [(38,(YC (Jy x1 root a).1))] (fun X=>?_)
 refine KH 39 1 #[I (((Jy x1 root a).1).epoch),U (((Jy x1 root a).1).root),U (((Jy x1 root a).1).prev),I (((Jy x1 root a).1).at_)] 50 (fun b5=>JW [(3,Sl (At b5 0) 1 1)] (J1 [2] [(0,0)] [] [1] (List.forall_mem_nil _) (List.forall_mem_cons.2 ⟨?_,List.forall_mem_nil _⟩)))
 refine JS 1 [(36,Sl (At b2 o1) l.length c_l)] (fun X=>?_)
 refine JQ 37 (YM G1 (At b2 o1) c_l l (h_l.mono hl1)) (fun v G3 L1 hl3 hp=>?_)
 obtain ⟨a3,c3,r3,rfl,hr3,rfl⟩:=hp
 refine JW [(1,Sl a3 l.length c3)] (J1 [0,2] [] [] [4] (List.forall_mem_nil _) (List.forall_mem_cons.2 ⟨?_,List.forall_mem_nil _⟩))
 refine JS 4 [(37,Sl a3 l.length c3),(39,Sl (At b5 0) 1 1)] (fun X=>?_)
 refine QJ (b:=b5) (cs:=(JaS (Jy x1 root a).1)) 40 50 0 1 (E:=KE) ((Jy x1 root a).1) hr3 ⟨rfl,(by have q_:=ZM (x:=x1) (r:=root) (t:=a) (by omega) ‹_›;omega),(by have q_:=ZM (x:=x1) (r:=root) (t:=a) (by omega) ‹_›;omega),(by have q_:=ZM (x:=x1) (r:=root) (t:=a) (by omega) ‹_›;omega),(by have q_:=ZM (x:=x1) (r:=root) (t:=a) (by omega) ‹_›;omega)⟩ (by have q_:=Qb.1 ‹_›;have q1_:=q_.len1;have q2_:=q_.len;have q3_:=q_.lastE;have q4_:=q_.fb;have q5_:=q_.lb;(try simp only [KE,List.length_append,List.length_cons,List.length_nil]);omega) (by have q_:=Qb.1 ‹_›;have q1_:=q_.len1;have q2_:=q_.len;have q3_:=q_.lastE;have q4_:=q_.fb;have q5_:=q_.lb;(try simp only [KE,List.length_append,List.length_cons,List.length_nil]);omega) (fun a4 c4 r4 hr4=>JW [(4,Sl a4 ((l++[((Jy x1 root a).1)]).length) c4),(5,Sl a4 ((l++[((Jy x1 root a).1)]).length) c4),(6,I 0)] (KA [0,2] [(5,0),(6,0)] [] [(6,Sl a4 ((l++[((Jy x1 root a).1)]).length) c4),(7,I 0)] (List.forall_mem_nil _) (Ja (Jk (Jj 0 ?_)))))
 have hf5:Qe l root a=(l++[((Jy x1 root a).1)],0):=by
  unfold Qe Zx;(have hl_:=Wi (l:=l) (k:=l.length-1) rfl ‹_›;subst hl_;(simp_all;done))
 refine Jl [0,0] [Sl a4 ((l++[((Jy x1 root a).1)]).length) c4,I 0] (JY [r4] (.cons_cons _ (.cons _ (.cons _ (.cons _ .slnil)))) (Jt.le_trans hl1 hl3) ?_)
 rw [hf5]
 try dsimp only
 exact ⟨a4,c4,r4,rfl,hr4,rfl⟩
theorem JeD (G:Jt) (a_l:Option Addr) (c_l:Nat) (l:List JR) (h_l:RS KE G a_l c_l l) (a:Int) (hw_a:rI a) (b:Int) (hw_b:rI b) :QF Tryz.prog 178 #[Sl a_l l.length c_l,I a,I b] G [] (fun u G' L'=>∃ (a1:Option Addr) (c2:Nat),u=.tuple #[Sl a1 (((Wo l a b).1).length) c2,I ((Wo l a b).2)]∧(RS KE G' a1 c2 ((Wo l a b).1))∧L'=[]):=by
 refine JJ Tryz.func178 51 [(0,Sl a_l l.length c_l),(1,I a),(2,I b)] rfl (fun w0 G0=>?_)
 refine Jg [0,0] [(0,Sl a_l l.length c_l),(1,I a),(2,I b)] (Je (Je (Jb (Jd [0] [(0,Sl a_l l.length c_l),(1,I a),(2,I b),(11,Sl a_l l.length c_l)] (KH 12 1 #[Sl a_l l.length c_l] 31 (fun b1=>QQ (b:=b1) (o:=0) (cs:=[Sl a_l l.length c_l]) 0 (fun G1 hl1 hz1=>?_)))))))
 have hs1:RS Jdv G1 (At b1 0) 1 [l]:=RS.lit [[Sl a_l l.length c_l]] [l] ⟨⟨a_l,c_l,rfl,(h_l.mono hl1)⟩,trivial⟩ hz1 (Nat.le_of_ble_eq_true rfl) (Nat.le_of_ble_eq_true rfl)
 refine Ji 13 (I (KO ([l]))) (JaA G1 (At b1 0) 1 ([l]) hs1) (Jd [0] [(0,Sl a_l l.length c_l),(1,I a),(2,I b),(8,I (KO ([l])))] (Jc (Ja (Jg [0,0] [(0,Sl a_l l.length c_l),(1,I a),(2,I b),(8,I (KO ([l]))),(15,Bo (!decide (KO ([l])=0)))] (Jo (!decide (KO ([l])=0)) (fun h1=>?_) (fun h1=>?_))))))
 try simp only [BB] at h1
 refine Jg [0,0,0] [(6,Sl none 0 0),(7,I (KO ([l])))] (Jk (Jh ?_))
 have hf1:Wo l a b=([],KO ([l])):=by
  unfold Wo;(simp_all;done)
 refine Jl [0,0] [Sl none 0 0,I (KO ([l]))] (JY [] (.cons _ .slnil) hl1 ?_)
 rw [hf1]
 try dsimp only
 exact ⟨none,0,rfl,(RS.nil' KE G1),rfl⟩
 try simp only [BB] at h1
 refine Jm (Ja (Je ?_))
 obtain ⟨b2,o1,rfl⟩:=RS.addr (h_l.mono hl1) (k:=0) (by (have q_:=Qb.1 ‹_›;have q1_:=q_.len1;have q2_:=q_.len;have q3_:=q_.lastE;have q4_:=q_.fb;have q5_:=q_.lb;omega))
 obtain ⟨x1,hx1⟩:=Wh (l:=l) (k:=0) (by (have q_:=Qb.1 ‹_›;have q1_:=q_.len1;have q2_:=q_.len;have q3_:=q_.lastE;have q4_:=q_.fb;have q5_:=q_.lb;omega))
 obtain ⟨_,⟨rfl,_,_,_,_⟩,hc1⟩:=RS.get (h_l.mono hl1) hx1
 have e1:IntKind.i64.wrap ((l.length:Int)-1)=((l.length-1:Nat):Int):=(IntWalk.i64_in _ (by (have q_:=Qb.1 ‹_›;have q1_:=q_.len1;have q2_:=q_.len;have q3_:=q_.lastE;have q4_:=q_.fb;have q5_:=q_.lb;omega))).trans (show (l.length:Int)-1=((l.length-1:Nat):Int) by (have q_:=Qb.1 ‹_›;have q1_:=q_.len1;have q2_:=q_.len;have q3_:=q_.lastE;have q4_:=q_.fb;have q5_:=q_.lb;omega))
 obtain ⟨x2,hx2⟩:=Wh (l:=l) (k:=l.length-1) (by (have q_:=Qb.1 ‹_›;have q1_:=q_.len1;have q2_:=q_.len;have q3_:=q_.lastE;have q4_:=q_.fb;have q5_:=q_.lb;omega))
 obtain ⟨_,⟨rfl,_,_,_,_⟩,hc2⟩:=RS.get (h_l.mono hl1) hx2
 refine KB [] (Wr [(0,Sl (At b2 o1) l.length c_l),(1,Pt b2 (o1+0*4)),(2,Pt b2 (o1+0*4)),(3,I x1.epoch),(4,Sl (At b2 o1) l.length c_l),(5,Sl (At b2 o1) l.length c_l),(6,I (l.length:Int)),(7,I ((l.length-1:Nat):Int)),(8,Pt b2 (o1+(l.length-1)*4)),(9,Pt b2 (o1+(l.length-1)*4)),(10,I x2.epoch),(11,I x1.epoch),(12,I x2.epoch)] (KA [] [(0,0),(2,0),(4,0),(5,0),(6,0),(9,0),(11,0),(12,0)] [1,3,7,8,10] [(0,Sl (At b2 o1) l.length c_l),(1,I a),(2,I b),(9,I x1.epoch),(10,I x2.epoch)] (List.forall_mem_cons.2 ⟨?_,(List.forall_mem_cons.2 ⟨?_,(List.forall_mem_cons.2 ⟨?_,(List.forall_mem_cons.2 ⟨?_,(List.forall_mem_cons.2 ⟨?_,List.forall_mem_nil _⟩)⟩)⟩)⟩)⟩) ?_))
 refine Jr 1 18 (Pt b2 (o1+0*4)) [(17,Sl (At b2 o1) l.length c_l)] (fun X=>?_)
 exact Kh (b:=b2) (off:=o1) (len:=l.length) (cap:=c_l) (ik:=.i64) 18 50 4 0 (by (have hl_:=Wi (l:=l) (k:=l.length-1) rfl hx2;have hf_:=Wz hx1;subst hl_;subst hf_;have q_:=Qb.1 ‹_›;have q1_:=q_.len1;have q2_:=q_.len;have q3_:=q_.lastE;have q4_:=q_.fb;have q5_:=q_.lb;omega)) Jp
 refine Jr 3 20 (I x1.epoch) [(19,Pt b2 (o1+0*4))] (fun X=>?_)
 exact Ka 20 2 (cs:=[I x1.epoch,U x1.root,U x1.prev,I x1.at_]) 0 (I x1.epoch) hc1 Jp
 refine Jr 7 24 (I ((l.length-1:Nat):Int)) [(23,I (l.length:Int))] (fun X=>?_)
 exact K6 24 (I (IntKind.i64.wrap ((l.length:Int)-1))) (I ((l.length-1:Nat):Int)) (by simp only [e1]) Jp
 refine Jr 8 25 (Pt b2 (o1+(l.length-1)*4)) [(21,Sl (At b2 o1) l.length c_l),(24,I ((l.length-1:Nat):Int))] (fun X=>?_)
 exact Kh (b:=b2) (off:=o1) (len:=l.length) (cap:=c_l) (ik:=.i64) 25 50 4 (l.length-1) (by (have hl_:=Wi (l:=l) (k:=l.length-1) rfl hx2;have hf_:=Wz hx1;subst hl_;subst hf_;have q_:=Qb.1 ‹_›;have q1_:=q_.len1;have q2_:=q_.len;have q3_:=q_.lastE;have q4_:=q_.fb;have q5_:=q_.lb;omega)) Jp
 refine Jr 10 27 (I x2.epoch) [(26,Pt b2 (o1+(l.length-1)*4))] (fun X=>?_)
 exact Ka 27 2 (cs:=[I x2.epoch,U x2.root,U x2.prev,I x2.at_]) 0 (I x2.epoch) hc2 Jp
 refine Ja (Je (Je (Jb (Jd [0,0,0,0] [(0,Sl (At b2 o1) l.length c_l),(1,I a),(2,I b),(9,I x1.epoch),(10,I x2.epoch),(31,Bo (decide (a > b)))] (KD (decide (a > b)) (fun bb=>[(0,Sl (At b2 o1) l.length c_l),(1,I a),(2,I b),(9,I x1.epoch),(10,I x2.epoch),(31,Bo bb)]) [1,1,1,0] [0,0,0,0] (fun bb=>[(0,Sl (At b2 o1) l.length c_l),(1,I a),(2,I b),(9,I x1.epoch),(10,I x2.epoch),(35,Bo (bb || (decide (a<x1.epoch))))]) (Jd [0] [(0,Sl (At b2 o1) l.length c_l),(1,I a),(2,I b),(9,I x1.epoch),(10,I x2.epoch),(36,Bo ((decide (a > b)) || (decide (a<x1.epoch))))] (KD ((decide (a > b)) || (decide (a<x1.epoch))) (fun bb=>[(0,Sl (At b2 o1) l.length c_l),(1,I a),(2,I b),(9,I x1.epoch),(10,I x2.epoch),(36,Bo bb)]) [1,1,1,0] [0,0,0,0] (fun bb=>[(0,Sl (At b2 o1) l.length c_l),(1,I a),(2,I b),(9,I x1.epoch),(40,Bo (bb || (decide (b > x2.epoch))))]) (Jc (Ja (Jo (((decide (a > b)) || (decide (a<x1.epoch))) || (decide (b > x2.epoch))) (fun h2=>?_) (fun h2=>?_)))))))))))
 try simp only [BB] at h2
 refine Jg [0,0] [(6,Sl none 0 0),(7,I 4)] (Jk (Jh ?_))
 have hf2:Wo l a b=([],4):=by
  unfold Wo;(have hl_:=Wi (l:=l) (k:=l.length-1) rfl hx2;have hf_:=Wz hx1;subst hl_;subst hf_;rw [if_neg (by omega)];(rw [if_pos (by omega)];done))
 refine Jl [0,0] [Sl none 0 0,I 4] (JY [] (.cons _ .slnil) hl1 ?_)
 rw [hf2]
 try dsimp only
 exact ⟨none,0,rfl,(RS.nil' KE G1),rfl⟩
 try simp only [BB] at h2
 refine Jm (Ja (Je (Jb (Jd [0,0,0,0,0,0,0,0] [(41,Sl (At b2 o1) l.length c_l),(44,I (IntKind.i64.wrap (a-x1.epoch))),(48,I (IntKind.i64.wrap ((IntKind.i64.wrap (b-x1.epoch))+1)))] ?_))))
 have e2:IntKind.i64.wrap (a-x1.epoch)=a-x1.epoch:=IntWalk.i64_in _ (by (have hl_:=Wi (l:=l) (k:=l.length-1) rfl hx2;have hf_:=Wz hx1;subst hl_;subst hf_;have q_:=Qb.1 ‹_›;have q1_:=q_.len1;have q2_:=q_.len;have q3_:=q_.lastE;have q4_:=q_.fb;have q5_:=q_.lb;omega))
 have e3:IntKind.i64.wrap (b-x1.epoch)=b-x1.epoch:=IntWalk.i64_in _ (by (have hl_:=Wi (l:=l) (k:=l.length-1) rfl hx2;have hf_:=Wz hx1;subst hl_;subst hf_;have q_:=Qb.1 ‹_›;have q1_:=q_.len1;have q2_:=q_.len;have q3_:=q_.lastE;have q4_:=q_.fb;have q5_:=q_.lb;omega))
 have e4:IntKind.i64.wrap ((b-x1.epoch)+1)=(b-x1.epoch)+1:=IntWalk.i64_in _ (by (have hl_:=Wi (l:=l) (k:=l.length-1) rfl hx2;have hf_:=Wz hx1;subst hl_;subst hf_;have q_:=Qb.1 ‹_›;have q1_:=q_.len1;have q2_:=q_.len;have q3_:=q_.lastE;have q4_:=q_.fb;have q5_:=q_.lb;omega))
 refine J3 (fr':=[(41,Sl (At b2 o1) l.length c_l),(44,I (a-x1.epoch)),(48,I ((b-x1.epoch)+1))]) (L':=[[]]) (by simp only [e2,e3,e4]) (by rfl) ?_
 clear e4 e3 e2
 obtain ⟨kn1,hkn1⟩:∃ k_:Nat,a-x1.epoch=(k_:Int):=⟨(a-x1.epoch).toNat,by omega⟩
 have e5:a-x1.epoch=(kn1:Int):=hkn1
 refine Jd [] [(41,Sl (At b2 o1) l.length c_l),(44,I (a-x1.epoch)),(48,I ((b-x1.epoch)+1))] (J3 (fr':=[(41,Sl (At b2 o1) l.length c_l),(44,I (kn1:Int)),(48,I ((b-x1.epoch)+1))]) (L':=[[]]) (by (simp only [e5];done)) (by rfl) ?_)
 obtain ⟨kn2,hkn2⟩:∃ k_:Nat,(b-x1.epoch)+1=(k_:Int):=⟨((b-x1.epoch)+1).toNat,by omega⟩
 have e6:(b-x1.epoch)+1=(kn2:Int):=hkn2
 refine Jd [] [(41,Sl (At b2 o1) l.length c_l),(44,I (kn1:Int)),(48,I ((b-x1.epoch)+1))] (J3 (fr':=[(41,Sl (At b2 o1) l.length c_l),(44,I (kn1:Int)),(48,I (kn2:Int))]) (L':=[[]]) (by (simp only [e6];done)) (by rfl) ?_)
 obtain ⟨a1,c1,ea1,ec1,en1,eh1,hs2⟩:=RS.reslX (h_l.mono hl1) kn1 kn2 (by omega) (by (have hl_:=Wi (l:=l) (k:=l.length-1) rfl hx2;have hf_:=Wz hx1;subst hl_;subst hf_;have q_:=Qb.1 ‹_›;have q1_:=q_.len1;have q2_:=q_.len;have q3_:=q_.lastE;have q4_:=q_.fb;have q5_:=q_.lb;omega))
 refine W3 (a:=At b2 o1) (len:=l.length) (cap:=c_l) 49 4 (some (I (kn1:Int))) (some (I (kn2:Int))) kn1 kn2 (.inr ⟨_,rfl⟩) (.inr ⟨_,rfl⟩) (by omega) ea1 ec1 en1 eh1 (JQ 50 (YM G1 a1 c1 ((l.take kn2).drop kn1) hs2) (fun v G2 L1 hl2 hp=>?_))
 obtain ⟨a2,c2,_,rfl,hr1,rfl⟩:=hp
 refine Jd [0,0] [(6,Sl a2 (((l.take kn2).drop kn1).length) c2),(7,I 0)] (Jc (Ja (Jk (Wn (E:=KE) 0 hr1 (by exact (hs2).fit) (fun G3 hl3 hs3=>?_)))))
 have hf3:Wo l a b=((l.take kn2).drop kn1,0):=by
  unfold Wo;(have hl_:=Wi (l:=l) (k:=l.length-1) rfl hx2;have hf_:=Wz hx1;subst hl_;subst hf_;rw [if_neg (by omega)];(rw [if_neg (by omega)];unfold cut;rw [show (a-(QW l).epoch).toNat=kn1 by omega,show (b-(QW l).epoch+1).toNat=kn2 by omega];done))
 refine Jl [0,0] [Sl a2 (((l.take kn2).drop kn1).length) c2,I 0] (JY [] (.cons _ (.cons _ .slnil)) (Jt.le_trans (Jt.le_trans hl1 hl2) hl3) ?_)
 rw [hf3]
 try dsimp only
 exact ⟨a2,c2,rfl,hs3,rfl⟩
theorem JcE (G:Jt) (vs_h:List Value) (h:JR) (h_h:KE.R G vs_h h) (a_l:Option Addr) (c_l:Nat) (l:List JR) (h_l:RS KE G a_l c_l l) :QF Tryz.prog 203 #[.agg vs_h.toArray,Sl a_l l.length c_l] G [] (fun u G' L'=>u=.tuple #[Bo ((Qt h l).1),I ((Qt h l).2)]):=by
 obtain ⟨rfl,w1,w2,w3,w4⟩:=h_h
 refine JJ Tryz.func203 24 [(0,.agg #[I h.epoch,U h.root,U h.prev,I h.at_]),(1,Sl a_l l.length c_l)] rfl (fun w0 G0=>?_)
 refine Je (Jb (Ju 2 #[I h.epoch,U h.root,U h.prev,I h.at_] 50 (fun b1=>Jd [0,0] [(1,Sl a_l l.length c_l),(2,Pt b1 0)] (Jc (Ja (Je (Jb (Jd [0] [(1,Sl a_l l.length c_l),(2,Pt b1 0),(7,Sl a_l l.length c_l)] (KH 8 1 #[Sl a_l l.length c_l] 31 (fun b2=>QQ (b:=b2) (o:=0) (cs:=[Sl a_l l.length c_l]) 0 (fun G1 hl1 hz1=>?_)))))))))))
 have hs1:RS Jdv G1 (At b2 0) 1 [l]:=RS.lit [[Sl a_l l.length c_l]] [l] ⟨⟨a_l,c_l,rfl,(h_l.mono hl1)⟩,trivial⟩ hz1 (Nat.le_of_ble_eq_true rfl) (Nat.le_of_ble_eq_true rfl)
 refine Ji 9 (I (KO ([l]))) (JaA G1 (At b2 0) 1 ([l]) hs1) (Jd [0] [(1,Sl a_l l.length c_l),(2,Pt b1 0),(6,I (KO ([l])))] (Jc (Ja (Je (Jg [0,0] [(1,Sl a_l l.length c_l),(2,Pt b1 0),(6,I (KO ([l]))),(11,Bo (decide (KO ([l])=0)))] (Jo (decide (KO ([l])=0)) (fun h1=>?_) (fun h1=>?_)))))))
 try simp only [BB] at h1
 refine Jb (Jd [4] [(1,Sl a_l l.length c_l),(2,Pt b1 0),(6,I (KO ([l]))),(12,.agg #[I h.epoch,U h.root,U h.prev,I h.at_])] (Ji 13 (I (JD h)) (Zv h G1) (Jd [0] [(1,Sl a_l l.length c_l),(2,Pt b1 0),(6,I (JD h))] (Jc (Ja (Je (Jg [0,0] [(1,Sl a_l l.length c_l),(2,Pt b1 0),(6,I (JD h)),(15,Bo (!decide (JD h=0)))] (Jo (!decide (JD h=0)) (fun h2=>?_) (fun h2=>?_)))))))))
 try simp only [BB] at h2
 refine Jg [0,0,0] [(4,Bo false),(5,I (JD h))] (Jk (Jh (Jl [0,0] [Bo false,I (JD h)] (Jv hl1 ?_))))
 have hf_:(Qt h l)=(false,(JD h)):=by
  unfold Qt;(simp_all;done)
 · (try rw [hf_]);(simp only [JL];done)
 try simp only [BB] at h2
 refine Jm (Ja (Je ?_))
 obtain ⟨b3,o1,rfl⟩:=RS.addr (h_l.mono hl1) (k:=0) (by (have q_:=Qb.1 ‹_›;have q1_:=q_.len1;have q2_:=q_.len;have q3_:=q_.lastE;have q4_:=q_.fb;have q5_:=q_.lb;omega))
 obtain ⟨x1,hx1⟩:=Wh (l:=l) (k:=0) (by (have q_:=Qb.1 ‹_›;have q1_:=q_.len1;have q2_:=q_.len;have q3_:=q_.lastE;have q4_:=q_.fb;have q5_:=q_.lb;omega))
 obtain ⟨_,⟨rfl,w5,w6,w7,w8⟩,hc1⟩:=RS.get (h_l.mono hl1) hx1
 refine KB [4,5] (Wr [(0,.agg #[I h.epoch,U h.root,U h.prev,I h.at_]),(1,Sl (At b3 o1) l.length c_l),(2,Pt b3 (o1+0*4)),(3,.agg #[I x1.epoch,U x1.root,U x1.prev,I x1.at_])] (J1 [] [(0,4),(1,0)] [2,3] [4] (List.forall_mem_cons.2 ⟨?_,(List.forall_mem_cons.2 ⟨?_,List.forall_mem_nil _⟩)⟩) (List.forall_mem_cons.2 ⟨?_,List.forall_mem_nil _⟩)))
 refine Jr 2 19 (Pt b3 (o1+0*4)) [(18,Sl (At b3 o1) l.length c_l)] (fun X=>?_)
 exact Kh (b:=b3) (off:=o1) (len:=l.length) (cap:=c_l) (ik:=.i64) 19 50 4 0 (by (have q_:=Qb.1 ‹_›;have q1_:=q_.len1;have q2_:=q_.len;have q3_:=q_.lastE;have q4_:=q_.fb;have q5_:=q_.lb;omega)) Jp
 refine Jr 3 20 (.agg #[I x1.epoch,U x1.root,U x1.prev,I x1.at_]) [(19,Pt b3 (o1+0*4))] (fun X=>?_)
 exact Ka 20 50 (cs:=[I x1.epoch,U x1.root,U x1.prev,I x1.at_]) 0 (.agg #[I x1.epoch,U x1.root,U x1.prev,I x1.at_]) hc1 Jp
 refine JS 4 [(17,.agg #[I h.epoch,U h.root,U h.prev,I h.at_]),(20,.agg #[I x1.epoch,U x1.root,U x1.prev,I x1.at_])] (fun X=>?_)
 refine KH 21 2 #[I h.epoch,U h.root,U h.prev,I h.at_,I x1.epoch,U x1.root,U x1.prev,I x1.at_] 50 (fun b4=>JW [(4,Sl (At b4 0) 2 2)] (J1 [0,1,2,3] [] [] [5] (List.forall_mem_nil _) (List.forall_mem_cons.2 ⟨?_,List.forall_mem_nil _⟩)))
 refine JS 5 [(21,Sl (At b4 0) 2 2)] (fun X=>?_)
 refine QQ (b:=b4) (o:=0) (cs:=[I h.epoch,U h.root,U h.prev,I h.at_,I x1.epoch,U x1.root,U x1.prev,I x1.at_]) 0 (fun G2 hl2 hz2=>?_)
 have hs2:RS KE G2 (At b4 0) 2 [h,x1]:=RS.lit [[I h.epoch,U h.root,U h.prev,I h.at_],[I x1.epoch,U x1.root,U x1.prev,I x1.at_]] [h,x1] ⟨⟨rfl,w1,w2,w3,w4⟩,⟨⟨rfl,w5,w6,w7,w8⟩,trivial⟩⟩ hz2 (Nat.le_of_ble_eq_true rfl) (Nat.le_of_ble_eq_true rfl)
 refine Ji 22 (I (QR ([h,x1]))) (Ja1 G2 (At b4 0) 2 ([h,x1]) hs2) (JW [(5,I (QR ([h,x1]))),(6,Bo (decide (QR ([h,x1])<0))),(7,Bo (decide (QR ([h,x1])<0))),(8,I 0)] (KA [0,1,2,3] [(6,0),(7,0),(8,0)] [] [(4,Bo (decide (QR ([h,x1])<0))),(5,I 0)] (List.forall_mem_nil _) (Ja (Jk (Jl [0,0] [Bo (decide (QR ([h,x1])<0)),I 0] (Jv (Jt.le_trans hl1 hl2) ?_))))))
 have hf_:(Qt h l)=((decide (QR ([h,x1])<0)),0):=by
  unfold Qt;(have hf_:=Wz hx1;subst hf_;simp_all;done)
 · (try rw [hf_]);(simp only [JL];done)
 try simp only [BB] at h1
 refine Jm (Ja (Je (Jg [0,0] [(1,Sl a_l l.length c_l),(2,Pt b1 0),(6,I (KO ([l]))),(15,Bo (!decide (KO ([l])=0)))] (Jo (!decide (KO ([l])=0)) (fun h3=>?_) (fun h3=>?_)))))
 try simp only [BB] at h3
 refine Jg [0,0,0] [(4,Bo false),(5,I (KO ([l])))] (Jk (Jh (Jl [0,0] [Bo false,I (KO ([l]))] (Jv hl1 ?_))))
 have hf_:(Qt h l)=(false,(KO ([l]))):=by
  unfold Qt;(simp_all;done)
 · (try rw [hf_]);(simp only [JL];done)
 try simp only [BB] at h3
 refine Jm (Ja (Je ?_))
 obtain ⟨b5,o2,rfl⟩:=RS.addr (h_l.mono hl1) (k:=0) (by omega)
 obtain ⟨x2,hx2⟩:=Wh (l:=l) (k:=0) (by omega)
 obtain ⟨_,⟨rfl,w9,w10,w11,w12⟩,hc2⟩:=RS.get (h_l.mono hl1) hx2
 refine KB [4,5] (Wr [(0,.agg #[I h.epoch,U h.root,U h.prev,I h.at_]),(1,Sl (At b5 o2) l.length c_l),(2,Pt b5 (o2+0*4)),(3,.agg #[I x2.epoch,U x2.root,U x2.prev,I x2.at_])] (J1 [] [(0,4),(1,0)] [2,3] [4] (List.forall_mem_cons.2 ⟨?_,(List.forall_mem_cons.2 ⟨?_,List.forall_mem_nil _⟩)⟩) (List.forall_mem_cons.2 ⟨?_,List.forall_mem_nil _⟩)))
 refine Jr 2 19 (Pt b5 (o2+0*4)) [(18,Sl (At b5 o2) l.length c_l)] (fun X=>?_)
 exact Kh (b:=b5) (off:=o2) (len:=l.length) (cap:=c_l) (ik:=.i64) 19 50 4 0 (by omega) Jp
 refine Jr 3 20 (.agg #[I x2.epoch,U x2.root,U x2.prev,I x2.at_]) [(19,Pt b5 (o2+0*4))] (fun X=>?_)
 exact Ka 20 50 (cs:=[I x2.epoch,U x2.root,U x2.prev,I x2.at_]) 0 (.agg #[I x2.epoch,U x2.root,U x2.prev,I x2.at_]) hc2 Jp
 refine JS 4 [(17,.agg #[I h.epoch,U h.root,U h.prev,I h.at_]),(20,.agg #[I x2.epoch,U x2.root,U x2.prev,I x2.at_])] (fun X=>?_)
 refine KH 21 2 #[I h.epoch,U h.root,U h.prev,I h.at_,I x2.epoch,U x2.root,U x2.prev,I x2.at_] 50 (fun b6=>JW [(4,Sl (At b6 0) 2 2)] (J1 [0,1,2,3] [] [] [5] (List.forall_mem_nil _) (List.forall_mem_cons.2 ⟨?_,List.forall_mem_nil _⟩)))
 refine JS 5 [(21,Sl (At b6 0) 2 2)] (fun X=>?_)
 refine QQ (b:=b6) (o:=0) (cs:=[I h.epoch,U h.root,U h.prev,I h.at_,I x2.epoch,U x2.root,U x2.prev,I x2.at_]) 0 (fun G3 hl3 hz3=>?_)
 have hs3:RS KE G3 (At b6 0) 2 [h,x2]:=RS.lit [[I h.epoch,U h.root,U h.prev,I h.at_],[I x2.epoch,U x2.root,U x2.prev,I x2.at_]] [h,x2] ⟨⟨rfl,w1,w2,w3,w4⟩,⟨⟨rfl,w9,w10,w11,w12⟩,trivial⟩⟩ hz3 (Nat.le_of_ble_eq_true rfl) (Nat.le_of_ble_eq_true rfl)
 refine Ji 22 (I (QR ([h,x2]))) (Ja1 G3 (At b6 0) 2 ([h,x2]) hs3) (JW [(5,I (QR ([h,x2]))),(6,Bo (decide (QR ([h,x2])<0))),(7,Bo (decide (QR ([h,x2])<0))),(8,I 0)] (KA [0,1,2,3] [(6,0),(7,0),(8,0)] [] [(4,Bo (decide (QR ([h,x2])<0))),(5,I 0)] (List.forall_mem_nil _) (Ja (Jk (Jl [0,0] [Bo (decide (QR ([h,x2])<0)),I 0] (Jv (Jt.le_trans hl1 hl3) ?_))))))
 have hf_:(Qt h l)=((decide (QR ([h,x2])<0)),0):=by
  unfold Qt;(simp_all;done)
 · (try rw [hf_]);(simp only [JL];done)
end Go.Proofs.YtnnlpbjdignhaaaGreatDoor
