import Derived.Test.YtnnlpbjdignhaaaGreatDoorTfHeadN
namespace Go.Proofs.YtnnlpbjdignhaaaGreatDoor
open Go.Tx
set_option linter.unusedVariables false
set_option linter.unusedSimpArgs false
def VG (x y:JU):Bool:=decide (Jx x y.root y.at_=(y,0))
theorem Jcd {x y:JU}:VG x y=true ↔ (Jx x y.root y.at_).2=0∧(Jx x y.root y.at_).1.epoch=y.epoch∧(Jx x y.root y.at_).1.root=y.root∧(Jx x y.root y.at_).1.prev=y.prev∧(Jx x y.root y.at_).1.at_=y.at_:=by
 unfold VG
 rw [decide_eq_true_eq]
 constructor
 ·
  intro h;rw [h];simp
 ·
  rintro ⟨h1,h2⟩
  exact Prod.ext (Jau.2 h2) h1
def lnk:List JU→Nat→Int
 | x::y::r,i=>if VG x y then lnk (y::r) (i+1) else (i:Int)
 | _,_=>-1
def QS (l:List JU):Int:=lnk l 1
theorem Jlz {l:List JU} {i:Nat} (h:l.length≤1):lnk l i=-1:=by
 match l,h with
 | [],_=>rfl
 | [_],_=>rfl
theorem JkC {l:List JU} {i:Nat} {x y:JU} (hi:1≤i) (hx:l[i-1]? = some x) (hy:l[i]? = some y) (h:VG x y=true):lnk (l.drop (i-1)) i=lnk (l.drop (i+1-1)) (i+1):=by
 obtain ⟨h1,rfl⟩:=List.getElem?_eq_some_iff.1 hx
 obtain ⟨h2,rfl⟩:=List.getElem?_eq_some_iff.1 hy
 rw [List.drop_eq_getElem_cons h1,show i-1+1=i by omega,show i+1-1=i by omega,List.drop_eq_getElem_cons h2]
 show (if VG _ _=true then _ else _)=_
 rw [if_pos h]
theorem JkD {l:List JU} {i:Nat} {x y:JU} (hi:1≤i) (hx:l[i-1]? = some x) (hy:l[i]? = some y) (h:¬ VG x y=true):lnk (l.drop (i-1)) i=(i:Int):=by
 obtain ⟨h1,rfl⟩:=List.getElem?_eq_some_iff.1 hx
 obtain ⟨h2,rfl⟩:=List.getElem?_eq_some_iff.1 hy
 rw [List.drop_eq_getElem_cons h1,show i-1+1=i by omega,List.drop_eq_getElem_cons h2]
 show (if VG _ _=true then _ else _)=_
 rw [if_neg h]
theorem Jih:∀ (l:List JU) (i:Nat),lnk l i<0 ↔ ∀ (k:Nat) x y,l[k]? = some x→l[k+1]? = some y→VG x y=true
 | [],i=>by simp [lnk]
 | [a],i=>by simp [lnk]
 | a::b::r,i=>by
  have ih:=Jih (b::r) (i+1)
  unfold lnk
  split
  ·
   rename_i h
   rw [ih]
   constructor
   ·
    intro hh k x y hx hy
    cases k with
    | zero=>simp at hx hy;subst hx hy;exact h
    | succ k=>exact hh k x y hx hy
   ·
    intro hh k x y hx hy
    exact hh (k+1) x y hx hy
  ·
   rename_i h
   constructor
   ·
    intro hh;omega
   ·
    intro hh;exact absurd (hh 0 a b rfl rfl) h
def YL:List JU→Nat→Int×Int
 | [],_=>(0,0)
 | h::l,i=>if JD h=0 then YL l (i+1) else (JD h,(i:Int))
theorem Jgt {l:List JU} {i:Nat} {x:JU} (hx:l[i]? = some x) (h:JD x=0):YL (l.drop i) i=YL (l.drop (i+1)) (i+1):=by
 obtain ⟨h1,rfl⟩:=List.getElem?_eq_some_iff.1 hx
 rw [List.drop_eq_getElem_cons h1]
 show (if JD _=0 then _ else _)=_
 rw [if_pos h]
theorem Jjo {l:List JU} {i:Nat} {x:JU} (hx:l[i]? = some x) (h:¬ JD x=0):YL (l.drop i) i=(JD x,(i:Int)):=by
 obtain ⟨h1,rfl⟩:=List.getElem?_eq_some_iff.1 hx
 rw [List.drop_eq_getElem_cons h1]
 show (if JD _=0 then _ else _)=_
 rw [if_neg h]
theorem JdF:∀ (l:List JU) (i:Nat),(YL l i).1=0 ↔ ∀ h∈l,JD h=0
 | [],i=>by simp [YL]
 | h::l,i=>by
  have ih:=JdF l (i+1)
  unfold YL
  split
  ·
   rename_i e;rw [ih];simp [e]
  ·
   rename_i e;simp [e]
def Ka (l:List JU):Int×Int:=if l.length=0 then (5,0) else if 40<l.length then (2,0) else if (YL l 0).1 ≠ 0 then YL l 0 else if 0≤QS l then (8,QS l) else (0,0)
structure WK (l:List JU):Prop where
 len1:1≤l.length
 len:l.length≤40
 ok:∀ h∈l,JD h=0
 lnk:∀ (k:Nat) x y,l[k]? = some x→l[k+1]? = some y→VG x y=true
theorem KW {l:List JU}:(Ka l).1=0 ↔ WK l:=by
 unfold Ka
 have e1:=JdF l 0
 have e2:=Jih l 1
 constructor
 ·
  intro h
  split at h
  ·
   cases h
  split at h
  ·
   cases h
  split at h
  ·
   contradiction
  split at h
  ·
   cases h
  ·
   rename_i h1 h2 h3 h4
   exact ⟨by omega,by omega,e1.1 (Decidable.not_not.1 h3),e2.1 (by unfold QS at h4;omega)⟩
 ·
  rintro ⟨h1,h2,h3,h4⟩
  rw [if_neg (by omega),if_neg (by omega),if_neg (by have:=e1.2 h3;omega),if_neg (by have:=e2.2 h4;unfold QS;omega)]
def KH:List (List JU)→Int
 | []=>0
 | l::r=>if (Ka l).1=0 then KH r else (Ka l).1
theorem Jd5 {l:List (List JU)} {i:Nat} {x:List JU} (hx:l[i]? = some x) (h:(Ka x).1=0):KH (l.drop i)=KH (l.drop (i+1)):=by
 obtain ⟨h1,rfl⟩:=List.getElem?_eq_some_iff.1 hx
 rw [List.drop_eq_getElem_cons h1]
 show (if (Ka _).1=0 then _ else _)=_
 rw [if_pos h]
theorem Jgu {l:List (List JU)} {i:Nat} {x:List JU} (hx:l[i]? = some x) (h:¬ (Ka x).1=0):KH (l.drop i)=(Ka x).1:=by
 obtain ⟨h1,rfl⟩:=List.getElem?_eq_some_iff.1 hx
 rw [List.drop_eq_getElem_cons h1]
 show (if (Ka _).1=0 then _ else _)=_
 rw [if_neg h]
theorem JbD:∀ (l:List (List JU)),KH l=0 ↔ ∀ x∈l,WK x
 | []=>by simp [KH]
 | a::l=>by
  have ih:=JbD l
  unfold KH
  split
  ·
   rename_i e;rw [ih];simp [KW.1 e]
  ·
   rename_i e;constructor
   ·
    intro h;exact absurd h e
   ·
    intro h;exact absurd (KW.2 (h a (by simp))) e
theorem Qg {l:List JU}:KH [l]=0 ↔ WK l:=by rw [JbD];simp
def WQ (l:List JU):JU:=l[l.length-1]?.getD WX
def Wm (l:List JU):JU:=l[0]?.getD WX
theorem Q9 {l:List JU} {k:Nat} {x:JU} (hk:k=l.length-1) (h:l[k]? = some x):x=WQ l:=by unfold WQ;rw [← hk,h];rfl
theorem Wn {l:List JU} {x:JU} (h:l[0]? = some x):x=Wm l:=by unfold Wm;rw [h];rfl
def Zn (l:List JU) (root at_:Int):Int:=if KH [l] ≠ 0 then KH [l] else if (l.length:Int)=40 then 7 else (Jx (WQ l) root at_).2
def K8 (l:List JU) (root at_:Int):List JU×Int:=if Zn l root at_ ≠ 0 then ([],Zn l root at_) else (l++[(Jx (WQ l) root at_).1],0)
def cut (l:List JU) (a b:Int):List JU:=(l.take (b-(Wm l).epoch+1).toNat).drop (a-(Wm l).epoch).toNat
def WB (l:List JU) (a b:Int):List JU×Int:=if KH [l] ≠ 0 then ([],KH [l]) else if b<a∨a<(Wm l).epoch∨(WQ l).epoch<b then ([],4) else (cut l a b,0)
def Qv (h:JU) (l:List JU):Bool×Int:=if KH [l] ≠ 0 then (false,KH [l]) else if JD h ≠ 0 then (false,JD h) else (decide (QS [h,Wm l]<0),0)
theorem WK.first {l:List JU} (h:WK l):l[0]? = some (Wm l):=by
 have:=h.len1
 have e:l[0]? = some (l[0]'(by omega)):=List.getElem?_eq_getElem (by omega)
 rw [e];unfold Wm;rw [e];rfl
theorem WK.last {l:List JU} (h:WK l):l[l.length-1]? = some (WQ l):=by
 have:=h.len1
 have e:l[l.length-1]? = some (l[l.length-1]'(by omega)):=List.getElem?_eq_getElem (by omega)
 rw [e];unfold WQ;rw [e];rfl
theorem Jgv {x y:JU} (h:VG x y=true):y.epoch=x.epoch+1:=by
 unfold VG at h
 rw [decide_eq_true_eq] at h
 have h0:(Jx x y.root y.at_).2=0:=by rw [h]
 have:=(VE h0).2.2.2.1
 rw [h] at this
 have:=congrArg (fun p=>p.1.epoch) this
 simpa using this
theorem WK.epoch {l:List JU} (h:WK l):∀ (k:Nat) x,l[k]? = some x→x.epoch=(Wm l).epoch+k
 | 0,x,hx=>by rw [h.first] at hx;rw [← Option.some.inj hx];simp
 | k+1,x,hx=>by
  have hk:=(List.getElem?_eq_some_iff.1 hx).1
  have e:l[k]? = some (l[k]'(by omega)):=List.getElem?_eq_getElem (by omega)
  have:=h.epoch k _ e
  have:=Jgv (h.lnk k _ _ e hx)
  omega
theorem WK.lastE {l:List JU} (h:WK l):(WQ l).epoch=(Wm l).epoch+l.length-1:=by
 have:=h.epoch _ _ h.last
 have:=h.len1
 omega
theorem WK.fb {l:List JU} (h:WK l):0≤(Wm l).epoch∧(Wm l).epoch≤1000000:=by
 have:=WY (h.ok _ (List.mem_of_getElem? h.first));omega
theorem WK.lb {l:List JU} (h:WK l):0≤(WQ l).epoch∧(WQ l).epoch≤1000000:=by
 have:=WY (h.ok _ (List.mem_of_getElem? h.last));omega
theorem JbE {l:List JU} {r t:Int} (h:(K8 l r t).2=0):WK l∧l.length<40∧(Jx (WQ l) r t).2=0∧K8 l r t=(l++[(Jx (WQ l) r t).1],0):=by
 unfold K8 at h ⊢
 split at h
 ·
  contradiction
 ·
  rename_i h1
  rw [if_neg h1]
  unfold Zn at h1
  by_cases e1:KH [l]=0
  ·
   rw [if_neg (by omega)] at h1
   have hc:=Qg.1 e1
   by_cases e2:(l.length:Int)=40
   ·
    rw [if_pos e2] at h1;omega
   ·
    rw [if_neg e2] at h1
    exact ⟨hc,by have:=hc.len;omega,Decidable.not_not.1 h1,rfl⟩
  ·
   rw [if_pos e1] at h1;omega
theorem Jd6 {l:List JU} {r t:Int} (h:¬ (K8 l r t).2=0):(K8 l r t).1=[]:=by
 revert h;unfold K8;split <;> simp
theorem WK.snoc {l:List JU} (h:WK l) (hl:l.length<40) {n:JU} (hn:JD n=0) (hk:VG (WQ l) n=true):WK (l++[n]):=by
 refine ⟨by simp,by simp;omega,fun x hx=>?_,fun k x y hx hy=>?_⟩
 ·
  rcases List.mem_append.1 hx with hx | hx
  ·
   exact h.ok x hx
  ·
   rw [List.mem_singleton.1 hx];exact hn
 ·
  by_cases e:k+1<l.length
  ·
   rw [List.getElem?_append_left (by omega)] at hx hy
   exact h.lnk k x y hx hy
  ·
   have hy1:=(List.getElem?_eq_some_iff.1 hy).1
   simp at hy1
   have e2:k=l.length-1:=by have:=h.len1;omega
   have:=h.len1
   rw [List.getElem?_append_left (by omega),e2,h.last] at hx
   rw [List.getElem?_append_right (by omega),show k+1-l.length=0 by omega] at hy
   simp at hy
   rw [← Option.some.inj hx,← hy];exact hk
theorem Jhw {x:JU} {r t:Int} (h:(Jx x r t).2=0):VG x (Jx x r t).1=true∧JD (Jx x r t).1=0:=by
 obtain ⟨h1,h2,h3,h4,h5⟩:=VE h
 have e1:(Jx x r t).1.root=r:=by rw [h4]
 have e2:(Jx x r t).1.at_=t:=by rw [h4]
 refine ⟨?_,by rw [h4];exact h5⟩
 unfold VG
 rw [decide_eq_true_eq,e1,e2]
 exact Prod.ext rfl h
theorem ZE {x:JU} {r t:Int} (hr:0≤r) (h:(Jx x r t).2=0):(0≤(Jx x r t).1.epoch∧(Jx x r t).1.epoch≤1000000)∧(0≤(Jx x r t).1.root∧(Jx x r t).1.root<2305843009213693951)∧(0≤(Jx x r t).1.prev∧(Jx x r t).1.prev<2305843009213693951)∧0≤(Jx x r t).1.at_∧(Jx x r t).1.at_≤1000000000:=by
 obtain ⟨h1,h2,h3,h4,h5⟩:=VE h
 have:=WY h5
 have:=Qp (YS x)
 rw [h4]
 simp only at *
 omega
theorem Jaz (G:Jt) (a_l:Option Addr) (c_l:Nat) (l:List JU) (h_l:RS KA G a_l c_l l) :QE Tryz.prog 77 #[Sl a_l l.length c_l] G [] (fun u G' L'=>u=I (QS l)):=by
 refine JL Tryz.func77 42 [(0,Sl a_l l.length c_l)] rfl (fun w0 G0=>?_)
 refine Jg [0] [(0,Sl a_l l.length c_l)] (Je ?_)
 refine Jg [0] [(0,Sl a_l l.length c_l),(3,I 1)] (Jy ?_)
 have hlm_h_l:l.length≤9223372036854775807:=Nat.le_trans (h_l).le (h_l).max
 refine Qb (σ:=Nat) (fun q_=>(1≤q_∧(q_≤l.length∨q_=1))∧(QS l=lnk (l.drop (q_-1)) q_)) (fun q_=>[(0,Sl a_l l.length c_l),(3,I (q_:Int))]) (fun q_=>G) (fun q_=>[]) (fun q_=>l.length-q_) 1 ⟨⟨Nat.le_refl _,.inr rfl⟩,rfl⟩ (fun q_ hs=>?_)
 revert hs;revert q_;intro i hs
 obtain ⟨hi,hn⟩:=hs
 refine KJ (fr':=[(0,Sl a_l l.length c_l),(3,I (i:Int))]) (L':=[]) rfl rfl ?_
 refine Je ?_
 refine Jg [0,0,0,0] [(0,Sl a_l l.length c_l),(3,I (i:Int)),(9,Bo (decide ((i:Int)<(l.length:Int))))] ?_
 refine Jo (decide ((i:Int)<(l.length:Int))) (fun h1=>?_) (fun h1=>?_)
 try simp only [BB] at h1
 refine Jm (Ja (Je (Jy (Je ?_))))
 have e1:IntKind.i64.wrap ((i:Int)-1)=((i-1:Nat):Int):=(IntWalk.i64_in _ (by omega)).trans (show (i:Int)-1=((i-1:Nat):Int) by omega)
 obtain ⟨b1,o1,rfl⟩:=RS.addr h_l (k:=i-1) (by omega)
 obtain ⟨x1,hx1⟩:=Q8 (l:=l) (k:=i-1) (by omega)
 obtain ⟨_,⟨rfl,w1,w2,w3,w4⟩,hc1⟩:=RS.get h_l hx1
 obtain ⟨x2,hx2⟩:=Q8 (l:=l) (k:=i) (by omega)
 obtain ⟨_,⟨rfl,_,w6,_,w8⟩,hc2⟩:=RS.get h_l hx2
 refine Kw [19,20] ?_
 refine Wa [(0,Sl (At b1 o1) l.length c_l),(1,I (i:Int)),(2,I ((i-1:Nat):Int)),(3,Pt b1 (o1+(i-1)*4)),(4,.agg #[I x1.epoch,U x1.root,U x1.prev,I x1.at_]),(5,Sl (At b1 o1) l.length c_l),(6,I (i:Int)),(7,Pt b1 (o1+i*4)),(8,Pt b1 (o1+i*4+1)),(9,U x2.root),(10,Sl (At b1 o1) l.length c_l),(11,I (i:Int)),(12,Pt b1 (o1+i*4)),(13,Pt b1 (o1+i*4+3)),(14,I x2.at_),(15,.tuple #[(Yt (Jx x1 x2.root x2.at_).1),I ((Jx x1 x2.root x2.at_).2)]),(16,.tuple #[(Yt (Jx x1 x2.root x2.at_).1),I ((Jx x1 x2.root x2.at_).2)]),(17,(Yt (Jx x1 x2.root x2.at_).1)),(18,I ((Jx x1 x2.root x2.at_).2))] ?_
 refine JZ [] [(0,0),(1,0),(5,0),(6,0),(8,0),(10,0),(11,0),(13,0),(16,0),(17,0),(18,0)] [2,3,4,7,9,12,14,15] [19] (List.forall_mem_cons.2 ⟨?_,(List.forall_mem_cons.2 ⟨?_,(List.forall_mem_cons.2 ⟨?_,(List.forall_mem_cons.2 ⟨?_,(List.forall_mem_cons.2 ⟨?_,(List.forall_mem_cons.2 ⟨?_,(List.forall_mem_cons.2 ⟨?_,(List.forall_mem_cons.2 ⟨?_,List.forall_mem_nil _⟩)⟩)⟩)⟩)⟩)⟩)⟩)⟩) (List.forall_mem_cons.2 ⟨?_,List.forall_mem_nil _⟩)
 refine Jq 2 15 (I ((i-1:Nat):Int)) [(14,I (i:Int))] (fun X=>?_)
 exact KZ 15 (I (IntKind.i64.wrap ((i:Int)-1))) (I ((i-1:Nat):Int)) (by simp only [e1]) Jn
 refine Jq 3 16 (Pt b1 (o1+(i-1)*4)) [(13,Sl (At b1 o1) l.length c_l),(15,I ((i-1:Nat):Int))] (fun X=>?_)
 exact Kh (b:=b1) (off:=o1) (len:=l.length) (cap:=c_l) (ik:=.i64) 16 50 4 (i-1) (by omega) Jn
 refine Jq 4 17 (.agg #[I x1.epoch,U x1.root,U x1.prev,I x1.at_]) [(16,Pt b1 (o1+(i-1)*4))] (fun X=>?_)
 exact J9 17 50 (cs:=[I x1.epoch,U x1.root,U x1.prev,I x1.at_]) 0 (.agg #[I x1.epoch,U x1.root,U x1.prev,I x1.at_]) hc1 Jn
 refine Jq 7 20 (Pt b1 (o1+i*4)) [(18,Sl (At b1 o1) l.length c_l),(19,I (i:Int))] (fun X=>?_)
 exact Kh (b:=b1) (off:=o1) (len:=l.length) (cap:=c_l) (ik:=.i64) 20 50 4 i (by omega) Jn
 refine Jq 9 22 (U x2.root) [(21,Pt b1 (o1+i*4+1))] (fun X=>?_)
 exact J9 22 48 (cs:=[I x2.epoch,U x2.root,U x2.prev,I x2.at_]) 1 (U x2.root) hc2 Jn
 refine Jq 12 25 (Pt b1 (o1+i*4)) [(23,Sl (At b1 o1) l.length c_l),(24,I (i:Int))] (fun X=>?_)
 exact Kh (b:=b1) (off:=o1) (len:=l.length) (cap:=c_l) (ik:=.i64) 25 50 4 i (by omega) Jn
 refine Jq 14 27 (I x2.at_) [(26,Pt b1 (o1+i*4+3))] (fun X=>?_)
 exact J9 27 2 (cs:=[I x2.epoch,U x2.root,U x2.prev,I x2.at_]) 3 (I x2.at_) hc2 Jn
 refine Jq 15 28 (.tuple #[(Yt (Jx x1 x2.root x2.at_).1),I ((Jx x1 x2.root x2.at_).2)]) [(17,.agg #[I x1.epoch,U x1.root,U x1.prev,I x1.at_]),(22,U x2.root),(27,I x2.at_)] (fun X=>?_)
 exact Ji 28 (.tuple #[(Yt (Jx x1 x2.root x2.at_).1),I ((Jx x1 x2.root x2.at_).2)]) (V3 G [I x1.epoch,U x1.root,U x1.prev,I x1.at_] x1 (⟨rfl,w1,w2,w3,w4⟩) x2.root w6 x2.at_ w8) Jn
 refine JO 19 [] (fun X=>?_)
 refine Ju 4 #[I 0,U 0,U 0,I 0] 50 (fun b2=>?_)
 have e2:IntKind.i64.wrap ((i:Int)-1)=((i-1:Nat):Int):=(IntWalk.i64_in _ (by omega)).trans (show (i:Int)-1=((i-1:Nat):Int) by omega)
 refine JS [(19,Pt b2 0)] ?_
 refine JZ [] [(0,0),(1,0),(5,0),(6,0),(8,0),(10,0),(11,0),(13,0),(16,0),(17,0),(18,0)] [2,3,4,7,9,12,14,15] [20] (List.forall_mem_cons.2 ⟨?_,(List.forall_mem_cons.2 ⟨?_,(List.forall_mem_cons.2 ⟨?_,(List.forall_mem_cons.2 ⟨?_,(List.forall_mem_cons.2 ⟨?_,(List.forall_mem_cons.2 ⟨?_,(List.forall_mem_cons.2 ⟨?_,(List.forall_mem_cons.2 ⟨?_,List.forall_mem_nil _⟩)⟩)⟩)⟩)⟩)⟩)⟩)⟩) (List.forall_mem_cons.2 ⟨?_,List.forall_mem_nil _⟩)
 refine Jq 2 15 (I ((i-1:Nat):Int)) [(14,I (i:Int))] (fun X=>?_)
 exact KZ 15 (I (IntKind.i64.wrap ((i:Int)-1))) (I ((i-1:Nat):Int)) (by simp only [e2]) Jn
 refine Jq 3 16 (Pt b1 (o1+(i-1)*4)) [(13,Sl (At b1 o1) l.length c_l),(15,I ((i-1:Nat):Int))] (fun X=>?_)
 exact Kh (b:=b1) (off:=o1) (len:=l.length) (cap:=c_l) (ik:=.i64) 16 50 4 (i-1) (by omega) Jn
 refine Jq 4 17 (.agg #[I x1.epoch,U x1.root,U x1.prev,I x1.at_]) [(16,Pt b1 (o1+(i-1)*4))] (fun X=>?_)
 exact J9 17 50 (cs:=[I x1.epoch,U x1.root,U x1.prev,I x1.at_]) 0 (.agg #[I x1.epoch,U x1.root,U x1.prev,I x1.at_]) hc1 Jn
 refine Jq 7 20 (Pt b1 (o1+i*4)) [(18,Sl (At b1 o1) l.length c_l),(19,I (i:Int))] (fun X=>?_)
 exact Kh (b:=b1) (off:=o1) (len:=l.length) (cap:=c_l) (ik:=.i64) 20 50 4 i (by omega) Jn
 refine Jq 9 22 (U x2.root) [(21,Pt b1 (o1+i*4+1))] (fun X=>?_)
 exact J9 22 48 (cs:=[I x2.epoch,U x2.root,U x2.prev,I x2.at_]) 1 (U x2.root) hc2 Jn
 refine Jq 12 25 (Pt b1 (o1+i*4)) [(23,Sl (At b1 o1) l.length c_l),(24,I (i:Int))] (fun X=>?_)
 exact Kh (b:=b1) (off:=o1) (len:=l.length) (cap:=c_l) (ik:=.i64) 25 50 4 i (by omega) Jn
 refine Jq 14 27 (I x2.at_) [(26,Pt b1 (o1+i*4+3))] (fun X=>?_)
 exact J9 27 2 (cs:=[I x2.epoch,U x2.root,U x2.prev,I x2.at_]) 3 (I x2.at_) hc2 Jn
 refine Jq 15 28 (.tuple #[(Yt (Jx x1 x2.root x2.at_).1),I ((Jx x1 x2.root x2.at_).2)]) [(17,.agg #[I x1.epoch,U x1.root,U x1.prev,I x1.at_]),(22,U x2.root),(27,I x2.at_)] (fun X=>?_)
 exact Ji 28 (.tuple #[(Yt (Jx x1 x2.root x2.at_).1),I ((Jx x1 x2.root x2.at_).2)]) (V3 G [I x1.epoch,U x1.root,U x1.prev,I x1.at_] x1 (⟨rfl,w1,w2,w3,w4⟩) x2.root w6 x2.at_ w8) Jn
 refine JO 20 [(4,Pt b2 0),(29,(Yt (Jx x1 x2.root x2.at_).1))] (fun X=>?_)
 refine KQ 0 [[Sg b2 0 (Jas (Jx x1 x2.root x2.at_).1)]] ?_
 refine Kj [(21,I ((Jx x1 x2.root x2.at_).2))] ?_
 refine Kv [0,1,2,3,4,5,6,7,8,9,10,11,12,13,14,15,16,17] [(18,0),(21,0)] [] [(0,Sl (At b1 o1) l.length c_l),(3,I (i:Int)),(4,Pt b2 0),(5,I ((Jx x1 x2.root x2.at_).2))] (List.forall_mem_nil _) ?_
 refine Ja (Je ?_)
 rcases Bool.eq_false_or_eq_true (!decide ((Jx x1 x2.root x2.at_).2=0)) with h2 | h2
 have h2d:=h2
 try simp only [BB] at h2d
 refine Kw [] ?_
 refine Wa [(0,I ((Jx x1 x2.root x2.at_).2)),(1,Bo true),(2,Bo true),(3,undef),(4,undef),(5,undef),(6,undef),(7,undef),(8,undef),(9,Bo true)] ?_
 refine Kv [] [(0,0),(2,0),(3,1),(4,1),(5,1),(6,1),(7,1),(8,1),(9,0)] [1] [(0,Sl (At b1 o1) l.length c_l),(3,I (i:Int)),(40,Bo true)] (List.forall_mem_cons.2 ⟨?_,List.forall_mem_nil _⟩) ?_
 refine Jq 1 32 (Bo true) [(31,I ((Jx x1 x2.root x2.at_).2))] (fun X=>?_)
 exact KZ 32 (Bo (!decide ((Jx x1 x2.root x2.at_).2=0))) (Bo true) (by rw [h2]) Jn
 refine Ja ?_
 refine J0 ?_
 refine Jg [0,0] [(2,I (i:Int))] (Jk (Js (Jh (QB (Js (Jh ?_))))))
 refine Jl [0] [I (i:Int)] (Jv (Jt.le_refl _) ?_)
 have hf_:(QS l)=(i:Int):=by
  rw [hn];exact JkD (by omega) hx1 hx2 (by rw [Jcd];simp_all)
 · (try rw [hf_]);(simp only [JM];done)
 have h2d:=h2
 try simp only [BB] at h2d
 refine Kw [] ?_
 refine Wa [(0,I ((Jx x1 x2.root x2.at_).2)),(1,Bo false),(2,Bo false),(3,(Yt (Jx x1 x2.root x2.at_).1)),(4,Sl (At b1 o1) l.length c_l),(5,I (i:Int)),(6,Pt b1 (o1+i*4)),(7,.agg #[I x2.epoch,U x2.root,U x2.prev,I x2.at_]),(8,Bo (!(decide (((Jx x1 x2.root x2.at_).1).epoch=x2.epoch) && decide (((Jx x1 x2.root x2.at_).1).root=x2.root) && decide (((Jx x1 x2.root x2.at_).1).prev=x2.prev) && decide (((Jx x1 x2.root x2.at_).1).at_=x2.at_)))),(9,Bo (!(decide (((Jx x1 x2.root x2.at_).1).epoch=x2.epoch) && decide (((Jx x1 x2.root x2.at_).1).root=x2.root) && decide (((Jx x1 x2.root x2.at_).1).prev=x2.prev) && decide (((Jx x1 x2.root x2.at_).1).at_=x2.at_))))] ?_
 refine Kv [] [(0,0),(2,0),(3,2),(4,0),(5,0),(9,0)] [1,6,7,8] [(0,Sl (At b1 o1) l.length c_l),(3,I (i:Int)),(40,Bo (!(decide (((Jx x1 x2.root x2.at_).1).epoch=x2.epoch) && decide (((Jx x1 x2.root x2.at_).1).root=x2.root) && decide (((Jx x1 x2.root x2.at_).1).prev=x2.prev) && decide (((Jx x1 x2.root x2.at_).1).at_=x2.at_))))] (List.forall_mem_cons.2 ⟨?_,(List.forall_mem_cons.2 ⟨?_,(List.forall_mem_cons.2 ⟨?_,(List.forall_mem_cons.2 ⟨?_,List.forall_mem_nil _⟩)⟩)⟩)⟩) ?_
 refine Jq 1 32 (Bo false) [(31,I ((Jx x1 x2.root x2.at_).2))] (fun X=>?_)
 exact KZ 32 (Bo (!decide ((Jx x1 x2.root x2.at_).2=0))) (Bo false) (by rw [h2]) Jn
 refine Jq 6 37 (Pt b1 (o1+i*4)) [(33,Bo false),(35,Sl (At b1 o1) l.length c_l),(36,I (i:Int))] (fun X=>?_)
 exact Kh (b:=b1) (off:=o1) (len:=l.length) (cap:=c_l) (ik:=.i64) 37 50 4 i (by omega) Jn
 refine Jq 7 38 (.agg #[I x2.epoch,U x2.root,U x2.prev,I x2.at_]) [(33,Bo false),(37,Pt b1 (o1+i*4))] (fun X=>?_)
 exact J9 38 50 (cs:=[I x2.epoch,U x2.root,U x2.prev,I x2.at_]) 0 (.agg #[I x2.epoch,U x2.root,U x2.prev,I x2.at_]) hc2 Jn
 refine Jq 8 39 (Bo (!(decide (((Jx x1 x2.root x2.at_).1).epoch=x2.epoch) && decide (((Jx x1 x2.root x2.at_).1).root=x2.root) && decide (((Jx x1 x2.root x2.at_).1).prev=x2.prev) && decide (((Jx x1 x2.root x2.at_).1).at_=x2.at_)))) [(33,Bo false),(34,(Yt (Jx x1 x2.root x2.at_).1)),(38,.agg #[I x2.epoch,U x2.root,U x2.prev,I x2.at_])] (fun X=>?_)
 exact Jap 39 (Bo (!(decide (((Jx x1 x2.root x2.at_).1).epoch=x2.epoch) && (decide (((Jx x1 x2.root x2.at_).1).root=x2.root) && (decide (((Jx x1 x2.root x2.at_).1).prev=x2.prev) && (decide (((Jx x1 x2.root x2.at_).1).at_=x2.at_) && true)))))) (Bo (!(decide (((Jx x1 x2.root x2.at_).1).epoch=x2.epoch) && decide (((Jx x1 x2.root x2.at_).1).root=x2.root) && decide (((Jx x1 x2.root x2.at_).1).prev=x2.prev) && decide (((Jx x1 x2.root x2.at_).1).at_=x2.at_)))) (by simp [WW,Bool.and_assoc]) Jn
 refine Ja ?_
 refine Jo (!(decide (((Jx x1 x2.root x2.at_).1).epoch=x2.epoch) && decide (((Jx x1 x2.root x2.at_).1).root=x2.root) && decide (((Jx x1 x2.root x2.at_).1).prev=x2.prev) && decide (((Jx x1 x2.root x2.at_).1).at_=x2.at_))) (fun h3=>?_) (fun h3=>?_)
 try simp only [BB] at h3
 refine Jg [0,0] [(2,I (i:Int))] (Jk (Js (Jh (QB (Js (Jh ?_))))))
 refine Jl [0] [I (i:Int)] (Jv (Jt.le_refl _) ?_)
 have hf_:(QS l)=(i:Int):=by
  rw [hn];exact JkD (by omega) hx1 hx2 (by rw [Jcd];simp_all)
 · (try rw [hf_]);(simp only [JM];done)
 try simp only [BB] at h3
 refine Jm (JK (Ja (Jb ?_)))
 refine Jc [0,0,0] [(0,Sl (At b1 o1) l.length c_l),(3,I (IntKind.i64.wrap ((i:Int)+1)))] ?_
 have e3:IntKind.i64.wrap ((i:Int)+1)=(i:Int)+1:=IntWalk.i64_in _ (by omega)
 refine J2 (fr':=[(0,Sl (At b1 o1) l.length c_l),(3,I ((i:Int)+1))]) (L':=[[Sg b2 0 [I (((Jx x1 x2.root x2.at_).1).epoch),U (((Jx x1 x2.root x2.at_).1).root),U (((Jx x1 x2.root x2.at_).1).prev),I (((Jx x1 x2.root x2.at_).1).at_)]]]) (by simp only [Jas,Yt,e3];first | done | rfl) (by rfl) ?_
 clear e3
 refine Jd ?_
 refine QY [] (.cons _ .slnil) ?_
 exact Qd (i+1) ⟨⟨by (try dsimp only);omega,.inl (by (try dsimp only);omega)⟩,(by rw [hn];exact JkC (by omega) hx1 hx2 (Jcd.2 (by simp_all)))⟩ (by (try dsimp only);omega)
 try simp only [BB] at h1
 refine KU (J3 (Ke (JW (Ja ?_))))
 refine Jg [0] [(2,I (-1))] (Jk ?_)
 refine Jl [0] [I (-1)] (Jv (Jt.le_refl _) ?_)
 have hf_:(QS l)=(-1):=by
  rw [hn];exact Jlz (by simp;omega)
 · (try rw [hf_]);(simp only [JM];done)
theorem Vu (G:Jt) (a_l:Option Addr) (c_l:Nat) (l:List JU) (h_l:RS KA G a_l c_l l) :QE Tryz.prog 36 #[Sl a_l l.length c_l] G [] (fun u G' L'=>u=.tuple #[I ((Ka l).1),I ((Ka l).2)]):=by
 refine JL Tryz.func36 35 [(0,Sl a_l l.length c_l)] rfl (fun w0 G0=>?_)
 refine Jg [0,0] [(0,Sl a_l l.length c_l)] (Je (Jy ?_))
 refine Jg [0,0,0,0] [(0,Sl a_l l.length c_l),(8,Bo (decide ((l.length:Int)=0)))] ?_
 refine Jo (decide ((l.length:Int)=0)) (fun h1=>?_) (fun h1=>?_)
 try simp only [BB] at h1
 refine Jg [0,0] [(2,I 5),(3,I 0)] (Jk (Js (Jh ?_)))
 refine Jl [0,0] [I 5,I 0] (Jv (Jt.le_refl _) ?_)
 have hf_:(Ka l)=(5,0):=by
  unfold Ka;(rw [if_pos (by omega)];done)
 · (try rw [hf_]);(simp only [JM];done)
 try simp only [BB] at h1
 refine Jg [0,0,0,0] [(0,Sl a_l l.length c_l),(12,Bo (decide ((l.length:Int) > 40)))] ?_
 refine Jo (decide ((l.length:Int) > 40)) (fun h2=>?_) (fun h2=>?_)
 try simp only [BB] at h2
 refine Jg [0,0] [(2,I 2),(3,I 0)] (Jk (Js (Jh ?_)))
 refine Jl [0,0] [I 2,I 0] (Jv (Jt.le_refl _) ?_)
 have hf_:(Ka l)=(2,0):=by
  unfold Ka;(rw [if_neg (by omega),if_pos (by omega)];done)
 · (try rw [hf_]);(simp only [JM];done)
 try simp only [BB] at h2
 refine Jm (JK (Ja (Je ?_)))
 refine Jg [0,0,0] [(0,Sl a_l l.length c_l),(16,Sl a_l l.length c_l),(17,I (l.length:Int)),(18,I 0)] (Jy ?_)
 have hlm_h_l:l.length≤9223372036854775807:=Nat.le_trans (h_l).le (h_l).max
 refine Qb (σ:=Nat) (fun q_=>(q_≤l.length)∧(YL l 0=YL (l.drop q_) q_)) (fun q_=>[(0,Sl a_l l.length c_l),(16,Sl a_l l.length c_l),(17,I (l.length:Int)),(18,I (q_:Int))]) (fun q_=>G) (fun q_=>[]) (fun q_=>l.length-q_) 0 ⟨(by (try dsimp only);exact Nat.zero_le _),rfl⟩ (fun q_ hs=>?_)
 revert hs;revert q_;intro i hs
 obtain ⟨hi,hn⟩:=hs
 refine KJ (fr':=[(0,Sl a_l l.length c_l),(16,Sl a_l l.length c_l),(17,I (l.length:Int)),(18,I (i:Int))]) (L':=[]) rfl rfl ?_
 refine Jg [0] [(0,Sl a_l l.length c_l),(16,Sl a_l l.length c_l),(17,I (l.length:Int)),(18,I (i:Int)),(19,Bo (decide ((i:Int)<(l.length:Int))))] (Je ?_)
 refine Jo (decide ((i:Int)<(l.length:Int))) (fun h3=>?_) (fun h3=>?_)
 try simp only [BB] at h3
 refine Jm (Ja (Je (Jy (Je (Jb ?_)))))
 refine Jc [0] [(0,Sl a_l l.length c_l),(16,Sl a_l l.length c_l),(17,I (l.length:Int)),(18,I (i:Int)),(20,I (i:Int))] ?_
 obtain ⟨b1,o1,rfl⟩:=RS.addr h_l (k:=i) (by omega)
 obtain ⟨x1,hx1⟩:=Q8 (l:=l) (k:=i) (by omega)
 obtain ⟨_,⟨rfl,_,_,_,_⟩,hc1⟩:=RS.get h_l hx1
 refine Kh (b:=b1) (off:=o1) (len:=l.length) (cap:=c_l) (ik:=.i64) 21 50 4 i (by omega) ?_
 refine J9 22 50 (cs:=[I x1.epoch,U x1.root,U x1.prev,I x1.at_]) 0 (.agg #[I x1.epoch,U x1.root,U x1.prev,I x1.at_]) hc1 ?_
 refine Ju 5 #[I 0,U 0,U 0,I 0] 50 (fun b2=>?_)
 refine Kb [0,3] [(0,Sl (At b1 o1) l.length c_l),(4,I (i:Int)),(5,Pt b2 0),(16,Sl (At b1 o1) l.length c_l),(17,I (l.length:Int)),(18,I (i:Int))] [[Sg b2 0 [I x1.epoch,U x1.root,U x1.prev,I x1.at_]]] (Jd (Ja (Je (Jb ?_))))
 refine Jc [2] [(0,Sl (At b1 o1) l.length c_l),(4,I (i:Int)),(16,Sl (At b1 o1) l.length c_l),(17,I (l.length:Int)),(18,I (i:Int)),(23,.agg #[I x1.epoch,U x1.root,U x1.prev,I x1.at_])] ?_
 refine Ji 24 (I (JD x1)) (Zl x1 G) ?_
 refine Jc [0] [(0,Sl (At b1 o1) l.length c_l),(4,I (i:Int)),(6,I (JD x1)),(16,Sl (At b1 o1) l.length c_l),(17,I (l.length:Int)),(18,I (i:Int))] (Jd (Ja ?_))
 refine Jg [0,0] [(0,Sl (At b1 o1) l.length c_l),(4,I (i:Int)),(6,I (JD x1)),(16,Sl (At b1 o1) l.length c_l),(17,I (l.length:Int)),(18,I (i:Int)),(26,Bo (!decide (JD x1=0)))] ?_
 refine Jo (!decide (JD x1=0)) (fun h4=>?_) (fun h4=>?_)
 try simp only [BB] at h4
 refine Jg [0,0,0,0] [(2,I (JD x1)),(3,I (i:Int))] (Jk (Js (Jh (QB (Js (Jh ?_))))))
 refine Jl [0,0] [I (JD x1),I (i:Int)] (Jv (Jt.le_refl _) ?_)
 have hf_:(Ka l)=((JD x1),(i:Int)):=by
  unfold Ka;(rw [if_neg (by omega),if_neg (by omega)];(have e_:=Jjo hx1 ‹_›;rw [← hn] at e_;rw [if_pos (by rw [e_];assumption),e_];done))
 · (try rw [hf_]);(simp only [JM];done)
 try simp only [BB] at h4
 refine Jm (JK (Ja (Jb ?_)))
 refine Jc [0,0] [(0,Sl (At b1 o1) l.length c_l),(16,Sl (At b1 o1) l.length c_l),(17,I (l.length:Int)),(18,I (IntKind.i64.wrap ((i:Int)+1)))] ?_
 have e1:IntKind.i64.wrap ((i:Int)+1)=(i:Int)+1:=IntWalk.i64_in _ (by omega)
 refine J2 (fr':=[(0,Sl (At b1 o1) l.length c_l),(16,Sl (At b1 o1) l.length c_l),(17,I (l.length:Int)),(18,I ((i:Int)+1))]) (L':=[[Sg b2 0 [I x1.epoch,U x1.root,U x1.prev,I x1.at_]]]) (by simp only [e1]) (by rfl) ?_
 clear e1
 refine Jd ?_
 refine QY [] (.cons _ .slnil) ?_
 exact Qd (i+1) ⟨(by omega),(by rw [hn];exact Jgt hx1 ‹_›)⟩ (by (try dsimp only);omega)
 try simp only [BB] at h3
 refine KU (J3 (Ke (JW (Ja (Je (Je (Jb ?_)))))))
 refine Jc [0] [(30,Sl a_l l.length c_l)] ?_
 refine Ji 31 (I (QS l)) (Jaz G a_l c_l l h_l) ?_
 refine Jc [0] [(7,I (QS l))] (Jd (Ja ?_))
 refine Jg [0,0] [(7,I (QS l)),(33,Bo (decide (QS l ≥ 0)))] ?_
 refine Jo (decide (QS l ≥ 0)) (fun h5=>?_) (fun h5=>?_)
 try simp only [BB] at h5
 refine Jg [0,0,0] [(2,I 8),(3,I (QS l))] (Jk (Jh ?_))
 refine Jl [0,0] [I 8,I (QS l)] (Jv (Jt.le_refl _) ?_)
 have hf_:(Ka l)=(8,(QS l)):=by
  unfold Ka;(rw [if_neg (by omega),if_neg (by omega)];(have e_:YL l 0=(0,0):=(by rw [hn,List.drop_eq_nil_of_le (by omega)];rfl);rw [if_neg (by rw [e_];simp)];(rw [if_pos (by omega)];done)))
 · (try rw [hf_]);(simp only [JM];done)
 try simp only [BB] at h5
 refine Jm (Ja ?_)
 refine Jg [0,0] [(2,I 0),(3,I 0)] (Jk ?_)
 refine Jl [0,0] [I 0,I 0] (Jv (Jt.le_refl _) ?_)
 have hf_:(Ka l)=(0,0):=by
  unfold Ka;(rw [if_neg (by omega),if_neg (by omega)];(have e_:YL l 0=(0,0):=(by rw [hn,List.drop_eq_nil_of_le (by omega)];rfl);rw [if_neg (by rw [e_];simp)];(rw [if_neg (by omega)];done)))
 · (try rw [hf_]);(simp only [JM];done)
theorem V9 (G:Jt) (a_l:Option Addr) (c_l:Nat) (l:List (List JU)) (h_l:RS Jc2 G a_l c_l l) :QE Tryz.prog 102 #[Sl a_l l.length c_l] G [] (fun u G' L'=>u=I (KH l)):=by
 refine JL Tryz.func102 22 [(0,Sl a_l l.length c_l)] rfl (fun w0 G0=>?_)
 refine Jg [0] [(0,Sl a_l l.length c_l)] (Je ?_)
 refine Jg [0,0,0] [(7,Sl a_l l.length c_l),(8,I (l.length:Int)),(9,I 0)] (Jy ?_)
 have hlm_h_l:l.length≤9223372036854775807:=Nat.le_trans (h_l).le (h_l).max
 refine Qb (σ:=Nat) (fun q_=>(q_≤l.length)∧(KH l=KH (l.drop q_))) (fun q_=>[(7,Sl a_l l.length c_l),(8,I (l.length:Int)),(9,I (q_:Int))]) (fun q_=>G) (fun q_=>[]) (fun q_=>l.length-q_) 0 ⟨(by (try dsimp only);exact Nat.zero_le _),rfl⟩ (fun q_ hs=>?_)
 revert hs;revert q_;intro i hs
 obtain ⟨hi,hn⟩:=hs
 refine KJ (fr':=[(7,Sl a_l l.length c_l),(8,I (l.length:Int)),(9,I (i:Int))]) (L':=[]) rfl rfl ?_
 refine Jg [0] [(7,Sl a_l l.length c_l),(8,I (l.length:Int)),(9,I (i:Int)),(10,Bo (decide ((i:Int)<(l.length:Int))))] (Je ?_)
 refine Jo (decide ((i:Int)<(l.length:Int))) (fun h1=>?_) (fun h1=>?_)
 try simp only [BB] at h1
 refine Jm (Ja (Je (Jy (Je (Jb ?_)))))
 obtain ⟨b1,o1,rfl⟩:=RS.addr h_l (k:=i) (by omega)
 obtain ⟨x1,hx1⟩:=Q8 (l:=l) (k:=i) (by omega)
 obtain ⟨_,⟨a1,c1,rfl,hs1⟩,hc1⟩:=RS.get h_l hx1
 refine Kh (b:=b1) (off:=o1) (len:=l.length) (cap:=c_l) (ik:=.i64) 11 31 1 i (by omega) ?_
 refine J9 12 31 (cs:=[Sl a1 x1.length c1]) 0 (Sl a1 x1.length c1) hc1 ?_
 refine Jc [0] [(4,Sl a1 x1.length c1),(7,Sl (At b1 o1) l.length c_l),(8,I (l.length:Int)),(9,I (i:Int))] (Jd (Ja (Je (Jb ?_))))
 refine Jc [0] [(7,Sl (At b1 o1) l.length c_l),(8,I (l.length:Int)),(9,I (i:Int)),(14,Sl a1 x1.length c1)] ?_
 refine Ji 15 (.tuple #[I ((Ka x1).1),I ((Ka x1).2)]) (Vu G a1 c1 x1 hs1) ?_
 refine Jc [0,0,0,0,0] [(5,I ((Ka x1).1)),(7,Sl (At b1 o1) l.length c_l),(8,I (l.length:Int)),(9,I (i:Int))] (Jd (Ja ?_))
 refine Jg [0,0] [(5,I ((Ka x1).1)),(7,Sl (At b1 o1) l.length c_l),(8,I (l.length:Int)),(9,I (i:Int)),(19,Bo (!decide ((Ka x1).1=0)))] ?_
 refine Jo (!decide ((Ka x1).1=0)) (fun h2=>?_) (fun h2=>?_)
 try simp only [BB] at h2
 refine Jg [0,0] [(2,I ((Ka x1).1))] (Jk (Js (Jh (QB (Js (Jh ?_))))))
 refine Jl [0] [I ((Ka x1).1)] (Jv (Jt.le_refl _) ?_)
 have hf_:(KH l)=((Ka x1).1):=by
  rw [hn];exact Jgu hx1 ‹_›
 · (try rw [hf_]);(simp only [JM];done)
 try simp only [BB] at h2
 refine Jm (JK (Ja (Jb ?_)))
 refine Jc [0,0] [(7,Sl (At b1 o1) l.length c_l),(8,I (l.length:Int)),(9,I (IntKind.i64.wrap ((i:Int)+1)))] ?_
 have e1:IntKind.i64.wrap ((i:Int)+1)=(i:Int)+1:=IntWalk.i64_in _ (by omega)
 refine J2 (fr':=[(7,Sl (At b1 o1) l.length c_l),(8,I (l.length:Int)),(9,I ((i:Int)+1))]) (L':=[]) (by simp only [e1]) (by rfl) ?_
 clear e1
 refine Jd ?_
 exact Qd (i+1) ⟨(by omega),(by rw [hn];exact Jd5 hx1 ‹_›)⟩ (by (try dsimp only);omega)
 try simp only [BB] at h1
 refine KU (J3 (Ke (JW (Ja ?_))))
 refine Jg [0] [(2,I 0)] (Jk ?_)
 refine Jl [0] [I 0] (Jv (Jt.le_refl _) ?_)
 have hf_:(KH l)=0:=by
  rw [hn];(rw [List.drop_eq_nil_of_le (by omega)];rfl)
 · (try rw [hf_]);(simp only [JM];done)
theorem Jd7 (G:Jt) (a_l:Option Addr) (c_l:Nat) (l:List JU) (h_l:RS KA G a_l c_l l) (root:Int) (hw_root:rU root) (a:Int) (hw_a:rI a) :QE Tryz.prog 63 #[Sl a_l l.length c_l,U root,I a] G [] (fun u G' L'=>∃ (a1:Option Addr) (c2:Nat) (r3:List Kq),u=.tuple #[Sl a1 (((K8 l root a).1).length) c2,I ((K8 l root a).2)]∧(J8 KA G' a1 c2 ((K8 l root a).1) r3)∧L'=[r3]):=by
 refine JL Tryz.func63 41 [(0,Sl a_l l.length c_l),(1,U root),(2,I a)] rfl (fun w0 G0=>?_)
 refine Jg [0,0] [(0,Sl a_l l.length c_l),(1,U root),(2,I a)] (Je (Jb ?_))
 refine Jc [0] [(0,Sl a_l l.length c_l),(1,U root),(2,I a),(10,Sl a_l l.length c_l)] ?_
 refine KC 11 1 #[Sl a_l l.length c_l] 31 (fun b1=>?_)
 refine QJ (b:=b1) (o:=0) (cs:=[Sl a_l l.length c_l]) 0 (fun G1 hl1 hz1=>?_)
 have hs1:RS Jc2 G1 (At b1 0) 1 [l]:=RS.lit [[Sl a_l l.length c_l]] [l] ⟨⟨a_l,c_l,rfl,(h_l.mono hl1)⟩,trivial⟩ hz1 (Nat.le_of_ble_eq_true rfl) (Nat.le_of_ble_eq_true rfl)
 refine Ji 12 (I (KH ([l]))) (V9 G1 (At b1 0) 1 ([l]) hs1) ?_
 refine Jc [0] [(0,Sl a_l l.length c_l),(1,U root),(2,I a),(8,I (KH ([l])))] (Jd (Ja (Je (Jy ?_))))
 refine Jg [0,0,0] [(0,Sl a_l l.length c_l),(1,U root),(2,I a),(8,I (KH ([l]))),(13,Bo (!decide (KH ([l])=0)))] ?_
 refine Jo (!decide (KH ([l])=0)) (fun h1=>?_) (fun h1=>?_)
 try simp only [BB] at h1
 refine Jg [0,0,0] [(6,Sl none 0 0),(7,I (KH ([l])))] (Jk (Js (Jh ?_)))
 refine W2 ?_
 refine Jj 0 ?_
 have hf1:K8 l root a=([],KH ([l])):=by
  unfold K8 Zn;(simp_all;done)
 refine Jl [0,0] [Sl none 0 0,I (KH ([l]))] (JY [[]] (.cons_cons _ (.cons _ .slnil)) hl1 ?_)
 rw [hf1]
 try dsimp only
 exact ⟨none,0,([]),rfl,(J8.none KA _),rfl⟩
 try simp only [BB] at h1
 refine Jg [0,0,0,0] [(0,Sl a_l l.length c_l),(1,U root),(2,I a),(17,Bo (decide ((l.length:Int)=40)))] ?_
 refine Jo (decide ((l.length:Int)=40)) (fun h2=>?_) (fun h2=>?_)
 try simp only [BB] at h2
 refine Jg [0,0] [(6,Sl none 0 0),(7,I 7)] (Jk (Js (Jh ?_)))
 refine W2 ?_
 refine Jj 0 ?_
 have hf2:K8 l root a=([],7):=by
  unfold K8 Zn;(simp_all;done)
 refine Jl [0,0] [Sl none 0 0,I 7] (JY [[]] (.cons_cons _ (.cons _ .slnil)) hl1 ?_)
 rw [hf2]
 try dsimp only
 exact ⟨none,0,([]),rfl,(J8.none KA _),rfl⟩
 try simp only [BB] at h2
 refine Jm (JK (Ja (Je (Jb ?_))))
 refine Jc [0,0,0,0] [(0,Sl a_l l.length c_l),(1,U root),(2,I a),(22,Sl a_l l.length c_l),(25,I (IntKind.i64.wrap ((l.length:Int)-1)))] ?_
 have e1:IntKind.i64.wrap ((l.length:Int)-1)=((l.length-1:Nat):Int):=(IntWalk.i64_in _ (by (have q_:=Qg.1 ‹_›;have q1_:=q_.len1;have q2_:=q_.len;have q3_:=q_.lastE;have q4_:=q_.fb;have q5_:=q_.lb;omega))).trans (show (l.length:Int)-1=((l.length-1:Nat):Int) by (have q_:=Qg.1 ‹_›;have q1_:=q_.len1;have q2_:=q_.len;have q3_:=q_.lastE;have q4_:=q_.fb;have q5_:=q_.lb;omega))
 refine J2 (fr':=[(0,Sl a_l l.length c_l),(1,U root),(2,I a),(22,Sl a_l l.length c_l),(25,I ((l.length-1:Nat):Int))]) (L':=[[]]) (by simp only [Jas,Yt,e1];first | done | rfl) (by rfl) ?_
 clear e1
 obtain ⟨b2,o1,rfl⟩:=RS.addr (h_l.mono hl1) (k:=l.length-1) (by (have q_:=Qg.1 ‹_›;have q1_:=q_.len1;have q2_:=q_.len;have q3_:=q_.lastE;have q4_:=q_.fb;have q5_:=q_.lb;omega))
 obtain ⟨x1,hx1⟩:=Q8 (l:=l) (k:=l.length-1) (by (have q_:=Qg.1 ‹_›;have q1_:=q_.len1;have q2_:=q_.len;have q3_:=q_.lastE;have q4_:=q_.fb;have q5_:=q_.lb;omega))
 obtain ⟨_,⟨rfl,w1,w2,w3,w4⟩,hc1⟩:=RS.get (h_l.mono hl1) hx1
 refine Kh (b:=b2) (off:=o1) (len:=l.length) (cap:=c_l) (ik:=.i64) 26 50 4 (l.length-1) (by (have q_:=Qg.1 ‹_›;have q1_:=q_.len1;have q2_:=q_.len;have q3_:=q_.lastE;have q4_:=q_.fb;have q5_:=q_.lb;omega)) ?_
 refine J9 27 50 (cs:=[I x1.epoch,U x1.root,U x1.prev,I x1.at_]) 0 (.agg #[I x1.epoch,U x1.root,U x1.prev,I x1.at_]) hc1 ?_
 refine Jc [0,0] [(0,Sl (At b2 o1) l.length c_l),(27,.agg #[I x1.epoch,U x1.root,U x1.prev,I x1.at_]),(28,U root),(29,I a)] ?_
 refine Ji 30 (.tuple #[(Yt (Jx x1 root a).1),I ((Jx x1 root a).2)]) (V3 G1 [I x1.epoch,U x1.root,U x1.prev,I x1.at_] x1 (⟨rfl,w1,w2,w3,w4⟩) root ‹_› a ‹_›) ?_
 refine Jc [0,0,0] [(0,Sl (At b2 o1) l.length c_l),(31,(Yt (Jx x1 root a).1)),(32,I ((Jx x1 root a).2))] ?_
 refine Ju 9 #[I 0,U 0,U 0,I 0] 50 (fun b3=>?_)
 refine Kb [3,0] [(0,Sl (At b2 o1) l.length c_l),(8,I ((Jx x1 root a).2)),(9,Pt b3 0)] [[Sg b3 0 (Jas (Jx x1 root a).1)],[]] (Jd (Ja (Je ?_)))
 refine Jg [0,0] [(0,Sl (At b2 o1) l.length c_l),(8,I ((Jx x1 root a).2)),(9,Pt b3 0),(34,Bo (!decide ((Jx x1 root a).2=0)))] ?_
 refine Jo (!decide ((Jx x1 root a).2=0)) (fun h3=>?_) (fun h3=>?_)
 try simp only [BB] at h3
 refine Jg [0,0,0] [(6,Sl none 0 0),(7,I ((Jx x1 root a).2))] (Jk (Jh ?_))
 refine W2 ?_
 refine Jj 0 ?_
 have hf3:K8 l root a=([],(Jx x1 root a).2):=by
  unfold K8 Zn;(have hl_:=Q9 (l:=l) (k:=l.length-1) rfl ‹_›;subst hl_;(simp_all;done))
 refine Jl [0,0] [Sl none 0 0,I ((Jx x1 root a).2)] (JY [[]] (.cons_cons _ (.cons _ (.cons _ .slnil))) hl1 ?_)
 rw [hf3]
 try dsimp only
 exact ⟨none,0,([]),rfl,(J8.none KA _),rfl⟩
 try simp only [BB] at h3
 refine Jm (Ja (Je ?_))
 refine Kw [1,3,4] ?_
 refine Wa [(0,Sl (At b2 o1) l.length c_l),(2,(Yt (Jx x1 root a).1))] ?_
 refine JZ [] [(0,0),(2,2)] [] [1,3] (List.forall_mem_nil _) (List.forall_mem_cons.2 ⟨?_,(List.forall_mem_cons.2 ⟨?_,List.forall_mem_nil _⟩)⟩)
 refine JO 1 [(36,Sl (At b2 o1) l.length c_l)] (fun X=>?_)
 refine JN 37 (YB G1 (At b2 o1) c_l l (h_l.mono hl1)) (fun v G2 L1 hl2 hp=>?_)
 obtain ⟨a1,c1,_,rfl,hr1,rfl⟩:=hp
 refine JS [(1,Sl a1 l.length c1)] ?_
 refine JZ [0] [(2,4)] [] [3] (List.forall_mem_nil _) (List.forall_mem_cons.2 ⟨?_,List.forall_mem_nil _⟩)
 refine JO 3 [(38,(Yt (Jx x1 root a).1))] (fun X=>?_)
 refine KC 39 1 #[I (((Jx x1 root a).1).epoch),U (((Jx x1 root a).1).root),U (((Jx x1 root a).1).prev),I (((Jx x1 root a).1).at_)] 50 (fun b4=>?_)
 refine JS [(3,Sl (At b4 0) 1 1)] ?_
 refine JZ [0,2] [] [] [4] (List.forall_mem_nil _) (List.forall_mem_cons.2 ⟨?_,List.forall_mem_nil _⟩)
 refine JO 4 [(37,Sl a1 l.length c1),(39,Sl (At b4 0) 1 1)] (fun X=>?_)
 refine QC (b:=b4) (cs:=(Jas (Jx x1 root a).1)) 40 50 1 0 (E:=KA) ((Jx x1 root a).1) hr1 ⟨rfl,(by have q_:=ZE (x:=x1) (r:=root) (t:=a) (by omega) ‹_›;omega),(by have q_:=ZE (x:=x1) (r:=root) (t:=a) (by omega) ‹_›;omega),(by have q_:=ZE (x:=x1) (r:=root) (t:=a) (by omega) ‹_›;omega),(by have q_:=ZE (x:=x1) (r:=root) (t:=a) (by omega) ‹_›;omega)⟩ (by have q_:=Qg.1 ‹_›;have q1_:=q_.len1;have q2_:=q_.len;have q3_:=q_.lastE;have q4_:=q_.fb;have q5_:=q_.lb;(try simp only [KA,List.length_append,List.length_cons,List.length_nil]);omega) (by have q_:=Qg.1 ‹_›;have q1_:=q_.len1;have q2_:=q_.len;have q3_:=q_.lastE;have q4_:=q_.fb;have q5_:=q_.lb;(try simp only [KA,List.length_append,List.length_cons,List.length_nil]);omega) (fun a2 c2 r2 hr2=>?_)
 refine JS [(4,Sl a2 ((l++[((Jx x1 root a).1)]).length) c2),(5,Sl a2 ((l++[((Jx x1 root a).1)]).length) c2),(6,I 0)] ?_
 refine Kv [0,2] [(5,0),(6,0)] [] [(6,Sl a2 ((l++[((Jx x1 root a).1)]).length) c2),(7,I 0)] (List.forall_mem_nil _) ?_
 refine Ja (Jk ?_)
 refine Jj 1 ?_
 have hf4:K8 l root a=(l++[((Jx x1 root a).1)],0):=by
  unfold K8 Zn;(have hl_:=Q9 (l:=l) (k:=l.length-1) rfl ‹_›;subst hl_;(simp_all;done))
 refine Jl [0,0] [Sl a2 ((l++[((Jx x1 root a).1)]).length) c2,I 0] (JY [r2] (.cons_cons _ (.cons _ (.cons _ (.cons _ .slnil)))) (Jt.le_trans hl1 hl2) ?_)
 rw [hf4]
 try dsimp only
 exact ⟨a2,c2,r2,rfl,hr2,rfl⟩
 refine JO 3 [(38,(Yt (Jx x1 root a).1))] (fun X=>?_)
 refine KC 39 1 #[I (((Jx x1 root a).1).epoch),U (((Jx x1 root a).1).root),U (((Jx x1 root a).1).prev),I (((Jx x1 root a).1).at_)] 50 (fun b5=>?_)
 refine JS [(3,Sl (At b5 0) 1 1)] ?_
 refine JZ [2] [(0,0)] [] [1] (List.forall_mem_nil _) (List.forall_mem_cons.2 ⟨?_,List.forall_mem_nil _⟩)
 refine JO 1 [(36,Sl (At b2 o1) l.length c_l)] (fun X=>?_)
 refine JN 37 (YB G1 (At b2 o1) c_l l (h_l.mono hl1)) (fun v G3 L1 hl3 hp=>?_)
 obtain ⟨a3,c3,r3,rfl,hr3,rfl⟩:=hp
 refine JS [(1,Sl a3 l.length c3)] ?_
 refine JZ [0,2] [] [] [4] (List.forall_mem_nil _) (List.forall_mem_cons.2 ⟨?_,List.forall_mem_nil _⟩)
 refine JO 4 [(37,Sl a3 l.length c3),(39,Sl (At b5 0) 1 1)] (fun X=>?_)
 refine QC (b:=b5) (cs:=(Jas (Jx x1 root a).1)) 40 50 0 1 (E:=KA) ((Jx x1 root a).1) hr3 ⟨rfl,(by have q_:=ZE (x:=x1) (r:=root) (t:=a) (by omega) ‹_›;omega),(by have q_:=ZE (x:=x1) (r:=root) (t:=a) (by omega) ‹_›;omega),(by have q_:=ZE (x:=x1) (r:=root) (t:=a) (by omega) ‹_›;omega),(by have q_:=ZE (x:=x1) (r:=root) (t:=a) (by omega) ‹_›;omega)⟩ (by have q_:=Qg.1 ‹_›;have q1_:=q_.len1;have q2_:=q_.len;have q3_:=q_.lastE;have q4_:=q_.fb;have q5_:=q_.lb;(try simp only [KA,List.length_append,List.length_cons,List.length_nil]);omega) (by have q_:=Qg.1 ‹_›;have q1_:=q_.len1;have q2_:=q_.len;have q3_:=q_.lastE;have q4_:=q_.fb;have q5_:=q_.lb;(try simp only [KA,List.length_append,List.length_cons,List.length_nil]);omega) (fun a4 c4 r4 hr4=>?_)
 refine JS [(4,Sl a4 ((l++[((Jx x1 root a).1)]).length) c4),(5,Sl a4 ((l++[((Jx x1 root a).1)]).length) c4),(6,I 0)] ?_
 refine Kv [0,2] [(5,0),(6,0)] [] [(6,Sl a4 ((l++[((Jx x1 root a).1)]).length) c4),(7,I 0)] (List.forall_mem_nil _) ?_
 refine Ja (Jk ?_)
 refine Jj 0 ?_
 have hf5:K8 l root a=(l++[((Jx x1 root a).1)],0):=by
  unfold K8 Zn;(have hl_:=Q9 (l:=l) (k:=l.length-1) rfl ‹_›;subst hl_;(simp_all;done))
 refine Jl [0,0] [Sl a4 ((l++[((Jx x1 root a).1)]).length) c4,I 0] (JY [r4] (.cons_cons _ (.cons _ (.cons _ (.cons _ .slnil)))) (Jt.le_trans hl1 hl3) ?_)
 rw [hf5]
 try dsimp only
 exact ⟨a4,c4,r4,rfl,hr4,rfl⟩
theorem Jd8 (G:Jt) (a_l:Option Addr) (c_l:Nat) (l:List JU) (h_l:RS KA G a_l c_l l) (a:Int) (hw_a:rI a) (b:Int) (hw_b:rI b) :QE Tryz.prog 178 #[Sl a_l l.length c_l,I a,I b] G [] (fun u G' L'=>∃ (a1:Option Addr) (c2:Nat),u=.tuple #[Sl a1 (((WB l a b).1).length) c2,I ((WB l a b).2)]∧(RS KA G' a1 c2 ((WB l a b).1))∧L'=[]):=by
 refine JL Tryz.func178 51 [(0,Sl a_l l.length c_l),(1,I a),(2,I b)] rfl (fun w0 G0=>?_)
 refine Jg [0,0] [(0,Sl a_l l.length c_l),(1,I a),(2,I b)] (Je (Je (Jb ?_)))
 refine Jc [0] [(0,Sl a_l l.length c_l),(1,I a),(2,I b),(11,Sl a_l l.length c_l)] ?_
 refine KC 12 1 #[Sl a_l l.length c_l] 31 (fun b1=>?_)
 refine QJ (b:=b1) (o:=0) (cs:=[Sl a_l l.length c_l]) 0 (fun G1 hl1 hz1=>?_)
 have hs1:RS Jc2 G1 (At b1 0) 1 [l]:=RS.lit [[Sl a_l l.length c_l]] [l] ⟨⟨a_l,c_l,rfl,(h_l.mono hl1)⟩,trivial⟩ hz1 (Nat.le_of_ble_eq_true rfl) (Nat.le_of_ble_eq_true rfl)
 refine Ji 13 (I (KH ([l]))) (V9 G1 (At b1 0) 1 ([l]) hs1) ?_
 refine Jc [0] [(0,Sl a_l l.length c_l),(1,I a),(2,I b),(8,I (KH ([l])))] (Jd (Ja ?_))
 refine Jg [0,0] [(0,Sl a_l l.length c_l),(1,I a),(2,I b),(8,I (KH ([l]))),(15,Bo (!decide (KH ([l])=0)))] ?_
 refine Jo (!decide (KH ([l])=0)) (fun h1=>?_) (fun h1=>?_)
 try simp only [BB] at h1
 refine Jg [0,0,0] [(6,Sl none 0 0),(7,I (KH ([l])))] (Jk (Jh ?_))
 have hf1:WB l a b=([],KH ([l])):=by
  unfold WB;(simp_all;done)
 refine Jl [0,0] [Sl none 0 0,I (KH ([l]))] (JY [] (.cons _ .slnil) hl1 ?_)
 rw [hf1]
 try dsimp only
 exact ⟨none,0,rfl,(RS.nil' KA G1),rfl⟩
 try simp only [BB] at h1
 refine Jm (Ja (Je ?_))
 obtain ⟨b2,o1,rfl⟩:=RS.addr (h_l.mono hl1) (k:=0) (by (have q_:=Qg.1 ‹_›;have q1_:=q_.len1;have q2_:=q_.len;have q3_:=q_.lastE;have q4_:=q_.fb;have q5_:=q_.lb;omega))
 obtain ⟨x1,hx1⟩:=Q8 (l:=l) (k:=0) (by (have q_:=Qg.1 ‹_›;have q1_:=q_.len1;have q2_:=q_.len;have q3_:=q_.lastE;have q4_:=q_.fb;have q5_:=q_.lb;omega))
 obtain ⟨_,⟨rfl,_,_,_,_⟩,hc1⟩:=RS.get (h_l.mono hl1) hx1
 have e1:IntKind.i64.wrap ((l.length:Int)-1)=((l.length-1:Nat):Int):=(IntWalk.i64_in _ (by (have q_:=Qg.1 ‹_›;have q1_:=q_.len1;have q2_:=q_.len;have q3_:=q_.lastE;have q4_:=q_.fb;have q5_:=q_.lb;omega))).trans (show (l.length:Int)-1=((l.length-1:Nat):Int) by (have q_:=Qg.1 ‹_›;have q1_:=q_.len1;have q2_:=q_.len;have q3_:=q_.lastE;have q4_:=q_.fb;have q5_:=q_.lb;omega))
 obtain ⟨x2,hx2⟩:=Q8 (l:=l) (k:=l.length-1) (by (have q_:=Qg.1 ‹_›;have q1_:=q_.len1;have q2_:=q_.len;have q3_:=q_.lastE;have q4_:=q_.fb;have q5_:=q_.lb;omega))
 obtain ⟨_,⟨rfl,_,_,_,_⟩,hc2⟩:=RS.get (h_l.mono hl1) hx2
 refine Kw [] ?_
 refine Wa [(0,Sl (At b2 o1) l.length c_l),(1,Pt b2 (o1+0*4)),(2,Pt b2 (o1+0*4)),(3,I x1.epoch),(4,Sl (At b2 o1) l.length c_l),(5,Sl (At b2 o1) l.length c_l),(6,I (l.length:Int)),(7,I ((l.length-1:Nat):Int)),(8,Pt b2 (o1+(l.length-1)*4)),(9,Pt b2 (o1+(l.length-1)*4)),(10,I x2.epoch),(11,I x1.epoch),(12,I x2.epoch)] ?_
 refine Kv [] [(0,0),(2,0),(4,0),(5,0),(6,0),(9,0),(11,0),(12,0)] [1,3,7,8,10] [(0,Sl (At b2 o1) l.length c_l),(1,I a),(2,I b),(9,I x1.epoch),(10,I x2.epoch)] (List.forall_mem_cons.2 ⟨?_,(List.forall_mem_cons.2 ⟨?_,(List.forall_mem_cons.2 ⟨?_,(List.forall_mem_cons.2 ⟨?_,(List.forall_mem_cons.2 ⟨?_,List.forall_mem_nil _⟩)⟩)⟩)⟩)⟩) ?_
 refine Jq 1 18 (Pt b2 (o1+0*4)) [(17,Sl (At b2 o1) l.length c_l)] (fun X=>?_)
 exact Kh (b:=b2) (off:=o1) (len:=l.length) (cap:=c_l) (ik:=.i64) 18 50 4 0 (by (have hl_:=Q9 (l:=l) (k:=l.length-1) rfl hx2;have hf_:=Wn hx1;subst hl_;subst hf_;have q_:=Qg.1 ‹_›;have q1_:=q_.len1;have q2_:=q_.len;have q3_:=q_.lastE;have q4_:=q_.fb;have q5_:=q_.lb;omega)) Jn
 refine Jq 3 20 (I x1.epoch) [(19,Pt b2 (o1+0*4))] (fun X=>?_)
 exact J9 20 2 (cs:=[I x1.epoch,U x1.root,U x1.prev,I x1.at_]) 0 (I x1.epoch) hc1 Jn
 refine Jq 7 24 (I ((l.length-1:Nat):Int)) [(23,I (l.length:Int))] (fun X=>?_)
 exact KZ 24 (I (IntKind.i64.wrap ((l.length:Int)-1))) (I ((l.length-1:Nat):Int)) (by simp only [e1]) Jn
 refine Jq 8 25 (Pt b2 (o1+(l.length-1)*4)) [(21,Sl (At b2 o1) l.length c_l),(24,I ((l.length-1:Nat):Int))] (fun X=>?_)
 exact Kh (b:=b2) (off:=o1) (len:=l.length) (cap:=c_l) (ik:=.i64) 25 50 4 (l.length-1) (by (have hl_:=Q9 (l:=l) (k:=l.length-1) rfl hx2;have hf_:=Wn hx1;subst hl_;subst hf_;have q_:=Qg.1 ‹_›;have q1_:=q_.len1;have q2_:=q_.len;have q3_:=q_.lastE;have q4_:=q_.fb;have q5_:=q_.lb;omega)) Jn
 refine Jq 10 27 (I x2.epoch) [(26,Pt b2 (o1+(l.length-1)*4))] (fun X=>?_)
 exact J9 27 2 (cs:=[I x2.epoch,U x2.root,U x2.prev,I x2.at_]) 0 (I x2.epoch) hc2 Jn
 refine Ja (Je (Je (Jb ?_)))
 refine Jc [0,0,0,0] [(0,Sl (At b2 o1) l.length c_l),(1,I a),(2,I b),(9,I x1.epoch),(10,I x2.epoch),(31,Bo (decide (a > b)))] ?_
 refine Ky (decide (a > b)) (fun bb=>[(0,Sl (At b2 o1) l.length c_l),(1,I a),(2,I b),(9,I x1.epoch),(10,I x2.epoch),(31,Bo bb)]) [1,1,1,0] [0,0,0,0] (fun bb=>[(0,Sl (At b2 o1) l.length c_l),(1,I a),(2,I b),(9,I x1.epoch),(10,I x2.epoch),(35,Bo (bb || (decide (a<x1.epoch))))]) ?_
 refine Jc [0] [(0,Sl (At b2 o1) l.length c_l),(1,I a),(2,I b),(9,I x1.epoch),(10,I x2.epoch),(36,Bo ((decide (a > b)) || (decide (a<x1.epoch))))] ?_
 refine Ky ((decide (a > b)) || (decide (a<x1.epoch))) (fun bb=>[(0,Sl (At b2 o1) l.length c_l),(1,I a),(2,I b),(9,I x1.epoch),(10,I x2.epoch),(36,Bo bb)]) [1,1,1,0] [0,0,0,0] (fun bb=>[(0,Sl (At b2 o1) l.length c_l),(1,I a),(2,I b),(9,I x1.epoch),(40,Bo (bb || (decide (b > x2.epoch))))]) ?_
 refine Jd (Ja ?_)
 refine Jo (((decide (a > b)) || (decide (a<x1.epoch))) || (decide (b > x2.epoch))) (fun h2=>?_) (fun h2=>?_)
 try simp only [BB] at h2
 refine Jg [0,0] [(6,Sl none 0 0),(7,I 4)] (Jk (Jh ?_))
 have hf2:WB l a b=([],4):=by
  unfold WB;(have hl_:=Q9 (l:=l) (k:=l.length-1) rfl hx2;have hf_:=Wn hx1;subst hl_;subst hf_;rw [if_neg (by omega)];(rw [if_pos (by omega)];done))
 refine Jl [0,0] [Sl none 0 0,I 4] (JY [] (.cons _ .slnil) hl1 ?_)
 rw [hf2]
 try dsimp only
 exact ⟨none,0,rfl,(RS.nil' KA G1),rfl⟩
 try simp only [BB] at h2
 refine Jm (Ja (Je (Jb ?_)))
 refine Jc [0,0,0,0,0,0,0,0] [(41,Sl (At b2 o1) l.length c_l),(44,I (IntKind.i64.wrap (a-x1.epoch))),(48,I (IntKind.i64.wrap ((IntKind.i64.wrap (b-x1.epoch))+1)))] ?_
 have e2:IntKind.i64.wrap (a-x1.epoch)=a-x1.epoch:=IntWalk.i64_in _ (by (have hl_:=Q9 (l:=l) (k:=l.length-1) rfl hx2;have hf_:=Wn hx1;subst hl_;subst hf_;have q_:=Qg.1 ‹_›;have q1_:=q_.len1;have q2_:=q_.len;have q3_:=q_.lastE;have q4_:=q_.fb;have q5_:=q_.lb;omega))
 have e3:IntKind.i64.wrap (b-x1.epoch)=b-x1.epoch:=IntWalk.i64_in _ (by (have hl_:=Q9 (l:=l) (k:=l.length-1) rfl hx2;have hf_:=Wn hx1;subst hl_;subst hf_;have q_:=Qg.1 ‹_›;have q1_:=q_.len1;have q2_:=q_.len;have q3_:=q_.lastE;have q4_:=q_.fb;have q5_:=q_.lb;omega))
 have e4:IntKind.i64.wrap ((b-x1.epoch)+1)=(b-x1.epoch)+1:=IntWalk.i64_in _ (by (have hl_:=Q9 (l:=l) (k:=l.length-1) rfl hx2;have hf_:=Wn hx1;subst hl_;subst hf_;have q_:=Qg.1 ‹_›;have q1_:=q_.len1;have q2_:=q_.len;have q3_:=q_.lastE;have q4_:=q_.fb;have q5_:=q_.lb;omega))
 refine J2 (fr':=[(41,Sl (At b2 o1) l.length c_l),(44,I (a-x1.epoch)),(48,I ((b-x1.epoch)+1))]) (L':=[[]]) (by simp only [e2,e3,e4]) (by rfl) ?_
 clear e4 e3 e2
 obtain ⟨kn1,hkn1⟩:∃ k_:Nat,a-x1.epoch=(k_:Int):=⟨(a-x1.epoch).toNat,by omega⟩
 have e5:a-x1.epoch=(kn1:Int):=hkn1
 refine Jc [] [(41,Sl (At b2 o1) l.length c_l),(44,I (a-x1.epoch)),(48,I ((b-x1.epoch)+1))] ?_
 refine J2 (fr':=[(41,Sl (At b2 o1) l.length c_l),(44,I (kn1:Int)),(48,I ((b-x1.epoch)+1))]) (L':=[[]]) (by (simp only [e5];done)) (by rfl) ?_
 obtain ⟨kn2,hkn2⟩:∃ k_:Nat,(b-x1.epoch)+1=(k_:Int):=⟨((b-x1.epoch)+1).toNat,by omega⟩
 have e6:(b-x1.epoch)+1=(kn2:Int):=hkn2
 refine Jc [] [(41,Sl (At b2 o1) l.length c_l),(44,I (kn1:Int)),(48,I ((b-x1.epoch)+1))] ?_
 refine J2 (fr':=[(41,Sl (At b2 o1) l.length c_l),(44,I (kn1:Int)),(48,I (kn2:Int))]) (L':=[[]]) (by (simp only [e6];done)) (by rfl) ?_
 obtain ⟨a1,c1,ea1,ec1,en1,eh1,hs2⟩:=RS.reslX (h_l.mono hl1) kn1 kn2 (by omega) (by (have hl_:=Q9 (l:=l) (k:=l.length-1) rfl hx2;have hf_:=Wn hx1;subst hl_;subst hf_;have q_:=Qg.1 ‹_›;have q1_:=q_.len1;have q2_:=q_.len;have q3_:=q_.lastE;have q4_:=q_.fb;have q5_:=q_.lb;omega))
 refine Wb (a:=At b2 o1) (len:=l.length) (cap:=c_l) 49 4 (some (I (kn1:Int))) (some (I (kn2:Int))) kn1 kn2 (.inr ⟨_,rfl⟩) (.inr ⟨_,rfl⟩) (by omega) ea1 ec1 en1 eh1 ?_
 refine JN 50 (YB G1 a1 c1 ((l.take kn2).drop kn1) hs2) (fun v G2 L1 hl2 hp=>?_)
 obtain ⟨a2,c2,_,rfl,hr1,rfl⟩:=hp
 refine Jc [0,0] [(6,Sl a2 (((l.take kn2).drop kn1).length) c2),(7,I 0)] (Jd (Ja (Jk ?_)))
 refine We (E:=KA) 0 hr1 (by exact (hs2).fit) (fun G3 hl3 hs3=>?_)
 have hf3:WB l a b=((l.take kn2).drop kn1,0):=by
  unfold WB;(have hl_:=Q9 (l:=l) (k:=l.length-1) rfl hx2;have hf_:=Wn hx1;subst hl_;subst hf_;rw [if_neg (by omega)];(rw [if_neg (by omega)];unfold cut;rw [show (a-(Wm l).epoch).toNat=kn1 by omega,show (b-(Wm l).epoch+1).toNat=kn2 by omega];done))
 refine Jl [0,0] [Sl a2 (((l.take kn2).drop kn1).length) c2,I 0] (JY [] (.cons _ (.cons _ .slnil)) (Jt.le_trans (Jt.le_trans hl1 hl2) hl3) ?_)
 rw [hf3]
 try dsimp only
 exact ⟨a2,c2,rfl,hs3,rfl⟩
theorem Jce (G:Jt) (vs_h:List Value) (h:JU) (h_h:KA.R G vs_h h) (a_l:Option Addr) (c_l:Nat) (l:List JU) (h_l:RS KA G a_l c_l l) :QE Tryz.prog 203 #[.agg vs_h.toArray,Sl a_l l.length c_l] G [] (fun u G' L'=>u=.tuple #[Bo ((Qv h l).1),I ((Qv h l).2)]):=by
 obtain ⟨rfl,w1,w2,w3,w4⟩:=h_h
 refine JL Tryz.func203 24 [(0,.agg #[I h.epoch,U h.root,U h.prev,I h.at_]),(1,Sl a_l l.length c_l)] rfl (fun w0 G0=>?_)
 refine Je (Jb ?_)
 refine Ju 2 #[I h.epoch,U h.root,U h.prev,I h.at_] 50 (fun b1=>?_)
 refine Jc [0,0] [(1,Sl a_l l.length c_l),(2,Pt b1 0)] (Jd (Ja (Je (Jb ?_))))
 refine Jc [0] [(1,Sl a_l l.length c_l),(2,Pt b1 0),(7,Sl a_l l.length c_l)] ?_
 refine KC 8 1 #[Sl a_l l.length c_l] 31 (fun b2=>?_)
 refine QJ (b:=b2) (o:=0) (cs:=[Sl a_l l.length c_l]) 0 (fun G1 hl1 hz1=>?_)
 have hs1:RS Jc2 G1 (At b2 0) 1 [l]:=RS.lit [[Sl a_l l.length c_l]] [l] ⟨⟨a_l,c_l,rfl,(h_l.mono hl1)⟩,trivial⟩ hz1 (Nat.le_of_ble_eq_true rfl) (Nat.le_of_ble_eq_true rfl)
 refine Ji 9 (I (KH ([l]))) (V9 G1 (At b2 0) 1 ([l]) hs1) ?_
 refine Jc [0] [(1,Sl a_l l.length c_l),(2,Pt b1 0),(6,I (KH ([l])))] (Jd (Ja (Je ?_)))
 refine Jg [0,0] [(1,Sl a_l l.length c_l),(2,Pt b1 0),(6,I (KH ([l]))),(11,Bo (decide (KH ([l])=0)))] ?_
 refine Jo (decide (KH ([l])=0)) (fun h1=>?_) (fun h1=>?_)
 try simp only [BB] at h1
 refine Jb ?_
 refine Jc [4] [(1,Sl a_l l.length c_l),(2,Pt b1 0),(6,I (KH ([l]))),(12,.agg #[I h.epoch,U h.root,U h.prev,I h.at_])] ?_
 refine Ji 13 (I (JD h)) (Zl h G1) ?_
 refine Jc [0] [(1,Sl a_l l.length c_l),(2,Pt b1 0),(6,I (JD h))] (Jd (Ja (Je ?_)))
 refine Jg [0,0] [(1,Sl a_l l.length c_l),(2,Pt b1 0),(6,I (JD h)),(15,Bo (!decide (JD h=0)))] ?_
 refine Jo (!decide (JD h=0)) (fun h2=>?_) (fun h2=>?_)
 try simp only [BB] at h2
 refine Jg [0,0,0] [(4,Bo false),(5,I (JD h))] (Jk (Jh ?_))
 refine Jl [0,0] [Bo false,I (JD h)] (Jv hl1 ?_)
 have hf_:(Qv h l)=(false,(JD h)):=by
  unfold Qv;(simp_all;done)
 · (try rw [hf_]);(simp only [JM];done)
 try simp only [BB] at h2
 refine Jm (Ja (Je ?_))
 obtain ⟨b3,o1,rfl⟩:=RS.addr (h_l.mono hl1) (k:=0) (by (have q_:=Qg.1 ‹_›;have q1_:=q_.len1;have q2_:=q_.len;have q3_:=q_.lastE;have q4_:=q_.fb;have q5_:=q_.lb;omega))
 obtain ⟨x1,hx1⟩:=Q8 (l:=l) (k:=0) (by (have q_:=Qg.1 ‹_›;have q1_:=q_.len1;have q2_:=q_.len;have q3_:=q_.lastE;have q4_:=q_.fb;have q5_:=q_.lb;omega))
 obtain ⟨_,⟨rfl,w5,w6,w7,w8⟩,hc1⟩:=RS.get (h_l.mono hl1) hx1
 refine Kw [4,5] ?_
 refine Wa [(0,.agg #[I h.epoch,U h.root,U h.prev,I h.at_]),(1,Sl (At b3 o1) l.length c_l),(2,Pt b3 (o1+0*4)),(3,.agg #[I x1.epoch,U x1.root,U x1.prev,I x1.at_])] ?_
 refine JZ [] [(0,4),(1,0)] [2,3] [4] (List.forall_mem_cons.2 ⟨?_,(List.forall_mem_cons.2 ⟨?_,List.forall_mem_nil _⟩)⟩) (List.forall_mem_cons.2 ⟨?_,List.forall_mem_nil _⟩)
 refine Jq 2 19 (Pt b3 (o1+0*4)) [(18,Sl (At b3 o1) l.length c_l)] (fun X=>?_)
 exact Kh (b:=b3) (off:=o1) (len:=l.length) (cap:=c_l) (ik:=.i64) 19 50 4 0 (by (have q_:=Qg.1 ‹_›;have q1_:=q_.len1;have q2_:=q_.len;have q3_:=q_.lastE;have q4_:=q_.fb;have q5_:=q_.lb;omega)) Jn
 refine Jq 3 20 (.agg #[I x1.epoch,U x1.root,U x1.prev,I x1.at_]) [(19,Pt b3 (o1+0*4))] (fun X=>?_)
 exact J9 20 50 (cs:=[I x1.epoch,U x1.root,U x1.prev,I x1.at_]) 0 (.agg #[I x1.epoch,U x1.root,U x1.prev,I x1.at_]) hc1 Jn
 refine JO 4 [(17,.agg #[I h.epoch,U h.root,U h.prev,I h.at_]),(20,.agg #[I x1.epoch,U x1.root,U x1.prev,I x1.at_])] (fun X=>?_)
 refine KC 21 2 #[I h.epoch,U h.root,U h.prev,I h.at_,I x1.epoch,U x1.root,U x1.prev,I x1.at_] 50 (fun b4=>?_)
 refine JS [(4,Sl (At b4 0) 2 2)] ?_
 refine JZ [0,1,2,3] [] [] [5] (List.forall_mem_nil _) (List.forall_mem_cons.2 ⟨?_,List.forall_mem_nil _⟩)
 refine JO 5 [(21,Sl (At b4 0) 2 2)] (fun X=>?_)
 refine QJ (b:=b4) (o:=0) (cs:=[I h.epoch,U h.root,U h.prev,I h.at_,I x1.epoch,U x1.root,U x1.prev,I x1.at_]) 0 (fun G2 hl2 hz2=>?_)
 have hs2:RS KA G2 (At b4 0) 2 [h,x1]:=RS.lit [[I h.epoch,U h.root,U h.prev,I h.at_],[I x1.epoch,U x1.root,U x1.prev,I x1.at_]] [h,x1] ⟨⟨rfl,w1,w2,w3,w4⟩,⟨⟨rfl,w5,w6,w7,w8⟩,trivial⟩⟩ hz2 (Nat.le_of_ble_eq_true rfl) (Nat.le_of_ble_eq_true rfl)
 refine Ji 22 (I (QS ([h,x1]))) (Jaz G2 (At b4 0) 2 ([h,x1]) hs2) ?_
 refine JS [(5,I (QS ([h,x1]))),(6,Bo (decide (QS ([h,x1])<0))),(7,Bo (decide (QS ([h,x1])<0))),(8,I 0)] ?_
 refine Kv [0,1,2,3] [(6,0),(7,0),(8,0)] [] [(4,Bo (decide (QS ([h,x1])<0))),(5,I 0)] (List.forall_mem_nil _) ?_
 refine Ja (Jk ?_)
 refine Jl [0,0] [Bo (decide (QS ([h,x1])<0)),I 0] (Jv (Jt.le_trans hl1 hl2) ?_)
 have hf_:(Qv h l)=((decide (QS ([h,x1])<0)),0):=by
  unfold Qv;(have hf_:=Wn hx1;subst hf_;simp_all;done)
 · (try rw [hf_]);(simp only [JM];done)
 try simp only [BB] at h1
 refine Jm (Ja (Je ?_))
 refine Jg [0,0] [(1,Sl a_l l.length c_l),(2,Pt b1 0),(6,I (KH ([l]))),(15,Bo (!decide (KH ([l])=0)))] ?_
 refine Jo (!decide (KH ([l])=0)) (fun h3=>?_) (fun h3=>?_)
 try simp only [BB] at h3
 refine Jg [0,0,0] [(4,Bo false),(5,I (KH ([l])))] (Jk (Jh ?_))
 refine Jl [0,0] [Bo false,I (KH ([l]))] (Jv hl1 ?_)
 have hf_:(Qv h l)=(false,(KH ([l]))):=by
  unfold Qv;(simp_all;done)
 · (try rw [hf_]);(simp only [JM];done)
 try simp only [BB] at h3
 refine Jm (Ja (Je ?_))
 obtain ⟨b5,o2,rfl⟩:=RS.addr (h_l.mono hl1) (k:=0) (by omega)
 obtain ⟨x2,hx2⟩:=Q8 (l:=l) (k:=0) (by omega)
 obtain ⟨_,⟨rfl,w9,w10,w11,w12⟩,hc2⟩:=RS.get (h_l.mono hl1) hx2
 refine Kw [4,5] ?_
 refine Wa [(0,.agg #[I h.epoch,U h.root,U h.prev,I h.at_]),(1,Sl (At b5 o2) l.length c_l),(2,Pt b5 (o2+0*4)),(3,.agg #[I x2.epoch,U x2.root,U x2.prev,I x2.at_])] ?_
 refine JZ [] [(0,4),(1,0)] [2,3] [4] (List.forall_mem_cons.2 ⟨?_,(List.forall_mem_cons.2 ⟨?_,List.forall_mem_nil _⟩)⟩) (List.forall_mem_cons.2 ⟨?_,List.forall_mem_nil _⟩)
 refine Jq 2 19 (Pt b5 (o2+0*4)) [(18,Sl (At b5 o2) l.length c_l)] (fun X=>?_)
 exact Kh (b:=b5) (off:=o2) (len:=l.length) (cap:=c_l) (ik:=.i64) 19 50 4 0 (by omega) Jn
 refine Jq 3 20 (.agg #[I x2.epoch,U x2.root,U x2.prev,I x2.at_]) [(19,Pt b5 (o2+0*4))] (fun X=>?_)
 exact J9 20 50 (cs:=[I x2.epoch,U x2.root,U x2.prev,I x2.at_]) 0 (.agg #[I x2.epoch,U x2.root,U x2.prev,I x2.at_]) hc2 Jn
 refine JO 4 [(17,.agg #[I h.epoch,U h.root,U h.prev,I h.at_]),(20,.agg #[I x2.epoch,U x2.root,U x2.prev,I x2.at_])] (fun X=>?_)
 refine KC 21 2 #[I h.epoch,U h.root,U h.prev,I h.at_,I x2.epoch,U x2.root,U x2.prev,I x2.at_] 50 (fun b6=>?_)
 refine JS [(4,Sl (At b6 0) 2 2)] ?_
 refine JZ [0,1,2,3] [] [] [5] (List.forall_mem_nil _) (List.forall_mem_cons.2 ⟨?_,List.forall_mem_nil _⟩)
 refine JO 5 [(21,Sl (At b6 0) 2 2)] (fun X=>?_)
 refine QJ (b:=b6) (o:=0) (cs:=[I h.epoch,U h.root,U h.prev,I h.at_,I x2.epoch,U x2.root,U x2.prev,I x2.at_]) 0 (fun G3 hl3 hz3=>?_)
 have hs3:RS KA G3 (At b6 0) 2 [h,x2]:=RS.lit [[I h.epoch,U h.root,U h.prev,I h.at_],[I x2.epoch,U x2.root,U x2.prev,I x2.at_]] [h,x2] ⟨⟨rfl,w1,w2,w3,w4⟩,⟨⟨rfl,w9,w10,w11,w12⟩,trivial⟩⟩ hz3 (Nat.le_of_ble_eq_true rfl) (Nat.le_of_ble_eq_true rfl)
 refine Ji 22 (I (QS ([h,x2]))) (Jaz G3 (At b6 0) 2 ([h,x2]) hs3) ?_
 refine JS [(5,I (QS ([h,x2]))),(6,Bo (decide (QS ([h,x2])<0))),(7,Bo (decide (QS ([h,x2])<0))),(8,I 0)] ?_
 refine Kv [0,1,2,3] [(6,0),(7,0),(8,0)] [] [(4,Bo (decide (QS ([h,x2])<0))),(5,I 0)] (List.forall_mem_nil _) ?_
 refine Ja (Jk ?_)
 refine Jl [0,0] [Bo (decide (QS ([h,x2])<0)),I 0] (Jv (Jt.le_trans hl1 hl3) ?_)
 have hf_:(Qv h l)=((decide (QS ([h,x2])<0)),0):=by
  unfold Qv;(simp_all;done)
 · (try rw [hf_]);(simp only [JM];done)
end Go.Proofs.YtnnlpbjdignhaaaGreatDoor
