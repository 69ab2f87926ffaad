import Derived.Test.YtnnlpbjdignhaaaGreatDoorTgIns
import Derived.Test.YtnnlpbjdignhaaaGreatDoorTgBit
import Derived.Test.YtnnlpbjdignhaaaGreatDoorTgLeaf
namespace Go.Proofs.YtnnlpbjdignhaaaGreatDoor
open Go.Tx
set_option linter.unusedVariables false
set_option linter.unusedSimpArgs false
theorem Jkd {l xo:List JW} {p:JW→Bool} {i j:Nat} {x:JW} (h1:xo.take i=(l.take j).filter (fun y=>!p y)) (hx:l[j]? = some x) (hp:p x=true):xo.take i=(l.take (j+1)).filter (fun y=>!p y):=by
 rw [List.take_add_one,hx,List.filter_append,← h1];simp [hp]
theorem Jlw {l xo:List JW} {p:JW→Bool} {i j:Nat} {x:JW} (h1:xo.take i=(l.take j).filter (fun y=>!p y)) (hx:l[j]? = some x) (hp:p x=false) (hi:i<xo.length):(xo.set i x).take (i+1)=(l.take (j+1)).filter (fun y=>!p y):=by
 have e:l.take (j+1)=l.take j++[x]:=by rw [List.take_add_one,hx];rfl
 rw [e,List.filter_append,← h1,List.take_add_one,List.getElem?_set_self hi,List.take_set_of_le (Nat.le_refl _)];simp [hp]
theorem Jlx {l xo:List JW} {i j:Nat} {x:JW} (h:xo.drop j=l.drop j) (hij:i<j):(xo.set i x).drop (j+1)=l.drop (j+1):=by
 rw [List.drop_set_of_lt (by omega),← List.drop_drop,h,List.drop_drop]
theorem Jke {l xo:List JW} {j:Nat} (h:xo.drop j=l.drop j):xo.drop (j+1)=l.drop (j+1):=by
 rw [← List.drop_drop,h,List.drop_drop]
theorem Jhe {l xo:List JW} {j:Nat} {x:JW} (h:xo.drop j=l.drop j) (hx:xo[j]? = some x):l[j]? = some x:=by
 have:=congrArg (fun z=>z[0]?) h
 simp only [List.getElem?_drop,Nat.add_zero] at this
 rw [← this];exact hx
theorem Jkf {l:List JW} {p:JW→Bool} {k:Nat} (h:K9 p l=(k:Int)):l.take k=(l.take (k+1)).filter (fun y=>!p y):=by
 unfold K9 at h
 cases hh:l.findIdx? p with
 | none=>rw [hh] at h;simp at h
 | some m =>
  rw [hh] at h
  have:m=k:=by simp at h;omega
  subst this
  rw [List.findIdx?_eq_some_iff_getElem] at hh
  obtain ⟨h1,h2,h3⟩:=hh
  rw [List.take_add_one,List.getElem?_eq_getElem h1,List.filter_append]
  have e1:(l.take m).filter (fun y=>!p y)=l.take m:=by
   rw [List.filter_eq_self]
   intro y hy
   obtain ⟨n,hn⟩:=List.getElem?_of_mem hy
   rw [List.getElem?_take] at hn
   split at hn
   ·
    rename_i hlt
    have:=h3 n hlt
    obtain ⟨hn',e⟩:=List.getElem?_eq_some_iff.1 hn
    rw [e] at this;simpa using this
   ·
    cases hn
  rw [e1];simp [h2]
theorem Jly {l:List JW} {p:JW→Bool} (h:K9 p l=-1):l=l.filter (fun y=>!p y):=by
 unfold K9 at h
 cases hh:l.findIdx? p with
 | some m=>rw [hh] at h;simp at h
 | none =>
  rw [List.findIdx?_eq_none_iff] at hh
  symm
  rw [List.filter_eq_self]
  intro y hy;simpa using hh y hy
theorem JmF (p:JW→Bool) (l:List JW):-1≤K9 p l∧K9 p l≤l.length∧(0≤K9 p l→K9 p l<l.length):=by
 by_cases h:K9 p l<0
 ·
  refine ⟨?_,by omega,by omega⟩
  unfold K9;split <;> omega
 ·
  obtain ⟨k,hk⟩:∃ k:Nat,K9 p l=k:=⟨_,(Int.toNat_of_nonneg (by omega)).symm⟩
  obtain ⟨x,hx,_⟩:=JfW hk
  have:=(List.getElem?_eq_some_iff.1 hx).1
  omega
def JaF (x:JW) (q:List UInt8):Bool:=!decide (q <+: way x.name)
def J0 (l:List JW) (q:List UInt8):List JW:=l.filter fun x=>!JaF x q
theorem Yn (l:List JW) (q:List UInt8):(J0 l q).length≤l.length:=List.length_filter_le ..
def Vg:Int:=Jf (KJ [])
def atG:Nat→List JW→List UInt8→Int
 | 0,l,_=>Jf (KJ l)
 | n+1,l,q=>if l.length=0 then Jf (KJ l) else if atG n (J0 l (q++[48])) (q++[48])=Vg∧atG n (J0 l (q++[49])) (q++[49])=Vg then Vg else Jf (Kx 2 (atG n (J0 l (q++[48])) (q++[48])) (atG n (J0 l (q++[49])) (q++[49])))
def KY (l:List JW) (q:List UInt8):Int:=atG (16-q.length) l q
theorem Ja6 {l:List JW} {q:List UInt8} (h:(l.length:Int)=0∨(q.length:Int)=16):KY l q=Jf (KJ l):=by
 unfold KY
 rcases h with h | h
 ·
  cases hn:16-q.length with
  | zero=>rfl
  | succ n=>rw [atG,if_pos (by omega)]
 ·
  rw [show 16-q.length=0 by omega];rfl
theorem Ja7 {l:List JW} {q:List UInt8} (h1:¬ (l.length:Int)=0) (h2:q.length<16):KY l q=if KY (J0 l (q++[48])) (q++[48])=Vg∧KY (J0 l (q++[49])) (q++[49])=Vg then Vg else Jf (Kx 2 (KY (J0 l (q++[48])) (q++[48])) (KY (J0 l (q++[49])) (q++[49]))):=by
 have e:16-q.length=(16-(q++[48]).length)+1:=by simp;omega
 have e2:16-(q++[49]).length=16-(q++[48]).length:=by simp
 conv=>lhs;unfold KY;rw [e,atG,if_neg (by omega)]
 unfold KY;rw [e2]
theorem Jkg (l:List JW) (q:List UInt8):0≤KY l q∧KY l q<18446744073709551616:=by
 unfold KY
 generalize 16-q.length=n
 cases n with
 | zero=>exact (by have:=Qz (KJ l);unfold atG;omega)
 | succ n =>
  rw [atG]
  have h1:=Qz (KJ l);have h2:=Qz (KJ []);have h3:=fun a b=>Qz (Kx 2 a b)
  split
  ·
   omega
  split
  ·
   unfold Vg;omega
  ·
   have:=h3 (atG n (J0 l (q++[48])) (q++[48])) (atG n (J0 l (q++[49])) (q++[49]));omega
def JP (l:List JW) (q:List UInt8):Int×Int:=if ¬ Kg l=0 then (0,Kg l) else if (q.length:Int) > 16∨¬ Ja4 q=[] then (0,3) else (KY (J0 l q) q,0)
theorem YE (l:List JW) (q:List UInt8):0≤(JP l q).1∧(JP l q).1<18446744073709551616:=by
 unfold JP;split
 ·
  simp
 split
 ·
  simp
 ·
  exact Jkg _ _
set_option maxRecDepth 4000 in
theorem Jig (G:Jt) (a:Option Addr) (c:Nat) (l:List JW) (r:List Ks) (hr:J9 Qr G a c l r) (hsm:l.length≤1000) (k_f:FuncId) (caps_f:Array Value) (p_f:JW→Bool) (hk_f:VV Tryz.prog k_f) (h_f:∀ (vs0:List Value) (x0:JW) (hx0:Qr.R G vs0 x0),QI Tryz.prog k_f (#[.agg vs0.toArray]++caps_f) G [] (fun u _ _=>u=Bo (p_f x0))):JaY Tryz.prog 174 #[Sl a l.length c,.func (.func k_f) #[] caps_f] G [r] (fun u G' L'=>∃ a' c' r',u=Sl a' (l.filter fun y=>!p_f y).length c'∧J9 Qr G' a' c' (l.filter fun y=>!p_f y) r'∧L'=[r']):=by
 intro Lr
 have hlc:=J9.lec hr
 have hcm:=J9.mx hr
 refine JK Tryz.func174 42 [(0,Sl a l.length c),(1,.func (.func k_f) #[] caps_f)] rfl (fun w0 G0=>?_)
 show TC _ _ _ _ _ (r::Lr)
 refine Jg [0] [(0,Sl a l.length c),(1,.func (.func k_f) #[] caps_f)] (Je (Jb (Jd [0,0] [(0,Sl a l.length c),(1,.func (.func k_f) #[] caps_f),(8,Sl a l.length c),(9,.func (.func k_f) #[] caps_f)] (Jg9 (E:=Qr) 10 0 hr (by simp only [Qr];omega) (I (K9 p_f l)) (fun G9 hle9 hs9=>Jd2 G9 a c l hs9 k_f caps_f p_f hk_f (fun vs0 x0 hx0=>QI.up hle9 (h_f vs0 x0 hx0))) (Jd [0] [(0,Sl a l.length c),(1,.func (.func k_f) #[] caps_f),(5,I (K9 p_f l))] (Jc (Ja (Je (Jg [0,0] [(0,Sl a l.length c),(1,.func (.func k_f) #[] caps_f),(5,I (K9 p_f l)),(12,Bo (decide (K9 p_f l=(-1))))] (Jo (decide (K9 p_f l=(-1))) (fun h1=>?_) (fun h1=>?_)))))))))))
 try simp only [BB] at h1
 refine Jg [0,0] [(4,Sl a l.length c)] (Jk (Jh ?_))
 have e_:l=(l.filter fun y=>!p_f y):=Jly (by omega)
 have en_:l.length=(l.filter fun y=>!p_f y).length:=congrArg List.length e_
 exact Jl [0] [Sl a l.length c] (Q3 (Lr:=Lr) [r] (.cons_cons _ (List.Sublist.refl _)) (Jt.le_refl _) (⟨_,_,_,congrArg (fun n=>Sl a n c) en_,(e_ ▸ hr),rfl⟩))
 try simp only [BB] at h1
 refine Jn (Ja (Je ?_))
 have hib_:=JmF p_f l
 obtain ⟨kn1,hkn1⟩:∃ k_:Nat,K9 p_f l=(k_:Int):=⟨(K9 p_f l).toNat,by omega⟩
 have e1:K9 p_f l=(kn1:Int):=hkn1
 refine KP (fr':=[(0,Sl a l.length c),(1,.func (.func k_f) #[] caps_f),(5,I (kn1:Int)),(12,Bo (decide (K9 p_f l=(-1))))]) (L':=(r::Lr)) (by (simp only [e1];done)) (by rfl) ?_
 have hfi_:=Jkf hkn1
 refine Jg [0,0,0] [(0,Sl a l.length c),(1,.func (.func k_f) #[] caps_f),(5,I (kn1:Int)),(6,I (IntKind.i64.wrap ((kn1:Int)+1)))] ?_
 have e2:IntKind.i64.wrap ((kn1:Int)+1)=(kn1:Int)+1:=IntWalk.i64_in _ (by omega)
 refine KP (fr':=[(0,Sl a l.length c),(1,.func (.func k_f) #[] caps_f),(5,I (kn1:Int)),(6,I ((kn1:Int)+1))]) (L':=(r::Lr)) (by simp only [e2]) (by rfl) ?_
 clear e2
 refine Jz ?_
 refine Qe (σ:=Nat×Nat×Option Addr×Nat×List Ks×List JW) (fun q_=>(q_.1<q_.2.1∧q_.2.1≤l.length)∧(J9 Qr G q_.2.2.1 q_.2.2.2.1 q_.2.2.2.2.2 q_.2.2.2.2.1)∧(q_.2.2.2.2.2.length=l.length∧q_.2.2.2.2.2.drop q_.2.1=l.drop q_.2.1∧q_.2.2.2.2.2.take q_.1=(l.take q_.2.1).filter (fun y=>!p_f y))) (fun q_=>[(0,Sl q_.2.2.1 q_.2.2.2.2.2.length q_.2.2.2.1),(1,.func (.func k_f) #[] caps_f),(5,I (q_.1:Int)),(6,I (q_.2.1:Int))]) (fun q_=>G) (fun q_=>(q_.2.2.2.2.1::Lr)) (fun q_=>l.length-q_.2.1) (kn1,(kn1+1),a,c,r,l) ⟨(by (try dsimp only);omega),hr,⟨rfl,rfl,hfi_⟩⟩ (fun q_ hs=>?_)
 obtain ⟨i,j,ao,co,ro,xo⟩:=q_
 obtain ⟨hj,hro,hxo⟩:=hs
 dsimp only at hj hro hxo
 refine KP (fr':=[(0,Sl ao xo.length co),(1,.func (.func k_f) #[] caps_f),(5,I (i:Int)),(6,I (j:Int))]) (L':=(ro::Lr)) rfl rfl (Je (Jg [0,0,0,0] [(0,Sl ao xo.length co),(1,.func (.func k_f) #[] caps_f),(5,I (i:Int)),(6,I (j:Int)),(19,Bo (decide ((j:Int)<(xo.length:Int))))] (Jo (decide ((j:Int)<(xo.length:Int))) (fun h2=>?_) (fun h2=>?_))))
 try simp only [BB] at h2
 refine Jn (Ja (Je (Jz (Je (Jb (Jd [0,0] [(0,Sl ao xo.length co),(1,.func (.func k_f) #[] caps_f),(5,I (i:Int)),(6,I (j:Int)),(22,Sl ao xo.length co),(23,I (j:Int))] ?_))))))
 obtain ⟨x1,hx1⟩:=Wj (l:=xo) (k:=j) (by omega)
 obtain ⟨b1,o1,_,_,⟨rfl,w1,w2⟩,ha1,hre1,hc1⟩:=J9.ix hro hx1
 refine QA (b:=b1) (off:=o1) (len:=xo.length) (cap:=co) (ik:=.i64) 24 94 2 j ha1 (by omega) (WV (off:=o1) (p:=j*2) (cs:=[Sr x1.name,Sr x1.value]) 25 94 0 0 (.agg #[Sr x1.name,Sr x1.value]) hre1 hc1 (Ju 7 #[Sr ([]),Sr ([])] 94 (fun b2=>Kd [3] [(0,Sl ao xo.length co),(1,.func (.func k_f) #[] caps_f),(5,I (i:Int)),(6,I (j:Int)),(7,Pt b2 0)] ([Sg b2 0 [Sr x1.name,Sr x1.value]]::ro::Lr) (Jc (Ja (Je (Jb (Jd [0,2] [(0,Sl ao xo.length co),(1,.func (.func k_f) #[] caps_f),(5,I (i:Int)),(6,I (j:Int)),(7,Pt b2 0),(26,.func (.func k_f) #[] caps_f),(27,.agg #[Sr x1.name,Sr x1.value])] (W4 (k:=k_f) (caps:=caps_f) (args:=#[.agg #[Sr x1.name,Sr x1.value]]) 28 (Bo (p_f x1)) hk_f (h_f [Sr x1.name,Sr x1.value] x1 (⟨rfl,w1,w2⟩)) (Jd [0] [(0,Sl ao xo.length co),(1,.func (.func k_f) #[] caps_f),(5,I (i:Int)),(6,I (j:Int)),(7,Pt b2 0),(29,Bo (!(p_f x1)))] (Jc (Ja (Jo (!(p_f x1)) (fun h3=>?_) (fun h3=>?_))))))))))))))
 try simp only [BB] at h3
 refine Je (Jb (Jd [0,0,2] [(0,Sl ao xo.length co),(1,.func (.func k_f) #[] caps_f),(5,I (i:Int)),(6,I (j:Int)),(30,Sl ao xo.length co),(31,I (i:Int)),(32,.agg #[Sr x1.name,Sr x1.value])] ?_))
 obtain ⟨_,hx2⟩:=Wj (l:=xo) (k:=i) (by omega)
 obtain ⟨b3,o2,_,_,⟨rfl,_,_⟩,ha2,_,hc2⟩:=J9.ix hro hx2
 refine QA (b:=b3) (off:=o2) (len:=xo.length) (cap:=co) (ik:=.i64) 33 94 2 i ha2 (by omega) (Jd [] [(0,Sl ao xo.length co),(1,.func (.func k_f) #[] caps_f),(5,I (i:Int)),(6,I (j:Int)),(30,Sl ao xo.length co),(31,I (i:Int)),(32,.agg #[Sr x1.name,Sr x1.value]),(33,Pt b3 (o2+i*2))] (Yx (b:=b3) (off:=o2) 1 hro i x1 ha2 (by omega) (.agg #[Sr x1.name,Sr x1.value]) [Sr x1.name,Sr x1.value] ⟨rfl,w1,w2⟩ (fun r1 hr1=>?_)))
 have e3:xo.length=(xo.set i x1).length:=(List.length_set ..).symm
 refine J4 (fr':=[(0,Sl ao ((xo.set i x1).length) co),(1,.func (.func k_f) #[] caps_f),(5,I (i:Int)),(6,I (j:Int)),(30,Sl ao ((xo.set i x1).length) co),(31,I (i:Int)),(32,.agg #[Sr x1.name,Sr x1.value]),(33,Pt b3 (o2+i*2))]) (L':=([Sg b2 0 [Sr x1.name,Sr x1.value]]::r1::Lr)) (by simp only [e3]) (by rfl) (Jc (Ja (Jb (Jd [0,0,0] [(0,Sl ao ((xo.set i x1).length) co),(1,.func (.func k_f) #[] caps_f),(5,I (IntKind.i64.wrap ((i:Int)+1))),(6,I (j:Int))] ?_))))
 have e4:IntKind.i64.wrap ((i:Int)+1)=(i:Int)+1:=IntWalk.i64_in _ (by omega)
 refine J4 (fr':=[(0,Sl ao ((xo.set i x1).length) co),(1,.func (.func k_f) #[] caps_f),(5,I ((i:Int)+1)),(6,I (j:Int))]) (L':=([Sg b2 0 [Sr x1.name,Sr x1.value]]::r1::Lr)) (by simp only [e4]) (by rfl) ?_
 clear e4
 refine Jc (JN (Ja (Jb (Jd [0,0,0] [(0,Sl ao ((xo.set i x1).length) co),(1,.func (.func k_f) #[] caps_f),(5,I ((i:Int)+1)),(6,I (IntKind.i64.wrap ((j:Int)+1)))] ?_))))
 have e5:IntKind.i64.wrap ((j:Int)+1)=(j:Int)+1:=IntWalk.i64_in _ (by omega)
 refine J4 (fr':=[(0,Sl ao ((xo.set i x1).length) co),(1,.func (.func k_f) #[] caps_f),(5,I ((i:Int)+1)),(6,I ((j:Int)+1))]) (L':=([Sg b2 0 [Sr x1.name,Sr x1.value]]::r1::Lr)) (by simp only [e5]) (by rfl) ?_
 clear e5
 exact Jc (Q4 (r1::Lr) (.cons _ (.cons_cons _ (List.Sublist.refl _))) (Qh (i+1,j+1,ao,co,r1,xo.set i x1) ⟨(by (try dsimp only);omega),hr1,(by (try dsimp only);exact ⟨by rw [List.length_set];exact hxo.1,Jlx hxo.2.1 hj.1,Jlw hxo.2.2 (Jhe hxo.2.1 hx1) ‹_› (by omega)⟩)⟩ (by (try dsimp only);omega)))
 try simp only [BB] at h3
 refine Jn (JN (Ja (Jb (Jd [0,0,0] [(0,Sl ao xo.length co),(1,.func (.func k_f) #[] caps_f),(5,I (i:Int)),(6,I (IntKind.i64.wrap ((j:Int)+1)))] ?_))))
 have e6:IntKind.i64.wrap ((j:Int)+1)=(j:Int)+1:=IntWalk.i64_in _ (by omega)
 refine J4 (fr':=[(0,Sl ao xo.length co),(1,.func (.func k_f) #[] caps_f),(5,I (i:Int)),(6,I ((j:Int)+1))]) (L':=([Sg b2 0 [Sr x1.name,Sr x1.value]]::ro::Lr)) (by simp only [e6]) (by rfl) ?_
 clear e6
 exact Jc (Q4 (ro::Lr) (.cons _ (.cons_cons _ (List.Sublist.refl _))) (Qh (i,j+1,ao,co,ro,xo) ⟨(by (try dsimp only);omega),hro,(by (try dsimp only);exact ⟨hxo.1,Jke hxo.2.1,Jkd hxo.2.2 (Jhe hxo.2.1 hx1) ‹_›⟩)⟩ (by (try dsimp only);omega)))
 try simp only [BB] at h2
 refine K2 (J3 (Kf (JV (Ja ?_))))
 obtain ⟨b,off,css,spare,rfl,rfl,hc1,hc2,_,hsp,hle9,hmax,hone⟩:=J9.opened hro (by omega)
 refine Je (Jb (Jd [0,0] [(0,Sl (At b off) xo.length co),(5,I (i:Int)),(36,Sl (At b off) xo.length co),(37,I (i:Int))] (W5 (a:=At b off) (a':=At b (off+(xo.take i).length*2)) (len:=xo.length) (cap:=co) (c':=co-(xo.take i).length) (n:=xo.length-(xo.take i).length) 38 2 (some (I (i:Int))) none i xo.length (.inr ⟨_,rfl⟩) (.inl ⟨rfl,rfl⟩) (by omega) (by rw [if_neg (by omega),List.length_take,Nat.min_eq_left (by omega)];simp [Wr]) (by rw [List.length_take,Nat.min_eq_left (by omega)]) (by rw [List.length_take,Nat.min_eq_left (by omega)]) (by omega) (Jln (b:=b) (off:=off) (m:=xo.length-(xo.take i).length) (c':=co-(xo.take i).length) 0 (J9.tk hro i (by omega)) rfl (by rw [List.length_take];omega) (by rw [List.length_take];omega) (fun r8 hr8=>Jc (Ja (Je (Jb (Jd [0,0] [(39,Sl (At b off) xo.length co),(40,I (i:Int))] (W5 (a:=At b off) (a':=At b off) (len:=xo.length) (cap:=co) (c':=co) (n:=(xo.take i).length) 41 2 none (some (I (i:Int))) 0 i (.inl ⟨rfl,rfl⟩) (.inr ⟨_,rfl⟩) (Nat.zero_le _) (by split <;> simp [Wr]) (Nat.sub_zero _).symm (by rw [List.length_take];omega) (by omega) (Jd [0] [(4,Sl (At b off) ((xo.take i).length) co)] (Jc (Ja (Jk ?_))))))))))))))
 have e_:xo.take i=(l.filter fun y=>!p_f y):=by have q_:=hxo.2.2;rwa [List.take_of_length_le (by omega:l.length≤j)] at q_
 have en_:(xo.take i).length=(l.filter fun y=>!p_f y).length:=congrArg List.length e_
 exact Jl [0] [Sl (At b off) ((xo.take i).length) co] (Q3 (Lr:=Lr) [r8] (.cons_cons _ (List.Sublist.refl _)) (Jt.le_refl _) (⟨_,_,_,congrArg (fun n=>Sl (At b off) n co) en_,(e_ ▸ hr8),rfl⟩))
theorem Jih (G:Jt) (vs_x:List Value) (x:JW) (h_x:Qr.R G vs_x x) (vs_q:List Value) (q:(List UInt8)) (h_q:ES.R G vs_q q) (b_q:Nat) (hz_q:∀ j v,(vs_q:List Value)[j]? = some v→G b_q (0+j)=some v) :QI Tryz.prog 175 #[.agg vs_x.toArray,Pt b_q 0] G [] (fun u G' L'=>u=Bo (JaF x q)):=by
 obtain ⟨rfl,w1,_⟩:=h_x
 obtain ⟨rfl,_⟩:=h_q
 refine JK Tryz.func175 10 [(0,.agg #[Sr x.name,Sr x.value]),(1,Pt b_q 0)] rfl (fun w0 G0=>?_)
 refine Je (Jb (Ju 2 #[Sr x.name,Sr x.value] 94 (fun b1=>Jd [0] [(1,Pt b_q 0),(2,Pt b1 0)] (Jc (Ja (Je (KA [] (Ws [(0,Pt b1 0),(1,Sr x.name),(2,Sr (way x.name)),(3,Sr q),(4,Bo (decide (q <+: way x.name))),(5,Bo (!(decide (q <+: way x.name)))),(6,Bo (!(decide (q <+: way x.name))))] (Kz [] [(0,0),(1,2),(5,0),(6,0)] [2,3,4] [(3,Bo (!(decide (q <+: way x.name))))] (List.forall_mem_cons.2 ⟨?_,(List.forall_mem_cons.2 ⟨?_,(List.forall_mem_cons.2 ⟨?_,List.forall_mem_nil _⟩)⟩)⟩) ?_)))))))))
 refine Jr 2 6 (Sr (way x.name)) [(5,Sr x.name)] (fun X=>?_)
 exact Ji 6 (Sr (way x.name)) (Jb5 G x.name w1) Jp
 refine Jr 3 7 (Sr q) [(1,Pt b_q 0)] (fun X=>?_)
 exact Ka (o':=0) 7 9 (cs:=[Sr q]) 0 (Sr q) hz_q Jp
 refine Jr 4 8 (Bo (decide (q <+: way x.name))) [(6,Sr (way x.name)),(7,Sr q)] (fun X=>?_)
 exact Ji 8 (Bo (decide (q <+: way x.name))) (JeF G (way x.name) q) Jp
 refine Ja (Jk (Jl [0] [Bo (!(decide (q <+: way x.name)))] (Jv (Jt.le_refl _) ?_)))
 have hf_:(JaF x q)=(!(decide (q <+: way x.name))):=by
  rfl
 · (try rw [hf_]);(simp only [JM];done)
theorem Jac (G:Jt) (a_l:Option Addr) (c_l:Nat) (l:List JW) (h_l:RS Qr G a_l c_l l) (q:List UInt8) (hw_q:(q).length≤140737488351232) (h24:l.length≤24):QI Tryz.prog 139 #[Sl a_l l.length c_l,Sr q] G [] (fun u G' L'=>∃ (a1:Option Addr) (c2:Nat) (r3:List Ks),u=Sl a1 ((J0 l q).length) c2∧(J9 Qr G' a1 c2 (J0 l q) r3)∧L'=[r3]):=by
 refine JK Tryz.func139 9 [(0,Sl a_l l.length c_l),(1,Sr q)] rfl (fun w0 G0=>?_)
 refine Je (Jb (Ju 3 #[Sr q] 9 (fun b1=>Jd [0] [(0,Sl a_l l.length c_l),(3,Pt b1 0)] (Jc (Ja (Je (Jb (Jd [0] [(3,Pt b1 0),(5,Sl a_l l.length c_l)] (JQ 6 (Z7 G a_l c_l l h_l) (fun v G1 L1 hl1 hp=>?_))))))))))
 obtain ⟨a1,c1,r1,rfl,hr1,rfl⟩:=hp
 refine Jd [0] [(6,Sl a1 l.length c1),(7,.func (.func 175) #[] #[Pt b1 0])] (QS (b:=b1) (o:=0) (cs:=[Sr q]) 1 (fun G2 hl2 hz1=>JG 0 (Qs (Ls:=[r1]) (Lr:=[[]]) 8 (Jig G2 a1 c1 l r1 (hr1.mono hl2) (by omega) 175 #[Pt b1 0] (fun x0=>JaF x0 q) (fun _ _=>by kernel_rfl) (fun vs0 x0 hx0=>by obtain ⟨rfl,w1,w2⟩:=hx0;exact Jih G2 [Sr x0.name,Sr x0.value] x0 (⟨rfl,w1,w2⟩) [Sr q] q (⟨rfl,hw_q⟩) b1 hz1)) (fun v G3 L1 hl3 hp=>?_))))
 obtain ⟨a2,c2,r2,rfl,hr2,rfl⟩:=hp
 refine Jd [0] [(4,Sl a2 ((l.filter fun y=>!((fun x0=>JaF x0 q) y)).length) c2)] (Jc (Ja (Jk (Jj 0 ?_))))
 have hf1:J0 l q=l.filter fun y=>!((fun x0=>JaF x0 q) y):=by
  rfl
 refine Jl [0] [Sl a2 ((l.filter fun y=>!((fun x0=>JaF x0 q) y)).length) c2] (JY [r2] (.cons_cons _ (.cons _ .slnil)) (Jt.le_trans (Jt.le_trans hl1 hl2) hl3) ?_)
 rw [hf1]
 try dsimp only
 exact ⟨a2,c2,r2,rfl,hr2,rfl⟩
theorem Jec (N:Nat):∀ (G:Jt) (a_l:Option Addr) (c_l:Nat) (l:List JW) (h_l:RS Qr G a_l c_l l) (q:List UInt8) (hw_q:(q).length≤140737488351232) (h24:l.length≤24) (hq:q.length≤16),16-q.length<N→QI Tryz.prog 138 #[Sl a_l l.length c_l,Sr q] G [] (fun u G' L'=>u=U (KY l q)):=by
 induction N with
 | zero=>intros;omega
 | succ N ih =>
  intro G a_l c_l l h_l q hw_q h24 hq hN
  refine JK Tryz.func138 50 [(0,Sl a_l l.length c_l),(1,Sr q)] rfl (fun w0 G0=>?_)
  refine Jg [0] [(0,Sl a_l l.length c_l),(1,Sr q)] (Je (Jz (Je (Jb (Jd [0,0,0,0] [(0,Sl a_l l.length c_l),(1,Sr q),(14,Bo (decide ((l.length:Int)=0)))] (KD (decide ((l.length:Int)=0)) (fun bb=>[(0,Sl a_l l.length c_l),(1,Sr q),(14,Bo bb)]) [1,1,1,0] [0,0,0,0] (fun bb=>[(0,Sl a_l l.length c_l),(1,Sr q),(18,Bo (bb || (decide (((q).length:Int)=16))))]) (Jd [0] [(0,Sl a_l l.length c_l),(1,Sr q),(10,Bo ((decide ((l.length:Int)=0)) || (decide (((q).length:Int)=16))))] (Jc (Ja (Jo ((decide ((l.length:Int)=0)) || (decide (((q).length:Int)=16))) (fun h1=>?_) (fun h1=>?_)))))))))))
  ·
   try simp only [BB] at h1
   refine Je (Jb (Jd [0] [(19,Sl a_l l.length c_l)] (Ji 20 (Sr (KJ l)) (Vs G a_l c_l l h_l ‹_›) (Ji 21 (U (Jf (KJ l))) (Zx (KJ l) (JbM (Nat.le_trans (JaD ‹_›) (by decide))) G) (Jd [0] [(4,U (Jf (KJ l)))] (Jc (Ja (Jk (Js (Jh (Jl [0] [U (Jf (KJ l))] (Jv (Jt.le_refl _) ?_))))))))))))
   have hf_:(KY l q)=(Jf (KJ l)):=by
    (rw [Ja6 (by omega)];done)
   (try rw [hf_]);(simp only [JM];done)
  ·
   try simp only [BB] at h1
   refine Jn (JN (Ja (Je (Jb (Jd [0] [(0,Sl a_l l.length c_l),(1,Sr q),(22,Sr q)] (ZE 23 q ([48]) (by (simp only [List.length_append,List.length_cons,List.length_nil];omega)) (Jd [0] [(0,Sl a_l l.length c_l),(23,Sr (q++([48]))),(24,Sr q)] (ZE 25 q ([49]) (by (simp only [List.length_append,List.length_cons,List.length_nil];omega)) (Jd [0,0] [(0,Sl a_l l.length c_l),(5,Sr (q++([48]))),(6,Sr (q++([49])))] (Jc (Ja (Je (Jb (Jd [0,0] [(0,Sl a_l l.length c_l),(5,Sr (q++([48]))),(6,Sr (q++([49]))),(26,Sl a_l l.length c_l),(27,Sr (q++([48])))] (JQ 28 (Jac G a_l c_l l h_l (q++([48])) (by (simp;omega)) ‹_›) (fun v G1 L1 hl1 hp=>?_))))))))))))))))
   obtain ⟨a1,c1,_,rfl,hr1,rfl⟩:=hp
   refine Jd [0] [(0,Sl a_l l.length c_l),(6,Sr (q++([49]))),(28,Sl a1 ((J0 l (q++([48]))).length) c1),(29,Sr (q++([48])))] (YI (E:=Qr) 0 hr1 (by have q_:=Yn l (q++([48]));(simp only [Qr];omega)) (fun G2 hl2 hs1=>Ji 30 (U (KY (J0 l (q++([48]))) (q++([48])))) (ih G2 a1 c1 (J0 l (q++([48]))) hs1 (q++([48])) (by (simp;omega)) (by (have q_:=Yn l (q++[48]);omega)) (by (simp;omega)) (by simp only [List.length_append,List.length_cons,List.length_nil] at *;omega)) (Jd [0,0] [(6,Sr (q++([49]))),(30,U (KY (J0 l (q++([48]))) (q++([48])))),(31,Sl a_l l.length c_l),(32,Sr (q++([49])))] (JQ 33 (Jac G2 a_l c_l l (h_l.mono (Jt.le_trans hl1 hl2)) (q++([49])) (by (simp;omega)) ‹_›) (fun v G3 L1 hl3 hp=>?_)))))
   obtain ⟨a2,c2,_,rfl,hr2,rfl⟩:=hp
   refine Jd [0] [(30,U (KY (J0 l (q++([48]))) (q++([48])))),(33,Sl a2 ((J0 l (q++([49]))).length) c2),(34,Sr (q++([49])))] (YI (E:=Qr) 0 hr2 (by have q_:=Yn l (q++([49]));(simp only [Qr];omega)) (fun G4 hl4 hs2=>Ji 35 (U (KY (J0 l (q++([49]))) (q++([49])))) (ih G4 a2 c2 (J0 l (q++([49]))) hs2 (q++([49])) (by (simp;omega)) (by (have q_:=Yn l (q++[49]);omega)) (by (simp;omega)) (by simp only [List.length_append,List.length_cons,List.length_nil] at *;omega)) (Jd [0,0] [(7,U (KY (J0 l (q++([48]))) (q++([48])))),(8,U (KY (J0 l (q++([49]))) (q++([49]))))] (Jc (Ja (Je (Je (Jb (Ji 36 (Sr (KJ ([]))) (Vs G4 none 0 ([]) (RS.nil' Qr G4) (by (simp;done))) (Ji 37 (U (Jf (KJ ([])))) (Zx (KJ ([])) (JbM (Nat.le_trans (JaD (by simp)) (by decide))) G4) (Jd [0] [(7,U (KY (J0 l (q++([48]))) (q++([48])))),(8,U (KY (J0 l (q++([49]))) (q++([49])))),(9,U (Jf (KJ ([]))))] (Jc (Ja (Je (Jb (Jd [0,0,0,0] [(7,U (KY (J0 l (q++([48]))) (q++([48])))),(8,U (KY (J0 l (q++([49]))) (q++([49])))),(9,U (Jf (KJ ([])))),(41,Bo (decide (KY (J0 l (q++([48]))) (q++([48]))=Jf (KJ ([])))))] (KD (decide (KY (J0 l (q++([48]))) (q++([48]))=Jf (KJ ([])))) (fun bb=>[(7,U (KY (J0 l (q++([48]))) (q++([48])))),(8,U (KY (J0 l (q++([49]))) (q++([49])))),(9,U (Jf (KJ ([])))),(41,Bo bb)]) [0,0,0,0] [1,1,1,0] (fun bb=>[(7,U (KY (J0 l (q++([48]))) (q++([48])))),(8,U (KY (J0 l (q++([49]))) (q++([49])))),(9,U (Jf (KJ ([])))),(45,Bo (bb && (decide (KY (J0 l (q++([49]))) (q++([49]))=Jf (KJ ([]))))))]) (Jc (Ja (Jo ((decide (KY (J0 l (q++([48]))) (q++([48]))=Jf (KJ ([])))) && (decide (KY (J0 l (q++([49]))) (q++([49]))=Jf (KJ ([]))))) (fun h2=>?_) (fun h2=>?_)))))))))))))))))))))
   ·
    try simp only [BB] at h2
    refine Jg [0,0] [(4,U (Jf (KJ ([]))))] (Jk (Jh (Jl [0] [U (Jf (KJ ([])))] (Jv (Jt.le_trans (Jt.le_trans (Jt.le_trans hl1 hl2) hl3) hl4) ?_))))
    have hf_:(KY l q)=(Jf (KJ ([]))):=by
     (rw [Ja7 (by omega) (by omega)];unfold Vg;(rw [if_pos ‹_›];done))
    (try rw [hf_]);(simp only [JM];done)
   ·
    try simp only [BB] at h2
    refine Jn (Ja (Je (Jb (Jd [0,0] [(47,U (KY (J0 l (q++([48]))) (q++([48])))),(48,U (KY (J0 l (q++([49]))) (q++([49]))))] (Ji 49 (U (Jf (Kx 2 (KY (J0 l (q++([48]))) (q++([48]))) (KY (J0 l (q++([49]))) (q++([49])))))) (JgQ 2 (KY (J0 l (q++([48]))) (q++([48]))) (KY (J0 l (q++([49]))) (q++([49]))) G4) (Jd [0] [(4,U (Jf (Kx 2 (KY (J0 l (q++([48]))) (q++([48]))) (KY (J0 l (q++([49]))) (q++([49]))))))] (Jc (Ja (Jk (Jl [0] [U (Jf (Kx 2 (KY (J0 l (q++([48]))) (q++([48]))) (KY (J0 l (q++([49]))) (q++([49])))))] (Jv (Jt.le_trans (Jt.le_trans (Jt.le_trans hl1 hl2) hl3) hl4) ?_)))))))))))
    have hf_:(KY l q)=(Jf (Kx 2 (KY (J0 l (q++([48]))) (q++([48]))) (KY (J0 l (q++([49]))) (q++([49]))))):=by
     (rw [Ja7 (by omega) (by omega)];unfold Vg;(rw [if_neg (by intro hc_;have q_:=h2 hc_.1;exact q_ hc_.2)];done))
    (try rw [hf_]);(simp only [JM];done)
theorem Jii (G:Jt) (a_l:Option Addr) (c_l:Nat) (l:List JW) (h_l:RS Qr G a_l c_l l) (q:List UInt8) (hw_q:(q).length≤140737488351232) (h24:l.length≤24) (hq:q.length≤16):QI Tryz.prog 138 #[Sl a_l l.length c_l,Sr q] G [] (fun u G' L'=>u=U (KY l q)):=Jec (16-q.length+1) G a_l c_l l h_l q hw_q h24 hq (Nat.lt_succ_self _)
theorem Jdb (G:Jt) (a_l:Option Addr) (c_l:Nat) (l:List JW) (h_l:RS Qr G a_l c_l l) (q:List UInt8) (hw_q:(q).length≤140737488351232) :QI Tryz.prog 101 #[Sl a_l l.length c_l,Sr q] G [] (fun u G' L'=>u=.tuple #[U ((JP l q).1),I ((JP l q).2)]):=by
 refine JK Tryz.func101 25 [(0,Sl a_l l.length c_l),(1,Sr q)] rfl (fun w0 G0=>?_)
 refine Jg [0,0] [(0,Sl a_l l.length c_l),(1,Sr q)] (Je (Je (Jb (Jd [0] [(0,Sl a_l l.length c_l),(1,Sr q),(7,Sl a_l l.length c_l)] (Ji 8 (I (Kg l)) (Yw G a_l c_l l h_l) (Jd [0] [(0,Sl a_l l.length c_l),(1,Sr q),(6,I (Kg l))] (Jc (Ja (Jg [0,0] [(0,Sl a_l l.length c_l),(1,Sr q),(6,I (Kg l)),(10,Bo (!decide (Kg l=0)))] (Jo (!decide (Kg l=0)) (fun h1=>?_) (fun h1=>?_)))))))))))
 try simp only [BB] at h1
 refine Jg [0,0,0] [(4,U 0),(5,I (Kg l))] (Jk (Jh (Jl [0,0] [U 0,I (Kg l)] (Jv (Jt.le_refl _) ?_))))
 have hf_:(JP l q)=(0,(Kg l)):=by
  unfold JP;(rw [if_pos ‹_›];done)
 · (try rw [hf_]);(simp only [JM];done)
 try simp only [BB] at h1
 refine Jn (Ja (Je (Je (Jb (Jd [0,0,0,0] [(0,Sl a_l l.length c_l),(1,Sr q),(15,Bo (decide (((q).length:Int) > 16)))] (We (fun bb=>[(0,Sl a_l l.length c_l),(1,Sr q),(15,Bo bb)]) (decide (((q).length:Int) > 16)) (fun h2=>?_) (fun h2=>?_)))))))
 try simp only [BB] at h2
 refine Jd [1,1,1,0] [(0,Sl a_l l.length c_l),(1,Sr q),(19,Bo true)] (Jc (Ja (JZ (Jg [0,0] [(4,U 0),(5,I 3)] (Jk (Jh (Jl [0,0] [U 0,I 3] (Jv (Jt.le_refl _) ?_))))))))
 have hf_:(JP l q)=(0,3):=by
  unfold JP;(rw [if_neg (by omega)];(rw [if_pos (by simp_all)];done))
 · (try rw [hf_]);(simp only [JM];done)
 try simp only [BB] at h2
 refine Jd [0] [(0,Sl a_l l.length c_l),(1,Sr q),(15,Bo false),(16,Sr q)] (Ji 17 (Sr (Ja4 q)) (Jkb G q hw_q) (Jd [0,0] [(0,Sl a_l l.length c_l),(1,Sr q),(19,Bo (!((B (Ja4 q)).toList == (B ([])).toList)))] (J4 (fr':=[(0,Sl a_l l.length c_l),(1,Sr q),(19,Bo (!(Ja4 q == [])))]) (L':=[]) (by simp only [Zc]) (by rfl) (Jc (Ja (Jo (!(Ja4 q == [])) (fun h3=>?_) (fun h3=>?_)))))))
 try simp only [BB] at h3
 refine Jg [0,0] [(4,U 0),(5,I 3)] (Jk (Jh (Jl [0,0] [U 0,I 3] (Jv (Jt.le_refl _) ?_))))
 have hf_:(JP l q)=(0,3):=by
  unfold JP;(rw [if_neg (by omega)];(rw [if_pos (by simp_all)];done))
 · (try rw [hf_]);(simp only [JM];done)
 try simp only [BB] at h3
 refine Jn (Ja (Je (Jb (Jd [0,0] [(1,Sr q),(20,Sl a_l l.length c_l),(21,Sr q)] (JQ 22 (Jac G a_l c_l l h_l q ‹_› (by exact (KI.1 ‹_›).len)) (fun v G1 L1 hl1 hp=>?_))))))
 obtain ⟨a1,c1,_,rfl,hr1,rfl⟩:=hp
 refine Jd [0] [(22,Sl a1 ((J0 l q).length) c1),(23,Sr q)] (YI (E:=Qr) 0 hr1 (by have q_:=Yn l q;(have q1_:=(KI.1 ‹_›).len;simp only [Qr];omega)) (fun G2 hl2 hs1=>Ji 24 (U (KY (J0 l q) q)) (Jii G2 a1 c1 (J0 l q) hs1 q ‹_› (by (have q_:=(KI.1 ‹_›).len;have q1_:=Yn l q;omega)) (by omega)) (Jd [0,0] [(4,U (KY (J0 l q) q)),(5,I 0)] (Jc (Ja (Jk (Jl [0,0] [U (KY (J0 l q) q),I 0] (Jv (Jt.le_trans hl1 hl2) ?_))))))))
 have hf_:(JP l q)=((KY (J0 l q) q),0):=by
  unfold JP;(rw [if_neg (by omega)];(rw [if_neg (by simp_all)];done))
 · (try rw [hf_]);(simp only [JM];done)
theorem JaG (G:Jt) (a_l:Option Addr) (c_l:Nat) (l:List JW) (h_l:RS Qr G a_l c_l l) :QI Tryz.prog 62 #[Sl a_l l.length c_l] G [] (fun u G' L'=>u=.tuple #[U ((JP l []).1),I ((JP l []).2)]):=by
 refine JK Tryz.func62 8 [(0,Sl a_l l.length c_l)] rfl (fun w0 G0=>?_)
 refine Jg [0,0] [(0,Sl a_l l.length c_l)] (Je (Jb (Jd [0] [(4,Sl a_l l.length c_l)] (Ji 5 (.tuple #[U ((JP l ([])).1),I ((JP l ([])).2)]) (Jdb G a_l c_l l h_l ([]) (Nat.le_of_ble_eq_true rfl)) (Jd [0,0,0,0] [(2,U ((JP l ([])).1)),(3,I ((JP l ([])).2))] (Jc (Ja (Jk (Jl [0,0] [U ((JP l ([])).1),I ((JP l ([])).2)] (Jv (Jt.le_refl _) ?_))))))))))
 have hf_:(JP l [])=(((JP l ([])).1),((JP l ([])).2)):=by
  rfl
 · (try rw [hf_]);(simp only [JM];done)
end Go.Proofs.YtnnlpbjdignhaaaGreatDoor
