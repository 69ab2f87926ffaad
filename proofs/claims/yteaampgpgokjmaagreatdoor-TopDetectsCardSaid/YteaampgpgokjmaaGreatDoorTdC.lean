import Derived.Test.YteaampgpgokjmaaGreatDoorTdB
set_option linter.unusedVariables false
set_option linter.unusedSimpArgs false
namespace Go.Proofs.YteaampgpgokjmaaGreatDoor
open Go.Tx
def Ks (name value:List UInt8):Int:=if KN name=false then 3 else if 20<value.length then 2 else 0
def Jai (l:List J2):Nat→List J2→Int
 | _,[]=>0
 | i,x::r=>if Ks x.name x.value ≠ 0 then Ks x.name x.value else if 0<i∧0≤Z7 ((l[i-1]?.getD x).name) x.name then 3 else Jai l (i+1) r
def Kj (l:List J2):Int:=if 24<l.length then 2 else Jai l 0 l
theorem JbE {l:List J2} {i:Nat} {x:J2} (hx:l[i]? = some x) (h:Ks x.name x.value=0) (h2:¬ (0<i∧0≤Z7 ((l[i-1]?.getD x).name) x.name)):Jai l i (l.drop i)=Jai l (i+1) (l.drop (i+1)):=by
 obtain ⟨h1,rfl⟩:=List.getElem?_eq_some_iff.1 hx
 rw [List.drop_eq_getElem_cons h1]
 show (if _ then _ else if _ then _ else _)=_
 rw [if_neg (by omega),if_neg h2]
theorem JiA {l:List J2} {i:Nat} {x:J2} (hx:l[i]? = some x) (h:¬ Ks x.name x.value=0):Jai l i (l.drop i)=Ks x.name x.value:=by
 obtain ⟨h1,rfl⟩:=List.getElem?_eq_some_iff.1 hx
 rw [List.drop_eq_getElem_cons h1]
 show (if _ then _ else if _ then _ else _)=_
 rw [if_pos h]
theorem JiB {l:List J2} {i:Nat} {x y:J2} (hx:l[i]? = some x) (h:Ks x.name x.value=0) (hi:0<i) (hy:l[i-1]? = some y) (h2:0≤Z7 y.name x.name):Jai l i (l.drop i)=3:=by
 obtain ⟨h1,rfl⟩:=List.getElem?_eq_some_iff.1 hx
 rw [List.drop_eq_getElem_cons h1]
 show (if _ then _ else if _ then _ else _)=_
 rw [if_neg (by omega),if_pos ⟨hi,by rw [hy];exact h2⟩]
structure Zn (l:List J2):Prop where
 len:l.length≤24
 ok:∀ x∈l,Ks x.name x.value=0
 ord:∀ (i j:Nat) x y,i<j→l[i]? = some x→l[j]? = some y→Z7 x.name y.name<0
theorem Jfo {l:List J2}:∀ (n i:Nat),l.length≤i+n→(Jai l i (l.drop i)=0 ↔ (∀ j x,i≤j→l[j]? = some x→Ks x.name x.value=0)∧∀ j x y,i≤j+1→l[j]? = some x→l[j+1]? = some y→Z7 x.name y.name<0)
 | 0,i,h=>by
  rw [List.drop_eq_nil_of_le (by omega)]
  refine ⟨fun _=>⟨fun j x hj hx=>?_,fun j x y hj hx hy=>?_⟩,fun _=>rfl⟩
  · have:=(List.getElem?_eq_some_iff.1 hx).1;omega
  · have:=(List.getElem?_eq_some_iff.1 hy).1;omega
 | n+1,i,h=>by
  by_cases hi:i<l.length
  ·
   have hx:l[i]? = some l[i]:=List.getElem?_eq_getElem hi
   by_cases h1:Ks l[i].name l[i].value=0
   ·
    by_cases h2:0<i∧0≤Z7 ((l[i-1]?.getD l[i]).name) l[i].name
    ·
     have hy:l[i-1]? = some (l[i-1]'(by omega)):=List.getElem?_eq_getElem (by omega)
     have h3:=h2.2
     rw [hy] at h3
     rw [JiB hx h1 h2.1 hy h3]
     constructor
     · intro hc;cases hc
     ·
      rintro ⟨_,h4⟩
      have:=h4 (i-1) _ _ (by omega) hy (by rw [show i-1+1=i by omega];exact hx)
      simp at h3;omega
    ·
     rw [JbE hx h1 h2,Jfo n (i+1) (by omega)]
     constructor
     ·
      rintro ⟨a,b⟩
      refine ⟨fun j x hj hjx=>?_,fun j x y hj hjx hjy=>?_⟩
      ·
       by_cases e:j=i
       · subst e;rw [hx] at hjx;rw [← Option.some.inj hjx];exact h1
       · exact a j x (by omega) hjx
      ·
       by_cases e:j+1=i
       ·
        have:0<i:=by omega
        have hy:l[i-1]? = some x:=by rw [← e];exact hjx
        rw [hy] at h2
        rw [e,hx] at hjy
        rw [← Option.some.inj hjy]
        have:=fun hc=>h2 ⟨by omega,hc⟩
        simp at this;omega
       · exact b j x y (by omega) hjx hjy
     ·
      rintro ⟨a,b⟩
      exact ⟨fun j x hj=>a j x (by omega),fun j x y hj=>b j x y (by omega)⟩
   ·
    rw [JiA hx h1]
    exact ⟨fun hc=>absurd hc h1,fun hc=>absurd (hc.1 i _ (Nat.le_refl _) hx) h1⟩
  ·
   rw [List.drop_eq_nil_of_le (by omega)]
   refine ⟨fun _=>⟨fun j x hj hx=>?_,fun j x y hj hx hy=>?_⟩,fun _=>rfl⟩
   · have:=(List.getElem?_eq_some_iff.1 hx).1;omega
   · have:=(List.getElem?_eq_some_iff.1 hy).1;omega
theorem Jlc {l:List J2} (h:∀ j x y,l[j]? = some x→l[j+1]? = some y→Z7 x.name y.name<0):∀ (d i:Nat) x y,l[i]? = some x→l[i+d+1]? = some y→Z7 x.name y.name<0
 | 0,i,x,y,hx,hy=>h i x y hx hy
 | d+1,i,x,y,hx,hy=>by
  have hj:=(List.getElem?_eq_some_iff.1 hy).1
  have hz:l[i+d+1]? = some (l[i+d+1]'(by omega)):=List.getElem?_eq_getElem (by omega)
  exact JcD (Jlc h d i x _ hx hz) (h _ _ _ hz hy)
theorem K6 {l:List J2}:Kj l=0 ↔ Zn l:=by
 unfold Kj
 have e:=Jfo (l:=l) l.length 0 (by omega)
 rw [List.drop_zero] at e
 constructor
 ·
  intro h
  split at h
  · cases h
  ·
   have h2:=e.1 h
   refine ⟨by omega,fun x hx=>?_,fun i j x y hij hx hy=>?_⟩
   ·
    obtain ⟨k,hk⟩:=List.getElem?_of_mem hx
    exact h2.1 k x (Nat.zero_le _) hk
   ·
    obtain ⟨d,rfl⟩:∃ d,j=i+d+1:=⟨j-i-1,by omega⟩
    exact Jlc (fun j x y hx hy=>h2.2 j x y (by omega) hx hy) d i x y hx hy
 ·
  rintro ⟨h1,h2,h3⟩
  rw [if_neg (by omega)]
  exact e.2 ⟨fun j x _ hx=>h2 x (List.mem_of_getElem? hx),fun j x y _ hx hy=>h3 j (j+1) x y (by omega) hx hy⟩
def VU (c:J2→Int) (l:List J2):Nat→Nat→Nat→Nat
 | 0,i,_=>i
 | f+1,i,j=>if i<j then match l[(i+j) / 2]? with
   | some x=>if c x<0 then VU c l f ((i+j) / 2+1) j else VU c l f i ((i+j) / 2)
   | none=>i
  else i
theorem Jb1 (c:J2→Int) (l:List J2):∀ (f g i j:Nat),j≤i+f→j≤i+g→VU c l f i j=VU c l g i j
 | 0,0,_,_,_,_=>rfl
 | 0,g+1,i,j,h,_=>by unfold VU;rw [if_neg (by omega)]
 | f+1,0,i,j,_,h=>by unfold VU;rw [if_neg (by omega)]
 | f+1,g+1,i,j,h1,h2=>by
  unfold VU
  split
  ·
   split
   ·
    split
    · exact Jb1 c l f g _ _ (by omega) (by omega)
    · exact Jb1 c l f g _ _ (by omega) (by omega)
   · rfl
  · rfl
def bsI (c:J2→Int) (l:List J2):Nat:=VU c l l.length 0 l.length
theorem bs_lt {c:J2→Int} {l:List J2} {i j:Nat} {x:J2} (h:i<j) (hj:j≤l.length) (hx:l[(i+j) / 2]? = some x) (hc:c x<0):VU c l l.length i j=VU c l l.length ((i+j) / 2+1) j:=by
 rw [Jb1 c l l.length (l.length+1) i j (by omega) (by omega)]
 conv=>lhs;unfold VU
 rw [if_pos h,hx]
 simp only
 rw [if_pos hc]
theorem bs_ge {c:J2→Int} {l:List J2} {i j:Nat} {x:J2} (h:i<j) (hj:j≤l.length) (hx:l[(i+j) / 2]? = some x) (hc:¬ c x<0):VU c l l.length i j=VU c l l.length i ((i+j) / 2):=by
 rw [Jb1 c l l.length (l.length+1) i j (by omega) (by omega)]
 conv=>lhs;unfold VU
 rw [if_pos h,hx]
 simp only
 rw [if_neg hc]
theorem JnM {c:J2→Int} {l:List J2} {i j n:Nat} (h:¬ i<j):VU c l n i j=i:=by
 cases n with
 | zero=>rfl
 | succ n=>unfold VU;rw [if_neg h]
theorem JdR (c:J2→Int) (l:List J2) (hm:∀ (p q:Nat) x y,p<q→l[p]? = some x→l[q]? = some y→c y<0→c x<0):∀ (f i j:Nat),j≤i+f→i≤j→j≤l.length→(∀ p x,p<i→l[p]? = some x→c x<0)→(∀ p x,j≤p→l[p]? = some x→¬ c x<0) →
  i≤VU c l f i j∧VU c l f i j≤j∧(∀ p x,p<VU c l f i j→l[p]? = some x→c x<0)∧(∀ p x,VU c l f i j≤p→l[p]? = some x→¬ c x<0)
 | 0,i,j,h1,h2,h3,h4,h5=>by
  have:i=j:=by omega
  subst this
  exact ⟨Nat.le_refl _,Nat.le_refl _,h4,h5⟩
 | f+1,i,j,h1,h2,h3,h4,h5=>by
  unfold VU
  by_cases h:i<j
  ·
   rw [if_pos h]
   have hx:l[(i+j) / 2]? = some (l[(i+j) / 2]'(by omega)):=List.getElem?_eq_getElem (by omega)
   rw [hx]
   simp only
   split
   ·
    rename_i hc
    have:=JdR c l hm f ((i+j) / 2+1) j (by omega) (by omega) h3 (fun p x hp hpx=>by
     by_cases e:p=(i+j) / 2
     · subst e;rw [hx] at hpx;rw [← Option.some.inj hpx];exact hc
     · exact hm p ((i+j) / 2) x _ (by omega) hpx hx hc) h5
    exact ⟨by omega,this.2.1,this.2.2⟩
   ·
    rename_i hc
    have:=JdR c l hm f i ((i+j) / 2) (by omega) (by omega) (by omega) h4 (fun p x hp hpx hcx=>by
     by_cases e:p=(i+j) / 2
     · subst e;rw [hx] at hpx;rw [← Option.some.inj hpx] at hcx;exact hc hcx
     · exact hc (hm ((i+j) / 2) p _ x (by omega) hx hpx hcx))
    exact ⟨this.1,by omega,this.2.2⟩
  ·
   rw [if_neg h]
   have:i=j:=by omega
   subst this
   exact ⟨Nat.le_refl _,Nat.le_refl _,h4,h5⟩
def bsF (l:List J2) (t:List UInt8) (c:J2→List UInt8→Int):Int×Bool:=(((bsI (fun x=>c x t) l:Nat):Int),match l[bsI (fun x=>c x t) l]? with
 | some x=>decide (c x t=0)
 | none=>false)
def Wd (x:J2) (name:List UInt8):Int:=Z7 x.name name
def JG (l:List J2) (name:List UInt8):Int×Bool×Int:=if Kj l ≠ 0 then (0,false,Kj l) else if KN name=false then (0,false,3) else ((bsF l name Wd).1,(bsF l name Wd).2,0)
theorem JnN (c:J2→Int) (l:List J2):bsI c l≤l.length:=by
 have:∀ (f i j:Nat),i≤j→VU c l f i j≤j:=by
  intro f
  induction f with
  | zero=>intro i j h;exact h
  | succ f ih =>
   intro i j h
   unfold VU
   split
   ·
    split
    ·
     split
     · exact ih _ _ (by omega)
     · exact Nat.le_trans (ih _ _ (by omega)) (by omega)
    · exact h
   · exact h
 exact this _ _ _ (Nat.zero_le _)
theorem Jfp {l:List J2} (h:Zn l) (name:List UInt8):(∀ p x,p<bsI (fun x=>Wd x name) l→l[p]? = some x→Z7 x.name name<0)∧(∀ p x,bsI (fun x=>Wd x name) l≤p→l[p]? = some x→¬ Z7 x.name name<0):=by
 have:=JdR (fun x=>Wd x name) l (fun p q x y hpq hx hy hc=>JcD (h.ord p q x y hpq hx hy) hc) l.length 0 l.length (by omega) (Nat.zero_le _) (Nat.le_refl _) (fun p x hp=>absurd hp (Nat.not_lt_zero _)) (fun p x hp hx=>by have:=(List.getElem?_eq_some_iff.1 hx).1;omega)
 exact this.2.2
theorem JnO {l:List J2} (h:Zn l) (name:List UInt8):(bsF l name Wd).2=true ↔ ∃ x∈l,x.name=name:=by
 have hs:=Jfp h name
 unfold bsF
 simp only
 constructor
 ·
  intro e
  cases hx:l[bsI (fun x=>Wd x name) l]? with
  | none=>rw [hx] at e;cases e
  | some x =>
   rw [hx] at e
   exact ⟨x,List.mem_of_getElem? hx,Yo.1 (of_decide_eq_true e)⟩
 ·
  rintro ⟨x,hx,rfl⟩
  obtain ⟨k,hk⟩:=List.getElem?_of_mem hx
  have h1:¬ Z7 x.name x.name<0:=by have:Z7 x.name x.name=0:=Yo.2 rfl;omega
  have h2:bsI (fun y=>Wd y x.name) l≤k:=by
   apply Nat.le_of_not_lt;intro hc;exact h1 (hs.1 k x hc hk)
  have h3:bsI (fun y=>Wd y x.name) l=k:=by
   apply Classical.byContradiction;intro hne
   have hl:=(List.getElem?_eq_some_iff.1 hk).1
   have hy:l[bsI (fun y=>Wd y x.name) l]? = some (l[bsI (fun y=>Wd y x.name) l]'(by omega)):=List.getElem?_eq_getElem (by omega)
   exact hs.2 _ _ (Nat.le_refl _) hy (h.ord _ k _ x (by omega) hy hk)
  rw [h3,hk]
  simp only [decide_eq_true_eq]
  exact Yo.2 rfl
theorem JnP {l:List J2} {name:List UInt8} (e:(bsF l name Wd).2=true):∃ x,l[bsI (fun x=>Wd x name) l]? = some x∧x.name=name:=by
 unfold bsF at e
 simp only at e
 cases hx:l[bsI (fun x=>Wd x name) l]? with
 | none=>rw [hx] at e;cases e
 | some x=>rw [hx] at e;exact ⟨x,rfl,Yo.1 (of_decide_eq_true e)⟩
def WY (l:List J2) (name:List UInt8):List UInt8×Bool×Int:=if (JG l name).2.1=false then ([],false,(JG l name).2.2) else ((l[(JG l name).1.toNat]?.map (·.value)).getD [],true,(JG l name).2.2)
theorem JiC {l:List J2} {name:List UInt8} (h:(JG l name).2.1=true):Zn l∧KN name=true∧JG l name=((bsF l name Wd).1,true,0)∧(bsF l name Wd).2=true:=by
 unfold JG at h ⊢
 split at h
 · cases h
 split at h
 · cases h
 ·
  rename_i h1 h2
  rw [if_neg h1,if_neg h2]
  have h3:(bsF l name Wd).2=true:=h
  exact ⟨K6.1 (Decidable.not_not.1 h1),by simpa using h2,by rw [h3],h3⟩
theorem YD {l:List J2} {name:List UInt8} (h:(JG l name).2.1=true):0≤(JG l name).1∧(JG l name).1<l.length:=by
 obtain ⟨h1,h2,h3,h4⟩:=JiC h
 obtain ⟨x,hx,_⟩:=JnP h4
 have:=(List.getElem?_eq_some_iff.1 hx).1
 rw [h3];unfold bsF;simp only;omega
theorem Jci (G:Jp) (name:List UInt8) (value:List UInt8) :Q2 115 #[Sr name,Sr value] G (I (Ks name value)):=by
 refine JN Tryz.func115 13 [(0,Sr name),(1,Sr value)] rfl (fun w0 G0=>?_)
 refine Jf [0] [] (Je (Jz (Je (Jc (Ja [0] [(6,Sr name)] (Jj 7 (Bo (KN name)) (ZJ G name) (Ja [0,0] [(5,Bo (!(KN name)))] (Jd (Jb (Jk (!(KN name)) (fun h1=>?_) (fun h1=>?_)))))))))))
 refine Jf [0] [(4,I 3)] (Jl (Jt (Jh (Jm [0] [I 3] (Jw (Jp.le_refl _) (congrArg I (?_:(Ks name value)=3).symm))))))
 unfold Ks;simp_all;try omega
 refine Jf [0,0,0,0] [(9,Bo (decide (((value).length:Int) > 20)))] (Jk (decide (((value).length:Int) > 20)) (fun h2=>?_) (fun h2=>?_))
 refine Jf [0] [(4,I 2)] (Jl (Jt (Jh (Jm [0] [I 2] (Jw (Jp.le_refl _) (congrArg I (?_:(Ks name value)=2).symm))))))
 unfold Ks;simp_all;try omega
 refine Jo (JM (Jb (Jf [0] [(4,I 0)] (Jl (Jm [0] [I 0] (Jw (Jp.le_refl _) (congrArg I (?_:(Ks name value)=0).symm)))))))
 unfold Ks;simp_all;try omega
theorem YW (G:Jp) (a_l:Option Addr) (c_l:Nat) (l:List J2) (h_l:RS QA G a_l c_l l) :Q2 65 #[Sl a_l l.length c_l] G (I (Kj l)):=by
 refine JN Tryz.func65 39 [(0,Sl a_l l.length c_l)] rfl (fun w0 G0=>?_)
 refine Jf [0] [] (Je (Jf [0,0,0] [(8,Bo (decide ((l.length:Int) > 24)))] (Jk (decide ((l.length:Int) > 24)) (fun h1=>?_) (fun h1=>?_))))
 refine Jf [0] [(2,I 2)] (Jl (Jh (Jm [0] [I 2] (Jw (Jp.le_refl _) (congrArg I (?_:(Kj l)=2).symm)))))
 · unfold Kj;(rw [if_pos (by omega)];done)
 refine Jo (Jb (Je (Jf [0,0,0] [(9,Sl a_l l.length c_l),(10,I (l.length:Int)),(11,I 0)] (Jz ?_))))
 have hlm_h_l:l.length≤9223372036854775807:=Nat.le_trans (h_l).le (h_l).max
 refine Qh (σ:=Nat) (fun q_=>(q_≤l.length)∧(Jai l 0 l=Jai l q_ (l.drop q_))) (fun q_=>[(0,Sl a_l l.length c_l),(9,Sl a_l l.length c_l),(10,I (l.length:Int)),(11,I (q_:Int))]) (fun q_=>G) (fun q_=>[]) (fun q_=>l.length-q_) 0 ⟨(by (try dsimp only);exact Nat.zero_le _),rfl⟩ (fun q_ hs=>?_)
 revert hs;revert q_;intro i hs
 obtain ⟨hi,hn⟩:=hs
 dsimp only
 refine Jf [0] [(12,Bo (decide ((i:Int)<(l.length:Int))))] (Je (Jk (decide ((i:Int)<(l.length:Int))) (fun h2=>?_) (fun h2=>?_)))
 refine Jo (Jb (Je (Jz (Je (Jc (Ja [0] [(13,I (i:Int))] ?_))))))
 obtain ⟨b1,o1,rfl⟩:=RS.addr h_l (k:=i) (by omega)
 obtain ⟨x1,hx1⟩:=We (l:=l) (k:=i) (by omega)
 obtain ⟨_,⟨rfl,w1,_⟩,hc1⟩:=RS.get h_l hx1
 refine J3 (b:=b1) (off:=o1) (len:=l.length) (cap:=c_l) (ik:=.i64) 14 111 2 i J7 (JW 15 111 (cs:=[Sr x1.name,Sr x1.value]) 0 (.agg #[Sr x1.name,Sr x1.value]) hc1 (Jv 4 #[Sr ([]),Sr ([])] 111 (fun b2=>JV [0,3] [(3,I (i:Int))] [[Sg b2 0 [Sr x1.name,Sr x1.value]]] (Jd (Jb (Je (Je (Jc (Ja [0,2,0,2] [(17,Sr x1.name),(19,Sr x1.value)] (Jj 20 (I (Ks x1.name x1.value)) (Jci G x1.name x1.value) (Ja [0] [(5,I (Ks x1.name x1.value))] (Jd (Jb (Jf [0,0] [(22,Bo (!decide (Ks x1.name x1.value=0)))] (Jk (!decide (Ks x1.name x1.value=0)) (fun h3=>?_) (fun h3=>?_))))))))))))))))
 refine Jf [0,0] [(2,I (Ks x1.name x1.value))] (Jl (Jh (Jt (Jh (QS (Jt (Jh (Jm [0] [I (Ks x1.name x1.value)] (Jw (Jp.le_refl _) (congrArg I (?_:(Kj l)=(Ks x1.name x1.value)).symm))))))))))
 unfold Kj;(rw [if_neg (by omega),hn];exact JiA hx1 ‹_›)
 refine Jo (Jb (Je ?_))
 rcases Bool.eq_false_or_eq_true (decide ((i:Int) > 0)) with h4 | h4
 have h4d:=h4
 try simp only [BB] at h4d
 have e1:IntKind.i64.wrap ((i:Int)-1)=((i-1:Nat):Int):=(IntWalk.i64_in _ (by omega)).trans (show (i:Int)-1=((i-1:Nat):Int) by omega)
 obtain ⟨x2,hx2⟩:=We (l:=l) (k:=i-1) (by omega)
 obtain ⟨_,⟨rfl,w3,_⟩,hc2⟩:=RS.get h_l hx2
 refine Ko [] (Wm [(0,I (i:Int)),(1,Bo true),(2,Bo true),(3,Sl (At b1 o1) l.length c_l),(4,I (i:Int)),(5,I ((i-1:Nat):Int)),(6,Pt b1 (o1+(i-1)*2)),(7,Pt b1 (o1+(i-1)*2)),(8,Sr x2.name),(9,Pt b2 0),(10,Sr x1.name),(11,I (Z7 x2.name x1.name)),(12,Bo (decide (Z7 x2.name x1.name ≥ 0))),(13,Bo (decide (Z7 x2.name x1.name ≥ 0)))] (Km [] [(0,0),(2,0),(3,0),(4,0),(7,0),(9,0),(10,2),(12,0),(13,0)] [1,5,6,8,11] [(0,Sl (At b1 o1) l.length c_l),(9,Sl (At b1 o1) l.length c_l),(10,I (l.length:Int)),(11,I (i:Int)),(37,Bo (decide (Z7 x2.name x1.name ≥ 0)))] (Ke ?_ (Ke ?_ (Ke ?_ (Ke ?_ (Ke ?_ K4))))) ?_))
 refine Jr 1 25 (Bo true) [(24,I (i:Int))] (fun X=>?_)
 exact K5 25 (Bo (decide ((i:Int) > 0))) (Bo true) (by rw [h4]) Jn
 refine Jr 5 29 (I ((i-1:Nat):Int)) [(26,Bo true),(28,I (i:Int))] (fun X=>?_)
 exact K5 29 (I (IntKind.i64.wrap ((i:Int)-1))) (I ((i-1:Nat):Int)) (by simp only [e1]) Jn
 refine Jr 6 30 (Pt b1 (o1+(i-1)*2)) [(26,Bo true),(27,Sl (At b1 o1) l.length c_l),(29,I ((i-1:Nat):Int))] (fun X=>?_)
 exact J3 (b:=b1) (off:=o1) (len:=l.length) (cap:=c_l) (ik:=.i64) 30 111 2 (i-1) J7 Jn
 refine Jr 8 32 (Sr x2.name) [(26,Bo true),(31,Pt b1 (o1+(i-1)*2))] (fun X=>?_)
 exact JW 32 9 (cs:=[Sr x2.name,Sr x2.value]) 0 (Sr x2.name) hc2 Jn
 refine Jr 11 35 (I (Z7 x2.name x1.name)) [(26,Bo true),(32,Sr x2.name),(34,Sr x1.name)] (fun X=>?_)
 exact Jj 35 (I (Z7 x2.name x1.name)) (Jiz G x2.name w3 x1.name w1) Jn
 refine Jb (Jk (decide (Z7 x2.name x1.name ≥ 0)) (fun h5=>?_) (fun h5=>?_))
 refine Jf [0] [(2,I 3)] (Jl (Jt (Jh (QS (Jt (Jh (Jm [0] [I 3] (Jw (Jp.le_refl _) (congrArg I (?_:(Kj l)=3).symm)))))))))
 unfold Kj;(rw [if_neg (by omega),hn];exact JiB hx1 ‹_› (by omega) ‹_› (by omega))
 exact Jo (JM (Jb (Jc (Ja [0,0] [(11,I (IntKind.i64.wrap ((i:Int)+1)))] (Kw 11 ((i:Int)+1) J7 (Jd (QT [] (Qr (i+1) ⟨J7,(by rw [hn];exact JbE hx1 ‹_› (by (intro hc_;simp_all;omega)))⟩ (by (try dsimp only);omega)))))))))
 have h4d:=h4
 try simp only [BB] at h4d
 refine Ko [] (Wm [(0,I (i:Int)),(1,Bo false),(2,Bo false),(3,undef),(4,undef),(5,undef),(6,undef),(7,undef),(8,undef),(9,undef),(10,undef),(11,undef),(12,undef),(13,Bo false)] (Km [] [(0,0),(2,0),(3,1),(4,1),(5,1),(6,1),(7,1),(8,1),(9,1),(10,1),(11,1),(12,1),(13,0)] [1] [(0,Sl (At b1 o1) l.length c_l),(9,Sl (At b1 o1) l.length c_l),(10,I (l.length:Int)),(11,I (i:Int)),(37,Bo false)] (Ke ?_ K4) ?_))
 refine Jr 1 25 (Bo false) [(24,I (i:Int))] (fun X=>?_)
 exact K5 25 (Bo (decide ((i:Int) > 0))) (Bo false) (by rw [h4]) Jn
 exact Jb (Qq (Jo (JM (Jb (Jc (Ja [0,0] [(11,I (IntKind.i64.wrap ((i:Int)+1)))] (Kw 11 ((i:Int)+1) J7 (Jd (QT [] (Qr (i+1) ⟨J7,(by rw [hn];exact JbE hx1 ‹_› (by (intro hc_;omega)))⟩ (by (try dsimp only);omega)))))))))))
 refine KW (JZ (J8 (JR (Jb (Jf [0] [(2,I 0)] (Jl (Jm [0] [I 0] (Jw (Jp.le_refl _) (congrArg I (?_:(Kj l)=0).symm)))))))))
 unfold Kj;(rw [if_neg (by omega),hn];(rw [List.drop_eq_nil_of_le (by omega)];rfl))
theorem Jj5 (G:Jp) (vs_x:List Value) (x:J2) (h_x:QA.R G vs_x x) (name:List UInt8) (hw_name:(name).length≤140737488351232) :Q2 67 #[.agg vs_x.toArray,Sr name] G (I (Wd x name)):=by
 obtain ⟨rfl,w1,_⟩:=h_x
 refine JN Tryz.func67 9 [(0,.agg #[Sr x.name,Sr x.value]),(1,Sr name)] rfl (fun w0 G0=>?_)
 refine Je (Jc (Jv 2 #[Sr x.name,Sr x.value] 111 (fun b1=>Ja [0] [] (Jd (Jb (Je (Jc (Ja [0,2,0] [(6,Sr x.name),(7,Sr name)] (Jj 8 (I (Z7 x.name name)) (Jiz G x.name w1 name hw_name) (Ja [0] [(4,I (Z7 x.name name))] (Jd (Jb (Jl (Jm [0] [I (Z7 x.name name)] (Jw (Jp.le_refl _) (congrArg I (?_:(Wd x name)=(Z7 x.name name)).symm))))))))))))))))
 rfl
theorem Jpm (G:Jp) (a_l:Option Addr) (c_l:Nat) (l:List J2) (h_l:RS QA G a_l c_l l) (target:List UInt8) (hw_target:(target).length≤140737488351232) (k_cmp:FuncId) (caps_cmp:Array Value) (p_cmp:J2→(List UInt8)→Int) (hk_cmp:JaS Tryz.prog k_cmp) (h_cmp:∀ (vs0:List Value) (x0:J2) (hx0:QA.R G vs0 x0) (x1:List UInt8) (hx1:(x1).length≤140737488351232),Vi Tryz.prog k_cmp (#[.agg vs0.toArray,Sr x1]++caps_cmp) G [] (fun u _ _=>u=I (p_cmp x0 x1))) :Q2 66 #[Sl a_l l.length c_l,Sr target,Fv k_cmp caps_cmp] G (.tuple #[I ((bsF l target p_cmp).1),Bo ((bsF l target p_cmp).2)]):=by
 refine JN Tryz.func66 49 [(0,Sl a_l l.length c_l),(1,Sr target),(2,Fv k_cmp caps_cmp)] rfl (fun w0 G0=>?_)
 refine Jf [0,0] [] (Jf [0,0,0] [(8,I (l.length:Int))] (Jf [0,0,0] [(9,I 0),(10,I (l.length:Int))] (Je (Jz ?_))))
 have hlm_h_l:l.length≤9223372036854775807:=Nat.le_trans (h_l).le (h_l).max
 refine Qh (σ:=Nat×Nat) (fun q_=>(q_.1≤q_.2∧q_.2≤l.length)∧(bsI (fun x=>p_cmp x target) l=VU (fun x=>p_cmp x target) l l.length q_.1 q_.2)) (fun q_=>[(0,Sl a_l l.length c_l),(1,Sr target),(2,Fv k_cmp caps_cmp),(8,I (l.length:Int)),(9,I (q_.1:Int)),(10,I (q_.2:Int))]) (fun q_=>G) (fun q_=>[]) (fun q_=>q_.2-q_.1) (0,l.length) ⟨⟨Nat.zero_le _,Nat.le_refl _⟩,rfl⟩ (fun q_ hs=>?_)
 obtain ⟨i,j⟩:=q_
 obtain ⟨hj,hn⟩:=hs
 dsimp only at hj hn
 dsimp only
 refine Je (Jf [0,0,0] [(17,Bo (decide ((i:Int)<(j:Int))))] (Jk (decide ((i:Int)<(j:Int))) (fun h1=>?_) (fun h1=>?_)))
 refine Jo (Jb (Jz (Jf [0,0,0,0,0,0,0] [(11,I (IntKind.i64.wrap ((IntKind.u64.wrap (IntKind.i64.wrap ((i:Int)+(j:Int)))).fdiv (2 ^ 1))))] ?_)))
 have e1:IntKind.i64.wrap ((i:Int)+(j:Int))=(i:Int)+(j:Int):=IntWalk.i64_in _ (by (have hf_:=h_l.fit;simp only [QA] at hf_;omega))
 have e2:IntKind.u64.wrap ((i:Int)+(j:Int))=(i:Int)+(j:Int):=IntWalk.u64_in _ (by omega)
 have e3:((i:Int)+(j:Int)).fdiv (2 ^ 1)=(((i+j) / 2:Nat):Int):=by rw [Int.fdiv_eq_ediv_of_nonneg _ (by decide)];omega
 have e4:IntKind.i64.wrap (((i+j) / 2:Nat):Int)=(((i+j) / 2:Nat):Int):=IntWalk.i64_in _ (by omega)
 refine QX 11 (I (((i+j) / 2:Nat):Int)) (show (I (IntKind.i64.wrap ((IntKind.u64.wrap (IntKind.i64.wrap ((i:Int)+(j:Int)))).fdiv (2 ^ 1))):Value)=I (((i+j) / 2:Nat):Int) by simp only [e1,e2,e3,e4]) ?_
 clear e4 e3 e2 e1
 refine Je (Jc (Ja [0,0,0] [(24,Fv k_cmp caps_cmp),(25,Sl a_l l.length c_l),(26,I (((i+j) / 2:Nat):Int))] ?_))
 obtain ⟨b1,o1,rfl⟩:=RS.addr h_l (k:=(i+j) / 2) (by omega)
 obtain ⟨x1,hx1⟩:=We (l:=l) (k:=(i+j) / 2) (by omega)
 obtain ⟨_,⟨rfl,w1,w2⟩,hc1⟩:=RS.get h_l hx1
 refine J3 (b:=b1) (off:=o1) (len:=l.length) (cap:=c_l) (ik:=.i64) 27 111 2 ((i+j) / 2) J7 (JW 28 111 (cs:=[Sr x1.name,Sr x1.value]) 0 (.agg #[Sr x1.name,Sr x1.value]) hc1 (Ja [0] [(29,Sr target)] (ZQ (k:=k_cmp) (caps:=caps_cmp) (args:=#[.agg #[Sr x1.name,Sr x1.value],Sr target]) 30 (I (p_cmp x1 target)) hk_cmp (h_cmp [Sr x1.name,Sr x1.value] x1 (⟨rfl,w1,w2⟩) target ‹_›) (Ja [0] [(31,Bo (decide (p_cmp x1 target<0)))] (Jd (Jb (Jk (decide (p_cmp x1 target<0)) (fun h2=>?_) (fun h2=>?_))))))))
 exact Jc (Ja [0,0,0] [(9,I (IntKind.i64.wrap ((((i+j) / 2:Nat):Int)+1)))] (Kw 9 ((((i+j) / 2:Nat):Int)+1) J7 (Jd (JM (Qr ((i+j) / 2+1,j) ⟨(by (try dsimp only);omega),(by (try dsimp only);rw [hn];exact bs_lt J7 hj.2 hx1 ‹_›)⟩ (by (try dsimp only);omega))))))
 exact Jc (Ja [0,0] [(10,I (((i+j) / 2:Nat):Int))] (Jd (JM (Qr (i,(i+j) / 2) ⟨(by (try dsimp only);omega),(by (try dsimp only);rw [hn];exact bs_ge J7 hj.2 hx1 J7)⟩ (by (try dsimp only);omega)))))
 refine KW (JZ (J8 (JR (Jb (Je (Jc (Ja [0,0,0,0,0] [(35,I (i:Int)),(39,Bo (decide ((i:Int)<(l.length:Int))))] (Qu [39] (decide ((i:Int)<(l.length:Int))) (fun h3=>?_) (fun h3=>?_)))))))))
 refine Ja [0,0,0] [(40,Fv k_cmp caps_cmp),(41,Sl a_l l.length c_l),(42,I (i:Int))] ?_
 obtain ⟨b2,o2,rfl⟩:=RS.addr h_l (k:=i) (by omega)
 obtain ⟨x2,hx2⟩:=We (l:=l) (k:=i) (by omega)
 obtain ⟨_,⟨rfl,w3,w4⟩,hc2⟩:=RS.get h_l hx2
 refine J3 (b:=b2) (off:=o2) (len:=l.length) (cap:=c_l) (ik:=.i64) 43 111 2 i J7 (JW 44 111 (cs:=[Sr x2.name,Sr x2.value]) 0 (.agg #[Sr x2.name,Sr x2.value]) hc2 (Ja [0] [(45,Sr target)] (ZQ (k:=k_cmp) (caps:=caps_cmp) (args:=#[.agg #[Sr x2.name,Sr x2.value],Sr target]) 46 (I (p_cmp x2 target)) hk_cmp (h_cmp [Sr x2.name,Sr x2.value] x2 (⟨rfl,w3,w4⟩) target hw_target) (Ja [0,0,0,0] [(6,I (i:Int)),(7,Bo (decide (p_cmp x2 target=0)))] (Jd (Jb (Jl (Jm [0,0] [I (i:Int),Bo (decide (p_cmp x2 target=0))] (Jw (Jp.le_refl _) ?_)))))))))
 have hf_:(bsF l target p_cmp)=((i:Int),(decide (p_cmp x2 target=0))):=by
  unfold bsF;rw [hn,JnM (by omega)];(simp_all;done)
 · (try rw [hf_]);(simp only [Ql];done)
 refine Ja [1,1,1,1,1,1,1,1,0,0,0] [(6,I (i:Int)),(7,Bo false)] (Jd (Jb (Jl (Jm [0,0] [I (i:Int),Bo false] (Jw (Jp.le_refl _) ?_)))))
 have hf_:(bsF l target p_cmp)=((i:Int),false):=by
  unfold bsF;rw [hn,JnM (by omega)];(simp_all;done)
 · (try rw [hf_]);(simp only [Ql];done)
theorem Jc9 (G:Jp) (a_l:Option Addr) (c_l:Nat) (l:List J2) (h_l:RS QA G a_l c_l l) (name:List UInt8) (hw_name:(name).length≤140737488351232) :Q2 36 #[Sl a_l l.length c_l,Sr name] G (.tuple #[I ((JG l name).1),Bo ((JG l name).2.1),I ((JG l name).2.2)]):=by
 refine JN Tryz.func36 26 [(0,Sl a_l l.length c_l),(1,Sr name)] rfl (fun w0 G0=>?_)
 refine Jf [0,0,0] [] (Je (Je (Jc (Ja [0] [(10,Sl a_l l.length c_l)] (Jj 11 (I (Kj l)) (YW G a_l c_l l h_l) (Ja [0] [(7,I (Kj l))] (Jd (Jb (Jf [0,0] [(13,Bo (!decide (Kj l=0)))] (Jk (!decide (Kj l=0)) (fun h1=>?_) (fun h1=>?_)))))))))))
 refine Jf [0,0,0,0] [(4,I 0),(5,Bo false),(6,I (Kj l))] (Jl (Jh (Jm [0,0,0] [I 0,Bo false,I (Kj l)] (Jw (Jp.le_refl _) ?_))))
 have hf_:(JG l name)=(0,false,(Kj l)):=by
  unfold JG;simp_all
 · (try rw [hf_]);(simp only [Ql];done)
 refine Jo (Jb (Je (Je (Jc (Ja [0] [(15,Sr name)] (Jj 16 (Bo (KN name)) (ZJ G name) (Ja [0] [(17,Bo (!(KN name)))] (Jd (Jb (Jk (!(KN name)) (fun h2=>?_) (fun h2=>?_)))))))))))
 refine Jf [0,0,0] [(4,I 0),(5,Bo false),(6,I 3)] (Jl (Jh (Jm [0,0,0] [I 0,Bo false,I 3] (Jw (Jp.le_refl _) ?_))))
 have hf_:(JG l name)=(0,false,3):=by
  unfold JG;simp_all
 · (try rw [hf_]);(simp only [Ql];done)
 refine Jo (Jb (Je (Jc (Ja [0,0] [(19,Sl a_l l.length c_l),(20,Sr name)] (Jj 21 (.tuple #[I ((bsF l name (fun x0 x1=>Wd x0 x1)).1),Bo ((bsF l name (fun x0 x1=>Wd x0 x1)).2)]) (Jpm G a_l c_l l h_l name hw_name 67 #[] (fun x0 x1=>Wd x0 x1) (fun _ _=>by kernel_rfl) (fun vs0 x0 hx0 x1 hx1=>by obtain ⟨rfl,w1,w2⟩:=hx0;exact Jj5 G [Sr x0.name,Sr x0.value] x0 (⟨rfl,w1,w2⟩) x1 hx1)) (Ja [0,0,0,0,0] [(8,I ((bsF l name (fun x0 x1=>Wd x0 x1)).1)),(9,Bo ((bsF l name (fun x0 x1=>Wd x0 x1)).2))] (Jd (Jb (Jf [0,0,0,0,0] [(4,I ((bsF l name (fun x0 x1=>Wd x0 x1)).1)),(5,Bo ((bsF l name (fun x0 x1=>Wd x0 x1)).2)),(6,I 0)] (Jl (Jm [0,0,0] [I ((bsF l name (fun x0 x1=>Wd x0 x1)).1),Bo ((bsF l name (fun x0 x1=>Wd x0 x1)).2),I 0] (Jw (Jp.le_refl _) ?_))))))))))))
 have hf_:(JG l name)=(((bsF l name (fun x0 x1=>Wd x0 x1)).1),((bsF l name (fun x0 x1=>Wd x0 x1)).2),0):=by
  unfold JG;simp_all
 · (try rw [hf_]);(simp only [Ql];done)
theorem JiD (G:Jp) (a_l:Option Addr) (c_l:Nat) (l:List J2) (h_l:RS QA G a_l c_l l) (name:List UInt8) (hw_name:(name).length≤140737488351232) :Yi 21 #[Sl a_l l.length c_l,Sr name] G [] (fun u G' L'=>u=.tuple #[Sr ((WY l name).1),Bo ((WY l name).2.1),I ((WY l name).2.2)]∧(((WY l name).1).length≤140737488351232)∧L'=[]):=by
 refine JN Tryz.func21 26 [(0,Sl a_l l.length c_l),(1,Sr name)] rfl (fun w0 G0=>?_)
 refine Jf [0,0,0] [] (Je (Jc (Ja [0,0] [(11,Sl a_l l.length c_l),(12,Sr name)] (Jj 13 (.tuple #[I ((JG l name).1),Bo ((JG l name).2.1),I ((JG l name).2.2)]) (Jc9 G a_l c_l l h_l name hw_name) (Ja [0,0,0,0,0,0,0] [(7,I ((JG l name).1)),(8,Bo ((JG l name).2.1)),(9,I ((JG l name).2.2))] (Jd (Jb (Je (Jf [0,0] [(18,Bo (!((JG l name).2.1)))] (Jk (!((JG l name).2.1)) (fun h1=>?_) (fun h1=>?_)))))))))))
 refine Jf [0,0,0,0] [(4,Sr ([])),(5,Bo false),(6,I ((JG l name).2.2))] (Jl (Jh ?_))
 have hf1:WY l name=([],false,(JG l name).2.2):=by
  unfold WY;(simp_all;done)
 refine Jm [0,0,0] [Sr ([]),Bo false,I ((JG l name).2.2)] (Jy [] (Jp.le_refl _) ?_)
 rw [hf1]
 try dsimp only
 exact ⟨rfl,(Nat.le_of_ble_eq_true rfl),rfl⟩
 refine Jo (Jb (Je (Jc (Ja [0,0] [(20,Sl a_l l.length c_l),(21,I ((JG l name).1))] ?_))))
 obtain ⟨kn1,hkn1⟩:∃ k_:Nat,(JG l name).1=(k_:Int):=⟨((JG l name).1).toNat,by (have q_:=YD (l:=l) (name:=name) ‹_›;omega)⟩
 have e1:(JG l name).1=(kn1:Int):=hkn1
 refine KI 21 (I (kn1:Int)) (congrArg I e1) ?_
 obtain ⟨b1,o1,rfl⟩:=RS.addr h_l (k:=kn1) (by (have q_:=YD (l:=l) (name:=name) ‹_›;omega))
 obtain ⟨x1,hx1⟩:=We (l:=l) (k:=kn1) (by (have q_:=YD (l:=l) (name:=name) ‹_›;omega))
 obtain ⟨_,⟨rfl,_,w2⟩,hc1⟩:=RS.get h_l hx1
 refine J3 (b:=b1) (off:=o1) (len:=l.length) (cap:=c_l) (ik:=.i64) 22 111 2 kn1 (by (have q_:=YD (l:=l) (name:=name) ‹_›;omega)) (Ja [0] [(23,Pt b1 (o1+kn1*2+1))] (JW 24 9 (cs:=[Sr x1.name,Sr x1.value]) 1 (Sr x1.value) hc1 (Ja [0,0,0,0] [(4,Sr x1.value),(5,Bo true),(6,I ((JG l name).2.2))] (Jd (Jb (Jl ?_))))))
 have hf2:WY l name=(x1.value,true,(JG l name).2.2):=by
  unfold WY;(simp_all;done)
 refine Jm [0,0,0] [Sr x1.value,Bo true,I ((JG l name).2.2)] (Jy [] (Jp.le_refl _) ?_)
 rw [hf2]
 try dsimp only
 exact ⟨rfl,w2,rfl⟩
def Z8 (l:List J2) (i:Nat) (x:J2):List J2:=l.take i++[x]++l.drop i
theorem Jaj {l:List J2} {i:Nat} {x:J2} (h:i≤l.length):(Z8 l i x).length=l.length+1:=by unfold Z8;simp;omega
theorem JnQ {l:List J2} {i:Nat} {x:J2} (h:i=l.length):l++[x]=Z8 l i x:=by subst h;simp [Z8]
theorem one2 {a b:Value} (ha:a.oneCell'=true) (hb:b.oneCell'=true):∀ u∈[a,b],u.oneCell'=true:=by
 intro u hu
 rcases List.mem_cons.1 hu with rfl | hu
 · exact ha
 · rw [List.mem_singleton.1 hu];exact hb
def Zd (l:List J2) (name value:List UInt8):Int:=if (JG l name).2.2 ≠ 0 then (JG l name).2.2 else if Ks name value ≠ 0 then Ks name value else if (JG l name).2.1=false∧(l.length:Int)=24 then 7 else 0
def Qm (l:List J2) (name value:List UInt8):List J2×Int:=if Zd l name value ≠ 0 then ([],Zd l name value) else (if (JG l name).2.1=true then l.set (JG l name).1.toNat ⟨name,value⟩ else (Z8 l (JG l name).1.toNat ⟨[],[]⟩).set (JG l name).1.toNat ⟨name,value⟩,0)
theorem JnR {l:List J2} {i:Nat} {x y:J2} (h:i≤l.length):(Z8 l i x).set i y=Z8 l i y:=by
 unfold Z8
 rw [List.append_assoc,List.set_append_right _ _ (by rw [List.length_take];omega),List.length_take,Nat.min_eq_left h,Nat.sub_self]
 simp
theorem JnS {l:List J2} {i:Nat} {x:J2} (h:i≤l.length) (p:Nat):(Z8 l i x)[p]? = if p<i then l[p]? else if p=i then some x else l[p-1]?:=by
 unfold Z8
 rw [List.append_assoc]
 by_cases h1:p<i
 · rw [if_pos h1,List.getElem?_append_left (by rw [List.length_take];omega),List.getElem?_take,if_pos h1]
 ·
  rw [if_neg h1,List.getElem?_append_right (by rw [List.length_take];omega),List.length_take,Nat.min_eq_left h]
  by_cases h2:p=i
  · rw [if_pos h2,h2,Nat.sub_self];rfl
  ·
   rw [if_neg h2]
   obtain ⟨m,hm⟩:∃ m,p-i=m+1:=⟨p-i-1,by omega⟩
   rw [hm]
   show (l.drop i)[m]? = _
   rw [List.getElem?_drop];congr 1;omega
theorem Jem {l:List J2} {name:List UInt8} (h:(JG l name).2.2=0):Zn l∧KN name=true∧JG l name=((bsF l name Wd).1,(bsF l name Wd).2,0):=by
 unfold JG at h ⊢
 split at h
 · contradiction
 split at h
 · cases h
 ·
  rename_i h1 h2
  rw [if_neg h1,if_neg h2]
  exact ⟨K6.1 (Decidable.not_not.1 h1),by simpa using h2,rfl⟩
theorem Ze {l:List J2} {name:List UInt8} (h:(JG l name).2.2=0):0≤(JG l name).1∧(JG l name).1≤l.length∧l.length≤24:=by
 obtain ⟨h1,_,h3⟩:=Jem h
 have:=JnN (fun x=>Wd x name) l
 have:=h1.len
 rw [h3];unfold bsF;simp only;omega
theorem Jmb {l:List J2} {name value:List UInt8} (h:(Qm l name value).2=0):(JG l name).2.2=0∧Ks name value=0∧((JG l name).2.1=true∨l.length<24):=by
 have h1:Zd l name value=0:=by
  unfold Qm at h;split at h
  · contradiction
  · rename_i h1;exact Decidable.not_not.1 h1
 unfold Zd at h1
 by_cases e1:(JG l name).2.2=0
 ·
  rw [if_neg (by omega)] at h1
  by_cases e2:Ks name value=0
  ·
   rw [if_neg (by omega)] at h1
   refine ⟨e1,e2,?_⟩
   by_cases e3:(JG l name).2.1=false∧(l.length:Int)=24
   · rw [if_pos e3] at h1;cases h1
   ·
    cases hb:(JG l name).2.1 with
    | true=>exact .inl rfl
    | false =>
     refine .inr ?_
     have:=(Ze e1).2.2
     have:¬ (l.length:Int)=24:=fun hc=>e3 ⟨hb,hc⟩
     omega
  · rw [if_pos e2] at h1;exact absurd h1 e2
 · rw [if_pos e1] at h1;exact absurd h1 e1
theorem JiE {l:List J2} {name value:List UInt8} (h:¬ (Qm l name value).2=0):(Qm l name value).1=[]:=by
 revert h;unfold Qm;split <;> simp
theorem JcF {l:List J2} {name value:List UInt8} (h:(Qm l name value).2=0):Zn l∧KN name=true∧Zn (Qm l name value).1∧(∀ y,y∈(Qm l name value).1 ↔ y=⟨name,value⟩∨(y∈l∧y.name ≠ name)):=by
 obtain ⟨e1,e2,e3⟩:=Jmb h
 obtain ⟨hok,hp,hf⟩:=Jem e1
 have hs:=Jfp hok name
 have hbd:=JnN (fun x=>Wd x name) l
 have hi:(JG l name).1.toNat=bsI (fun x=>Wd x name) l:=by rw [hf];unfold bsF;simp
 have hE:Zd l name value=0:=by
  unfold Qm at h;split at h
  · contradiction
  · rename_i h1;exact Decidable.not_not.1 h1
 have hval:Qm l name value=(if (JG l name).2.1=true then l.set (JG l name).1.toNat ⟨name,value⟩ else (Z8 l (JG l name).1.toNat ⟨[],[]⟩).set (JG l name).1.toNat ⟨name,value⟩,0):=by
  unfold Qm;rw [if_neg (by omega)]
 rw [hval,hi]
 generalize hk:bsI (fun x=>Wd x name) l=k at *
 refine ⟨hok,hp,?_⟩
 cases hb:(JG l name).2.1 with
 | true =>
  rw [if_pos rfl]
  have hb2:(bsF l name Wd).2=true:=by rw [hf] at hb;exact hb
  obtain ⟨x,hx,hxn⟩:=JnP hb2
  rw [hk] at hx
  have hkl:=(List.getElem?_eq_some_iff.1 hx).1
  have huni:∀ p y,l[p]? = some y→y.name=name→p=k:=by
   intro p y hy hyn
   rcases Nat.lt_trichotomy p k with hc | hc | hc
   · have:=hok.ord p k y x hc hy hx;rw [hyn,← hxn,Yo.2 rfl] at this;omega
   · exact hc
   · have:=hok.ord k p x y hc hx hy;rw [hyn,hxn,Yo.2 rfl] at this;omega
  refine ⟨⟨by rw [List.length_set];exact hok.len,fun y hy=>?_,fun p q y z hpq hy hz=>?_⟩,fun y=>?_⟩
  ·
   rcases List.mem_or_eq_of_mem_set hy with hy | rfl
   · exact hok.ok y hy
   · exact e2
  ·
   rw [List.getElem?_set] at hy hz
   have gy:∃ y',l[p]? = some y'∧y'.name=y.name:=by
    split at hy
    ·
     rename_i e;subst e
     (try rw [if_pos hkl] at hy)
     exact ⟨x,hx,by rw [← Option.some.inj hy];exact hxn⟩
    · exact ⟨y,hy,rfl⟩
   have gz:∃ z',l[q]? = some z'∧z'.name=z.name:=by
    split at hz
    ·
     rename_i e;subst e
     (try rw [if_pos hkl] at hz)
     exact ⟨x,hx,by rw [← Option.some.inj hz];exact hxn⟩
    · exact ⟨z,hz,rfl⟩
   obtain ⟨y',gy1,gy2⟩:=gy
   obtain ⟨z',gz1,gz2⟩:=gz
   rw [← gy2,← gz2];exact hok.ord p q y' z' hpq gy1 gz1
  ·
   constructor
   ·
    intro hy
    obtain ⟨p,hp2⟩:=List.getElem?_of_mem hy
    rw [List.getElem?_set] at hp2
    split at hp2
    · rename_i e;subst e;(try rw [if_pos hkl] at hp2);exact .inl (Option.some.inj hp2).symm
    ·
     rename_i e
     exact .inr ⟨List.mem_of_getElem? hp2,fun hc=>e (huni p y hp2 hc).symm⟩
   ·
    rintro (rfl | ⟨hy,hne⟩)
    · exact List.mem_of_getElem? (i:=k) (by rw [List.getElem?_set,if_pos rfl,if_pos hkl])
    ·
     obtain ⟨p,hp2⟩:=List.getElem?_of_mem hy
     exact List.mem_of_getElem? (i:=p) (by rw [List.getElem?_set,if_neg (fun e=>hne (by subst e;rw [hx] at hp2;rw [← Option.some.inj hp2];exact hxn))];exact hp2)
 | false =>
  rw [if_neg (by simp),JnR hbd]
  have hb3:(bsF l name Wd).2=false:=by rw [hf] at hb;exact hb
  have hb2:¬ (bsF l name Wd).2=true:=by rw [hb3];simp
  have hno:∀ y∈l,y.name ≠ name:=fun y hy hc=>hb2 ((JnO hok name).2 ⟨y,hy,hc⟩)
  have hlt:∀ p y,p<k→l[p]? = some y→Z7 y.name name<0:=hs.1
  have hgt:∀ p y,k≤p→l[p]? = some y→Z7 name y.name<0:=by
   intro p y hp2 hy
   have h1:=hs.2 p y hp2 hy
   have h2:Z7 y.name name ≠ 0:=fun hc=>hno y (List.mem_of_getElem? hy) (Yo.1 hc)
   exact Jpk.1 (by omega)
  have hl24:l.length<24:=by rcases e3 with e3 | e3;rw [e3] at hb;cases hb;exact e3
  refine ⟨⟨by rw [Jaj hbd];omega,fun y hy=>?_,fun p q y z hpq hy hz=>?_⟩,fun y=>?_⟩
  ·
   unfold Z8 at hy
   simp only [List.mem_append,List.mem_singleton] at hy
   rcases hy with (hy | rfl) | hy
   · exact hok.ok y (List.mem_of_mem_take hy)
   · exact e2
   · exact hok.ok y (List.mem_of_mem_drop hy)
  ·
   rw [JnS hbd] at hy hz
   by_cases p1:p<k
   ·
    rw [if_pos p1] at hy
    by_cases q1:q<k
    · rw [if_pos q1] at hz;exact hok.ord p q y z hpq hy hz
    ·
     rw [if_neg q1] at hz
     by_cases q2:q=k
     · rw [if_pos q2] at hz;rw [← Option.some.inj hz];exact hlt p y p1 hy
     · rw [if_neg q2] at hz;exact hok.ord p (q-1) y z (by omega) hy hz
   ·
    rw [if_neg p1] at hy
    rw [if_neg (by omega),if_neg (by omega)] at hz
    by_cases p2:p=k
    · rw [if_pos p2] at hy;rw [← Option.some.inj hy];exact hgt (q-1) z (by omega) hz
    · rw [if_neg p2] at hy;exact hok.ord (p-1) (q-1) y z (by omega) hy hz
  ·
   unfold Z8
   simp only [List.mem_append,List.mem_singleton]
   constructor
   ·
    rintro ((hy | rfl) | hy)
    · exact .inr ⟨List.mem_of_mem_take hy,hno y (List.mem_of_mem_take hy)⟩
    · exact .inl rfl
    · exact .inr ⟨List.mem_of_mem_drop hy,hno y (List.mem_of_mem_drop hy)⟩
   ·
    rintro (rfl | ⟨hy,_⟩)
    · exact .inl (.inr rfl)
    ·
     rw [← List.take_append_drop k l] at hy
     rcases List.mem_append.1 hy with hy | hy
     · exact .inl (.inl hy)
     · exact .inr hy
theorem JiF (l:List J2) (name value:List UInt8):(Qm l name value).1.length≤24:=by
 by_cases h:(Qm l name value).2=0
 · exact (JcF h).2.2.1.len
 · rw [JiE h];simp
theorem Jmc {l:List J2} {name value:List UInt8} (h:¬ (JG l name).2.2=0):Qm l name value=([],(JG l name).2.2):=by
 have:Zd l name value=(JG l name).2.2:=by unfold Zd;rw [if_pos h]
 unfold Qm;rw [if_pos (by omega),this]
theorem Jmd {l:List J2} {name value:List UInt8} (h0:(JG l name).2.2=0) (h:¬ Ks name value=0):Qm l name value=([],Ks name value):=by
 have:Zd l name value=Ks name value:=by unfold Zd;rw [if_neg (by omega),if_pos h]
 unfold Qm;rw [if_pos (by omega),this]
theorem Jme {l:List J2} {name value:List UInt8} (h0:(JG l name).2.2=0) (h1:Ks name value=0) (h:(JG l name).2.1=false∧(l.length:Int)=24):Qm l name value=([],7):=by
 have:Zd l name value=7:=by unfold Zd;rw [if_neg (by omega),if_neg (by omega),if_pos h]
 unfold Qm;rw [if_pos (by omega),this]
theorem Jmf {l:List J2} {name value:List UInt8} {k:Nat} (h0:(JG l name).2.2=0) (h1:Ks name value=0) (h:(JG l name).2.1=true) (hk:(JG l name).1=(k:Int)):Qm l name value=(l.set k ⟨name,value⟩,0):=by
 have:Zd l name value=0:=by unfold Zd;rw [if_neg (by omega),if_neg (by omega),if_neg (by rw [h];simp)]
 unfold Qm;rw [if_neg (by omega),if_pos h,hk,Int.toNat_natCast]
theorem Jmg {l:List J2} {name value:List UInt8} {k:Nat} (h0:(JG l name).2.2=0) (h1:Ks name value=0) (h:(JG l name).2.1=false) (h2:(JG l name).2.1=false→¬ (l.length:Int)=24) (hk:(JG l name).1=(k:Int)):Qm l name value=((Z8 l k ⟨[],[]⟩).set k ⟨name,value⟩,0):=by
 have:Zd l name value=0:=by unfold Zd;rw [if_neg (by omega),if_neg (by omega),if_neg (fun hc=>h2 hc.1 hc.2)]
 unfold Qm;rw [if_neg (by omega),if_neg (by rw [h];simp),hk,Int.toNat_natCast]
set_option maxRecDepth 4000 in
theorem JgP (G:Jp) (a:Option Addr) (c:Nat) (l:List J2) (r:List Kg) (hr:J0 QA G a c l r) (bv:Nat) (x:J2) (hx0:(x.name).length≤140737488351232) (hx1:(x.value).length≤140737488351232) (i:Nat) (hi:i≤l.length) (hsm:l.length≤1000):Jha Tryz.prog 212 #[Sl a l.length c,I (i:Int),Sl (At bv 0) 1 1] G [r,[Vd 111 bv 0 [Sr x.name,Sr x.value]]] (fun u G' L'=>∃ a' c' r',u=Sl a' (Z8 l i x).length c'∧J0 QA G' a' c' (Z8 l i x) r'∧L'=[r']):=by
 intro Lr
 have hlc:=J0.lec hr
 have hcm:=J0.mx hr
 refine JN Tryz.func212 95 [(0,Sl a l.length c),(1,I (i:Int)),(2,Sl (At bv 0) 1 1)] rfl (fun w0 G0=>?_)
 show TC _ _ _ _ _ (r::[Vd 111 bv 0 [Sr x.name,Sr x.value]]::Lr)
 refine Jf [0] [] (Je (Jc (Ja [0,0] [(10,Sl a l.length c),(11,I (i:Int))] (Jng (a:=a) (len:=l.length) (cap:=c) 12 2 (some (I (i:Int))) none i l.length (.inr ⟨_,rfl⟩) (.inl ⟨rfl,rfl⟩) hi hlc (fun a9=>Jd (Jb (Jf [0,0,0] [(7,I (1:Int))] (Je (Jf [0,0] [(16,Bo (decide ((1:Int)=0)))] (Jk (decide ((1:Int)=0)) (fun h1=>?_) (fun h1=>?_)))))))))))
 exfalso;omega
 refine Jo (Jb (Jf [0,0,0] [(8,I (l.length:Int))] (Je (Jf [0,0,0] [(22,Bo (decide ((i:Int)=(l.length:Int))))] (Jk (decide ((i:Int)=(l.length:Int))) (fun h2=>?_) (fun h2=>?_))))))
 refine JdI 1 (Je (Jc (Ja [0,0] [(23,Sl a l.length c),(24,Sl (At bv 0) 1 1)] (Qv (b:=bv) (cs:=[Sr x.name,Sr x.value]) 25 111 0 1 (E:=QA) x hr ⟨rfl,‹_›,‹_›⟩ J7 (by simp only [QA];omega) (fun a1 c1 r1 hr1=>Ja [0] [(6,Sl a1 ((l++[x]).length) c1)] (Jd (Jb (Jl (Jh ?_)))))))))
 have e_:l++[x]=Z8 l i x:=JnQ (by omega)
 have en_:(l++[x]).length=(Z8 l i x).length:=by (rw [Jaj hi];(try simp only [List.length_append,List.length_cons,List.length_nil]) <;> omega)
 exact Jm [0] [Sl a1 ((l++[x]).length) c1] (KQ (Lr:=Lr) [r1] (Jp.le_refl _) (⟨_,_,_,congrArg (fun n=>Sl a1 n c1) en_,(by rw [← e_];exact hr1),rfl⟩))
 refine Jo (Jb (Je ?_))
 obtain ⟨b,off,css,spare,rfl,rfl,hc1,hc2,hc3,hsp,_,hmax,hone⟩:=J0.opened hr (by omega)
 refine Jf [0,0,0,0,0,0] [(31,Bo (decide (IntKind.i64.wrap ((l.length:Int)+(1:Int)) > (c:Int))))] ?_
 have e1:IntKind.i64.wrap ((l.length:Int)+(1:Int))=(l.length:Int)+(1:Int):=IntWalk.i64_in _ (by omega)
 refine QX 31 (Bo (decide ((l.length:Int)+(1:Int) > (c:Int)))) (show (Bo (decide (IntKind.i64.wrap ((l.length:Int)+(1:Int)) > (c:Int))):Value)=Bo (decide ((l.length:Int)+(1:Int) > (c:Int))) by simp only [e1]) ?_
 clear e1
 refine Jk (decide ((l.length:Int)+(1:Int) > (c:Int))) (fun h3=>?_) (fun h3=>?_)
 refine JdI 1 (Je (Jc (Ja [0,0] [(32,Sl (At b off) l.length c),(33,I (i:Int))] (JbW (b:=b) (off:=off) (len:=l.length) (cap:=c) 34 2 (some (I (i:Int))) i (.inr ⟨_,rfl⟩) J7 (Ja [0,0,0,0,0] [(39,I (IntKind.i64.wrap ((IntKind.i64.wrap ((l.length:Int)+(1:Int)))-(i:Int))))] ?_)))))
 have e2:IntKind.i64.wrap ((l.length:Int)+(1:Int))=(l.length:Int)+(1:Int):=IntWalk.i64_in _ (by omega)
 have e3:IntKind.i64.wrap (((l.length:Int)+(1:Int))-(i:Int))=((l.length+1-i:Nat):Int):=(IntWalk.i64_in _ (by omega)).trans (show ((l.length:Int)+(1:Int))-(i:Int)=((l.length+1-i:Nat):Int) by omega)
 refine KI 39 (I ((l.length+1-i:Nat):Int)) (show (I (IntKind.i64.wrap ((IntKind.i64.wrap ((l.length:Int)+(1:Int)))-(i:Int))):Value)=I ((l.length+1-i:Nat):Int) by simp only [e2,e3]) ?_
 clear e3 e2
 refine JjN (b:=b) (off:=off) (cap:=c) (F:=(css.flatten++spare)) 40 0 111 2 32 (l.length+1-i) i J7 J7 J7 (by rw [List.length_append,QN hc3,hc1];simp only [QA];omega) J7 (fun b9 c9 zs hz1 hz2 hz3=>Ja [0] [(9,Sl (At b9 0) (i+(l.length+1-i)) c9)] (Jd (Jb (Je (Jc (Ja [0,0] [(41,Sl (At b9 0) (i+(l.length+1-i)) c9),(42,I (i:Int))] (Vj (b:=b9) (off:=0) (len:=(i+(l.length+1-i))) (cap:=c9) 43 2 (some (I (i:Int))) none i (i+(l.length+1-i)) (.inr ⟨_,rfl⟩) (.inl ⟨rfl,rfl⟩) J7 J7 J7 (Ja [0] [(44,Sl (At bv 0) 1 1)] (VF (b:=b9) (off:=0) (p:=(i*2)) (nd:=(i+(l.length+1-i)-i)) (cd:=(c9-i)) (bs:=bv) (os:=0) (ns:=1) (cs:=1) (F:=((css.flatten++spare).take (i*2)++zs)) 45 0 2 [Sr x.name,Sr x.value] (by rw [show Nat.min 1 (i+(l.length+1-i)-i)=1 from by simp only [Nat.min_def];split <;> omega];rfl) (by rw [hz3];simp only [List.length_cons,List.length_nil];omega) (one2 rfl rfl) (.inr ⟨2,0,[Sr x.name,Sr x.value],0,rfl,rfl,fun j v hv=>by rw [Nat.zero_add];exact hv⟩) (Jd (Jb (Je ?_))))))))))))
 have e4:IntKind.i64.wrap ((i:Int)+(1:Int))=((i+1:Nat):Int):=(IntWalk.i64_in _ (by omega)).trans (show (i:Int)+(1:Int)=((i+1:Nat):Int) by omega)
 refine Ko [8] (Wm [(0,Sl (At b9 0) (i+(l.length+1-i)) c9),(1,I (i:Int)),(2,I (1:Int)),(3,I ((i+1:Nat):Int)),(4,Sl (At b9 (0+(i+1)*2)) ((i+(l.length+1-i))-(i+1)) (c9-(i+1))),(5,Sl (At b off) l.length c),(6,I (i:Int)),(7,Sl (At b (off+i*2)) (l.length-i) (c-i))] (JK [] [(0,0),(1,0),(2,0),(5,0),(6,0)] [3,4,7] [8] (Ke ?_ (Ke ?_ (Ke ?_ K4))) (Ke ?_ K4)))
 refine Jr 3 49 (I ((i+1:Nat):Int)) [(47,I (i:Int)),(48,I (1:Int))] (fun X=>?_)
 exact K5 49 (I (IntKind.i64.wrap ((i:Int)+(1:Int)))) (I ((i+1:Nat):Int)) (by simp only [e4]) Jn
 refine Jr 4 50 (Sl (At b9 (0+(i+1)*2)) ((i+(l.length+1-i))-(i+1)) (c9-(i+1))) [(46,Sl (At b9 0) (i+(l.length+1-i)) c9),(49,I ((i+1:Nat):Int))] (fun X=>?_)
 exact Vj (b:=b9) (off:=0) (len:=(i+(l.length+1-i))) (cap:=c9) 50 2 (some (I ((i+1:Nat):Int))) none (i+1) (i+(l.length+1-i)) (.inr ⟨_,rfl⟩) (.inl ⟨rfl,rfl⟩) J7 J7 J7 Jn
 refine Jr 7 53 (Sl (At b (off+i*2)) (l.length-i) (c-i)) [(51,Sl (At b off) l.length c),(52,I (i:Int))] (fun X=>?_)
 exact Vj (b:=b) (off:=off) (len:=l.length) (cap:=c) 53 2 (some (I (i:Int))) none i l.length (.inr ⟨_,rfl⟩) (.inl ⟨rfl,rfl⟩) J7 J7 J7 Jn
 refine JD 8 [(50,Sl (At b9 (0+(i+1)*2)) ((i+(l.length+1-i))-(i+1)) (c9-(i+1))),(53,Sl (At b (off+i*2)) (l.length-i) (c-i))] (fun X=>?_)
 refine VF (b:=b9) (off:=0) (p:=((i+1)*2)) (nd:=(i+(l.length+1-i)-(i+1))) (cd:=(c9-(i+1))) (bs:=b) (os:=(off+i*2)) (ns:=(l.length-i)) (cs:=(c-i)) (F:=(QO ((css.flatten++spare).take (i*2)++zs) (i*2) [Sr x.name,Sr x.value])) 54 0 2 (css.drop i).flatten (by rw [ZH hc3,hc1,show Nat.min (l.length-i) (i+(l.length+1-i)-(i+1))=l.length-i from by simp only [Nat.min_def];split <;> omega];rfl) (by rw [ZP (by rw [hz3];simp only [List.length_cons,List.length_nil];omega),hz3,ZH hc3,hc1];simp only [QA];omega) (JkV i hone) (.inr ⟨1,off,(css.flatten++spare),i*2,rfl,rfl,JkX (sz:=2) hc3 J7⟩) (JC [(8,I ((Nat.min (l.length-i) (i+(l.length+1-i)-(i+1)):Nat):Int))] (Km [0,1,2,3,4,5,6,7] [] [] [(9,Sl (At b9 0) (i+(l.length+1-i)) c9)] (List.forall_mem_nil _) (Jb (Jf [0,0] [(6,Sl (At b9 0) (i+(l.length+1-i)) c9)] (Jl (Jh ?_))))))
 have en_:i+(l.length+1-i)=(Z8 l i x).length:=by (rw [Jaj hi];(try simp only [List.length_append,List.length_cons,List.length_nil]) <;> omega)
 exact Jm [0] [Sl (At b9 0) (i+(l.length+1-i)) c9] (KQ (Lr:=Lr) [[Sg b9 0 (QO (QO ((css.flatten++spare).take (i*2)++zs) (i*2) [Sr x.name,Sr x.value]) ((i+1)*2) (css.drop i).flatten)]] (Jp.le_refl _) (⟨_,_,_,congrArg (fun n=>Sl (At b9 0) n c9) en_,(J0.insG (spare:=spare) i hi hc1 hc2 ⟨rfl,hx0,hx1⟩ hz3 J7 hz2),rfl⟩))
 refine Jo (Jb (Je (Jc (Ja [0,0,0,0] [(56,Sl (At b off) l.length c),(59,I (IntKind.i64.wrap ((l.length:Int)+(1:Int))))] ?_))))
 have e5:IntKind.i64.wrap ((l.length:Int)+(1:Int))=((l.length+1:Nat):Int):=(IntWalk.i64_in _ (by omega)).trans (show (l.length:Int)+(1:Int)=((l.length+1:Nat):Int) by omega)
 refine KI 59 (I ((l.length+1:Nat):Int)) (congrArg I e5) ?_
 clear e5
 refine JbW (b:=b) (off:=off) (len:=l.length) (cap:=c) 60 2 (some (I ((l.length+1:Nat):Int))) (l.length+1) (.inr ⟨_,rfl⟩) J7 (Ja [0] [(0,Sl (At b off) (l.length+1) c)] (Jd (Jb (Je (Je (Jc (Ja [0,0,0,0,0] [(61,Sl (At bv 0) 1 1),(62,Sl (At b off) (l.length+1) c),(65,I (IntKind.i64.wrap ((i:Int)+(1:Int))))] ?_)))))))
 have e6:IntKind.i64.wrap ((i:Int)+(1:Int))=((i+1:Nat):Int):=(IntWalk.i64_in _ (by omega)).trans (show (i:Int)+(1:Int)=((i+1:Nat):Int) by omega)
 refine KI 65 (I ((i+1:Nat):Int)) (congrArg I e6) ?_
 clear e6
 refine Vj (b:=b) (off:=off) (len:=(l.length+1)) (cap:=c) 66 2 (some (I ((i+1:Nat):Int))) none (i+1) (l.length+1) (.inr ⟨_,rfl⟩) (.inl ⟨rfl,rfl⟩) J7 J7 J7 ?_
 refine JlU (f:=249) (args:=#[Sl (At bv 0) 1 1,Sl (At b (off+(i+1)*2)) ((l.length+1)-(i+1)) (c-(i+1))]) 67 (Bo false) (fun w hw=>?_) ?_
 rw [run_callFunc_extern (e:=Extern.SlicesOverlaps.overlaps #[44,44] #[4]) Tryz.func249 (by kernel_rfl) (by kernel_rfl) (by kernel_rfl) (by kernel_rfl),JlV hw (i:=1) (j:=0) rfl (by simp) rfl (by rw [List.length_append,QN hc3,hc1,hsp];simp only [QA];omega) (by decide) 44 4 111 2 (by kernel_rfl) (fun w=>by kernel_rfl)]
 rfl
 refine Ja [0] [(68,Bo true)] (Jd (Jb (JU (JdI 1 (Je ?_)))))
 have e7:IntKind.i64.wrap ((i:Int)+(1:Int))=((i+1:Nat):Int):=(IntWalk.i64_in _ (by omega)).trans (show (i:Int)+(1:Int)=((i+1:Nat):Int) by omega)
 refine Ko [8] (Wm [(0,Sl (At b off) (l.length+1) c),(1,I (i:Int)),(2,I (1:Int)),(3,I ((i+1:Nat):Int)),(4,Sl (At b (off+(i+1)*2)) ((l.length+1)-(i+1)) (c-(i+1))),(5,Sl (At b off) (l.length+1) c),(6,I (i:Int)),(7,Sl (At b (off+i*2)) ((l.length+1)-i) (c-i))] (JK [] [(0,0),(1,0),(2,0),(5,0),(6,0)] [3,4,7] [8] (Ke ?_ (Ke ?_ (Ke ?_ K4))) (Ke ?_ K4)))
 refine Jr 3 72 (I ((i+1:Nat):Int)) [(70,I (i:Int)),(71,I (1:Int))] (fun X=>?_)
 exact K5 72 (I (IntKind.i64.wrap ((i:Int)+(1:Int)))) (I ((i+1:Nat):Int)) (by simp only [e7]) Jn
 refine Jr 4 73 (Sl (At b (off+(i+1)*2)) ((l.length+1)-(i+1)) (c-(i+1))) [(69,Sl (At b off) (l.length+1) c),(72,I ((i+1:Nat):Int))] (fun X=>?_)
 exact Vj (b:=b) (off:=off) (len:=(l.length+1)) (cap:=c) 73 2 (some (I ((i+1:Nat):Int))) none (i+1) (l.length+1) (.inr ⟨_,rfl⟩) (.inl ⟨rfl,rfl⟩) J7 J7 J7 Jn
 refine Jr 7 76 (Sl (At b (off+i*2)) ((l.length+1)-i) (c-i)) [(74,Sl (At b off) (l.length+1) c),(75,I (i:Int))] (fun X=>?_)
 exact Vj (b:=b) (off:=off) (len:=(l.length+1)) (cap:=c) 76 2 (some (I (i:Int))) none i (l.length+1) (.inr ⟨_,rfl⟩) (.inl ⟨rfl,rfl⟩) J7 J7 J7 Jn
 refine JD 8 [(73,Sl (At b (off+(i+1)*2)) ((l.length+1)-(i+1)) (c-(i+1))),(76,Sl (At b (off+i*2)) ((l.length+1)-i) (c-i))] (fun X=>?_)
 refine VF (b:=b) (off:=off) (p:=((i+1)*2)) (nd:=(l.length+1-(i+1))) (cd:=(c-(i+1))) (bs:=b) (os:=(off+i*2)) (ns:=(l.length+1-i)) (cs:=(c-i)) (F:=(css.flatten++spare)) 77 0 2 (css.drop i).flatten (by rw [ZH hc3,hc1,show Nat.min (l.length+1-i) (l.length+1-(i+1))=l.length-i from by simp only [Nat.min_def];split <;> omega];rfl) (by rw [List.length_append,QN hc3,hc1,hsp];simp only [QA];rw [ZH hc3,hc1];simp only [QA];omega) (JkV i hone) (.inr ⟨0,off,(css.flatten++spare),i*2,rfl,rfl,JkX (sz:=2) hc3 J7⟩) (JC [(8,I ((Nat.min (l.length+1-i) (l.length+1-(i+1)):Nat):Int))] (Km [0,1,2,3,4,5,6,7] [] [] [(0,Sl (At b off) (l.length+1) c),(1,I (i:Int)),(2,Sl (At bv 0) 1 1)] (List.forall_mem_nil _) (Jb (Je (Jc (Ja [0,0] [(78,Sl (At b off) (l.length+1) c),(79,I (i:Int))] (Vj (b:=b) (off:=off) (len:=(l.length+1)) (cap:=c) 80 2 (some (I (i:Int))) none i (l.length+1) (.inr ⟨_,rfl⟩) (.inl ⟨rfl,rfl⟩) J7 J7 J7 (Ja [0] [(81,Sl (At bv 0) 1 1)] (VF (b:=b) (off:=off) (p:=(i*2)) (nd:=(l.length+1-i)) (cd:=(c-i)) (bs:=bv) (os:=0) (ns:=1) (cs:=1) (F:=(QO (css.flatten++spare) ((i+1)*2) (css.drop i).flatten)) 82 0 2 [Sr x.name,Sr x.value] (by rw [show Nat.min 1 (l.length+1-i)=1 from by simp only [Nat.min_def];split <;> omega];rfl) (by rw [ZP (by rw [List.length_append,QN hc3,hc1,hsp];simp only [QA];rw [ZH hc3,hc1];simp only [QA];omega)];rw [List.length_append,QN hc3,hc1,hsp];simp only [QA];simp only [List.length_cons,List.length_nil];omega) (one2 rfl rfl) (.inr ⟨1,0,[Sr x.name,Sr x.value],0,rfl,rfl,fun j v hv=>by rw [Nat.zero_add];exact hv⟩) (Jd (Jb (Jf [0,0] [(6,Sl (At b off) (l.length+1) c)] (Jl (Jh ?_))))))))))))))
 have en_:l.length+1=(Z8 l i x).length:=by (rw [Jaj hi];done)
 exact Jm [0] [Sl (At b off) (l.length+1) c] (KQ (Lr:=Lr) [[Sg b off (QO (QO (css.flatten++spare) ((i+1)*2) (css.drop i).flatten) (i*2) [Sr x.name,Sr x.value])]] (Jp.le_refl _) (⟨_,_,_,congrArg (fun n=>Sl (At b off) n c) en_,(J0.insP i hi hc1 hc2 ⟨rfl,hx0,hx1⟩ hsp J7 hcm),rfl⟩))
set_option maxRecDepth 20000 in
theorem JiG (G:Jp) (a_l:Option Addr) (c_l:Nat) (l:List J2) (h_l:RS QA G a_l c_l l) (name:List UInt8) (hw_name:(name).length≤140737488351232) (value:List UInt8) (hw_value:(value).length≤140737488351232) :Yi 165 #[Sl a_l l.length c_l,Sr name,Sr value] G [] (fun u G' L'=>∃ (a1:Option Addr) (c2:Nat) (r3:List Kg),u=.tuple #[Sl a1 (((Qm l name value).1).length) c2,I ((Qm l name value).2)]∧(J0 QA G' a1 c2 ((Qm l name value).1) r3)∧L'=[r3]):=by
 refine JN Tryz.func165 52 [(0,Sl a_l l.length c_l),(1,Sr name),(2,Sr value)] rfl (fun w0 G0=>?_)
 refine Jf [0,0] [] (Je (Jc (Ja [0,0] [(13,Sl a_l l.length c_l),(14,Sr name)] (Jj 15 (.tuple #[I ((JG l name).1),Bo ((JG l name).2.1),I ((JG l name).2.2)]) (Jc9 G a_l c_l l h_l name hw_name) (Ja [0,0,0,0,0,0,0] [(8,I ((JG l name).1)),(9,Bo ((JG l name).2.1)),(10,I ((JG l name).2.2))] (Jd (Jb (Je (Jf [0,0] [(20,Bo (decide ((JG l name).2.2=0)))] (Jk (decide ((JG l name).2.2=0)) (fun h1=>?_) (fun h1=>?_)))))))))))
 refine Jc (Ja [0,0] [(21,Sr name),(22,Sr value)] (Jj 23 (I (Ks name value)) (Jci G name value) (Ja [0] [(10,I (Ks name value))] (Jd (Jb (Je (Jz (Jf [0,0,0] [(24,Bo (!decide (Ks name value=0)))] (Jk (!decide (Ks name value=0)) (fun h2=>?_) (fun h2=>?_))))))))))
 refine Jf [0,0,0] [(6,Sl none 0 0),(7,I (Ks name value))] (Jl (Jt (Jh (Zy (Ji 0 ?_)))))
 have hf1:Qm l name value=([],Ks name value):=by
  exact Jmd ‹_› ‹_›
 refine Jm [0,0] [Sl none 0 0,I (Ks name value)] (Jy [[]] (Jp.le_refl _) ?_)
 rw [hf1]
 try dsimp only
 exact ⟨none,0,([]),rfl,(J0.none QA _),rfl⟩
 refine Je (Jc (Ja [0,0,0] [(31,Bo (!((JG l name).2.1)))] (Kn (!((JG l name).2.1)) [31] [0,0,0,0] [1,1,1,0] (fun bb=>[(35,Bo (bb && (decide ((l.length:Int)=24))))]) (Ja [0] [(28,Bo ((!((JG l name).2.1)) && (decide ((l.length:Int)=24))))] (Jd (Jb (Jk ((!((JG l name).2.1)) && (decide ((l.length:Int)=24))) (fun h3=>?_) (fun h3=>?_))))))))
 refine Jf [0,0] [(6,Sl none 0 0),(7,I 7)] (Jl (Jt (Jh (Zy (Ji 0 ?_)))))
 have hf2:Qm l name value=([],7):=by
  exact Jme ‹_› ‹_› ‹_›
 refine Jm [0,0] [Sl none 0 0,I 7] (Jy [[]] (Jp.le_refl _) ?_)
 rw [hf2]
 try dsimp only
 exact ⟨none,0,([]),rfl,(J0.none QA _),rfl⟩
 refine Jo (JM (Jb (Je (Jc (Ja [0] [(36,Sl a_l l.length c_l)] (JF 37 (YA G a_l c_l l h_l) (fun v G1 L1 hl1 hp=>?_)))))))
 obtain ⟨a1,c1,r1,rfl,hr1,rfl⟩:=hp
 refine Ja [0] [(11,Sl a1 l.length c1)] (Jd (Jb (Je (Jf [0,0] [(39,Bo (!((JG l name).2.1)))] (Jk (!((JG l name).2.1)) (fun h4=>?_) (fun h4=>?_))))))
 refine Jc (Ja [0,0,0] [(40,Sl a1 l.length c1),(41,I ((JG l name).1)),(42,.agg #[Sr ([]),Sr ([])])] (JgG 43 1 #[Sr ([]),Sr ([])] 111 (fun b1=>?_)))
 obtain ⟨kn1,hkn1⟩:∃ k_:Nat,(JG l name).1=(k_:Int):=⟨((JG l name).1).toNat,by (have q_:=Ze (l:=l) (name:=name) ‹_›;omega)⟩
 have e1:(JG l name).1=(kn1:Int):=hkn1
 refine KI 8 (I (kn1:Int)) (congrArg I e1) (KI 41 (I (kn1:Int)) (congrArg I e1) (Jx 0 (Jx 1 (Qn (Ls:=[r1,[Vd 111 b1 0 [Sr ([]),Sr ([])]]]) (Lr:=[]) 44 (JgP G1 a1 c1 l r1 hr1 b1 (⟨[],[]⟩:J2) (Nat.le_of_ble_eq_true rfl) (Nat.le_of_ble_eq_true rfl) kn1 (by (have q_:=Ze (l:=l) (name:=name) ‹_›;omega)) (by (have q_:=Ze (l:=l) (name:=name) ‹_›;omega))) (fun v G2 L1 hl2 hp=>?_)))))
 obtain ⟨a2,c2,_,rfl,hr2,rfl⟩:=hp
 refine Ja [0] [(11,Sl a2 ((Z8 l kn1 (⟨[],[]⟩:J2)).length) c2)] (Jd (Jb (Je (Jc (Ja [0,0,0,0,0] [(45,Sl a2 ((Z8 l kn1 (⟨[],[]⟩:J2)).length) c2),(46,I (kn1:Int)),(49,.agg #[Sr name,Sr value])] ?_)))))
 obtain ⟨_,hx1⟩:=We (l:=Z8 l kn1 (⟨[],[]⟩:J2)) (k:=kn1) (by (have q_:=Ze (l:=l) (name:=name) ‹_›;(rw [Jaj (by omega)];omega)))
 obtain ⟨b2,o1,_,_,⟨rfl,_,_⟩,ha1,_,_⟩:=J0.ix hr2 hx1
 refine QI (b:=b2) (off:=o1) (len:=(Z8 l kn1 (⟨[],[]⟩:J2)).length) (cap:=c2) (ik:=.i64) 50 111 2 kn1 ha1 (by (have q_:=Ze (l:=l) (name:=name) ‹_›;(rw [Jaj (by omega)];omega))) (YV (b:=b2) (off:=o1) 0 hr2 kn1 (⟨name,value⟩:J2) ha1 (by (have q_:=Ze (l:=l) (name:=name) ‹_›;(rw [Jaj (by omega)];omega))) (.agg #[Sr name,Sr value]) [Sr name,Sr value] ⟨rfl,hw_name,hw_value⟩ (fun r3 hr3=>?_))
 have e2:(Z8 l kn1 (⟨[],[]⟩:J2)).length=((Z8 l kn1 (⟨[],[]⟩:J2)).set kn1 (⟨name,value⟩:J2)).length:=(List.length_set ..).symm
 refine KI 11 (Sl a2 (((Z8 l kn1 (⟨[],[]⟩:J2)).set kn1 (⟨name,value⟩:J2)).length) c2) (congrArg (Sl a2 · c2) e2) (Jd (Jb (Jf [0,0,0] [(6,Sl a2 (((Z8 l kn1 (⟨[],[]⟩:J2)).set kn1 (⟨name,value⟩:J2)).length) c2),(7,I 0)] (Jl (Ji 0 ?_)))))
 have hf3:Qm l name value=((Z8 l kn1 (⟨[],[]⟩:J2)).set kn1 (⟨name,value⟩:J2),0):=by
  exact Jmg ‹_› ‹_› ‹_› ‹_› ‹_›
 refine Jm [0,0] [Sl a2 (((Z8 l kn1 (⟨[],[]⟩:J2)).set kn1 (⟨name,value⟩:J2)).length) c2,I 0] (Jy [r3] (Jp.le_trans hl1 hl2) ?_)
 rw [hf3]
 try dsimp only
 exact ⟨a2,c2,r3,rfl,hr3,rfl⟩
 refine Jo (Jb (Je (Jc (Ja [0,0,0,0,0] [(45,Sl a1 l.length c1),(46,I ((JG l name).1)),(49,.agg #[Sr name,Sr value])] ?_))))
 obtain ⟨kn2,hkn2⟩:∃ k_:Nat,(JG l name).1=(k_:Int):=⟨((JG l name).1).toNat,by (have q_:=Ze (l:=l) (name:=name) ‹_›;omega)⟩
 have e3:(JG l name).1=(kn2:Int):=hkn2
 refine KI 46 (I (kn2:Int)) (congrArg I e3) ?_
 obtain ⟨_,hx2⟩:=We (l:=l) (k:=kn2) (by (have q_:=Ze (l:=l) (name:=name) ‹_›;(have q1_:=YD (l:=l) (name:=name) ‹_›;omega)))
 obtain ⟨b3,o2,_,_,⟨rfl,_,_⟩,ha2,_,_⟩:=J0.ix hr1 hx2
 refine QI (b:=b3) (off:=o2) (len:=l.length) (cap:=c1) (ik:=.i64) 50 111 2 kn2 ha2 (by (have q_:=Ze (l:=l) (name:=name) ‹_›;(have q1_:=YD (l:=l) (name:=name) ‹_›;omega))) (YV (b:=b3) (off:=o2) 0 hr1 kn2 (⟨name,value⟩:J2) ha2 (by (have q_:=Ze (l:=l) (name:=name) ‹_›;(have q1_:=YD (l:=l) (name:=name) ‹_›;omega))) (.agg #[Sr name,Sr value]) [Sr name,Sr value] ⟨rfl,hw_name,hw_value⟩ (fun r4 hr4=>?_))
 have e4:l.length=(l.set kn2 (⟨name,value⟩:J2)).length:=(List.length_set ..).symm
 refine KI 11 (Sl a1 ((l.set kn2 (⟨name,value⟩:J2)).length) c1) (congrArg (Sl a1 · c1) e4) (Jd (Jb (Jf [0,0,0] [(6,Sl a1 ((l.set kn2 (⟨name,value⟩:J2)).length) c1),(7,I 0)] (Jl (Ji 0 ?_)))))
 have hf4:Qm l name value=(l.set kn2 (⟨name,value⟩:J2),0):=by
  exact Jmf ‹_› ‹_› ‹_› ‹_›
 refine Jm [0,0] [Sl a1 ((l.set kn2 (⟨name,value⟩:J2)).length) c1,I 0] (Jy [r4] hl1 ?_)
 rw [hf4]
 try dsimp only
 exact ⟨a1,c1,r4,rfl,hr4,rfl⟩
 refine Jo (Jb (Je (Jz (Jf [0,0,0] [(24,Bo (!decide ((JG l name).2.2=0)))] (Jk (!decide ((JG l name).2.2=0)) (fun h5=>?_) (fun h5=>?_))))))
 refine Jf [0,0,0] [(6,Sl none 0 0),(7,I ((JG l name).2.2))] (Jl (Jt (Jh (Zy (Ji 0 ?_)))))
 have hf5:Qm l name value=([],(JG l name).2.2):=by
  exact Jmc ‹_›
 refine Jm [0,0] [Sl none 0 0,I ((JG l name).2.2)] (Jy [[]] (Jp.le_refl _) ?_)
 rw [hf5]
 try dsimp only
 exact ⟨none,0,([]),rfl,(J0.none QA _),rfl⟩
 refine Je (Jc (Ja [0,0,0] [(31,Bo (!((JG l name).2.1)))] (Kn (!((JG l name).2.1)) [31] [0,0,0,0] [1,1,1,0] (fun bb=>[(35,Bo (bb && (decide ((l.length:Int)=24))))]) (Ja [0] [(28,Bo ((!((JG l name).2.1)) && (decide ((l.length:Int)=24))))] (Jd (Jb (Jk ((!((JG l name).2.1)) && (decide ((l.length:Int)=24))) (fun h6=>?_) (fun h6=>?_))))))))
 refine Jf [0,0] [(6,Sl none 0 0),(7,I 7)] (Jl (Jt (Jh (Zy (Ji 0 ?_)))))
 have hf6:Qm l name value=([],7):=by
  (exfalso;omega)
 refine Jm [0,0] [Sl none 0 0,I 7] (Jy [[]] (Jp.le_refl _) ?_)
 rw [hf6]
 try dsimp only
 exact ⟨none,0,([]),rfl,(J0.none QA _),rfl⟩
 refine Jo (JM (Jb (Je (Jc (Ja [0] [(36,Sl a_l l.length c_l)] (JF 37 (YA G a_l c_l l h_l) (fun v G3 L1 hl3 hp=>?_)))))))
 obtain ⟨a3,c3,r5,rfl,hr5,rfl⟩:=hp
 refine Ja [0] [(11,Sl a3 l.length c3)] (Jd (Jb (Je (Jf [0,0] [(39,Bo (!((JG l name).2.1)))] (Jk (!((JG l name).2.1)) (fun h7=>?_) (fun h7=>?_))))))
 refine Jc (Ja [0,0,0] [(40,Sl a3 l.length c3),(41,I ((JG l name).1)),(42,.agg #[Sr ([]),Sr ([])])] (JgG 43 1 #[Sr ([]),Sr ([])] 111 (fun b4=>?_)))
 obtain ⟨kn3,hkn3⟩:∃ k_:Nat,(JG l name).1=(k_:Int):=⟨((JG l name).1).toNat,by omega⟩
 have e5:(JG l name).1=(kn3:Int):=hkn3
 refine KI 8 (I (kn3:Int)) (congrArg I e5) (KI 41 (I (kn3:Int)) (congrArg I e5) (Jx 0 (Jx 1 (Qn (Ls:=[r5,[Vd 111 b4 0 [Sr ([]),Sr ([])]]]) (Lr:=[]) 44 (JgP G3 a3 c3 l r5 hr5 b4 (⟨[],[]⟩:J2) (Nat.le_of_ble_eq_true rfl) (Nat.le_of_ble_eq_true rfl) kn3 J7 J7) (fun v G4 L1 hl4 hp=>?_)))))
 obtain ⟨a4,c4,_,rfl,hr6,rfl⟩:=hp
 refine Ja [0] [(11,Sl a4 ((Z8 l kn3 (⟨[],[]⟩:J2)).length) c4)] (Jd (Jb (Je (Jc (Ja [0,0,0,0,0] [(45,Sl a4 ((Z8 l kn3 (⟨[],[]⟩:J2)).length) c4),(46,I (kn3:Int)),(49,.agg #[Sr name,Sr value])] ?_)))))
 obtain ⟨_,hx3⟩:=We (l:=Z8 l kn3 (⟨[],[]⟩:J2)) (k:=kn3) (by omega)
 obtain ⟨b5,o3,_,_,⟨rfl,_,_⟩,ha3,_,_⟩:=J0.ix hr6 hx3
 refine QI (b:=b5) (off:=o3) (len:=(Z8 l kn3 (⟨[],[]⟩:J2)).length) (cap:=c4) (ik:=.i64) 50 111 2 kn3 ha3 J7 (YV (b:=b5) (off:=o3) 0 hr6 kn3 (⟨name,value⟩:J2) ha3 J7 (.agg #[Sr name,Sr value]) [Sr name,Sr value] ⟨rfl,hw_name,hw_value⟩ (fun r7 hr7=>?_))
 have e6:(Z8 l kn3 (⟨[],[]⟩:J2)).length=((Z8 l kn3 (⟨[],[]⟩:J2)).set kn3 (⟨name,value⟩:J2)).length:=(List.length_set ..).symm
 refine KI 11 (Sl a4 (((Z8 l kn3 (⟨[],[]⟩:J2)).set kn3 (⟨name,value⟩:J2)).length) c4) (congrArg (Sl a4 · c4) e6) (Jd (Jb (Jf [0,0,0] [(6,Sl a4 (((Z8 l kn3 (⟨[],[]⟩:J2)).set kn3 (⟨name,value⟩:J2)).length) c4),(7,I 0)] (Jl (Ji 0 ?_)))))
 have hf7:Qm l name value=((Z8 l kn3 (⟨[],[]⟩:J2)).set kn3 (⟨name,value⟩:J2),0):=by
  (exfalso;omega)
 refine Jm [0,0] [Sl a4 (((Z8 l kn3 (⟨[],[]⟩:J2)).set kn3 (⟨name,value⟩:J2)).length) c4,I 0] (Jy [r7] (Jp.le_trans hl3 hl4) ?_)
 rw [hf7]
 try dsimp only
 exact ⟨a4,c4,r7,rfl,hr7,rfl⟩
 refine Jo (Jb (Je (Jc (Ja [0,0,0,0,0] [(45,Sl a3 l.length c3),(46,I ((JG l name).1)),(49,.agg #[Sr name,Sr value])] ?_))))
 obtain ⟨kn4,hkn4⟩:∃ k_:Nat,(JG l name).1=(k_:Int):=⟨((JG l name).1).toNat,by omega⟩
 have e7:(JG l name).1=(kn4:Int):=hkn4
 refine KI 46 (I (kn4:Int)) (congrArg I e7) ?_
 obtain ⟨_,hx4⟩:=We (l:=l) (k:=kn4) (by omega)
 obtain ⟨b6,o4,_,_,⟨rfl,_,_⟩,ha4,_,_⟩:=J0.ix hr5 hx4
 refine QI (b:=b6) (off:=o4) (len:=l.length) (cap:=c3) (ik:=.i64) 50 111 2 kn4 ha4 J7 (YV (b:=b6) (off:=o4) 0 hr5 kn4 (⟨name,value⟩:J2) ha4 J7 (.agg #[Sr name,Sr value]) [Sr name,Sr value] ⟨rfl,hw_name,hw_value⟩ (fun r8 hr8=>?_))
 have e8:l.length=(l.set kn4 (⟨name,value⟩:J2)).length:=(List.length_set ..).symm
 refine KI 11 (Sl a3 ((l.set kn4 (⟨name,value⟩:J2)).length) c3) (congrArg (Sl a3 · c3) e8) (Jd (Jb (Jf [0,0,0] [(6,Sl a3 ((l.set kn4 (⟨name,value⟩:J2)).length) c3),(7,I 0)] (Jl (Ji 0 ?_)))))
 have hf8:Qm l name value=(l.set kn4 (⟨name,value⟩:J2),0):=by
  (exfalso;omega)
 refine Jm [0,0] [Sl a3 ((l.set kn4 (⟨name,value⟩:J2)).length) c3,I 0] (Jy [r8] hl3 ?_)
 rw [hf8]
 try dsimp only
 exact ⟨a3,c3,r8,rfl,hr8,rfl⟩
def isB (b:UInt8):Bool:=b == 48 || b == 49
def Yr (c:Int):Bool:=decide (c=48) || decide (c=49)
theorem Jay (b:UInt8):Yr (b.toNat:Int)=isB b:=by
 have e1:((b.toNat:Int)=48) ↔ b=48:=⟨fun h=>UInt8.toNat_inj.1 (by have q:b.toNat=48:=(by omega);simpa using q),fun h=>by subst h;rfl⟩
 have e2:((b.toNat:Int)=49) ↔ b=49:=⟨fun h=>UInt8.toNat_inj.1 (by have q:b.toNat=49:=(by omega);simpa using q),fun h=>by subst h;rfl⟩
 unfold Yr isB;rw [Bool.eq_iff_iff];simp [e1,e2]
def VI (s:List UInt8):List UInt8:=s.dropWhile isB
def YE (s:List UInt8):List UInt8:=(s.reverse.dropWhile isB).reverse
def JaV (s:List UInt8):List UInt8:=VI (YE s)
theorem Jj6 {s:List UInt8} {y:UInt8} (h:s[0]? = some y) (hb:isB y=true):VI s=VI (s.drop 1):=by
 cases s with
 | nil=>cases h
 | cons x r=>simp at h;subst h;simp [VI,List.dropWhile_cons,hb]
theorem Jmh {s:List UInt8} {y:UInt8} (h:s[0]? = some y) (hb:isB y=false):VI s=s:=by
 cases s with
 | nil=>cases h
 | cons x r=>simp at h;subst h;simp [VI,List.dropWhile_cons,hb]
theorem Jld {s:List UInt8} {y:UInt8} (h:s[s.length-1]? = some y):s=s.take (s.length-1)++[y]:=by
 obtain ⟨hl,e⟩:=List.getElem?_eq_some_iff.1 h
 have:=List.take_append_drop (s.length-1) s
 rw [List.drop_eq_getElem_cons hl,e,List.drop_eq_nil_of_le (by omega)] at this
 exact this.symm
theorem Jj7 {s:List UInt8} {y:UInt8} (h:s[s.length-1]? = some y) (hb:isB y=true):YE s=YE (s.take (s.length-1)):=by
 have e:=Jld h
 generalize hr:s.take (s.length-1)=r at *
 rw [e];unfold YE;rw [List.reverse_append];simp [List.dropWhile_cons,hb]
theorem Jmi {s:List UInt8} {y:UInt8} (h:s[s.length-1]? = some y) (hb:isB y=false):YE s=s:=by
 have e:=Jld h
 generalize hr:s.take (s.length-1)=r at *
 rw [e];unfold YE;rw [List.reverse_append];simp [List.dropWhile_cons,hb]
theorem JnT {s:List UInt8} (h:((s.length:Nat):Int)≤0):s=[]:=List.eq_nil_of_length_eq_zero (by omega)
theorem Jmj {s:List UInt8} (h:((s.length:Nat):Int)≤0):VI s=s:=by rw [JnT h];rfl
theorem Jmk {s:List UInt8} (h:((s.length:Nat):Int)≤0):YE s=s:=by rw [JnT h];rfl
theorem JaE {p:UInt8→Bool}:∀ {s:List UInt8},s.dropWhile p=[] ↔ ∀ b∈s,p b=true
 | []=>by simp
 | x::r=>by
  rw [List.dropWhile_cons]
  split
  · rename_i h;rw [JaE];simp [h]
  · rename_i h;simp [h]
theorem JbF {p:UInt8→Bool}:∀ {s:List UInt8} {x:UInt8},(s.dropWhile p).head? = some x→p x=false
 | [],_,h=>by cases h
 | y::r,x,h=>by
  rw [List.dropWhile_cons] at h
  split at h
  · exact JbF h
  · rename_i hy;simp at h;subst h;simpa using hy
theorem JgQ {s:List UInt8}:JaV s=[] ↔ ∀ b∈s,isB b=true:=by
 unfold JaV VI
 rw [JaE]
 constructor
 ·
  intro h
  by_cases e:s.reverse.dropWhile isB=[]
  · rw [JaE] at e;simpa using e
  ·
   exfalso
   obtain ⟨x,hx⟩:∃ x,(s.reverse.dropWhile isB).head? = some x:=by
    cases hh:s.reverse.dropWhile isB with
    | nil=>exact absurd hh e
    | cons x r=>exact ⟨x,rfl⟩
   have h1:=JbF hx
   have h2:x∈YE s:=by unfold YE;rw [List.mem_reverse];exact List.mem_of_mem_head? hx
   rw [h x h2] at h1;cases h1
 ·
  intro h b hb
  unfold YE at hb
  rw [List.mem_reverse] at hb
  exact h b (List.mem_reverse.1 ((List.dropWhile_sublist _).subset hb))
theorem Jml (s:List UInt8):(YE s).length≤s.length:=by
 unfold YE;rw [List.length_reverse];have:=(List.dropWhile_sublist (p:=isB) (l:=s.reverse)).length_le;rw [List.length_reverse] at this;exact this
def JdS:List Value:=(List.range 256).map fun (j:Nat)=>Bo (Yr (j:Int))
theorem JnU {k:Nat} (hk:k<256):JdS[k]? = some (Bo (Yr (k:Int))):=by
 unfold JdS;simp [hk]
theorem asc_at {G:Jp} {b k:Nat} {cs:List Value} (hz:∀ j v,cs[j]? = some v→G b (0+j)=some v) (hc:cs=JdS) (hk:k<256):∀ j v,[Bo (Yr (k:Int))][j]? = some v→G b (0+k*1+j)=some v:=by
 intro j v hv
 cases j with
 | zero =>
  simp at hv;subst hv hc
  have:=hz k _ (JnU hk)
  rw [Nat.mul_one,Nat.add_zero];exact this
 | succ j=>simp at hv
set_option maxRecDepth 4000 in
theorem Jj8 (G:Jp):Vi Tryz.prog 236 #[Sr [48,49]] G [] (fun u G' L'=>u=.tuple #[.agg JdS.toArray,Bo true]):=by
 refine JN Tryz.func236 21 [(0,Sr ([48,49]))] rfl (fun w0 G0=>?_)
 refine Je (Jc (Jv 2 #[Bo false,Bo false,Bo false,Bo false,Bo false,Bo false,Bo false,Bo false,Bo false,Bo false,Bo false,Bo false,Bo false,Bo false,Bo false,Bo false,Bo false,Bo false,Bo false,Bo false,Bo false,Bo false,Bo false,Bo false,Bo false,Bo false,Bo false,Bo false,Bo false,Bo false,Bo false,Bo false,Bo false,Bo false,Bo false,Bo false,Bo false,Bo false,Bo false,Bo false,Bo false,Bo false,Bo false,Bo false,Bo false,Bo false,Bo false,Bo false,Bo false,Bo false,Bo false,Bo false,Bo false,Bo false,Bo false,Bo false,Bo false,Bo false,Bo false,Bo false,Bo false,Bo false,Bo false,Bo false,Bo false,Bo false,Bo false,Bo false,Bo false,Bo false,Bo false,Bo false,Bo false,Bo false,Bo false,Bo false,Bo false,Bo false,Bo false,Bo false,Bo false,Bo false,Bo false,Bo false,Bo false,Bo false,Bo false,Bo false,Bo false,Bo false,Bo false,Bo false,Bo false,Bo false,Bo false,Bo false,Bo false,Bo false,Bo false,Bo false,Bo false,Bo false,Bo false,Bo false,Bo false,Bo false,Bo false,Bo false,Bo false,Bo false,Bo false,Bo false,Bo false,Bo false,Bo false,Bo false,Bo false,Bo false,Bo false,Bo false,Bo false,Bo false,Bo false,Bo false,Bo false,Bo false,Bo false,Bo false,Bo false,Bo false,Bo false,Bo false,Bo false,Bo false,Bo false,Bo false,Bo false,Bo false,Bo false,Bo false,Bo false,Bo false,Bo false,Bo false,Bo false,Bo false,Bo false,Bo false,Bo false,Bo false,Bo false,Bo false,Bo false,Bo false,Bo false,Bo false,Bo false,Bo false,Bo false,Bo false,Bo false,Bo false,Bo false,Bo false,Bo false,Bo false,Bo false,Bo false,Bo false,Bo false,Bo false,Bo false,Bo false,Bo false,Bo false,Bo false,Bo false,Bo false,Bo false,Bo false,Bo false,Bo false,Bo false,Bo false,Bo false,Bo false,Bo false,Bo false,Bo false,Bo false,Bo false,Bo false,Bo false,Bo false,Bo false,Bo false,Bo false,Bo false,Bo false,Bo false,Bo false,Bo false,Bo false,Bo false,Bo false,Bo false,Bo false,Bo false,Bo false,Bo false,Bo false,Bo false,Bo false,Bo false,Bo false,Bo false,Bo false,Bo false,Bo false,Bo false,Bo false,Bo false,Bo false,Bo false,Bo false,Bo false,Bo false,Bo false,Bo false,Bo false,Bo false,Bo false,Bo false,Bo false,Bo false,Bo false,Bo false,Bo false,Bo false,Bo false,Bo false,Bo false,Bo false,Bo false,Bo false,Bo false,Bo false,Bo false,Bo false,Bo false,Bo false,Bo false,Bo false,Bo false,Bo false,Bo false] 316 (fun b1=>Ja [0] [] (Jd (Jb (Je (Jf [0] [(4,I 0)] (Jz (JdC 3 (Wq (Je (Jf [0,0,0,0] [(9,Bo true)] (JU (Jo (Jb (Je (Jz (Jf [0,0,0,0] [(5,Y 48)] (Je ?_)))))))))))))))))))
 refine Jf [0,0] [(16,Bo false)] (Qq (Jo (Jb (Jc (JV [0,0,3] [] [[Sg b1 0 [Bo false,Bo false,Bo false,Bo false,Bo false,Bo false,Bo false,Bo false,Bo false,Bo false,Bo false,Bo false,Bo false,Bo false,Bo false,Bo false,Bo false,Bo false,Bo false,Bo false,Bo false,Bo false,Bo false,Bo false,Bo false,Bo false,Bo false,Bo false,Bo false,Bo false,Bo false,Bo false,Bo false,Bo false,Bo false,Bo false,Bo false,Bo false,Bo false,Bo false,Bo false,Bo false,Bo false,Bo false,Bo false,Bo false,Bo false,Bo false,Bo true,Bo false,Bo false,Bo false,Bo false,Bo false,Bo false,Bo false,Bo false,Bo false,Bo false,Bo false,Bo false,Bo false,Bo false,Bo false,Bo false,Bo false,Bo false,Bo false,Bo false,Bo false,Bo false,Bo false,Bo false,Bo false,Bo false,Bo false,Bo false,Bo false,Bo false,Bo false,Bo false,Bo false,Bo false,Bo false,Bo false,Bo false,Bo false,Bo false,Bo false,Bo false,Bo false,Bo false,Bo false,Bo false,Bo false,Bo false,Bo false,Bo false,Bo false,Bo false,Bo false,Bo false,Bo false,Bo false,Bo false,Bo false,Bo false,Bo false,Bo false,Bo false,Bo false,Bo false,Bo false,Bo false,Bo false,Bo false,Bo false,Bo false,Bo false,Bo false,Bo false,Bo false,Bo false,Bo false,Bo false,Bo false,Bo false,Bo false,Bo false,Bo false,Bo false,Bo false,Bo false,Bo false,Bo false,Bo false,Bo false,Bo false,Bo false,Bo false,Bo false,Bo false,Bo false,Bo false,Bo false,Bo false,Bo false,Bo false,Bo false,Bo false,Bo false,Bo false,Bo false,Bo false,Bo false,Bo false,Bo false,Bo false,Bo false,Bo false,Bo false,Bo false,Bo false,Bo false,Bo false,Bo false,Bo false,Bo false,Bo false,Bo false,Bo false,Bo false,Bo false,Bo false,Bo false,Bo false,Bo false,Bo false,Bo false,Bo false,Bo false,Bo false,Bo false,Bo false,Bo false,Bo false,Bo false,Bo false,Bo false,Bo false,Bo false,Bo false,Bo false,Bo false,Bo false,Bo false,Bo false,Bo false,Bo false,Bo false,Bo false,Bo false,Bo false,Bo false,Bo false,Bo false,Bo false,Bo false,Bo false,Bo false,Bo false,Bo false,Bo false,Bo false,Bo false,Bo false,Bo false,Bo false,Bo false,Bo false,Bo false,Bo false,Bo false,Bo false,Bo false,Bo false,Bo false,Bo false,Bo false,Bo false,Bo false,Bo false,Bo false,Bo false,Bo false,Bo false,Bo false,Bo false,Bo false,Bo false,Bo false,Bo false,Bo false,Bo false,Bo false,Bo false,Bo false,Bo false,Bo false,Bo false,Bo false,Bo false,Bo false,Bo false,Bo false,Bo false]]] (Jd (JM (Jb (Jc (Ja [0,0,0] [(4,I 1)] (Jd (WG (Wq (Je (Jf [0,0,0,0] [(9,Bo true)] (JU (Jo (Jb (Je (Jz ?_))))))))))))))))))))
 refine Jf [0,0,0,0] [(5,Y 49)] (Je (Jf [0,0] [(16,Bo false)] (Qq (Jo (Jb (Jc (JV [0,0,3] [] [[Sg b1 0 JdS]] (Jd (JM (Jb (Jc (Ja [0,0,0] [(4,I 2)] (Jd (WG (Wq (Je (Jf [0,0,0,0] [(9,Bo false)] (Qq ?_))))))))))))))))))
 refine KW (JZ (JZ (JR (Jb (Jf [2,3,0] [(3,Bo true)] (Jl (Jm [0,0] [.agg JdS.toArray,Bo true] (Jw (Jp.le_refl _) ?_))))))))
 rfl
theorem Jfq (G:Jp) (b_as:Nat) (hz_as:∀ j v,(JdS:List Value)[j]? = some v→G b_as (0+j)=some v) (c:Int) (hw_c:0≤c∧c<256) :Q2 260 #[Pt b_as 0,Y c] G (Bo (Yr c)):=by
 refine JN Tryz.func260 10 [(0,Pt b_as 0),(1,Y c)] rfl (fun w0 G0=>?_)
 refine Jf [0] [] (Je (Jc (Ja [0,0,0] [(6,Y c),(7,Pt b_as 0)] ?_)))
 obtain ⟨kn1,hkn1⟩:∃ k_:Nat,c=(k_:Int):=⟨(c).toNat,by omega⟩
 have e1:c=(kn1:Int):=hkn1
 refine KI 6 (Y (kn1:Int)) (congrArg Y e1) (JlN (b:=b_as) (off:=0) (ik:=.u8) 8 4 1 256 kn1 J7 (JW (o':=0+kn1*1) 9 4 (cs:=[Bo (Yr (kn1:Int))]) 0 (Bo (Yr (kn1:Int))) (asc_at hz_as rfl J7) (Ja [0] [(4,Bo (Yr (kn1:Int)))] (Jd (Jb (Jl (Jm [0] [Bo (Yr (kn1:Int))] (Jw (Jp.le_refl _) (congrArg Bo (?_:(Yr c)=(Yr (kn1:Int))).symm)))))))))
 rw [hkn1]
theorem Jmm (G:Jp) (s:List UInt8) (hw_s:(s).length≤140737488351232) (b_as:Nat) (hz_as:∀ j v,(JdS:List Value)[j]? = some v→G b_as (0+j)=some v) :Q2 237 #[Sr s,Pt b_as 0] G (Sr (VI s)):=by
 refine JN Tryz.func237 16 [(0,Sr s),(1,Pt b_as 0)] rfl (fun w0 G0=>?_)
 refine Jf [0] [] (Je (Jz ?_))
 refine Qh (σ:=List UInt8) (fun q_=>(q_.length≤140737488351232)∧(VI s=VI q_)) (fun q_=>[(0,Sr q_),(1,Pt b_as 0)]) (fun q_=>G) (fun q_=>[]) (fun q_=>q_.length) s ⟨hw_s,rfl⟩ (fun q_ hs=>?_)
 revert hs;revert q_;intro t hs
 obtain ⟨ht,hn⟩:=hs
 dsimp only
 refine Je (Jf [0,0,0] [(7,Bo (decide (((t).length:Int) > 0)))] (Jk (decide (((t).length:Int) > 0)) (fun h1=>?_) (fun h1=>?_)))
 refine Jo (Jb (Jz (Je (Je (Jc (Ja [0,0] [(8,Pt b_as 0),(9,Sr t)] ?_))))))
 obtain ⟨y1,hy1⟩:=We (l:=t) (k:=0) (by omega)
 have hb_y1:=y1.toNat_lt
 refine JaP (ik:=.i64) 10 0 y1 hy1 (Jj 11 (Bo (Yr (y1.toNat:Int))) (Jfq G b_as hz_as (y1.toNat:Int) J7) (Ja [0] [(12,Bo (!(Yr (y1.toNat:Int))))] (Jd (Jb (Jk (!(Yr (y1.toNat:Int))) (fun h2=>?_) (fun h2=>?_))))))
 refine KW (JZ (YL rfl (J8 (JR (Jb (Jf [0,0] [(4,Sr t)] (Jl (Jm [0] [Sr t] (Jw (Jp.le_refl _) (congrArg Sr (?_:(VI s)=t).symm))))))))))
 rw [hn];exact Jmh hy1 (by simp_all [Jay])
 exact Jo (Jb (Jc (Ja [0] [(13,Sr t)] (JlO (l:=t) 14 (some (I 1)) none 1 0 (.inr ⟨_,rfl⟩) (.inl ⟨rfl,rfl⟩) J7 (Ja [0] [(0,Sr (t.drop 1))] (Jd (JM (Qr (t.drop 1) ⟨(by (try dsimp only);(try simp only [List.length_drop,List.length_take]);omega),(by (try dsimp only);rw [hn];exact Jj6 hy1 (by simp_all [Jay]))⟩ (by (try dsimp only);(try simp only [List.length_drop,List.length_take]);omega)))))))))
 refine KW (JZ (J8 (JR (Jb (Jf [0,0] [(4,Sr t)] (Jl (Jm [0] [Sr t] (Jw (Jp.le_refl _) (congrArg Sr (?_:(VI s)=t).symm)))))))))
 rw [hn];exact Jmj (by omega)
theorem Jmn (G:Jp) (s:List UInt8) (hw_s:(s).length≤140737488351232) (b_as:Nat) (hz_as:∀ j v,(JdS:List Value)[j]? = some v→G b_as (0+j)=some v) :Q2 238 #[Sr s,Pt b_as 0] G (Sr (YE s)):=by
 refine JN Tryz.func238 22 [(0,Sr s),(1,Pt b_as 0)] rfl (fun w0 G0=>?_)
 refine Jf [0] [] (Je (Jz ?_))
 refine Qh (σ:=List UInt8) (fun q_=>(q_.length≤140737488351232)∧(YE s=YE q_)) (fun q_=>[(0,Sr q_),(1,Pt b_as 0)]) (fun q_=>G) (fun q_=>[]) (fun q_=>q_.length) s ⟨hw_s,rfl⟩ (fun q_ hs=>?_)
 revert hs;revert q_;intro t hs
 obtain ⟨ht,hn⟩:=hs
 dsimp only
 refine Je (Jf [0,0,0] [(7,Bo (decide (((t).length:Int) > 0)))] (Jk (decide (((t).length:Int) > 0)) (fun h1=>?_) (fun h1=>?_)))
 refine Jo (Jb (Jz (Je (Je (Jc (Ja [0,0,0,0,0] [(8,Pt b_as 0),(9,Sr t),(12,I (IntKind.i64.wrap (((t).length:Int)-1)))] ?_))))))
 have e1:IntKind.i64.wrap (((t).length:Int)-1)=((t.length-1:Nat):Int):=(IntWalk.i64_in _ (by omega)).trans (show ((t).length:Int)-1=((t.length-1:Nat):Int) by omega)
 refine KI 12 (I ((t.length-1:Nat):Int)) (congrArg I e1) ?_
 clear e1
 obtain ⟨y1,hy1⟩:=We (l:=t) (k:=t.length-1) (by omega)
 have hb_y1:=y1.toNat_lt
 refine JaP (ik:=.i64) 13 (t.length-1) y1 hy1 (Jj 14 (Bo (Yr (y1.toNat:Int))) (Jfq G b_as hz_as (y1.toNat:Int) J7) (Ja [0] [(15,Bo (!(Yr (y1.toNat:Int))))] (Jd (Jb (Jk (!(Yr (y1.toNat:Int))) (fun h2=>?_) (fun h2=>?_))))))
 refine KW (JZ (YL rfl (J8 (JR (Jb (Jf [0,0] [(4,Sr t)] (Jl (Jm [0] [Sr t] (Jw (Jp.le_refl _) (congrArg Sr (?_:(YE s)=t).symm))))))))))
 rw [hn];exact Jmi hy1 (by simp_all [Jay])
 refine Jo (Jb (Jc (Ja [0,0,0,0] [(16,Sr t),(19,I (IntKind.i64.wrap (((t).length:Int)-1)))] ?_)))
 have e2:IntKind.i64.wrap (((t).length:Int)-1)=((t.length-1:Nat):Int):=(IntWalk.i64_in _ (by omega)).trans (show ((t).length:Int)-1=((t.length-1:Nat):Int) by omega)
 refine KI 19 (I ((t.length-1:Nat):Int)) (congrArg I e2) ?_
 clear e2
 exact JdH (l:=t) 20 none (some (I ((t.length-1:Nat):Int))) 0 (t.length-1) (.inl ⟨rfl,rfl⟩) (.inr ⟨_,rfl⟩) (Nat.zero_le _) J7 (Ja [0] [(0,Sr (t.take (t.length-1)))] (Jd (JM (Qr (t.take (t.length-1)) ⟨(by (try dsimp only);(try simp only [List.length_drop,List.length_take]);omega),(by (try dsimp only);rw [hn];exact Jj7 hy1 (by simp_all [Jay]))⟩ (by (try dsimp only);(try simp only [List.length_drop,List.length_take]);omega)))))
 refine KW (JZ (J8 (JR (Jb (Jf [0,0] [(4,Sr t)] (Jl (Jm [0] [Sr t] (Jw (Jp.le_refl _) (congrArg Sr (?_:(YE s)=t).symm)))))))))
 rw [hn];exact Jmk (by omega)
theorem Jmo (G:Jp) (s:List UInt8) (hw_s:(s).length≤140737488351232) :Q2 199 #[Sr s,Sr ([48,49])] G (Sr (JaV s)):=by
 refine JN Tryz.func199 43 [(0,Sr s),(1,Sr ([48,49]))] rfl (fun w0 G0=>?_)
 refine Jf [0] [] (Je (Je (Jc (Ja [0,0,0] [(9,Bo ((B s).toList == (B ([])).toList))] (KI 9 (Bo (s == [])) (show (Bo ((B s).toList == (B ([])).toList):Value)=Bo (s == []) by simp only [Qj]) (Kn (s == []) [9] [1,1,0] [0,0,0] (fun bb=>[(12,Bo (bb || false))]) (Jd (Jb (Jk ((s == []) || false) (fun h1=>?_) (fun h1=>?_))))))))))
 refine Jf [0,0] [(4,Sr s)] (Jl (Jh (Jm [0] [Sr s] (Jw (Jp.le_refl _) (congrArg Sr (?_:(JaV s)=s).symm)))))
 (simp_all;rfl)
 refine Jo (Jb (Je (Jf [0,0,0,0,1,1,1,0] [(21,Bo false)] (Qq (Jo (Jb (Je (Je (Jc (Ja [0] [(30,Sr ([48,49]))] (Jj 31 (.tuple #[.agg JdS.toArray,Bo true]) (Jj8 G) (Ja [0,0,0] [(32,.agg JdS.toArray),(33,Bo true)] (Jv 5 #[Bo false,Bo false,Bo false,Bo false,Bo false,Bo false,Bo false,Bo false,Bo false,Bo false,Bo false,Bo false,Bo false,Bo false,Bo false,Bo false,Bo false,Bo false,Bo false,Bo false,Bo false,Bo false,Bo false,Bo false,Bo false,Bo false,Bo false,Bo false,Bo false,Bo false,Bo false,Bo false,Bo false,Bo false,Bo false,Bo false,Bo false,Bo false,Bo false,Bo false,Bo false,Bo false,Bo false,Bo false,Bo false,Bo false,Bo false,Bo false,Bo false,Bo false,Bo false,Bo false,Bo false,Bo false,Bo false,Bo false,Bo false,Bo false,Bo false,Bo false,Bo false,Bo false,Bo false,Bo false,Bo false,Bo false,Bo false,Bo false,Bo false,Bo false,Bo false,Bo false,Bo false,Bo false,Bo false,Bo false,Bo false,Bo false,Bo false,Bo false,Bo false,Bo false,Bo false,Bo false,Bo false,Bo false,Bo false,Bo false,Bo false,Bo false,Bo false,Bo false,Bo false,Bo false,Bo false,Bo false,Bo false,Bo false,Bo false,Bo false,Bo false,Bo false,Bo false,Bo false,Bo false,Bo false,Bo false,Bo false,Bo false,Bo false,Bo false,Bo false,Bo false,Bo false,Bo false,Bo false,Bo false,Bo false,Bo false,Bo false,Bo false,Bo false,Bo false,Bo false,Bo false,Bo false,Bo false,Bo false,Bo false,Bo false,Bo false,Bo false,Bo false,Bo false,Bo false,Bo false,Bo false,Bo false,Bo false,Bo false,Bo false,Bo false,Bo false,Bo false,Bo false,Bo false,Bo false,Bo false,Bo false,Bo false,Bo false,Bo false,Bo false,Bo false,Bo false,Bo false,Bo false,Bo false,Bo false,Bo false,Bo false,Bo false,Bo false,Bo false,Bo false,Bo false,Bo false,Bo false,Bo false,Bo false,Bo false,Bo false,Bo false,Bo false,Bo false,Bo false,Bo false,Bo false,Bo false,Bo false,Bo false,Bo false,Bo false,Bo false,Bo false,Bo false,Bo false,Bo false,Bo false,Bo false,Bo false,Bo false,Bo false,Bo false,Bo false,Bo false,Bo false,Bo false,Bo false,Bo false,Bo false,Bo false,Bo false,Bo false,Bo false,Bo false,Bo false,Bo false,Bo false,Bo false,Bo false,Bo false,Bo false,Bo false,Bo false,Bo false,Bo false,Bo false,Bo false,Bo false,Bo false,Bo false,Bo false,Bo false,Bo false,Bo false,Bo false,Bo false,Bo false,Bo false,Bo false,Bo false,Bo false,Bo false,Bo false,Bo false,Bo false,Bo false,Bo false,Bo false,Bo false,Bo false,Bo false,Bo false,Bo false,Bo false,Bo false,Bo false,Bo false,Bo false,Bo false,Bo false,Bo false,Bo false,Bo false,Bo false] 316 (fun b1=>JV [3,0] [(6,Bo true)] [[Sg b1 0 JdS]] (Jd (Jb (Jf [0] [(34,Bo true)] (JU ?_))))))))))))))))))
 refine Je (Jc (Ja [0] [(35,Sr s)] (QV (b:=b1) (o:=0) (cs:=JdS) 0 (fun G1 hl1 hz1=>Jj 36 (Sr (YE s)) (Jmn G1 s ‹_› b1 hz1) (Jj 37 (Sr (VI (YE s))) (Jmm G1 (YE s) (Nat.le_trans (Jml s) hw_s) b1 hz1) (Ja [0] [(4,Sr (VI (YE s)))] (Jd (Jb (Jl (Jh (Jm [0] [Sr (VI (YE s))] (Jw hl1 (congrArg Sr (?_:(JaV s)=(VI (YE s))).symm)))))))))))))
 rfl
theorem Jj9 (G:Jp) (s:List UInt8) (q:List UInt8) :Q2 263 #[Sr s,Sr q] G (Bo (decide (q <+: s))):=by
 refine JN Tryz.func263 18 [(0,Sr s),(1,Sr q)] rfl (fun w0 G0=>?_)
 refine Jf [0] [] (Je (Jc (Ja [0,0,0,0,0,0] [(10,Bo (decide (((s).length:Int) ≥ ((q).length:Int))))] (Qu [10] (decide (((s).length:Int) ≥ ((q).length:Int))) (fun h1=>?_) (fun h1=>?_)))))
 refine Ja [0,0,0] [(11,Sr s),(13,I ((q).length:Int))] (JdH (l:=s) 14 none (some (I ((q).length:Int))) 0 ((q).length) (.inl ⟨rfl,rfl⟩) (.inr ⟨_,rfl⟩) (Nat.zero_le _) J7 (Ja [0,0,0,0] [(4,Bo ((B (s.take ((q).length))).toList == (B q).toList))] (KI 4 (Bo (s.take ((q).length) == q)) (show (Bo ((B (s.take ((q).length))).toList == (B q).toList):Value)=Bo (s.take ((q).length) == q) by simp only [Qj]) (Jd (Jb (Jl (Jm [0] [Bo (s.take ((q).length) == q)] (Jw (Jp.le_refl _) (congrArg Bo (?_:(decide (q <+: s))=(s.take ((q).length) == q)).symm)))))))))
 (rw [Bool.eq_iff_iff];simp only [decide_eq_true_eq,beq_iff_eq,List.prefix_iff_eq_take];exact eq_comm)
 refine Ja [1,1,1,1,1,1,0,0] [(4,Bo false)] (Jd (Jb (Jl (Jm [0] [Bo false] (Jw (Jp.le_refl _) (congrArg Bo (?_:(decide (q <+: s))=false).symm))))))
 (rw [decide_eq_false];intro hp_;have q_:=hp_.length_le;omega)
theorem Jf7 (G:Jp) (s:List UInt8) (q:List UInt8) :Q2 244 #[Sr s,Sr q] G (Bo (decide (q <+: s))):=by
 refine JN Tryz.func244 8 [(0,Sr s),(1,Sr q)] rfl (fun w0 G0=>?_)
 refine Jf [0] [] (Je (Jc (Ja [0,0] [(5,Sr s),(6,Sr q)] (Jj 7 (Bo (decide (q <+: s))) (Jj9 G s q) (Ja [0] [(4,Bo (decide (q <+: s)))] (Jd (Jb (Jl (Jm [0] [Bo (decide (q <+: s))] (Jw (Jp.le_refl _) (congrArg Bo (?_:(decide (q <+: s))=(decide (q <+: s))).symm)))))))))))
 rfl
theorem isB_bd {b:UInt8} (h:isB b=true):48≤b.toNat∧b.toNat≤49:=by
 unfold isB at h
 simp only [Bool.or_eq_true,beq_iff_eq] at h
 rcases h with rfl | rfl <;> decide
theorem Jka (name:List UInt8):∀ b∈YC name,isB b=true:=by
 intro b hb
 unfold YC at hb
 obtain ⟨n,hn,rfl⟩:=List.mem_map.1 hb
 have:n=48∨n=49:=by
  simp only [List.mem_cons,List.not_mem_nil,or_false] at hn
  have key:∀ k,JE (Jg name) k=48∨JE (Jg name) k=49:=fun k=>by unfold JE;omega
  rcases hn with rfl | rfl | rfl | rfl | rfl | rfl | rfl | rfl | rfl | rfl | rfl | rfl | rfl | rfl | rfl | rfl <;> exact key _
 rcases this with rfl | rfl <;> decide
theorem JdT {a:List UInt8} (h:(KD a).2=0):(KD a).1=YC a:=by
 unfold KD at h ⊢;split at h
 · cases h
 · rename_i h1;rw [if_neg h1]
def Jda (x:J2):List UInt8:=(Vf [x.name,x.value]).1
def KR (l:List J2):List UInt8:=if l.length=0 then [0] else [1]++(l.map Jda).flatten
theorem JnV (x:J2):(Jda x).length≤600:=Jb0 _
theorem JiH (l:List J2):((l.map Jda).flatten).length≤600*l.length:=by
 induction l with
 | nil=>simp
 | cons x l ih=>simp only [List.map_cons,List.flatten_cons,List.length_append,List.length_cons];have:=JnV x;omega
theorem Jbb {l:List J2} (h:l.length≤24):(KR l).length≤14401:=by
 unfold KR;split
 · simp
 · rw [List.length_append];have:=JiH l;simp only [List.length_cons,List.length_nil];omega
theorem Jmp {l:List J2} {i:Nat} {x:J2} (h:l[i]? = some x):([1]++((l.take i).map Jda).flatten)++(Vf [x.name,x.value]).1=[1]++((l.take (i+1)).map Jda).flatten:=by rw [List.take_add_one,h];simp [Jda]
def entZ:J2:=⟨[],[]⟩
def Jkb (l:List J2):J2:=l[0]?.getD entZ
def JnW (l:List J2):J2:=l[l.length-1]?.getD entZ
theorem JcG {l:List J2} {x:J2} (h:l[0]? = some x):x=Jkb l:=by unfold Jkb;rw [h];rfl
theorem JdU {l:List J2} {x:J2} (h:l[l.length-1]? = some x):x=JnW l:=by unfold JnW;rw [h];rfl
def J9 (l:List J2):List UInt8×Int:=if Kj l ≠ 0 then ([],Kj l) else if 0<(l.length:Int)∧¬ way (Jkb l).name=way (JnW l).name then ([],3) else (KR l,0)
theorem ZL (l:List J2):(J9 l).1.length≤14401:=by
 unfold J9;split
 · simp
 split
 · simp
 · rename_i h _;exact Jbb (K6.1 (Decidable.not_not.1 h)).len
theorem JhA:J9 []=([0],0):=by decide +kernel
def Jak (x:J2) (w:List UInt8):Bool:=!(way x.name == w)
def Jbc (m:Int):Bool:=decide (m ≥ 2305843009213693951)
def QK (p:Qy):Int:=if KN p.name=false then 3 else if Kj p.entries ≠ 0 then Kj p.entries else if ((p.entries.any fun x0=>Jak x0 (way p.name))=true∨¬ (p.sides.length:Int)=16)∨(p.sides.any fun x0=>Jbc x0)=true then 3 else 0
def Jfr:List UInt8:=(J9 []).1
def Jfs (a b:Int):List UInt8:=if a=Jg Jfr∧b=Jg Jfr then Jfr else KZ 2 a b
def Va (w:List UInt8) (i:Nat) (s:List UInt8) (side:Int):List UInt8:=if w[15-i]? = some 49 then Jfs side (Jg s) else Jfs (Jg s) side
def Jal (w:List UInt8):Nat→List UInt8→List Int→List (List UInt8)
 | _,s,[]=>[s]
 | i,s,q::qs=>s::Jal w (i+1) (Va w i s q) qs
theorem Zf (w:List UInt8):∀ (qs:List Int) (i:Nat) (s:List UInt8),(Jal w i s qs).length=qs.length+1
 | [],_,_=>rfl
 | q::qs,i,s=>by show (Jal w (i+1) _ qs).length+1=_;rw [Zf w qs];rfl
theorem Jkc (w:List UInt8) (qs:List Int) (i:Nat) (s:List UInt8):(Jal w i s qs)[0]? = some s:=by cases qs <;> rfl
theorem Jkd (w:List UInt8) (qs:List Int) (i:Nat) (s:List UInt8):[s]=(Jal w i s qs).take 1:=by cases qs <;> rfl
theorem Jb2 (w:List UInt8):∀ (qs:List Int) (i k:Nat) (s a:List UInt8) (q:Int),(Jal w i s qs)[k]? = some a→qs[k]? = some q→(Jal w i s qs)[k+1]? = some (Va w (i+k) a q)
 | [],_,_,_,_,_,_,h=>by simp at h
 | q::qs,i,0,s,a,q',h1,h2=>by
  have h1:some s=some a:=h1
  have h2:some q=some q':=h2
  rw [← Option.some.inj h1,← Option.some.inj h2]
  exact Jkc w qs (i+1) _
 | q::qs,i,k+1,s,a,q',h1,h2=>by
  have:=Jb2 w qs (i+1) k (Va w i s q) a q' h1 h2
  rw [show i+(k+1)=i+1+k by omega];exact this
theorem Vb {w:List UInt8} {qs:List Int} {s0 s:List UInt8} {xo:List (List UInt8)} {i:Nat} {q:Int} (ho:xo=(Jal w 0 s0 qs).take (i+1)) (hs:(Jal w 0 s0 qs)[i]? = some s) (hq:qs[i]? = some q):xo++[Va w i s q]=(Jal w 0 s0 qs).take (i+1+1)∧(Jal w 0 s0 qs)[i+1]? = some (Va w i s q):=by
 have:=Jb2 w qs 0 i s0 s q hs hq
 rw [Nat.zero_add] at this
 refine ⟨?_,this⟩
 rw [ho]
 conv=>rhs;rw [List.take_add_one,this]
 rfl
def JX (p:Qy):List (List UInt8)×Int:=if QK p ≠ 0 then ([],QK p) else (Jal (way p.name) 0 (J9 p.entries).1 p.sides,0)
theorem Jam {name:List UInt8} (h:KN name=true):(way name).length=16:=by unfold way KD;rw [if_neg (by rw [h];simp)];exact VT name
structure Jdb (p:Qy):Prop where
 name:KN p.name=true
 ents:Zn p.entries
 ways:∀ x∈p.entries,way x.name=way p.name
 sides:p.sides.length=16
 marks:∀ m∈p.sides,m<2305843009213693951
theorem Q4 {p:Qy}:QK p=0 ↔ Jdb p:=by
 unfold QK
 constructor
 ·
  intro h
  split at h
  · cases h
  split at h
  · contradiction
  split at h
  · cases h
  ·
   rename_i h1 h2 h3
   refine ⟨by simpa using h1,K6.1 (Decidable.not_not.1 h2),fun x hx=>?_,?_,fun m hm=>?_⟩
   ·
    apply Classical.byContradiction;intro hc
    exact h3 (.inl (.inl (List.any_eq_true.2 ⟨x,hx,by unfold Jak;simpa using hc⟩)))
   ·
    apply Classical.byContradiction;intro hc
    exact h3 (.inl (.inr (by omega)))
   ·
    apply Classical.byContradiction;intro hc
    exact h3 (.inr (List.any_eq_true.2 ⟨m,hm,by unfold Jbc;simp;omega⟩))
 ·
  rintro ⟨h1,h2,h3,h4,h5⟩
  rw [if_neg (by rw [h1];simp),if_neg (by have:=K6.2 h2;omega),if_neg]
  rintro ((hc | hc) | hc)
  ·
   obtain ⟨x,hx,e⟩:=List.any_eq_true.1 hc
   unfold Jak at e;simp at e
   exact e (h3 x hx)
  · omega
  ·
   obtain ⟨m,hm,e⟩:=List.any_eq_true.1 hc
   have:=h5 m hm
   unfold Jbc at e;simp at e;omega
theorem JeR {a b:Int} (h:(if b > a then b else a)=Jg (J9 []).1∧a=b):Jfs a b=(J9 []).1:=by
 unfold Jfs Jfr;obtain ⟨h1,rfl⟩:=h;rw [if_pos];split at h1 <;> exact ⟨h1,h1⟩
theorem JeS {a b:Int} (h:¬ (if b > a then b else a)=Jg (J9 []).1∨¬ a=b):Jfs a b=KZ 2 a b:=by
 unfold Jfs Jfr;rw [if_neg];rintro ⟨rfl,h2⟩
 rcases h with h | h
 · exact h (by split <;> omega)
 · exact h h2.symm
theorem JeT {w s:List UInt8} {i k:Nat} {q:Int} {y:UInt8} (h:15-i=k) (hy:w[k]? = some y) (e:(y.toNat:Int)=49):Va w i s q=Jfs q (Jg s):=by
 have:y=49:=Jpe.1 e
 unfold Va;rw [h,hy,this,if_pos rfl]
theorem JeU {w s:List UInt8} {i k:Nat} {q:Int} {y:UInt8} (h:15-i=k) (hy:w[k]? = some y) (e:¬ (y.toNat:Int)=49):Va w i s q=Jfs (Jg s) q:=by
 unfold Va;rw [h,hy,if_neg]
 intro hc;apply e;rw [Option.some.inj hc];rfl
theorem VV (G:Jp) (a_l:Option Addr) (c_l:Nat) (l:List J2) (h_l:RS QA G a_l c_l l) (h24:l.length≤24):Q2 181 #[Sl a_l l.length c_l] G (Sr (KR l)):=by
 refine JN Tryz.func181 35 [(0,Sl a_l l.length c_l)] rfl (fun w0 G0=>?_)
 refine Jf [0] [] (Je (Jf [0,0,0] [(10,Bo (decide ((l.length:Int)=0)))] (Jk (decide ((l.length:Int)=0)) (fun h1=>?_) (fun h1=>?_))))
 refine Je (Jc (Kq 11 1 #[Y 0] 5 (fun b1=>JaQ (b:=b1) (off:=0) (len:=1) (cap:=1) (cs:=List.map (Value.int .u8) [0]) 12 0 [0] rfl (V0 (ns:=[0]) rfl) (Ja [0] [(2,Sr (([0]:List Int).map fun n=>UInt8.ofNat n.toNat))] (Jd (Jb (Jl (Jh (Jm [0] [Sr (([0]:List Int).map fun n=>UInt8.ofNat n.toNat)] (Jw (Jp.le_refl _) (congrArg Sr (?_:(KR l)=(([0]:List Int).map fun n=>UInt8.ofNat n.toNat)).symm)))))))))))
 unfold KR;(rw [if_pos (by omega)];rfl)
 refine Jo (Jb (Je (Jc (Kq 13 1 #[Y 1] 5 (fun b2=>JaQ (b:=b2) (off:=0) (len:=1) (cap:=1) (cs:=List.map (Value.int .u8) [1]) 14 0 [1] rfl (V0 (ns:=[1]) rfl) (Ja [0] [(3,Sr (([1]:List Int).map fun n=>UInt8.ofNat n.toNat))] (Jd (Jb (Je (Jf [0,0,0] [(15,Sl a_l l.length c_l),(16,I (l.length:Int)),(17,I 0)] (Jz ?_)))))))))))
 have hlm_h_l:l.length≤9223372036854775807:=Nat.le_trans (h_l).le (h_l).max
 refine Qh (σ:=Nat×List UInt8×Jp) (fun q_=>(Jp.le G q_.2.2)∧(q_.1≤l.length)∧(q_.2.1=[1]++((l.take q_.1).map Jda).flatten)) (fun q_=>[(3,Sr q_.2.1),(15,Sl a_l l.length c_l),(16,I (l.length:Int)),(17,I (q_.1:Int))]) (fun q_=>q_.2.2) (fun q_=>[[Sg b2 0 [Y 1]]]) (fun q_=>l.length-q_.1) (0,([1]:List Int).map fun n=>UInt8.ofNat n.toNat,G) ⟨(Jp.le_refl _),(by (try dsimp only);exact Nat.zero_le _),(by (try dsimp only);simp)⟩ (fun q_ hs=>?_)
 obtain ⟨i,o,g⟩:=q_
 obtain ⟨hle,hi,ho⟩:=hs
 dsimp only at hle hi ho
 dsimp only
 refine Jf [0] [(18,Bo (decide ((i:Int)<(l.length:Int))))] (Je (Jk (decide ((i:Int)<(l.length:Int))) (fun h2=>?_) (fun h2=>?_)))
 refine Jo (Jb (Je (Jz (Je (Jc ?_)))))
 obtain ⟨b3,o1,rfl⟩:=RS.addr (h_l.mono hle) (k:=i) (by omega)
 obtain ⟨x1,hx1⟩:=We (l:=l) (k:=i) (by omega)
 obtain ⟨_,⟨rfl,w1,w2⟩,hc1⟩:=RS.get (h_l.mono hle) hx1
 refine J3 (b:=b3) (off:=o1) (len:=l.length) (cap:=c_l) (ik:=.i64) 19 111 2 i J7 (JW 20 111 (cs:=[Sr x1.name,Sr x1.value]) 0 (.agg #[Sr x1.name,Sr x1.value]) hc1 (Jv 5 #[Sr ([]),Sr ([])] 111 (fun b4=>JV [3] [] [[Sg b4 0 [Sr x1.name,Sr x1.value]],[Sg b2 0 [Y 1]]] (Jd (Jb (Je (Jc (Ja [0,2,0,2] [(23,Sr x1.name),(25,Sr x1.value)] (Kq 26 2 #[Sr x1.name,Sr x1.value] 9 (fun b5=>QV (b:=b5) (o:=0) (cs:=[Sr x1.name,Sr x1.value]) 0 (fun G1 hl1 hz1=>?_)))))))))))
 have hs1:RS ES G1 (At b5 0) 2 [x1.name,x1.value]:=RS.lit [[Sr x1.name],[Sr x1.value]] [x1.name,x1.value] ⟨⟨rfl,w1⟩,⟨⟨rfl,w2⟩,trivial⟩⟩ hz1 (Nat.le_of_ble_eq_true rfl) (Nat.le_of_ble_eq_true rfl)
 exact Jj 27 (.tuple #[Sr ((Vf ([x1.name,x1.value])).1),I ((Vf ([x1.name,x1.value])).2)]) (Jir G1 (At b5 0) 2 ([x1.name,x1.value]) hs1) (Ja [0,0,0,0,0] [(6,Sr ((Vf ([x1.name,x1.value])).1))] (Jd (Jb (Jc (Ja [0,0] [(30,Sr o),(31,Sr ((Vf ([x1.name,x1.value])).1))] (ZF 32 o ((Vf ([x1.name,x1.value])).1) (by have q_:=congrArg List.length ho;have q1_:=JiH (l.take i);have q2_:=Jb0 [x1.name,x1.value];rw [List.length_take] at q1_;simp only [List.length_append,List.length_cons,List.length_nil] at q_;omega) (Ja [0] [(3,Sr (o++((Vf ([x1.name,x1.value])).1)))] (Jd (JM (Jb (Jc (Ja [0,0] [(17,I (IntKind.i64.wrap ((i:Int)+1)))] (Kw 17 ((i:Int)+1) J7 (Jd (QT [[Sg b2 0 [Y 1]]] (Qr (i+1,o++((Vf ([x1.name,x1.value])).1),G1) ⟨(Jp.le_trans hle hl1),J7,(by (try dsimp only);rw [ho];exact Jmp hx1)⟩ (by (try dsimp only);omega)))))))))))))))))
 refine KW (JZ (J8 (JR (Jb (Jf [0,0] [(2,Sr o)] (Jl (Jm [0] [Sr o] (Jw hle (congrArg Sr (?_:(KR l)=o).symm)))))))))
 unfold KR;(rw [if_neg (by omega),ho,List.take_of_length_le (by omega)])
theorem Jdc (G:Jp) (a_l:Option Addr) (c_l:Nat) (l:List J2) (h_l:RS QA G a_l c_l l) :Q2 126 #[Sl a_l l.length c_l] G (.tuple #[Sr ((J9 l).1),I ((J9 l).2)]):=by
 refine JN Tryz.func126 31 [(0,Sl a_l l.length c_l)] rfl (fun w0 G0=>?_)
 refine Jf [0,0] [] (Je (Je (Jc (Ja [0] [(5,Sl a_l l.length c_l)] (Jj 6 (I (Kj l)) (YW G a_l c_l l h_l) (Ja [0] [(4,I (Kj l))] (Jd (Jb (Jf [0,0] [(8,Bo (!decide (Kj l=0)))] (Jk (!decide (Kj l=0)) (fun h1=>?_) (fun h1=>?_)))))))))))
 refine Jf [0,0,0] [(2,Sr ([])),(3,I (Kj l))] (Jl (Jh (Jm [0,0] [Sr ([]),I (Kj l)] (Jw (Jp.le_refl _) ?_))))
 have hf_:(J9 l)=([],(Kj l)):=by
  unfold J9;(rw [if_pos ‹_›];done)
 · (try rw [hf_]);(simp only [Ql];done)
 refine Jo (Jb (Je (Je ?_)))
 rcases Bool.eq_false_or_eq_true (decide ((l.length:Int) > 0)) with h2 | h2
 have h2d:=h2
 try simp only [BB] at h2d
 obtain ⟨b1,o1,rfl⟩:=RS.addr h_l (k:=0) (by omega)
 obtain ⟨x1,hx1⟩:=We (l:=l) (k:=0) (by omega)
 obtain ⟨_,⟨rfl,w1,_⟩,hc1⟩:=RS.get h_l hx1
 have e1:IntKind.i64.wrap ((l.length:Int)-1)=((l.length-1:Nat):Int):=(IntWalk.i64_in _ (by (have q_:=(K6.1 ‹_›).len;omega))).trans (show (l.length:Int)-1=((l.length-1:Nat):Int) by omega)
 obtain ⟨x2,hx2⟩:=We (l:=l) (k:=l.length-1) (by omega)
 obtain ⟨_,⟨rfl,w3,_⟩,hc2⟩:=RS.get h_l hx2
 refine Ko [] (Wm [(0,Sl (At b1 o1) l.length c_l),(1,I (l.length:Int)),(2,Bo true),(3,Bo true),(4,Sl (At b1 o1) l.length c_l),(5,Pt b1 (o1+0*2)),(6,Pt b1 (o1+0*2)),(7,Sr x1.name),(8,Sr (way x1.name)),(9,Sl (At b1 o1) l.length c_l),(10,Sl (At b1 o1) l.length c_l),(11,I (l.length:Int)),(12,I ((l.length-1:Nat):Int)),(13,Pt b1 (o1+(l.length-1)*2)),(14,Pt b1 (o1+(l.length-1)*2)),(15,Sr x2.name),(16,Sr (way x2.name)),(17,Bo (!((B (way x1.name)).toList == (B (way x2.name)).toList))),(18,Bo (!((B (way x1.name)).toList == (B (way x2.name)).toList)))] (Km [] [(0,0),(1,0),(3,0),(4,0),(6,0),(9,0),(10,0),(11,0),(14,0),(17,0),(18,0)] [2,5,7,8,12,13,15,16] [(0,Sl (At b1 o1) l.length c_l),(28,Bo (!((B (way x1.name)).toList == (B (way x2.name)).toList)))] (Ke ?_ (Ke ?_ (Ke ?_ (Ke ?_ (Ke ?_ (Ke ?_ (Ke ?_ (Ke ?_ K4)))))))) ?_))
 refine Jr 2 12 (Bo true) [(11,I (l.length:Int))] (fun X=>?_)
 exact K5 12 (Bo (decide ((l.length:Int) > 0))) (Bo true) (by rw [h2]) Jn
 refine Jr 5 15 (Pt b1 (o1+0*2)) [(13,Bo true),(14,Sl (At b1 o1) l.length c_l)] (fun X=>?_)
 exact J3 (b:=b1) (off:=o1) (len:=l.length) (cap:=c_l) (ik:=.i64) 15 111 2 0 J7 Jn
 refine Jr 7 17 (Sr x1.name) [(13,Bo true),(16,Pt b1 (o1+0*2))] (fun X=>?_)
 exact JW 17 9 (cs:=[Sr x1.name,Sr x1.value]) 0 (Sr x1.name) hc1 Jn
 refine Jr 8 18 (Sr (way x1.name)) [(13,Bo true),(17,Sr x1.name)] (fun X=>?_)
 exact Jj 18 (Sr (way x1.name)) (Jc8 G x1.name w1) Jn
 refine Jr 12 22 (I ((l.length-1:Nat):Int)) [(13,Bo true),(21,I (l.length:Int))] (fun X=>?_)
 exact K5 22 (I (IntKind.i64.wrap ((l.length:Int)-1))) (I ((l.length-1:Nat):Int)) (by simp only [e1]) Jn
 refine Jr 13 23 (Pt b1 (o1+(l.length-1)*2)) [(13,Bo true),(19,Sl (At b1 o1) l.length c_l),(22,I ((l.length-1:Nat):Int))] (fun X=>?_)
 exact J3 (b:=b1) (off:=o1) (len:=l.length) (cap:=c_l) (ik:=.i64) 23 111 2 (l.length-1) J7 Jn
 refine Jr 15 25 (Sr x2.name) [(13,Bo true),(24,Pt b1 (o1+(l.length-1)*2))] (fun X=>?_)
 exact JW 25 9 (cs:=[Sr x2.name,Sr x2.value]) 0 (Sr x2.name) hc2 Jn
 refine Jr 16 26 (Sr (way x2.name)) [(13,Bo true),(25,Sr x2.name)] (fun X=>?_)
 exact Jj 26 (Sr (way x2.name)) (Jc8 G x2.name w3) Jn
 refine Jcx 28 (Bo (!(way x1.name == way x2.name))) (show (Bo (!((B (way x1.name)).toList == (B (way x2.name)).toList)):Value)=Bo (!(way x1.name == way x2.name)) by simp only [Qj]) (Jb (Jk (!(way x1.name == way x2.name)) (fun h3=>?_) (fun h3=>?_)))
 refine Jf [0,0] [(2,Sr ([])),(3,I 3)] (Jl (Jh (Jm [0,0] [Sr ([]),I 3] (Jw (Jp.le_refl _) ?_))))
 have hf_:(J9 l)=([],3):=by
  unfold J9;(have hf_:=JcG hx1;(have hl_:=JdU hx2;subst hf_;subst hl_;rw [if_neg (by omega)];(rw [if_pos (by simp_all)];done)))
 · (try rw [hf_]);(simp only [Ql];done)
 refine Jo (Jb (Je (Jc (Ja [0] [(29,Sl (At b1 o1) l.length c_l)] (Jj 30 (Sr (KR l)) (VV G (At b1 o1) c_l l h_l (by exact (K6.1 ‹_›).len)) (Ja [0,0] [(2,Sr (KR l)),(3,I 0)] (Jd (Jb (Jl (Jm [0,0] [Sr (KR l),I 0] (Jw (Jp.le_refl _) ?_)))))))))))
 have hf_:(J9 l)=(KR l,0):=by
  unfold J9;(have hf_:=JcG hx1;(have hl_:=JdU hx2;subst hf_;subst hl_;rw [if_neg (by omega)];(rw [if_neg (by simp_all)];done)))
 · (try rw [hf_]);(simp only [Ql];done)
 have h2d:=h2
 try simp only [BB] at h2d
 refine Ko [] (Wm [(0,Sl a_l l.length c_l),(1,I (l.length:Int)),(2,Bo false),(3,Bo false),(4,undef),(5,undef),(6,undef),(7,undef),(8,undef),(9,undef),(10,undef),(11,undef),(12,undef),(13,undef),(14,undef),(15,undef),(16,undef),(17,undef),(18,Bo false)] (Km [] [(0,0),(1,0),(3,0),(4,1),(5,1),(6,1),(7,1),(8,1),(9,1),(10,1),(11,1),(12,1),(13,1),(14,1),(15,1),(16,1),(17,1),(18,0)] [2] [(0,Sl a_l l.length c_l),(28,Bo false)] (Ke ?_ K4) ?_))
 refine Jr 2 12 (Bo false) [(11,I (l.length:Int))] (fun X=>?_)
 exact K5 12 (Bo (decide ((l.length:Int) > 0))) (Bo false) (by rw [h2]) Jn
 refine Jb (Qq (Jo (Jb (Je (Jc (Ja [0] [(29,Sl a_l l.length c_l)] (Jj 30 (Sr (KR l)) (VV G a_l c_l l h_l (by exact (K6.1 ‹_›).len)) (Ja [0,0] [(2,Sr (KR l)),(3,I 0)] (Jd (Jb (Jl (Jm [0,0] [Sr (KR l),I 0] (Jw (Jp.le_refl _) ?_)))))))))))))
 have hf_:(J9 l)=(KR l,0):=by
  unfold J9;(rw [if_neg (by omega),if_neg (by intro hc_;omega)];done)
 · (try rw [hf_]);(simp only [Ql];done)
theorem Jdd (G:Jp) (name:List UInt8) (hw_name:(name).length≤140737488351232) :Q2 127 #[Sr name] G (Sr (way name)):=by
 refine JN Tryz.func127 11 [(0,Sr name)] rfl (fun w0 G0=>?_)
 refine Jf [0] [] (Je (Jc (Ja [0] [(6,Sr name)] (Jj 7 (.tuple #[Sr ((KD name).1),I ((KD name).2)]) (JcE G name hw_name) (Ja [0,0,0,0,0] [(3,Sr ((KD name).1))] (Jd (Jb (Jf [0,0] [(2,Sr ((KD name).1))] (Jl (Jm [0] [Sr ((KD name).1)] (Jw (Jp.le_refl _) (congrArg Sr (?_:(way name)=((KD name).1)).symm))))))))))))
 rfl
theorem Jke (G:Jp) (vs_x:List Value) (x:J2) (h_x:QA.R G vs_x x) (vs_w:List Value) (w:(List UInt8)) (h_w:ES.R G vs_w w) (b_w:Nat) (hz_w:∀ j v,(vs_w:List Value)[j]? = some v→G b_w (0+j)=some v) :Q2 178 #[.agg vs_x.toArray,Pt b_w 0] G (Bo (Jak x w)):=by
 obtain ⟨rfl,w1,_⟩:=h_x
 obtain ⟨rfl,_⟩:=h_w
 refine JN Tryz.func178 9 [(0,.agg #[Sr x.name,Sr x.value]),(1,Pt b_w 0)] rfl (fun w0 G0=>?_)
 refine Je (Jc (Jv 2 #[Sr x.name,Sr x.value] 111 (fun b1=>Ja [0] [] (Jd (Jb (Je (Ko [] (Wm [(0,Pt b1 0),(1,Sr x.name),(2,Sr (way x.name)),(3,Sr w),(4,Bo (!((B (way x.name)).toList == (B w).toList))),(5,Bo (!((B (way x.name)).toList == (B w).toList)))] (Km [] [(0,0),(1,2),(4,0),(5,0)] [2,3] [(3,Bo (!((B (way x.name)).toList == (B w).toList)))] (Ke ?_ (Ke ?_ K4)) ?_)))))))))
 refine Jr 2 6 (Sr (way x.name)) [(5,Sr x.name)] (fun X=>?_)
 exact Jj 6 (Sr (way x.name)) (Jdd G x.name w1) Jn
 refine Jr 3 7 (Sr w) [(1,Pt b_w 0)] (fun X=>?_)
 exact JW (o':=0) 7 9 (cs:=[Sr w]) 0 (Sr w) hz_w Jn
 refine Jcx 3 (Bo (!(way x.name == w))) (show (Bo (!((B (way x.name)).toList == (B w).toList)):Value)=Bo (!(way x.name == w)) by simp only [Qj]) (Jb (Jl (Jm [0] [Bo (!(way x.name == w))] (Jw (Jp.le_refl _) (congrArg Bo (?_:(Jak x w)=(!(way x.name == w))).symm)))))
 rfl
theorem Jkf (G:Jp) (m:Int) :Q2 180 #[U m] G (Bo (Jbc m)):=by
 refine JN Tryz.func180 5 [(0,U m)] rfl (fun w0 G0=>?_)
 refine Jf [0] [] (Jf [0,0,0] [(2,Bo (decide (m ≥ 2305843009213693951)))] (Jl (Jm [0] [Bo (decide (m ≥ 2305843009213693951))] (Jw (Jp.le_refl _) (congrArg Bo (?_:(Jbc m)=(decide (m ≥ 2305843009213693951))).symm)))))
 rfl
theorem Jft (G:Jp) (vs_p:List Value) (p:Qy) (h_p:JcC.R G vs_p p) :Q2 125 #[.agg vs_p.toArray] G (I (QK p)):=by
 obtain ⟨a1,c1,a2,c2,rfl,w1,hs1,hs2⟩:=h_p
 refine JN Tryz.func125 33 [(0,(Yq p a1 c1 a2 c2))] rfl (fun w0 G0=>?_)
 refine Je (Jc (Jv 1 #[Sr p.name,Sl a1 p.entries.length c1,Sl a2 p.sides.length c2] 47 (fun b1=>Ja [0] [] (Jd (Jb (Je (Je (Jc (Ja [0,2] [(6,Sr p.name)] (Jj 7 (Bo (KN p.name)) (ZJ G p.name) (Ja [0] [(8,Bo (!(KN p.name)))] (Jd (Jb (Jk (!(KN p.name)) (fun h1=>?_) (fun h1=>?_)))))))))))))))
 refine Jf [0] [(2,I 3)] (Jl (Jh (Jm [0] [I 3] (Jw (Jp.le_refl _) (congrArg I (?_:(QK p)=3).symm)))))
 · unfold QK;(rw [if_pos ‹_›];done)
 refine Jo (Jb (Je (Je (Jc (Ja [0,2] [(10,Sl a1 p.entries.length c1)] (Jj 11 (I (Kj p.entries)) (YW G a1 c1 p.entries hs1) (Ja [0] [(3,I (Kj p.entries))] (Jd (Jb (Jf [0,0] [(13,Bo (!decide (Kj p.entries=0)))] (Jk (!decide (Kj p.entries=0)) (fun h2=>?_) (fun h2=>?_))))))))))))
 refine Jf [0,0] [(2,I (Kj p.entries))] (Jl (Jh (Jm [0] [I (Kj p.entries)] (Jw (Jp.le_refl _) (congrArg I (?_:(QK p)=(Kj p.entries)).symm)))))
 · unfold QK;(rw [if_neg (by simp_all),if_pos ‹_›];done)
 refine Jo (Jb (Je (Jc (Ja [0,2] [(16,Sr p.name)] (Jj 17 (Sr (way p.name)) (Jdd G p.name w1) (Jv 4 #[Sr ([])] 9 (fun b2=>JV [3] [] [[Sg b2 0 [Sr (way p.name)]],[Sg b1 0 (Yy p a1 c1 a2 c2)]] (Jd (Jb (Je (Je (Jc (Ja [0,4,0] [(19,Sl a1 p.entries.length c1),(20,Fv 178 #[Pt b2 0])] (QV (b:=b2) (o:=0) (cs:=[Sr (way p.name)]) 0 (fun G1 hl1 hz1=>Jj 21 (Bo (p.entries.any (fun x0=>Jak x0 (way p.name)))) (Jl9 G1 a1 c1 p.entries (hs1.mono hl1) 178 #[Pt b2 0] (fun x0=>Jak x0 (way p.name)) (fun _ _=>by kernel_rfl) (fun vs0 x0 hx0=>by obtain ⟨rfl,w2,w3⟩:=hx0;exact Jke G1 [Sr x0.name,Sr x0.value] x0 (⟨rfl,w2,w3⟩) [Sr (way p.name)] (way p.name) (⟨rfl,(Nat.le_trans (Jpj p.name) (by decide))⟩) b2 hz1)) (Ja [0] [(22,Bo (p.entries.any (fun x0=>Jak x0 (way p.name))))] (Kn (p.entries.any (fun x0=>Jak x0 (way p.name))) [22] [1,1,1,1,0] [0,4,0,0,0] (fun bb=>[(27,Bo (bb || (!decide ((p.sides.length:Int)=16))))]) (Ja [0] [(28,Bo ((p.entries.any (fun x0=>Jak x0 (way p.name))) || (!decide ((p.sides.length:Int)=16))))] ?_))))))))))))))))))
 refine Qu [28] ((p.entries.any (fun x0=>Jak x0 (way p.name))) || (!decide ((p.sides.length:Int)=16))) (fun h3=>?_) (fun h3=>?_)
 refine Ja [1,1,1,0] [(32,Bo true)] (Jd (Jb (JU (Jf [0] [(2,I 3)] (Jl (Jh (Jm [0] [I 3] (Jw hl1 (congrArg I (?_:(QK p)=3).symm)))))))))
 · unfold QK;(rw [if_neg (by simp_all),if_neg (by omega)];(rw [if_pos (by simp_all)];done))
 refine Ja [0,4] [(30,Sl a2 p.sides.length c2)] (Jj 31 (Bo (p.sides.any (fun x0=>Jbc x0))) (Jpi G1 a2 c2 p.sides (hs2.mono hl1) 180 #[] (fun x0=>Jbc x0) (fun _ _=>by kernel_rfl) (fun x0 hx0=>Jkf G1 x0)) (Ja [0] [(32,Bo (p.sides.any (fun x0=>Jbc x0)))] (Jd (Jb (Jk (p.sides.any (fun x0=>Jbc x0)) (fun h4=>?_) (fun h4=>?_))))))
 refine Jf [0] [(2,I 3)] (Jl (Jh (Jm [0] [I 3] (Jw hl1 (congrArg I (?_:(QK p)=3).symm)))))
 · unfold QK;(rw [if_neg (by simp_all),if_neg (by omega)];(rw [if_pos (by simp_all)];done))
 refine Jo (Jb (Jf [0] [(2,I 0)] (Jl (Jm [0] [I 0] (Jw hl1 (congrArg I (?_:(QK p)=0).symm))))))
 · unfold QK;(rw [if_neg (by simp_all),if_neg (by omega)];(rw [if_neg (by simp_all)];done))
set_option maxRecDepth 20000 in
theorem JaF (G:Jp) (vs_p:List Value) (p:Qy) (h_p:JcC.R G vs_p p) :Yi 73 #[.agg vs_p.toArray] G [] (fun u G' L'=>∃ (a1:Option Addr) (c2:Nat),u=.tuple #[Sl a1 (((JX p).1).length) c2,I ((JX p).2)]∧(RS ES G' a1 c2 ((JX p).1))∧L'=[]):=by
 obtain ⟨a1,c1,a2,c2,rfl,w1,hs1,hs2⟩:=h_p
 refine JN Tryz.func73 74 [(0,(Yq p a1 c1 a2 c2))] rfl (fun w0 G0=>?_)
 refine Je (Jc (Jv 1 #[Sr p.name,Sl a1 p.entries.length c1,Sl a2 p.sides.length c2] 47 (fun b1=>Ja [0,0] [] (Jd (Jb (Je (Je (Jc (Ja [2] [(15,(Yq p a1 c1 a2 c2))] (Jj 16 (I (QK p)) (Jft G (Yy p a1 c1 a2 c2) p (⟨a1,c1,a2,c2,rfl,w1,hs1,hs2⟩)) (Ja [0] [(4,I (QK p))] (Jd (Jb (Jf [0,0] [(18,Bo (!decide (QK p=0)))] (Jk (!decide (QK p=0)) (fun h1=>?_) (fun h1=>?_))))))))))))))))
 refine Jf [0,0,0] [(2,Sl none 0 0),(3,I (QK p))] (Jl (Jh ?_))
 have hf1:JX p=([],QK p):=by
  unfold JX;(simp_all;done)
 refine Jm [0,0] [Sl none 0 0,I (QK p)] (Jy [] (Jp.le_refl _) ?_)
 rw [hf1]
 try dsimp only
 exact ⟨none,0,rfl,(RS.nil' ES G),rfl⟩
 refine Jo (Jb (Je (Jc (Jj 21 (.tuple #[Sr ((J9 ([])).1),I ((J9 ([])).2)]) (Jdc G none 0 ([]) (RS.nil' QA G)) (Ja [0,0,0,0,0] [(5,Sr ((J9 ([])).1))] (Jd (Jb (Je (Jc (Ja [0,2] [(26,Sl a1 p.entries.length c1)] (Jj 27 (.tuple #[Sr ((J9 p.entries).1),I ((J9 p.entries).2)]) (Jdc G a1 c1 p.entries hs1) (Ja [0,0,0,0,0] [(7,Sr ((J9 p.entries).1))] (Jd (Jb (Je (Jc (Ja [0] [(30,Sr ((J9 p.entries).1))] (Kq 31 1 #[Sr ((J9 p.entries).1)] 9 (fun b2=>Ja [0] [(9,Sl (At b2 0) 1 1)] (Jd (Jb (Je (Jc (Ja [0,4] [(33,Sr p.name)] (Jj 34 (Sr (way p.name)) (Jdd G p.name w1) ?_)))))))))))))))))))))))))
 refine Ja [0] [(10,Sr (way p.name))] (Jd (Jb (Je (Jf [0,4,0,0] [(36,Sl a2 p.sides.length c2),(37,I (p.sides.length:Int)),(38,I 0)] (Jz ?_)))))
 have hlm_hs2:p.sides.length≤9223372036854775807:=Nat.le_trans (hs2).le (hs2).max
 refine Qh (σ:=Nat×List UInt8×Option Addr×Nat×List Kg×List (List UInt8)×Jp) (fun q_=>(Jp.le G q_.2.2.2.2.2.2)∧(q_.1≤p.sides.length)∧(q_.2.1.length≤14401)∧(J0 ES q_.2.2.2.2.2.2 q_.2.2.1 q_.2.2.2.1 q_.2.2.2.2.2.1 q_.2.2.2.2.1)∧(q_.2.2.2.2.2.1=(Jal (way p.name) 0 (J9 p.entries).1 p.sides).take (q_.1+1))∧((Jal (way p.name) 0 (J9 p.entries).1 p.sides)[q_.1]? = some q_.2.1)) (fun q_=>[(5,Sr ((J9 ([])).1)),(7,Sr q_.2.1),(9,Sl q_.2.2.1 q_.2.2.2.2.2.1.length q_.2.2.2.1),(10,Sr (way p.name)),(36,Sl a2 p.sides.length c2),(37,I (p.sides.length:Int)),(38,I (q_.1:Int))]) (fun q_=>q_.2.2.2.2.2.2) (fun q_=>[q_.2.2.2.2.1,[Sg b1 0 (Yy p a1 c1 a2 c2)]]) (fun q_=>p.sides.length-q_.1) (0,(J9 p.entries).1,At b2 0,1,[Sg b2 0 [Sr ((J9 p.entries).1)]],[(J9 p.entries).1],G) ⟨(Jp.le_refl _),(by (try dsimp only);exact Nat.zero_le _),(ZL _),(J0.of_lit [[Sr ((J9 p.entries).1)]] [(J9 p.entries).1] ⟨⟨rfl,(Nat.le_trans (ZL _) (by decide))⟩,trivial⟩ (by simp)),(Jkd _ _ _ _),(Jkc _ _ _ _)⟩ (fun q_ hs=>?_)
 obtain ⟨i,s,ao,co,ro,xo,g⟩:=q_
 obtain ⟨hle,hi,hs,hro,hxo,hs_⟩:=hs
 dsimp only at hle hi hs hro hxo hs_
 dsimp only
 refine Jf [0] [(39,Bo (decide ((i:Int)<(p.sides.length:Int))))] (Je (Jk (decide ((i:Int)<(p.sides.length:Int))) (fun h2=>?_) (fun h2=>?_)))
 refine Jo (Jb (Je (Jz (Je (Jc (Ja [0] [(40,I (i:Int))] ?_))))))
 obtain ⟨b3,o1,rfl⟩:=RS.addr (hs2.mono hle) (k:=i) (by omega)
 obtain ⟨x1,hx1⟩:=We (l:=p.sides) (k:=i) (by omega)
 obtain ⟨_,⟨rfl,_⟩,hc1⟩:=RS.get (hs2.mono hle) hx1
 refine J3 (b:=b3) (off:=o1) (len:=p.sides.length) (cap:=c2) (ik:=.i64) 41 41 1 i J7 (JW 42 41 (cs:=[U x1]) 0 (U x1) hc1 (Ja [0,0] [(11,I (i:Int)),(12,U x1)] (Jd (Jb (Je (Jc (Ja [0] [(43,Sr s)] (Jj 44 (U (Jg s)) (WX s (Vx J7) g) (Ja [0,0,0] [(13,U (Jg s)),(14,U x1)] (Jd (Jb (Je (Je (Jc (Ja [0,0,0] [(46,Sr (way p.name)),(48,I (IntKind.i64.wrap (15-(i:Int))))] (Kw 48 (15-(i:Int)) J7 ?_))))))))))))))))
 obtain ⟨kn1,hkn1⟩:∃ k_:Nat,15-(i:Int)=(k_:Int):=⟨(15-(i:Int)).toNat,by (have q_:=Q4.1 ‹_›;have q1_:=Jam q_.name;have q2_:=q_.sides;omega)⟩
 have e1:15-(i:Int)=(kn1:Int):=hkn1
 refine KI 48 (I (kn1:Int)) (congrArg I e1) ?_
 obtain ⟨y1,hy1⟩:=We (l:=way p.name) (k:=kn1) (by (have q_:=Q4.1 ‹_›;have q1_:=Jam q_.name;have q2_:=q_.sides;omega))
 have hb_y1:=y1.toNat_lt
 refine JaP (ik:=.i64) 49 kn1 y1 hy1 (Ja [0] [(50,Bo (decide ((y1.toNat:Int)=49)))] (Jd (Jb (Jk (decide ((y1.toNat:Int)=49)) (fun h3=>?_) (fun h3=>?_)))))
 refine Jc (Ja [0,0,0,0] [(13,U x1),(14,U (Jg s))] (Jd (Jb (Je (Jf [0,0] [(7,Sr ((J9 ([])).1))] (Je (Jc (Ja [0,0,0,0] [(56,U (if (Jg s) > x1 then (Jg s) else x1)),(57,Sr ((J9 ([])).1))] (Jj 58 (U (Jg ((J9 ([])).1))) (WX ((J9 ([])).1) (Vx (Nat.le_trans (ZL _) (by decide))) g) (Ja [0,0] [(60,Bo (!decide ((if (Jg s) > x1 then (Jg s) else x1)=Jg ((J9 ([])).1))))] (Kn (!decide ((if (Jg s) > x1 then (Jg s) else x1)=Jg ((J9 ([])).1))) [60] [1,1,1,0] [0,0,0,0] (fun bb=>[(64,Bo (bb || (!decide (x1=Jg s))))]) (Jd (Jb (Jk ((!decide ((if (Jg s) > x1 then (Jg s) else x1)=Jg ((J9 ([])).1))) || (!decide (x1=Jg s))) (fun h4=>?_) (fun h4=>?_)))))))))))))))
 refine Jc (Ja [0,0] [(65,U x1),(66,U (Jg s))] (Jj 67 (Sr (KZ 2 x1 (Jg s))) (Ja7 2 x1 (Jg s) g) (Ja [0] [(7,Sr (KZ 2 x1 (Jg s)))] (Jd (Jb (Jc (Ja [0,0] [(68,Sl ao xo.length co),(69,Sr (KZ 2 x1 (Jg s)))] (Kq 70 1 #[Sr (KZ 2 x1 (Jg s))] 9 (fun b4=>Qv (b:=b4) (cs:=[Sr (KZ 2 x1 (Jg s))]) 71 9 1 0 (E:=ES) (KZ 2 x1 (Jg s)) hro ⟨rfl,(by rw [W3];decide)⟩ (by have q_:=Q4.1 ‹_›;have q1_:=Jam q_.name;have q2_:=q_.sides;have q3_:=congrArg List.length hxo;have q4_:=Zf (way p.name) p.sides 0 (J9 p.entries).1;rw [List.length_take] at q3_;(try simp only [ES,List.length_append,List.length_cons,List.length_nil] at *);omega) (by have q_:=Q4.1 ‹_›;have q1_:=Jam q_.name;have q2_:=q_.sides;have q3_:=congrArg List.length hxo;have q4_:=Zf (way p.name) p.sides 0 (J9 p.entries).1;rw [List.length_take] at q3_;(try simp only [ES,List.length_append,List.length_cons,List.length_nil] at *);omega) (fun a3 c3 r1 hr1=>Ja [0] [(9,Sl a3 ((xo++[KZ 2 x1 (Jg s)]).length) c3)] (Jd (JM (Jb (Jc (Ja [0,0] [(38,I (IntKind.i64.wrap ((i:Int)+1)))] (Kw 38 ((i:Int)+1) J7 (Jd ?_)))))))))))))))))
 exact QT [r1,[Sg b1 0 (Yy p a1 c1 (At b3 o1) c2)]] (Qr (i+1,KZ 2 x1 (Jg s),a3,c3,r1,xo++[KZ 2 x1 (Jg s)],g) ⟨(Jp.le_trans hle (Jp.le_refl _)),J7,(by have q0_:=W3;(rw [q0_];decide)),hr1,(by (try dsimp only);have q0_:=Vb hxo hs_ hx1;have q1_:Va (way p.name) i s x1=KZ 2 x1 (Jg s):=(by (rw [JeT J7 hy1 ‹_›]);exact JeS ‹_›);rw [q1_] at q0_;exact q0_.1),(by (try dsimp only);have q0_:=Vb hxo hs_ hx1;have q1_:Va (way p.name) i s x1=KZ 2 x1 (Jg s):=(by (rw [JeT J7 hy1 ‹_›]);exact JeS ‹_›);rw [q1_] at q0_;exact q0_.2)⟩ (by (try dsimp only);omega))
 exact Jo (Jb (Jc (Ja [0,0] [(68,Sl ao xo.length co),(69,Sr ((J9 ([])).1))] (Kq 70 1 #[Sr ((J9 ([])).1)] 9 (fun b5=>Qv (b:=b5) (cs:=[Sr ((J9 ([])).1)]) 71 9 1 0 (E:=ES) ((J9 ([])).1) hro ⟨rfl,(Nat.le_trans (ZL _) (by decide))⟩ (by have q_:=Q4.1 ‹_›;have q1_:=Jam q_.name;have q2_:=q_.sides;have q3_:=congrArg List.length hxo;have q4_:=Zf (way p.name) p.sides 0 (J9 p.entries).1;rw [List.length_take] at q3_;(try simp only [ES,List.length_append,List.length_cons,List.length_nil] at *);omega) (by have q_:=Q4.1 ‹_›;have q1_:=Jam q_.name;have q2_:=q_.sides;have q3_:=congrArg List.length hxo;have q4_:=Zf (way p.name) p.sides 0 (J9 p.entries).1;rw [List.length_take] at q3_;(try simp only [ES,List.length_append,List.length_cons,List.length_nil] at *);omega) (fun a4 c4 r2 hr2=>Ja [0] [(9,Sl a4 ((xo++[(J9 ([])).1]).length) c4)] (Jd (JM (Jb (Jc (Ja [0,0] [(38,I (IntKind.i64.wrap ((i:Int)+1)))] (Kw 38 ((i:Int)+1) J7 (Jd (QT [r2,[Sg b1 0 (Yy p a1 c1 (At b3 o1) c2)]] (Qr (i+1,(J9 ([])).1,a4,c4,r2,xo++[(J9 ([])).1],g) ⟨(Jp.le_trans hle (Jp.le_refl _)),J7,(by have q0_:=W3;exact ZL _),hr2,(by (try dsimp only);have q0_:=Vb hxo hs_ hx1;have q1_:Va (way p.name) i s x1=(J9 ([])).1:=(by (rw [JeT J7 hy1 ‹_›]);exact JeR ‹_›);rw [q1_] at q0_;exact q0_.1),(by (try dsimp only);have q0_:=Vb hxo hs_ hx1;have q1_:Va (way p.name) i s x1=(J9 ([])).1:=(by (rw [JeT J7 hy1 ‹_›]);exact JeR ‹_›);rw [q1_] at q0_;exact q0_.2)⟩ (by (try dsimp only);omega))))))))))))))))
 refine Jo (Jb (Je (Jf [0,0] [(7,Sr ((J9 ([])).1))] (Je (Jc (Ja [0,0,0,0] [(56,U (if x1 > (Jg s) then x1 else (Jg s))),(57,Sr ((J9 ([])).1))] (Jj 58 (U (Jg ((J9 ([])).1))) (WX ((J9 ([])).1) (Vx (Nat.le_trans (ZL _) (by decide))) g) (Ja [0,0] [(60,Bo (!decide ((if x1 > (Jg s) then x1 else (Jg s))=Jg ((J9 ([])).1))))] (Kn (!decide ((if x1 > (Jg s) then x1 else (Jg s))=Jg ((J9 ([])).1))) [60] [1,1,1,0] [0,0,0,0] (fun bb=>[(64,Bo (bb || (!decide (Jg s=x1))))]) (Jd (Jb (Jk ((!decide ((if x1 > (Jg s) then x1 else (Jg s))=Jg ((J9 ([])).1))) || (!decide (Jg s=x1))) (fun h5=>?_) (fun h5=>?_)))))))))))))
 refine Jc (Ja [0,0] [(65,U (Jg s)),(66,U x1)] (Jj 67 (Sr (KZ 2 (Jg s) x1)) (Ja7 2 (Jg s) x1 g) (Ja [0] [(7,Sr (KZ 2 (Jg s) x1))] (Jd (Jb (Jc (Ja [0,0] [(68,Sl ao xo.length co),(69,Sr (KZ 2 (Jg s) x1))] (Kq 70 1 #[Sr (KZ 2 (Jg s) x1)] 9 (fun b6=>Qv (b:=b6) (cs:=[Sr (KZ 2 (Jg s) x1)]) 71 9 1 0 (E:=ES) (KZ 2 (Jg s) x1) hro ⟨rfl,(by rw [W3];decide)⟩ (by have q_:=Q4.1 ‹_›;have q1_:=Jam q_.name;have q2_:=q_.sides;have q3_:=congrArg List.length hxo;have q4_:=Zf (way p.name) p.sides 0 (J9 p.entries).1;rw [List.length_take] at q3_;(try simp only [ES,List.length_append,List.length_cons,List.length_nil] at *);omega) (by have q_:=Q4.1 ‹_›;have q1_:=Jam q_.name;have q2_:=q_.sides;have q3_:=congrArg List.length hxo;have q4_:=Zf (way p.name) p.sides 0 (J9 p.entries).1;rw [List.length_take] at q3_;(try simp only [ES,List.length_append,List.length_cons,List.length_nil] at *);omega) (fun a5 c5 r3 hr3=>Ja [0] [(9,Sl a5 ((xo++[KZ 2 (Jg s) x1]).length) c5)] (Jd (JM (Jb (Jc (Ja [0,0] [(38,I (IntKind.i64.wrap ((i:Int)+1)))] (Kw 38 ((i:Int)+1) J7 (Jd ?_)))))))))))))))))
 exact QT [r3,[Sg b1 0 (Yy p a1 c1 (At b3 o1) c2)]] (Qr (i+1,KZ 2 (Jg s) x1,a5,c5,r3,xo++[KZ 2 (Jg s) x1],g) ⟨(Jp.le_trans hle (Jp.le_refl _)),J7,(by have q0_:=W3;(rw [q0_];decide)),hr3,(by (try dsimp only);have q0_:=Vb hxo hs_ hx1;have q1_:Va (way p.name) i s x1=KZ 2 (Jg s) x1:=(by (rw [JeU J7 hy1 ‹_›]);exact JeS ‹_›);rw [q1_] at q0_;exact q0_.1),(by (try dsimp only);have q0_:=Vb hxo hs_ hx1;have q1_:Va (way p.name) i s x1=KZ 2 (Jg s) x1:=(by (rw [JeU J7 hy1 ‹_›]);exact JeS ‹_›);rw [q1_] at q0_;exact q0_.2)⟩ (by (try dsimp only);omega))
 exact Jo (Jb (Jc (Ja [0,0] [(68,Sl ao xo.length co),(69,Sr ((J9 ([])).1))] (Kq 70 1 #[Sr ((J9 ([])).1)] 9 (fun b7=>Qv (b:=b7) (cs:=[Sr ((J9 ([])).1)]) 71 9 1 0 (E:=ES) ((J9 ([])).1) hro ⟨rfl,(Nat.le_trans (ZL _) (by decide))⟩ (by have q_:=Q4.1 ‹_›;have q1_:=Jam q_.name;have q2_:=q_.sides;have q3_:=congrArg List.length hxo;have q4_:=Zf (way p.name) p.sides 0 (J9 p.entries).1;rw [List.length_take] at q3_;(try simp only [ES,List.length_append,List.length_cons,List.length_nil] at *);omega) (by have q_:=Q4.1 ‹_›;have q1_:=Jam q_.name;have q2_:=q_.sides;have q3_:=congrArg List.length hxo;have q4_:=Zf (way p.name) p.sides 0 (J9 p.entries).1;rw [List.length_take] at q3_;(try simp only [ES,List.length_append,List.length_cons,List.length_nil] at *);omega) (fun a6 c6 r4 hr4=>Ja [0] [(9,Sl a6 ((xo++[(J9 ([])).1]).length) c6)] (Jd (JM (Jb (Jc (Ja [0,0] [(38,I (IntKind.i64.wrap ((i:Int)+1)))] (Kw 38 ((i:Int)+1) J7 (Jd (QT [r4,[Sg b1 0 (Yy p a1 c1 (At b3 o1) c2)]] (Qr (i+1,(J9 ([])).1,a6,c6,r4,xo++[(J9 ([])).1],g) ⟨(Jp.le_trans hle (Jp.le_refl _)),J7,(by have q0_:=W3;exact ZL _),hr4,(by (try dsimp only);have q0_:=Vb hxo hs_ hx1;have q1_:Va (way p.name) i s x1=(J9 ([])).1:=(by (rw [JeU J7 hy1 ‹_›]);exact JeR ‹_›);rw [q1_] at q0_;exact q0_.1),(by (try dsimp only);have q0_:=Vb hxo hs_ hx1;have q1_:Va (way p.name) i s x1=(J9 ([])).1:=(by (rw [JeU J7 hy1 ‹_›]);exact JeR ‹_›);rw [q1_] at q0_;exact q0_.2)⟩ (by (try dsimp only);omega))))))))))))))))
 refine KW (JZ (J8 (JR (Jb (Jf [0,0,0] [(2,Sl ao xo.length co),(3,I 0)] (Jl (WA (E:=ES) 0 hro (by have q_:=Q4.1 ‹_›;have q1_:=Jam q_.name;have q2_:=q_.sides;have q3_:=congrArg List.length hxo;have q4_:=Zf (way p.name) p.sides 0 (J9 p.entries).1;rw [List.length_take] at q3_;(try simp only [ES,List.length_append,List.length_cons,List.length_nil] at *);omega) (fun G1 hl1 hs3=>?_))))))))
 have hf2:JX p=(xo,0):=by
  unfold JX;(rw [if_neg (by omega),hxo,List.take_of_length_le (by rw [Zf];omega)])
 refine Jm [0,0] [Sl ao xo.length co,I 0] (Jy [] (Jp.le_trans hle hl1) ?_)
 rw [hf2]
 try dsimp only
 exact ⟨ao,co,rfl,hs3,rfl⟩
theorem Jmq {l xo:List J2} {p:J2→Bool} {i j:Nat} {x:J2} (h1:xo.take i=(l.take j).filter (fun y=>!p y)) (hx:l[j]? = some x) (hp:p x=true):xo.take i=(l.take (j+1)).filter (fun y=>!p y):=by
 rw [List.take_add_one,hx,List.filter_append,← h1];simp [hp]
theorem JnX {l xo:List J2} {p:J2→Bool} {i j:Nat} {x:J2} (h1:xo.take i=(l.take j).filter (fun y=>!p y)) (hx:l[j]? = some x) (hp:p x=false) (hi:i<xo.length):(xo.set i x).take (i+1)=(l.take (j+1)).filter (fun y=>!p y):=by
 have e:l.take (j+1)=l.take j++[x]:=by rw [List.take_add_one,hx];rfl
 rw [e,List.filter_append,← h1,List.take_add_one,List.getElem?_set_self hi,List.take_set_of_le (Nat.le_refl _)];simp [hp]
theorem JnY {l xo:List J2} {i j:Nat} {x:J2} (h:xo.drop j=l.drop j) (hij:i<j):(xo.set i x).drop (j+1)=l.drop (j+1):=by
 rw [List.drop_set_of_lt (by omega),← List.drop_drop,h,List.drop_drop]
theorem Jmr {l xo:List J2} {j:Nat} (h:xo.drop j=l.drop j):xo.drop (j+1)=l.drop (j+1):=by
 rw [← List.drop_drop,h,List.drop_drop]
theorem JiI {l xo:List J2} {j:Nat} {x:J2} (h:xo.drop j=l.drop j) (hx:xo[j]? = some x):l[j]? = some x:=by
 have:=congrArg (fun z=>z[0]?) h
 simp only [List.getElem?_drop,Nat.add_zero] at this
 rw [← this];exact hx
theorem Jms {l:List J2} {p:J2→Bool} {k:Nat} (h:QR p l=(k:Int)):l.take k=(l.take (k+1)).filter (fun y=>!p y):=by
 unfold QR at h
 cases hh:l.findIdx? p with
 | none=>rw [hh] at h;simp at h
 | some m =>
  rw [hh] at h
  have:m=k:=by simp at h;omega
  subst this
  rw [List.findIdx?_eq_some_iff_getElem] at hh
  obtain ⟨h1,h2,h3⟩:=hh
  rw [List.take_add_one,List.getElem?_eq_getElem h1,List.filter_append]
  have e1:(l.take m).filter (fun y=>!p y)=l.take m:=by
   rw [List.filter_eq_self]
   intro y hy
   obtain ⟨n,hn⟩:=List.getElem?_of_mem hy
   rw [List.getElem?_take] at hn
   split at hn
   ·
    rename_i hlt
    have:=h3 n hlt
    obtain ⟨hn',e⟩:=List.getElem?_eq_some_iff.1 hn
    rw [e] at this;simpa using this
   · cases hn
  rw [e1];simp [h2]
theorem JnZ {l:List J2} {p:J2→Bool} (h:QR p l=-1):l=l.filter (fun y=>!p y):=by
 unfold QR at h
 cases hh:l.findIdx? p with
 | some m=>rw [hh] at h;simp at h
 | none =>
  rw [List.findIdx?_eq_none_iff] at hh
  symm
  rw [List.filter_eq_self]
  intro y hy;simpa using hh y hy
theorem Jpn (p:J2→Bool) (l:List J2):-1≤QR p l∧QR p l≤l.length∧(0≤QR p l→QR p l<l.length):=by
 by_cases h:QR p l<0
 ·
  refine ⟨?_,by omega,by omega⟩
  unfold QR;split <;> omega
 ·
  obtain ⟨k,hk⟩:∃ k:Nat,QR p l=k:=⟨_,(Int.toNat_of_nonneg (by omega)).symm⟩
  obtain ⟨x,hx,_⟩:=Jho hk
  have:=(List.getElem?_eq_some_iff.1 hx).1
  omega
def JcH (x:J2) (q:List UInt8):Bool:=!decide (q <+: way x.name)
def Kz (l:List J2) (q:List UInt8):List J2:=l.filter fun x=>!JcH x q
theorem YN (l:List J2) (q:List UInt8):(Kz l q).length≤l.length:=List.length_filter_le ..
def Jde:Int:=Jg (KR [])
def atG:Nat→List J2→List UInt8→Int
 | 0,l,_=>Jg (KR l)
 | n+1,l,q=>if l.length=0 then Jg (KR l) else if atG n (Kz l (q++[48])) (q++[48])=Jde∧atG n (Kz l (q++[49])) (q++[49])=Jde then Jde else Jg (KZ 2 (atG n (Kz l (q++[48])) (q++[48])) (atG n (Kz l (q++[49])) (q++[49])))
def QP (l:List J2) (q:List UInt8):Int:=atG (16-q.length) l q
theorem JiJ {l:List J2} {q:List UInt8} (h:(l.length:Int)=0∨(q.length:Int)=16):QP l q=Jg (KR l):=by
 unfold QP
 rcases h with h | h
 ·
  cases hn:16-q.length with
  | zero=>rfl
  | succ n=>rw [atG,if_pos (by omega)]
 · rw [show 16-q.length=0 by omega];rfl
theorem Jen {l:List J2} {q:List UInt8} (h1:¬ (l.length:Int)=0) (h2:q.length<16):QP l q=if QP (Kz l (q++[48])) (q++[48])=Jde∧QP (Kz l (q++[49])) (q++[49])=Jde then Jde else Jg (KZ 2 (QP (Kz l (q++[48])) (q++[48])) (QP (Kz l (q++[49])) (q++[49]))):=by
 have e:16-q.length=(16-(q++[48]).length)+1:=by simp;omega
 have e2:16-(q++[49]).length=16-(q++[48]).length:=by simp
 conv=>lhs;unfold QP;rw [e,atG,if_neg (by omega)]
 unfold QP;rw [e2]
theorem Jmt (l:List J2) (q:List UInt8):0≤QP l q∧QP l q<18446744073709551616:=by
 unfold QP
 generalize 16-q.length=n
 cases n with
 | zero=>exact (by have:=Qo (KR l);unfold atG;omega)
 | succ n =>
  rw [atG]
  have h1:=Qo (KR l);have h2:=Qo (KR []);have h3:=fun a b=>Qo (KZ 2 a b)
  split
  · omega
  split
  · unfold Jde;omega
  · have:=h3 (atG n (Kz l (q++[48])) (q++[48])) (atG n (Kz l (q++[49])) (q++[49]));omega
def JT (l:List J2) (q:List UInt8):Int×Int:=if ¬ Kj l=0 then (0,Kj l) else if (q.length:Int) > 16∨¬ JaV q=[] then (0,3) else (QP (Kz l q) q,0)
theorem Y4 (l:List J2) (q:List UInt8):0≤(JT l q).1∧(JT l q).1<18446744073709551616:=by
 unfold JT;split
 · simp
 split
 · simp
 · exact Jmt _ _
set_option maxRecDepth 4000 in
theorem Jkg (G:Jp) (a:Option Addr) (c:Nat) (l:List J2) (r:List Kg) (hr:J0 QA G a c l r) (hsm:l.length≤1000) (k_f:FuncId) (caps_f:Array Value) (p_f:J2→Bool) (hk_f:JaS Tryz.prog k_f) (h_f:∀ (vs0:List Value) (x0:J2) (hx0:QA.R G vs0 x0),Vi Tryz.prog k_f (#[.agg vs0.toArray]++caps_f) G [] (fun u _ _=>u=Bo (p_f x0))):Jha Tryz.prog 242 #[Sl a l.length c,.func (.func k_f) #[] caps_f] G [r] (fun u G' L'=>∃ a' c' r',u=Sl a' (l.filter fun y=>!p_f y).length c'∧J0 QA G' a' c' (l.filter fun y=>!p_f y) r'∧L'=[r']):=by
 intro Lr
 have hlc:=J0.lec hr
 have hcm:=J0.mx hr
 refine JN Tryz.func242 42 [(0,Sl a l.length c),(1,Fv k_f caps_f)] rfl (fun w0 G0=>?_)
 show TC _ _ _ _ _ (r::Lr)
 refine Jf [0] [] (Je (Jc (Ja [0,0] [(8,Sl a l.length c),(9,Fv k_f caps_f)] (Jic (E:=QA) 10 0 hr (by simp only [QA];omega) (I (QR p_f l)) (fun G9 hle9 hs9=>Jfl G9 a c l hs9 k_f caps_f p_f hk_f (fun vs0 x0 hx0=>Vi.up hle9 (h_f vs0 x0 hx0))) (Ja [0] [(5,I (QR p_f l))] (Jd (Jb (Je (Jf [0,0] [(12,Bo (decide (QR p_f l=(-1))))] (Jk (decide (QR p_f l=(-1))) (fun h1=>?_) (fun h1=>?_)))))))))))
 refine Jf [0,0] [(4,Sl a l.length c)] (Jl (Jh ?_))
 have e_:l=(l.filter fun y=>!p_f y):=JnZ (by omega)
 have en_:l.length=(l.filter fun y=>!p_f y).length:=congrArg List.length e_
 exact Jm [0] [Sl a l.length c] (KQ (Lr:=Lr) [r] (Jp.le_refl _) (⟨_,_,_,congrArg (fun n=>Sl a n c) en_,(e_ ▸ hr),rfl⟩))
 refine Jo (Jb (Je ?_))
 have hib_:=Jpn p_f l
 obtain ⟨kn1,hkn1⟩:∃ k_:Nat,QR p_f l=(k_:Int):=⟨(QR p_f l).toNat,by omega⟩
 have e1:QR p_f l=(kn1:Int):=hkn1
 refine QX 5 (I (kn1:Int)) (congrArg I e1) ?_
 have hfi_:=Jms hkn1
 refine Jf [0,0,0] [(6,I (IntKind.i64.wrap ((kn1:Int)+1)))] (Jg3 6 ((kn1:Int)+1) J7 (Jz ?_))
 refine Qh (σ:=Nat×Nat×Option Addr×Nat×List Kg×List J2) (fun q_=>(q_.1<q_.2.1∧q_.2.1≤l.length)∧(J0 QA G q_.2.2.1 q_.2.2.2.1 q_.2.2.2.2.2 q_.2.2.2.2.1)∧(q_.2.2.2.2.2.length=l.length∧q_.2.2.2.2.2.drop q_.2.1=l.drop q_.2.1∧q_.2.2.2.2.2.take q_.1=(l.take q_.2.1).filter (fun y=>!p_f y))) (fun q_=>[(0,Sl q_.2.2.1 q_.2.2.2.2.2.length q_.2.2.2.1),(1,Fv k_f caps_f),(5,I (q_.1:Int)),(6,I (q_.2.1:Int))]) (fun q_=>G) (fun q_=>(q_.2.2.2.2.1::Lr)) (fun q_=>l.length-q_.2.1) (kn1,(kn1+1),a,c,r,l) ⟨(by (try dsimp only);omega),hr,⟨rfl,rfl,hfi_⟩⟩ (fun q_ hs=>?_)
 obtain ⟨i,j,ao,co,ro,xo⟩:=q_
 obtain ⟨hj,hro,hxo⟩:=hs
 dsimp only at hj hro hxo
 dsimp only
 refine Je (Jf [0,0,0,0] [(19,Bo (decide ((j:Int)<(xo.length:Int))))] (Jk (decide ((j:Int)<(xo.length:Int))) (fun h2=>?_) (fun h2=>?_)))
 refine Jo (Jb (Je (Jz (Je (Jc (Ja [0,0] [(22,Sl ao xo.length co),(23,I (j:Int))] ?_))))))
 obtain ⟨x1,hx1⟩:=We (l:=xo) (k:=j) (by omega)
 obtain ⟨b1,o1,_,_,⟨rfl,w1,w2⟩,ha1,hre1,hc1⟩:=J0.ix hro hx1
 refine QI (b:=b1) (off:=o1) (len:=xo.length) (cap:=co) (ik:=.i64) 24 111 2 j ha1 J7 (W5 (off:=o1) (p:=j*2) (cs:=[Sr x1.name,Sr x1.value]) 25 111 0 0 (.agg #[Sr x1.name,Sr x1.value]) hre1 hc1 (Jv 7 #[Sr ([]),Sr ([])] 111 (fun b2=>JV [3] [] ([Sg b2 0 [Sr x1.name,Sr x1.value]]::ro::Lr) (Jd (Jb (Je (Jc (Ja [0,2] [(26,Fv k_f caps_f),(27,.agg #[Sr x1.name,Sr x1.value])] (ZQ (k:=k_f) (caps:=caps_f) (args:=#[.agg #[Sr x1.name,Sr x1.value]]) 28 (Bo (p_f x1)) hk_f (h_f [Sr x1.name,Sr x1.value] x1 (⟨rfl,w1,w2⟩)) (Ja [0] [(29,Bo (!(p_f x1)))] (Jd (Jb (Jk (!(p_f x1)) (fun h3=>?_) (fun h3=>?_))))))))))))))
 refine Je (Jc (Ja [0,0,2] [(30,Sl ao xo.length co),(31,I (i:Int)),(32,.agg #[Sr x1.name,Sr x1.value])] ?_))
 obtain ⟨_,hx2⟩:=We (l:=xo) (k:=i) (by omega)
 obtain ⟨b3,o2,_,_,⟨rfl,_,_⟩,ha2,_,hc2⟩:=J0.ix hro hx2
 refine QI (b:=b3) (off:=o2) (len:=xo.length) (cap:=co) (ik:=.i64) 33 111 2 i ha2 J7 (YV (b:=b3) (off:=o2) 1 hro i x1 ha2 J7 (.agg #[Sr x1.name,Sr x1.value]) [Sr x1.name,Sr x1.value] ⟨rfl,w1,w2⟩ (fun r1 hr1=>?_))
 have e2:xo.length=(xo.set i x1).length:=(List.length_set ..).symm
 exact KI 0 (Sl ao ((xo.set i x1).length) co) (congrArg (Sl ao · co) e2) (KI 30 (Sl ao ((xo.set i x1).length) co) (congrArg (Sl ao · co) e2) (Jd (Jb (Jc (Ja [0,0,0] [(5,I (IntKind.i64.wrap ((i:Int)+1)))] (Kw 5 ((i:Int)+1) J7 (Jd (JM (Jb (Jc (Ja [0,0,0] [(6,I (IntKind.i64.wrap ((j:Int)+1)))] (Kw 6 ((j:Int)+1) J7 (Jd (QT (r1::Lr) (Qr (i+1,j+1,ao,co,r1,xo.set i x1) ⟨(by (try dsimp only);omega),hr1,(by (try dsimp only);exact ⟨by rw [List.length_set];exact hxo.1,JnY hxo.2.1 hj.1,JnX hxo.2.2 (JiI hxo.2.1 hx1) ‹_› J7⟩)⟩ (by (try dsimp only);omega))))))))))))))))
 exact Jo (JM (Jb (Jc (Ja [0,0,0] [(6,I (IntKind.i64.wrap ((j:Int)+1)))] (Kw 6 ((j:Int)+1) J7 (Jd (QT (ro::Lr) (Qr (i,j+1,ao,co,ro,xo) ⟨(by (try dsimp only);omega),hro,(by (try dsimp only);exact ⟨hxo.1,Jmr hxo.2.1,Jmq hxo.2.2 (JiI hxo.2.1 hx1) ‹_›⟩)⟩ (by (try dsimp only);omega)))))))))
 refine KW (JZ (J8 (JR (Jb ?_))))
 obtain ⟨b,off,css,spare,rfl,rfl,hc1,hc2,_,hsp,hle9,hmax,hone⟩:=J0.opened hro (by omega)
 refine Je (Jc (Ja [0,0] [(36,Sl (At b off) xo.length co),(37,I (i:Int))] (WD (a:=At b off) (a':=At b (off+(xo.take i).length*2)) (len:=xo.length) (cap:=co) (c':=co-(xo.take i).length) (n:=xo.length-(xo.take i).length) 38 2 (some (I (i:Int))) none i xo.length (.inr ⟨_,rfl⟩) (.inl ⟨rfl,rfl⟩) J7 (by rw [if_neg J7,List.length_take,Nat.min_eq_left (by omega)];simp [WL]) (by rw [List.length_take,Nat.min_eq_left (by omega)]) (by rw [List.length_take,Nat.min_eq_left (by omega)]) J7 (Jnl (b:=b) (off:=off) (m:=xo.length-(xo.take i).length) (c':=co-(xo.take i).length) 0 (J0.tk hro i J7) rfl (by rw [List.length_take];omega) (by rw [List.length_take];omega) (fun r8 hr8=>Jd (Jb (Je (Jc (Ja [0,0] [(39,Sl (At b off) xo.length co),(40,I (i:Int))] (WD (a:=At b off) (a':=At b off) (len:=xo.length) (cap:=co) (c':=co) (n:=(xo.take i).length) 41 2 none (some (I (i:Int))) 0 i (.inl ⟨rfl,rfl⟩) (.inr ⟨_,rfl⟩) (Nat.zero_le _) (by split <;> simp [WL]) (Nat.sub_zero _).symm (by rw [List.length_take];omega) J7 (Ja [0] [(4,Sl (At b off) ((xo.take i).length) co)] (Jd (Jb (Jl ?_))))))))))))))
 have e_:xo.take i=(l.filter fun y=>!p_f y):=by have q_:=hxo.2.2;rwa [List.take_of_length_le (by omega:l.length≤j)] at q_
 have en_:(xo.take i).length=(l.filter fun y=>!p_f y).length:=congrArg List.length e_
 exact Jm [0] [Sl (At b off) ((xo.take i).length) co] (KQ (Lr:=Lr) [r8] (Jp.le_refl _) (⟨_,_,_,congrArg (fun n=>Sl (At b off) n co) en_,(e_ ▸ hr8),rfl⟩))
theorem Jkh (G:Jp) (vs_x:List Value) (x:J2) (h_x:QA.R G vs_x x) (vs_q:List Value) (q:(List UInt8)) (h_q:ES.R G vs_q q) (b_q:Nat) (hz_q:∀ j v,(vs_q:List Value)[j]? = some v→G b_q (0+j)=some v) :Q2 243 #[.agg vs_x.toArray,Pt b_q 0] G (Bo (JcH x q)):=by
 obtain ⟨rfl,w1,_⟩:=h_x
 obtain ⟨rfl,_⟩:=h_q
 refine JN Tryz.func243 10 [(0,.agg #[Sr x.name,Sr x.value]),(1,Pt b_q 0)] rfl (fun w0 G0=>?_)
 refine Je (Jc (Jv 2 #[Sr x.name,Sr x.value] 111 (fun b1=>Ja [0] [] (Jd (Jb (Je (Ko [] (Wm [(0,Pt b1 0),(1,Sr x.name),(2,Sr (way x.name)),(3,Sr q),(4,Bo (decide (q <+: way x.name))),(5,Bo (!(decide (q <+: way x.name)))),(6,Bo (!(decide (q <+: way x.name))))] (Km [] [(0,0),(1,2),(5,0),(6,0)] [2,3,4] [(3,Bo (!(decide (q <+: way x.name))))] (Ke ?_ (Ke ?_ (Ke ?_ K4))) ?_)))))))))
 refine Jr 2 6 (Sr (way x.name)) [(5,Sr x.name)] (fun X=>?_)
 exact Jj 6 (Sr (way x.name)) (Jc8 G x.name w1) Jn
 refine Jr 3 7 (Sr q) [(1,Pt b_q 0)] (fun X=>?_)
 exact JW (o':=0) 7 9 (cs:=[Sr q]) 0 (Sr q) hz_q Jn
 refine Jr 4 8 (Bo (decide (q <+: way x.name))) [(6,Sr (way x.name)),(7,Sr q)] (fun X=>?_)
 exact Jj 8 (Bo (decide (q <+: way x.name))) (Jf7 G (way x.name) q) Jn
 refine Jb (Jl (Jm [0] [Bo (!(decide (q <+: way x.name)))] (Jw (Jp.le_refl _) (congrArg Bo (?_:(JcH x q)=(!(decide (q <+: way x.name)))).symm))))
 rfl
theorem JaG (G:Jp) (a_l:Option Addr) (c_l:Nat) (l:List J2) (h_l:RS QA G a_l c_l l) (q:List UInt8) (hw_q:(q).length≤140737488351232) (h24:l.length≤24):Yi 201 #[Sl a_l l.length c_l,Sr q] G [] (fun u G' L'=>∃ (a1:Option Addr) (c2:Nat) (r3:List Kg),u=Sl a1 ((Kz l q).length) c2∧(J0 QA G' a1 c2 (Kz l q) r3)∧L'=[r3]):=by
 refine JN Tryz.func201 9 [(0,Sl a_l l.length c_l),(1,Sr q)] rfl (fun w0 G0=>?_)
 refine Je (Jc (Jv 3 #[Sr q] 9 (fun b1=>Ja [0] [] (Jd (Jb (Je (Jc (Ja [0] [(5,Sl a_l l.length c_l)] (JF 6 (YA G a_l c_l l h_l) (fun v G1 L1 hl1 hp=>?_))))))))))
 obtain ⟨a1,c1,r1,rfl,hr1,rfl⟩:=hp
 refine Ja [0] [(7,Fv 243 #[Pt b1 0])] (QV (b:=b1) (o:=0) (cs:=[Sr q]) 1 (fun G2 hl2 hz1=>Jx 0 (Qn (Ls:=[r1]) (Lr:=[[]]) 8 (Jkg G2 a1 c1 l r1 (hr1.mono hl2) J7 243 #[Pt b1 0] (fun x0=>JcH x0 q) (fun _ _=>by kernel_rfl) (fun vs0 x0 hx0=>by obtain ⟨rfl,w1,w2⟩:=hx0;exact Jkh G2 [Sr x0.name,Sr x0.value] x0 (⟨rfl,w1,w2⟩) [Sr q] q (⟨rfl,hw_q⟩) b1 hz1)) (fun v G3 L1 hl3 hp=>?_))))
 obtain ⟨a2,c2,r2,rfl,hr2,rfl⟩:=hp
 refine Ja [0] [(4,Sl a2 ((l.filter fun y=>!((fun x0=>JcH x0 q) y)).length) c2)] (Jd (Jb (Jl (Ji 0 ?_))))
 have hf1:Kz l q=l.filter fun y=>!((fun x0=>JcH x0 q) y):=by
  rfl
 refine Jm [0] [Sl a2 ((l.filter fun y=>!((fun x0=>JcH x0 q) y)).length) c2] (Jy [r2] (Jp.le_trans (Jp.le_trans hl1 hl2) hl3) ?_)
 rw [hf1]
 try dsimp only
 exact ⟨a2,c2,r2,rfl,hr2,rfl⟩
theorem Jfu (N:Nat):∀ (G:Jp) (a_l:Option Addr) (c_l:Nat) (l:List J2) (h_l:RS QA G a_l c_l l) (q:List UInt8) (hw_q:(q).length≤140737488351232) (h24:l.length≤24) (hq:q.length≤16),16-q.length<N→Q2 200 #[Sl a_l l.length c_l,Sr q] G (U (QP l q)):=by
 induction N with
 | zero=>intros;omega
 | succ N ih =>
  intro G a_l c_l l h_l q hw_q h24 hq hN
  refine JN Tryz.func200 50 [(0,Sl a_l l.length c_l),(1,Sr q)] rfl (fun w0 G0=>?_)
  refine Jf [0] [] (Je (Jz (Je (Jc (Ja [0,0,0,0] [(14,Bo (decide ((l.length:Int)=0)))] (Kn (decide ((l.length:Int)=0)) [14] [1,1,1,0] [0,0,0,0] (fun bb=>[(18,Bo (bb || (decide (((q).length:Int)=16))))]) (Ja [0] [(10,Bo ((decide ((l.length:Int)=0)) || (decide (((q).length:Int)=16))))] (Jd (Jb (Jk ((decide ((l.length:Int)=0)) || (decide (((q).length:Int)=16))) (fun h1=>?_) (fun h1=>?_)))))))))))
  ·
   refine Je (Jc (Ja [0] [(19,Sl a_l l.length c_l)] (Jj 20 (Sr (KR l)) (VV G a_l c_l l h_l ‹_›) (Jj 21 (U (Jg (KR l))) (WX (KR l) (Vx (Nat.le_trans (Jbb ‹_›) (by decide))) G) (Ja [0] [(4,U (Jg (KR l)))] (Jd (Jb (Jl (Jt (Jh (Jm [0] [U (Jg (KR l))] (Jw (Jp.le_refl _) (congrArg U (?_:(QP l q)=(Jg (KR l))).symm)))))))))))))
   (rw [JiJ (by omega)];done)
  ·
   refine Jo (JM (Jb (Je (Jc (Ja [0] [(22,Sr q)] (ZF 23 q ([48]) (by (simp only [List.length_append,List.length_cons,List.length_nil];omega)) (Ja [0] [(24,Sr q)] (ZF 25 q ([49]) (by (simp only [List.length_append,List.length_cons,List.length_nil];omega)) (Ja [0,0] [(5,Sr (q++([48]))),(6,Sr (q++([49])))] (Jd (Jb (Je (Jc (Ja [0,0] [(26,Sl a_l l.length c_l),(27,Sr (q++([48])))] (JF 28 (JaG G a_l c_l l h_l (q++([48])) (by (simp;omega)) ‹_›) (fun v G1 L1 hl1 hp=>?_))))))))))))))))
   obtain ⟨a1,c1,_,rfl,hr1,rfl⟩:=hp
   refine Ja [0] [(29,Sr (q++([48])))] (WJ (E:=QA) 0 hr1 (by have q_:=YN l (q++([48]));(simp only [QA];omega)) (fun G2 hl2 hs1=>Jj 30 (U (QP (Kz l (q++([48]))) (q++([48])))) (ih G2 a1 c1 (Kz l (q++([48]))) hs1 (q++([48])) (by (simp;omega)) (by (have q_:=YN l (q++[48]);omega)) (by (simp;omega)) (by simp only [List.length_append,List.length_cons,List.length_nil] at *;omega)) (Ja [0,0] [(31,Sl a_l l.length c_l),(32,Sr (q++([49])))] (JF 33 (JaG G2 a_l c_l l (h_l.mono (Jp.le_trans hl1 hl2)) (q++([49])) (by (simp;omega)) ‹_›) (fun v G3 L1 hl3 hp=>?_)))))
   obtain ⟨a2,c2,_,rfl,hr2,rfl⟩:=hp
   refine Ja [0] [(34,Sr (q++([49])))] (WJ (E:=QA) 0 hr2 (by have q_:=YN l (q++([49]));(simp only [QA];omega)) (fun G4 hl4 hs2=>Jj 35 (U (QP (Kz l (q++([49]))) (q++([49])))) (ih G4 a2 c2 (Kz l (q++([49]))) hs2 (q++([49])) (by (simp;omega)) (by (have q_:=YN l (q++[49]);omega)) (by (simp;omega)) (by simp only [List.length_append,List.length_cons,List.length_nil] at *;omega)) (Ja [0,0] [(7,U (QP (Kz l (q++([48]))) (q++([48])))),(8,U (QP (Kz l (q++([49]))) (q++([49]))))] (Jd (Jb (Je (Je (Jc (Jj 36 (Sr (KR ([]))) (VV G4 none 0 ([]) (RS.nil' QA G4) (by (simp;done))) (Jj 37 (U (Jg (KR ([])))) (WX (KR ([])) (Vx (Nat.le_trans (Jbb (by simp)) (by decide))) G4) (Ja [0] [(9,U (Jg (KR ([]))))] (Jd (Jb (Je (Jc (Ja [0,0,0,0] [(41,Bo (decide (QP (Kz l (q++([48]))) (q++([48]))=Jg (KR ([])))))] (Kn (decide (QP (Kz l (q++([48]))) (q++([48]))=Jg (KR ([])))) [41] [0,0,0,0] [1,1,1,0] (fun bb=>[(45,Bo (bb && (decide (QP (Kz l (q++([49]))) (q++([49]))=Jg (KR ([]))))))]) (Jd (Jb (Jk ((decide (QP (Kz l (q++([48]))) (q++([48]))=Jg (KR ([])))) && (decide (QP (Kz l (q++([49]))) (q++([49]))=Jg (KR ([]))))) (fun h2=>?_) (fun h2=>?_)))))))))))))))))))))
   ·
    refine Jf [0,0] [(4,U (Jg (KR ([]))))] (Jl (Jh (Jm [0] [U (Jg (KR ([])))] (Jw (Jp.le_trans (Jp.le_trans (Jp.le_trans hl1 hl2) hl3) hl4) (congrArg U (?_:(QP l q)=(Jg (KR ([])))).symm)))))
    (rw [Jen (by omega) (by omega)];unfold Jde;(rw [if_pos ‹_›];done))
   ·
    refine Jo (Jb (Je (Jc (Ja [0,0] [(47,U (QP (Kz l (q++([48]))) (q++([48])))),(48,U (QP (Kz l (q++([49]))) (q++([49]))))] (Jj 49 (U (Jg (KZ 2 (QP (Kz l (q++([48]))) (q++([48]))) (QP (Kz l (q++([49]))) (q++([49])))))) (Jin 2 (QP (Kz l (q++([48]))) (q++([48]))) (QP (Kz l (q++([49]))) (q++([49]))) G4) (Ja [0] [(4,U (Jg (KZ 2 (QP (Kz l (q++([48]))) (q++([48]))) (QP (Kz l (q++([49]))) (q++([49]))))))] (Jd (Jb (Jl (Jm [0] [U (Jg (KZ 2 (QP (Kz l (q++([48]))) (q++([48]))) (QP (Kz l (q++([49]))) (q++([49])))))] (Jw (Jp.le_trans (Jp.le_trans (Jp.le_trans hl1 hl2) hl3) hl4) (congrArg U (?_:(QP l q)=(Jg (KZ 2 (QP (Kz l (q++([48]))) (q++([48]))) (QP (Kz l (q++([49]))) (q++([49])))))).symm))))))))))))
    (rw [Jen (by omega) (by omega)];unfold Jde;(rw [if_neg (by intro hc_;have q_:=h2 hc_.1;exact q_ hc_.2)];done))
theorem Jki (G:Jp) (a_l:Option Addr) (c_l:Nat) (l:List J2) (h_l:RS QA G a_l c_l l) (q:List UInt8) (hw_q:(q).length≤140737488351232) (h24:l.length≤24) (hq:q.length≤16):Q2 200 #[Sl a_l l.length c_l,Sr q] G (U (QP l q)):=Jfu (16-q.length+1) G a_l c_l l h_l q hw_q h24 hq (Nat.lt_succ_self _)
theorem Jeo (G:Jp) (a_l:Option Addr) (c_l:Nat) (l:List J2) (h_l:RS QA G a_l c_l l) (q:List UInt8) (hw_q:(q).length≤140737488351232) :Q2 146 #[Sl a_l l.length c_l,Sr q] G (.tuple #[U ((JT l q).1),I ((JT l q).2)]):=by
 refine JN Tryz.func146 25 [(0,Sl a_l l.length c_l),(1,Sr q)] rfl (fun w0 G0=>?_)
 refine Jf [0,0] [] (Je (Je (Jc (Ja [0] [(7,Sl a_l l.length c_l)] (Jj 8 (I (Kj l)) (YW G a_l c_l l h_l) (Ja [0] [(6,I (Kj l))] (Jd (Jb (Jf [0,0] [(10,Bo (!decide (Kj l=0)))] (Jk (!decide (Kj l=0)) (fun h1=>?_) (fun h1=>?_)))))))))))
 refine Jf [0,0,0] [(4,U 0),(5,I (Kj l))] (Jl (Jh (Jm [0,0] [U 0,I (Kj l)] (Jw (Jp.le_refl _) ?_))))
 have hf_:(JT l q)=(0,(Kj l)):=by
  unfold JT;(rw [if_pos ‹_›];done)
 · (try rw [hf_]);(simp only [Ql];done)
 refine Jo (Jb (Je (Je (Jc (Ja [0,0,0,0] [(15,Bo (decide (((q).length:Int) > 16)))] (Qu [15] (decide (((q).length:Int) > 16)) (fun h2=>?_) (fun h2=>?_)))))))
 refine Ja [1,1,1,0] [(19,Bo true)] (Jd (Jb (JU (Jf [0,0] [(4,U 0),(5,I 3)] (Jl (Jh (Jm [0,0] [U 0,I 3] (Jw (Jp.le_refl _) ?_))))))))
 have hf_:(JT l q)=(0,3):=by
  unfold JT;(rw [if_neg (by omega)];(rw [if_pos (by simp_all)];done))
 · (try rw [hf_]);(simp only [Ql];done)
 refine Ja [0] [(16,Sr q)] (Jj 17 (Sr (JaV q)) (Jmo G q hw_q) (Ja [0,0] [(19,Bo (!((B (JaV q)).toList == (B ([])).toList)))] (KI 19 (Bo (!(JaV q == []))) (show (Bo (!((B (JaV q)).toList == (B ([])).toList)):Value)=Bo (!(JaV q == [])) by simp only [Qj]) (Jd (Jb (Jk (!(JaV q == [])) (fun h3=>?_) (fun h3=>?_)))))))
 refine Jf [0,0] [(4,U 0),(5,I 3)] (Jl (Jh (Jm [0,0] [U 0,I 3] (Jw (Jp.le_refl _) ?_))))
 have hf_:(JT l q)=(0,3):=by
  unfold JT;(rw [if_neg (by omega)];(rw [if_pos (by simp_all)];done))
 · (try rw [hf_]);(simp only [Ql];done)
 refine Jo (Jb (Je (Jc (Ja [0,0] [(20,Sl a_l l.length c_l),(21,Sr q)] (JF 22 (JaG G a_l c_l l h_l q ‹_› (by exact (K6.1 ‹_›).len)) (fun v G1 L1 hl1 hp=>?_))))))
 obtain ⟨a1,c1,_,rfl,hr1,rfl⟩:=hp
 refine Ja [0] [(23,Sr q)] (WJ (E:=QA) 0 hr1 (by have q_:=YN l q;(have q1_:=(K6.1 ‹_›).len;simp only [QA];omega)) (fun G2 hl2 hs1=>Jj 24 (U (QP (Kz l q) q)) (Jki G2 a1 c1 (Kz l q) hs1 q ‹_› (by (have q_:=(K6.1 ‹_›).len;have q1_:=YN l q;omega)) J7) (Ja [0,0] [(4,U (QP (Kz l q) q)),(5,I 0)] (Jd (Jb (Jl (Jm [0,0] [U (QP (Kz l q) q),I 0] (Jw (Jp.le_trans hl1 hl2) ?_))))))))
 have hf_:(JT l q)=((QP (Kz l q) q),0):=by
  unfold JT;(rw [if_neg (by omega)];(rw [if_neg (by simp_all)];done))
 · (try rw [hf_]);(simp only [Ql];done)
theorem Jbd (G:Jp) (a_l:Option Addr) (c_l:Nat) (l:List J2) (h_l:RS QA G a_l c_l l) :Q2 95 #[Sl a_l l.length c_l] G (.tuple #[U ((JT l []).1),I ((JT l []).2)]):=by
 refine JN Tryz.func95 8 [(0,Sl a_l l.length c_l)] rfl (fun w0 G0=>?_)
 refine Jf [0,0] [] (Je (Jc (Ja [0] [(4,Sl a_l l.length c_l)] (Jj 5 (.tuple #[U ((JT l ([])).1),I ((JT l ([])).2)]) (Jeo G a_l c_l l h_l ([]) (Nat.le_of_ble_eq_true rfl)) (Ja [0,0,0,0] [(2,U ((JT l ([])).1)),(3,I ((JT l ([])).2))] (Jd (Jb (Jl (Jm [0,0] [U ((JT l ([])).1),I ((JT l ([])).2)] (Jw (Jp.le_refl _) ?_))))))))))
 have hf_:(JT l [])=(((JT l ([])).1),((JT l ([])).2)):=by
  rfl
 · (try rw [hf_]);(simp only [Ql];done)
theorem Jfv {R:J2→J2→Prop} (hi:∀ x,¬ R x x) (ha:∀ x y,R x y→¬ R y x):∀ (l m:List J2),l.Pairwise R→m.Pairwise R→(∀ y,y∈l ↔ y∈m)→l=m
 | [],m,_,_,h=>by
  cases m with
  | nil=>rfl
  | cons y m=>exact absurd ((h y).2 (List.mem_cons_self ..)) (List.not_mem_nil)
 | x::l,[],_,_,h=>absurd ((h x).1 (List.mem_cons_self ..)) (List.not_mem_nil)
 | x::l,y::m,h1,h2,h=>by
  rw [List.pairwise_cons] at h1 h2
  have e:x=y:=by
   rcases List.mem_cons.1 ((h x).1 (List.mem_cons_self ..)) with e | e
   · exact e
   rcases List.mem_cons.1 ((h y).2 (List.mem_cons_self ..)) with e' | e'
   · exact e'.symm
   · exact absurd (h1.1 _ e') (ha _ _ (h2.1 _ e))
  subst e
  congr 1
  refine Jfv hi ha l m h1.2 h2.2 fun z=>⟨fun hz=>?_,fun hz=>?_⟩
  ·
   rcases List.mem_cons.1 ((h z).1 (List.mem_cons_of_mem _ hz)) with e | e
   · subst e;exact absurd (h1.1 _ hz) (hi _)
   · exact e
  ·
   rcases List.mem_cons.1 ((h z).2 (List.mem_cons_of_mem _ hz)) with e | e
   · subst e;exact absurd (h2.1 _ hz) (hi _)
   · exact e
theorem Zn.pair {l:List J2} (h:Zn l):l.Pairwise fun x y=>Z7 x.name y.name<0:=by
 rw [List.pairwise_iff_getElem]
 intro i j hi hj hij
 exact h.ord i j _ _ hij (List.getElem?_eq_getElem hi) (List.getElem?_eq_getElem hj)
theorem Zn.ext {l m:List J2} (h1:Zn l) (h2:Zn m) (h:∀ y,y∈l ↔ y∈m):l=m:=by
 refine Jfv (R:=fun x y=>Z7 x.name y.name<0) (fun x hx=>?_) (fun x y hx hy=>?_) l m h1.pair h2.pair h
 · have:=Yo.2 (rfl:x.name=x.name);omega
 · have:=JcD hx hy;have:=Yo.2 (rfl:x.name=x.name);omega
theorem JcI {l:List J2} {q:List UInt8} (h:(JT l q).2=0):Zn l∧q.length≤16∧(∀ b∈q,isB b=true)∧(JT l q).1=QP (Kz l q) q:=by
 unfold JT at h ⊢
 split at h
 · contradiction
 rename_i h1
 split at h
 · cases h
 rename_i h2
 rw [if_neg h1,if_neg h2]
 have h3:JaV q=[]:=Decidable.not_not.1 fun hc=>h2 (.inr hc)
 have h4:¬ (q.length:Int) > 16:=fun hc=>h2 (.inl hc)
 exact ⟨K6.1 (Decidable.not_not.1 h1),by omega,JgQ.1 h3,rfl⟩
theorem Jfw {l:List J2} {q:List UInt8} (h1:Zn l) (h2:q.length≤16) (h3:∀ b∈q,isB b=true):JT l q=(QP (Kz l q) q,0):=by
 unfold JT
 rw [if_neg (fun hc=>hc (K6.2 h1)),if_neg]
 rintro (hc | hc)
 · omega
 · exact hc (JgQ.2 h3)
def Yl (b:UInt8):UInt8:=UInt8.ofNat (97-(b.toNat:Int)).toNat
theorem JiK {b:UInt8} (h:48≤b.toNat∧b.toNat≤49):Utf8.encode (97-(b.toNat:Int))=B [Yl b]:=Jhc (by omega) (by omega)
def Jn0 (l:List J2) (p:List UInt8) (k:Nat):Int:=(JT l (p.take k++[Yl (p[k]?.getD 48)])).1
def JcJ (l:List J2) (p:List UInt8) (n:Nat):List Int:=(List.range n).map fun i=>Jn0 l p (15-i)
theorem JcK (l:List J2) (p:List UInt8) (n:Nat):(JcJ l p n).length=n:=by unfold JcJ;simp
theorem JiL {l:List J2} {p:List UInt8} {k:Nat} {y:UInt8} (hy:p[k]? = some y) (hk:k≤15):JcJ l p (15-k)++[(JT l (p.take k++[Yl y])).1]=JcJ l p (15-k+1):=by
 unfold JcJ
 rw [List.range_succ,List.map_append]
 congr 1
 simp only [List.map_cons,List.map_nil]
 unfold Jn0
 rw [show 15-(15-k)=k by omega,hy];rfl
def JdV:Qy:=⟨[],[],[]⟩
def Jfx (l:List J2) (p:List UInt8):List J2:=l.filter fun x=>way x.name == p
theorem Jmu {l:List J2} {i:Nat} {x:J2} {p:List UInt8} (h:l[i]? = some x) (hp:(way x.name == p)=true):Jfx (l.take i) p++[x]=Jfx (l.take (i+1)) p:=by unfold Jfx;rw [List.take_add_one,h];simp [hp]
theorem Jmv {l:List J2} {i:Nat} {x:J2} {p:List UInt8} (h:l[i]? = some x) (hp:¬ (way x.name == p)=true):Jfx (l.take i) p=Jfx (l.take (i+1)) p:=by unfold Jfx;rw [List.take_add_one,h];simp [hp]
theorem JhB (l:List J2) (p:List UInt8):(Jfx l p).length≤l.length:=List.length_filter_le ..
def Qa (l:List J2) (name:List UInt8):Qy×Int:=if ¬ Kj l=0 then (JdV,Kj l) else if ¬ (KD name).2=0 then (JdV,(KD name).2) else (⟨name,Jfx l (KD name).1,JcJ l (KD name).1 16⟩,0)
set_option maxRecDepth 20000 in
theorem Jf8 (G:Jp) (a_l:Option Addr) (c_l:Nat) (l:List J2) (h_l:RS QA G a_l c_l l) (name:List UInt8) (hw_name:(name).length≤140737488351232) :Yi 194 #[Sl a_l l.length c_l,Sr name] G [] (fun u G' L'=>∃ (a1:Option Addr) (c2:Nat) (a3:Option Addr) (c4:Nat),u=.tuple #[.agg #[Sr (((Qa l name).1).name),Sl a1 ((((Qa l name).1).entries).length) c2,Sl a3 ((((Qa l name).1).sides).length) c4],I ((Qa l name).2)]∧((((Qa l name).1).name).length≤140737488351232)∧(RS QA G' a1 c2 (((Qa l name).1).entries))∧(RS EU G' a3 c4 (((Qa l name).1).sides))∧L'=[]):=by
 refine JN Tryz.func194 78 [(0,Sl a_l l.length c_l),(1,Sr name)] rfl (fun w0 G0=>?_)
 refine Je (Jc (Jv 4 #[Sr ([]),Sl none 0 0,Sl none 0 0] 47 (fun b1=>Ja [0] [] (Jd (Jb (Je (Je (Jc (Ja [0] [(16,Sl a_l l.length c_l)] (Jj 17 (I (Kj l)) (YW G a_l c_l l h_l) (Ja [0] [(6,I (Kj l))] (Jd (Jb (Jf [0,0] [(19,Bo (!decide (Kj l=0)))] (Jk (!decide (Kj l=0)) (fun h1=>?_) (fun h1=>?_))))))))))))))))
 refine Jf [0,0,3,0] [(5,I (Kj l))] (Jl (Jh ?_))
 have hf1:Qa l name=((⟨[],[],[]⟩:Qy),Kj l):=by
  unfold Qa JdV;(rw [if_pos ‹_›];done)
 refine Jm [0,0] [.agg #[Sr ([]),Sl none 0 0,Sl none 0 0],I (Kj l)] (Jy [] (Jp.le_refl _) ?_)
 rw [hf1]
 try dsimp only
 exact ⟨none,0,none,0,rfl,(Nat.le_of_ble_eq_true rfl),(RS.nil' QA G),(RS.nil' EU G),rfl⟩
 refine Jo (Jb (Je (Jc (Ja [0] [(23,Sr name)] (Jj 24 (.tuple #[Sr ((KD name).1),I ((KD name).2)]) (JcE G name hw_name) (Ja [0,0,0,0,0] [(7,Sr ((KD name).1)),(8,I ((KD name).2))] (Jd (Jb (Je (Jf [0,0] [(28,Bo (!decide ((KD name).2=0)))] (Jk (!decide ((KD name).2=0)) (fun h2=>?_) (fun h2=>?_))))))))))))
 refine Jf [0,0,3,0] [(5,I ((KD name).2))] (Jl (Jh ?_))
 have hf2:Qa l name=((⟨[],[],[]⟩:Qy),(KD name).2):=by
  unfold Qa JdV;(rw [if_neg (by omega)];(rw [if_pos ‹_›];done))
 refine Jm [0,0] [.agg #[Sr ([]),Sl none 0 0,Sl none 0 0],I ((KD name).2)] (Jy [] (Jp.le_refl _) ?_)
 rw [hf2]
 try dsimp only
 exact ⟨none,0,none,0,rfl,(Nat.le_of_ble_eq_true rfl),(RS.nil' QA G),(RS.nil' EU G),rfl⟩
 refine Jo (Jb (Je (Jc (Ja [0,0] [(32,.agg #[Sr name,Sl none 0 0,Sl none 0 0])] (Jv 9 #[Sr ([]),Sl none 0 0,Sl none 0 0] 47 (fun b2=>JV [3] [] [[Sg b2 0 [Sr name,Sl none 0 0,Sl none 0 0]],[Sg b1 0 [Sr ([]),Sl none 0 0,Sl none 0 0]]] (Jd (Jb (Je (Jf [0,0,0] [(33,Sl a_l l.length c_l),(34,I (l.length:Int)),(35,I 0)] (Jz (Yh ?_))))))))))))
 have hlm_h_l:l.length≤9223372036854775807:=Nat.le_trans (h_l).le (h_l).max
 refine Qh (σ:=Nat×Option Addr×Nat×List Kg×List J2×Jp) (fun q_=>(Jp.le G q_.2.2.2.2.2)∧(q_.1≤l.length)∧(J0 QA q_.2.2.2.2.2 q_.2.1 q_.2.2.1 q_.2.2.2.2.1 q_.2.2.2.1)∧(q_.2.2.2.2.1=Jfx (l.take q_.1) (KD name).1)) (fun q_=>[(0,Sl a_l l.length c_l),(4,Pt b1 0),(7,Sr ((KD name).1)),(9,Pt b2 0),(33,Sl a_l l.length c_l),(34,I (l.length:Int)),(35,I (q_.1:Int))]) (fun q_=>q_.2.2.2.2.2) (fun q_=>[q_.2.2.2.1,[Sg b2 0 [Sr name,Sl q_.2.1 q_.2.2.2.2.1.length q_.2.2.1,Sl none 0 0]],[Sg b1 0 [Sr ([]),Sl none 0 0,Sl none 0 0]]]) (fun q_=>l.length-q_.1) (0,none,0,[],[],G) ⟨(Jp.le_refl _),(by (try dsimp only);exact Nat.zero_le _),(J0.none QA _),(by (try dsimp only);simp [Jfx])⟩ (fun q_ hs=>?_)
 obtain ⟨i,ao,co,ro,xo,g⟩:=q_
 obtain ⟨hle,hi,hro,hxo⟩:=hs
 dsimp only at hle hi hro hxo
 dsimp only
 refine Jf [0] [(36,Bo (decide ((i:Int)<(l.length:Int))))] (Je (Jk (decide ((i:Int)<(l.length:Int))) (fun h3=>?_) (fun h3=>?_)))
 refine Jo (Jb (Je (Jz (Je (Jc ?_)))))
 obtain ⟨b3,o1,rfl⟩:=RS.addr (h_l.mono hle) (k:=i) (by omega)
 obtain ⟨x1,hx1⟩:=We (l:=l) (k:=i) (by omega)
 obtain ⟨_,⟨rfl,w1,_⟩,hc1⟩:=RS.get (h_l.mono hle) hx1
 refine J3 (b:=b3) (off:=o1) (len:=l.length) (cap:=c_l) (ik:=.i64) 37 111 2 i J7 (JW 38 111 (cs:=[Sr x1.name,Sr x1.value]) 0 (.agg #[Sr x1.name,Sr x1.value]) hc1 (Jv 11 #[Sr ([]),Sr ([])] 111 (fun b4=>JV [3] [] [[Sg b4 0 [Sr x1.name,Sr x1.value]],ro,[Sg b2 0 [Sr name,Sl ao xo.length co,Sl none 0 0]],[Sg b1 0 [Sr ([]),Sl none 0 0,Sl none 0 0]]] (Jd (Jb (Je (Jc (Ja [0,2] [(40,Sr x1.name)] (Jj 41 (Sr (way x1.name)) (Jdd g x1.name w1) (Ja [0,0] [(43,Bo ((B (way x1.name)).toList == (B ((KD name).1)).toList))] (KI 43 (Bo (way x1.name == (KD name).1)) (show (Bo ((B (way x1.name)).toList == (B ((KD name).1)).toList):Value)=Bo (way x1.name == (KD name).1) by simp only [Qj]) (Jd (Jb (Jk (way x1.name == (KD name).1) (fun h4=>?_) (fun h4=>?_)))))))))))))))
 exact Jc (Ja [0,6,2] [(45,Sl ao xo.length co),(46,.agg #[Sr x1.name,Sr x1.value])] (Kq 47 1 #[Sr x1.name,Sr x1.value] 111 (fun b5=>Qv (b:=b5) (cs:=[Sr x1.name,Sr x1.value]) 48 111 2 0 (E:=QA) x1 hro ⟨rfl,‹_›,‹_›⟩ (by have q_:=(K6.1 ‹_›).len;(have q2_:=JhB (l.take i) (KD name).1;have q3_:=congrArg List.length hxo;rw [List.length_take] at q2_;(try simp only [QA,EU,List.length_append,List.length_cons,List.length_nil] at *);omega)) (by have q_:=(K6.1 ‹_›).len;(have q2_:=JhB (l.take i) (KD name).1;have q3_:=congrArg List.length hxo;rw [List.length_take] at q2_;(try simp only [QA,EU,List.length_append,List.length_cons,List.length_nil] at *);omega)) (fun a1 c1 r1 hr1=>JV [0,9] [] [[Sg b5 0 [Sr x1.name,Sr x1.value]],[Sg b4 0 [Sr x1.name,Sr x1.value]],r1,[Sg b2 0 [Sr name,Sl a1 ((xo++[x1]).length) c1,Sl none 0 0]],[Sg b1 0 [Sr ([]),Sl none 0 0,Sl none 0 0]]] (Jd (JM (Jb (Jc (Ja [0,0] [(35,I (IntKind.i64.wrap ((i:Int)+1)))] (Kw 35 ((i:Int)+1) J7 (Jd (QT [r1,[Sg b2 0 [Sr name,Sl a1 ((xo++[x1]).length) c1,Sl none 0 0]],[Sg b1 0 [Sr ([]),Sl none 0 0,Sl none 0 0]]] (Qr (i+1,a1,c1,r1,xo++[x1],g) ⟨(Jp.le_trans hle (Jp.le_refl _)),J7,hr1,(by (try dsimp only);rw [hxo];exact Jmu hx1 (by simp_all))⟩ (by (try dsimp only);omega))))))))))))))
 exact Jo (JM (Jb (Jc (Ja [0,0] [(35,I (IntKind.i64.wrap ((i:Int)+1)))] (Kw 35 ((i:Int)+1) J7 (Jd (QT [ro,[Sg b2 0 [Sr name,Sl ao xo.length co,Sl none 0 0]],[Sg b1 0 [Sr ([]),Sl none 0 0,Sl none 0 0]]] (Qr (i+1,ao,co,ro,xo,g) ⟨(Jp.le_trans hle (Jp.le_refl _)),J7,hro,(by (try dsimp only);rw [hxo];exact Jmv hx1 (by simp_all))⟩ (by (try dsimp only);omega)))))))))
 refine KW (JZ (J8 (JR (Jb (Je (Jf [0] [(12,I 15)] (Jz (Yh ?_))))))))
 have hlm_h_l:l.length≤9223372036854775807:=Nat.le_trans (h_l).le (h_l).max
 refine Qh (σ:=Int×Option Addr×Nat×List Kg×List J2×Option Addr×Nat×List Kg×List Int×Jp) (fun q_=>(Jp.le g q_.2.2.2.2.2.2.2.2.2)∧(-1≤q_.1∧q_.1≤15)∧(J0 QA q_.2.2.2.2.2.2.2.2.2 q_.2.1 q_.2.2.1 q_.2.2.2.2.1 q_.2.2.2.1)∧(q_.2.2.2.2.1=Jfx l (KD name).1)∧(J0 EU q_.2.2.2.2.2.2.2.2.2 q_.2.2.2.2.2.1 q_.2.2.2.2.2.2.1 q_.2.2.2.2.2.2.2.2.1 q_.2.2.2.2.2.2.2.1)∧(q_.2.2.2.2.2.2.2.2.1=JcJ l (KD name).1 (15-q_.1).toNat)) (fun q_=>[(0,Sl a_l l.length c_l),(4,Pt b1 0),(7,Sr ((KD name).1)),(9,Pt b2 0),(12,I q_.1)]) (fun q_=>q_.2.2.2.2.2.2.2.2.2) (fun q_=>[q_.2.2.2.2.2.2.2.1,q_.2.2.2.1,[Sg b2 0 [Sr name,Sl q_.2.1 q_.2.2.2.2.1.length q_.2.2.1,Sl q_.2.2.2.2.2.1 q_.2.2.2.2.2.2.2.2.1.length q_.2.2.2.2.2.2.1]],[Sg b1 0 [Sr ([]),Sl none 0 0,Sl none 0 0]]]) (fun q_=>(q_.1+1).toNat) (15,ao,co,ro,xo,none,0,[],[],g) ⟨(Jp.le_refl _),(by (try dsimp only);omega),hro,(by (try dsimp only);rw [hxo,List.take_of_length_le (by omega)]),(J0.none EU _),rfl⟩ (fun q_ hs=>?_)
 obtain ⟨k,ao,co,ro,xo,am,cm,rm,xm,g1_⟩:=q_
 obtain ⟨hle1_,hk,hro,hxo,hrm,hxm⟩:=hs
 dsimp only at hle1_ hk hro hxo hrm hxm
 dsimp only
 refine Je (Jf [0,0] [(52,Bo (decide (k ≥ 0)))] (Jk (decide (k ≥ 0)) (fun h5=>?_) (fun h5=>?_)))
 refine Jo (Jb (Je (Jz ?_)))
 obtain ⟨kn1,hkn1⟩:∃ k_:Nat,k=(k_:Int):=⟨(k).toNat,by omega⟩
 have e1:k=(kn1:Int):=hkn1
 refine QX 12 (I (kn1:Int)) (congrArg I e1) (Je ?_)
 obtain ⟨y1,hy1⟩:=We (l:=(KD name).1) (k:=kn1) (by (have q_:=JdT (a:=name) ‹_›;have q1_:=congrArg List.length q_;rw [VT] at q1_;omega))
 have hb_y1:=y1.toNat_lt
 have e2:IntKind.i32.wrap (y1.toNat:Int)=(y1.toNat:Int):=by (rw [IntKind.wrap_i32];omega)
 have e3:IntKind.i32.wrap (97-(y1.toNat:Int))=97-(y1.toNat:Int):=by (rw [IntKind.wrap_i32];omega)
 refine Ko [] (Wm [(0,Sr ((KD name).1)),(1,I (kn1:Int)),(2,Sr (((KD name).1).take kn1)),(3,Sr ((KD name).1)),(4,I (kn1:Int)),(5,Y (y1.toNat:Int)),(6,.int .i32 (y1.toNat:Int)),(7,.int .i32 (97-(y1.toNat:Int))),(8,Sr ([Yl y1])),(9,Sr ((((KD name).1).take kn1)++([Yl y1]))),(10,Sr ((((KD name).1).take kn1)++([Yl y1])))] (Km [] [(0,0),(1,0),(3,0),(4,0),(10,0)] [2,5,6,7,8,9] [(0,Sl a_l l.length c_l),(4,Pt b1 0),(7,Sr ((KD name).1)),(9,Pt b2 0),(12,I (kn1:Int)),(13,Sr ((((KD name).1).take kn1)++([Yl y1])))] (Ke ?_ (Ke ?_ (Ke ?_ (Ke ?_ (Ke ?_ (Ke ?_ K4)))))) ?_))
 refine Jr 2 57 (Sr (((KD name).1).take kn1)) [(55,Sr ((KD name).1)),(56,I (kn1:Int))] (fun X=>?_)
 exact JdH (l:=(KD name).1) 57 none (some (I (kn1:Int))) 0 kn1 (.inl ⟨rfl,rfl⟩) (.inr ⟨_,rfl⟩) (Nat.zero_le _) (by (have q_:=JdT (a:=name) ‹_›;have q1_:=congrArg List.length q_;rw [VT] at q1_;omega)) Jn
 refine Jr 5 60 (Y (y1.toNat:Int)) [(58,Sr ((KD name).1)),(59,I (kn1:Int))] (fun X=>?_)
 exact JaP (ik:=.i64) 60 kn1 y1 hy1 Jn
 refine Jr 6 61 (.int .i32 (y1.toNat:Int)) [(60,Y (y1.toNat:Int))] (fun X=>?_)
 exact K5 61 (.int .i32 (IntKind.i32.wrap (y1.toNat:Int))) (.int .i32 (y1.toNat:Int)) (by simp only [e2]) Jn
 refine Jr 7 62 (.int .i32 (97-(y1.toNat:Int))) [(61,.int .i32 (y1.toNat:Int))] (fun X=>?_)
 exact K5 62 (.int .i32 (IntKind.i32.wrap (97-(y1.toNat:Int)))) (.int .i32 (97-(y1.toNat:Int))) (by simp only [e3]) Jn
 refine Jr 8 63 (Sr ([Yl y1])) [(62,.int .i32 (97-(y1.toNat:Int)))] (fun X=>?_)
 exact Jnm 63 (97-(y1.toNat:Int)) [Yl y1] (JiK (isB_bd (Jka name _ (List.mem_of_getElem? (by rw [← JdT ‹_›];exact hy1))))) Jn
 refine Jr 9 64 (Sr ((((KD name).1).take kn1)++([Yl y1]))) [(57,Sr (((KD name).1).take kn1)),(63,Sr ([Yl y1]))] (fun X=>?_)
 exact ZF 64 (((KD name).1).take kn1) ([Yl y1]) (by (try simp only [List.length_append,List.length_take,List.length_cons,List.length_nil]);omega) Jn
 refine Jb (Je (Jc (Ja [0,0] [(66,Sl a_l l.length c_l),(67,Sr ((((KD name).1).take kn1)++([Yl y1])))] (Jj 68 (.tuple #[U ((JT l ((((KD name).1).take kn1)++([Yl y1]))).1),I ((JT l ((((KD name).1).take kn1)++([Yl y1]))).2)]) (Jeo g1_ a_l c_l l (h_l.mono (Jp.le_trans hle hle1_)) ((((KD name).1).take kn1)++([Yl y1])) (by (simp;omega))) (Ja [0,0,0,0,0] [(14,U ((JT l ((((KD name).1).take kn1)++([Yl y1]))).1))] (Jd (Jb (Jc (Ja [0,6,0] [(72,Sl am xm.length cm),(73,U ((JT l ((((KD name).1).take kn1)++([Yl y1]))).1))] (Kq 74 1 #[U ((JT l ((((KD name).1).take kn1)++([Yl y1]))).1)] 41 (fun b6=>Qv (b:=b6) (cs:=[U ((JT l ((((KD name).1).take kn1)++([Yl y1]))).1)]) 75 41 1 0 (E:=EU) ((JT l ((((KD name).1).take kn1)++([Yl y1]))).1) hrm ⟨rfl,(Y4 _ _)⟩ (by have q_:=(K6.1 ‹_›).len;(have q3_:=congrArg List.length hxm;rw [JcK] at q3_;(try simp only [QA,EU,List.length_append,List.length_cons,List.length_nil] at *);omega)) (by have q_:=(K6.1 ‹_›).len;(have q3_:=congrArg List.length hxm;rw [JcK] at q3_;(try simp only [QA,EU,List.length_append,List.length_cons,List.length_nil] at *);omega)) (fun a2 c2 r2 hr2=>JV [0,9] [] [[Sg b6 0 [U ((JT l ((((KD name).1).take kn1)++([Yl y1]))).1)]],r2,ro,[Sg b2 0 [Sr name,Sl ao xo.length co,Sl a2 ((xm++[(JT l ((((KD name).1).take kn1)++([Yl y1]))).1]).length) c2]],[Sg b1 0 [Sr ([]),Sl none 0 0,Sl none 0 0]]] (Jd (JM (Jb (Jc (Ja [0,0,0] [(12,I (IntKind.i64.wrap ((kn1:Int)-1)))] (Kw 12 ((kn1:Int)-1) J7 (Jd ?_)))))))))))))))))))
 exact QT [r2,ro,[Sg b2 0 [Sr name,Sl ao xo.length co,Sl a2 ((xm++[(JT l ((((KD name).1).take kn1)++([Yl y1]))).1]).length) c2]],[Sg b1 0 [Sr ([]),Sl none 0 0,Sl none 0 0]]] (Qr ((kn1:Int)-1,ao,co,ro,xo,a2,c2,r2,xm++[(JT l ((((KD name).1).take kn1)++([Yl y1]))).1],g1_) ⟨(Jp.le_trans hle1_ (Jp.le_refl _)),(by (try dsimp only);omega),hro,hxo,hr2,(by (try dsimp only);rw [hxm,show (15-((kn1:Int)-1)).toNat=15-kn1+1 by omega,show (15-k).toNat=15-kn1 by omega];exact JiL hy1 J7)⟩ (by (try dsimp only);omega))
 refine KW (JZ (J8 (JR (Jb (Qx [6,9,0] [(5,I 0)] [rm,ro,[Sg b2 0 [Sr name,Sl ao xo.length co,Sl am xm.length cm]],[Sg b1 0 [Sr name,Sl ao xo.length co,Sl am xm.length cm]]] (Jl (WA (E:=QA) 1 hro (by have q_:=(K6.1 ‹_›).len;(have q3_:=congrArg List.length hxo;have q2_:=JhB l (KD name).1;(try simp only [QA,EU,List.length_append,List.length_cons,List.length_nil] at *);omega)) (fun G1 hl1 hs1=>WA (E:=EU) 0 (hrm.mono hl1) (by have q_:=(K6.1 ‹_›).len;(have q3_:=congrArg List.length hxm;rw [JcK] at q3_;(try simp only [QA,EU,List.length_append,List.length_cons,List.length_nil] at *);omega)) (fun G2 hl2 hs2=>?_)))))))))
 have hf3:Qa l name=((⟨name,xo,xm⟩:Qy),0):=by
  unfold Qa JdV;(rw [if_neg (by omega)];(rw [if_neg (by omega),hxo,hxm,show (15-k).toNat=16 by omega];done))
 refine Jm [3,0] [.agg #[Sr name,Sl ao xo.length co,Sl am xm.length cm],I 0] (Jy [] (Jp.le_trans (Jp.le_trans (Jp.le_trans hle hle1_) hl1) hl2) ?_)
 rw [hf3]
 try dsimp only
 exact ⟨ao,co,am,cm,rfl,hw_name,(hs1.mono hl2),hs2,rfl⟩
def JaH (s t:List UInt8):Bool:=!(s == t) && decide (Jg s=Jg t)
def tGo (a b:List (List UInt8)):Nat→List UInt8×List UInt8×Int
 | 0=>([],[],5)
 | i+1=>if a[i]? = b[i]? then tGo a b i else if JaH (a[i]?.getD []) (b[i]?.getD [])=true then (a[i]?.getD [],b[i]?.getD [],0) else ([],[],5)
def Jfy (a:List (List UInt8)):List UInt8:=a[a.length-1]?.getD []
theorem Yp {a:List (List UInt8)} {k:Nat} {x:List UInt8} (hk:k=a.length-1) (h:a[k]? = some x):x=Jfy a:=by unfold Jfy;rw [← hk,h];rfl
def K9 (a b:List (List UInt8)):List UInt8×List UInt8×Int:=if (a.length:Int)=0∨¬ (a.length:Int)=b.length then ([],[],3) else if ¬ Jg (Jfy a)=Jg (Jfy b) then ([],[],8) else tGo a b a.length
theorem JiM {a b:List (List UInt8)} {k:Nat} {x y:List UInt8} (hx:a[k]? = some x) (hy:b[k]? = some y) (h:x=y):tGo a b (k+1)=tGo a b k:=by
 show (if _ then _ else _)=_
 rw [if_pos (by rw [hx,hy,h])]
theorem Jkj {a b:List (List UInt8)} {k:Nat} {x y:List UInt8} (hx:a[k]? = some x) (hy:b[k]? = some y) (h:¬ x=y):tGo a b (k+1)=if JaH x y=true then (x,y,0) else ([],[],5):=by
 show (if _ then _ else _)=_
 rw [if_neg (by rw [hx,hy];simpa using h),hx,hy];rfl
theorem Jn1 (a b:List (List UInt8)):∀ k,((tGo a b k).2.2=0→JaH (tGo a b k).1 (tGo a b k).2.1=true)∧(¬ (tGo a b k).2.2=0→(tGo a b k).1=[]∧(tGo a b k).2.1=[])
 | 0=>by simp [tGo]
 | k+1=>by
  have ih:=Jn1 a b k
  unfold tGo
  split
  · exact ih
  split
  · rename_i h;simp [h]
  · simp
def Jb3 (s t:List UInt8) (e:Int):Bool:=if e=0 then JaH s t else decide (s=[]) && decide (t=[])
theorem Jn2 (a b:List (List UInt8)):Jb3 (K9 a b).1 (K9 a b).2.1 (K9 a b).2.2=true:=by
 unfold K9
 split
 · rfl
 split
 · rfl
 ·
  have:=Jn1 a b a.length
  unfold Jb3
  by_cases h:(tGo a b a.length).2.2=0
  · rw [if_pos h];exact this.1 h
  · rw [if_neg h];simp [this.2 h]
def KS (p q:Qy):List UInt8×List UInt8×Int:=if (JX p).2 ≠ 0 then ([],[],(JX p).2) else if (JX q).2 ≠ 0 then ([],[],(JX q).2) else if ¬ p.name=q.name then ([],[],3) else K9 (JX p).1 (JX q).1
theorem Jmw (p q:Qy):Jb3 (KS p q).1 (KS p q).2.1 (KS p q).2.2=true:=by
 unfold KS
 split
 · rename_i h;unfold Jb3;rw [if_neg h];rfl
 split
 · rename_i h;unfold Jb3;rw [if_neg h];rfl
 split
 · rfl
 · exact Jn2 _ _
set_option maxRecDepth 20000 in
theorem Jfz (G:Jp) (a_a:Option Addr) (c_a:Nat) (a:List (List UInt8)) (h_a:RS ES G a_a c_a a) (a_b:Option Addr) (c_b:Nat) (b:List (List UInt8)) (h_b:RS ES G a_b c_b b) :Yi 74 #[Sl a_a a.length c_a,Sl a_b b.length c_b] G [] (fun u G' L'=>u=.tuple #[Sr ((K9 a b).1),Sr ((K9 a b).2.1),I ((K9 a b).2.2)]∧(((K9 a b).1).length≤140737488351232)∧(((K9 a b).2.1).length≤140737488351232)∧L'=[]):=by
 refine JN Tryz.func74 66 [(0,Sl a_a a.length c_a),(1,Sl a_b b.length c_b)] rfl (fun w0 G0=>?_)
 refine Jf [0,0,0] [] (Jf [0,0,0] [(7,I (a.length:Int))] (Je (Jz (Je (Jc (Ja [0,0,0] [(14,Bo (decide ((a.length:Int)=0)))] (Kn (decide ((a.length:Int)=0)) [14] [1,1,1,1,0] [0,0,0,0,0] (fun bb=>[(19,Bo (bb || (!decide ((a.length:Int)=(b.length:Int)))))]) (Ja [0] [(11,Bo ((decide ((a.length:Int)=0)) || (!decide ((a.length:Int)=(b.length:Int)))))] (Jd (Jb (Jk ((decide ((a.length:Int)=0)) || (!decide ((a.length:Int)=(b.length:Int)))) (fun h1=>?_) (fun h1=>?_))))))))))))
 refine Jf [0,0,0] [(4,Sr ([])),(5,Sr ([])),(6,I 3)] (Jl (Jt (Jh ?_)))
 have hf1:K9 a b=([],[],3):=by
  unfold K9;(rw [if_pos (by omega)];done)
 refine Jm [0,0,0] [Sr ([]),Sr ([]),I 3] (Jy [] (Jp.le_refl _) ?_)
 rw [hf1]
 try dsimp only
 exact ⟨rfl,(Nat.le_of_ble_eq_true rfl),(Nat.le_of_ble_eq_true rfl),rfl⟩
 refine Je ?_
 have e1:IntKind.i64.wrap ((a.length:Int)-1)=((a.length-1:Nat):Int):=(IntWalk.i64_in _ (by (have hle_:=h_a.le;have hmx_:=h_a.max;omega))).trans (show (a.length:Int)-1=((a.length-1:Nat):Int) by omega)
 obtain ⟨b1,o1,rfl⟩:=RS.addr h_a (k:=a.length-1) (by omega)
 obtain ⟨x1,hx1⟩:=We (l:=a) (k:=a.length-1) (by omega)
 obtain ⟨_,⟨rfl,w1⟩,hc1⟩:=RS.get h_a hx1
 have e2:IntKind.i64.wrap ((a.length:Int)-1)=((a.length-1:Nat):Int):=(IntWalk.i64_in _ (by (have hle_:=h_a.le;have hmx_:=h_a.max;omega))).trans (show (a.length:Int)-1=((a.length-1:Nat):Int) by omega)
 obtain ⟨b2,o2,rfl⟩:=RS.addr h_b (k:=a.length-1) (by omega)
 obtain ⟨x2,hx2⟩:=We (l:=b) (k:=a.length-1) (by omega)
 obtain ⟨_,⟨rfl,w2⟩,hc2⟩:=RS.get h_b hx2
 refine Ko [] (Wm [(0,Sl (At b1 o1) a.length c_a),(1,I (a.length:Int)),(2,I ((a.length-1:Nat):Int)),(3,Pt b1 (o1+(a.length-1)*1)),(4,Sr x1),(5,U (Jg x1)),(6,Sl (At b2 o2) b.length c_b),(7,I (a.length:Int)),(8,I ((a.length-1:Nat):Int)),(9,Pt b2 (o2+(a.length-1)*1)),(10,Sr x2),(11,U (Jg x2)),(12,Bo (!decide (Jg x1=Jg x2))),(13,Bo (!decide (Jg x1=Jg x2)))] (Km [] [(0,0),(1,0),(6,0),(7,0),(12,0),(13,0)] [2,3,4,5,8,9,10,11] [(0,Sl (At b1 o1) a.length c_a),(1,Sl (At b2 o2) b.length c_b),(7,I (a.length:Int)),(20,Bo (!decide (Jg x1=Jg x2)))] (Ke ?_ (Ke ?_ (Ke ?_ (Ke ?_ (Ke ?_ (Ke ?_ (Ke ?_ (Ke ?_ K4)))))))) ?_))
 refine Jr 2 23 (I ((a.length-1:Nat):Int)) [(22,I (a.length:Int))] (fun X=>?_)
 exact K5 23 (I (IntKind.i64.wrap ((a.length:Int)-1))) (I ((a.length-1:Nat):Int)) (by simp only [e1]) Jn
 refine Jr 3 24 (Pt b1 (o1+(a.length-1)*1)) [(21,Sl (At b1 o1) a.length c_a),(23,I ((a.length-1:Nat):Int))] (fun X=>?_)
 exact J3 (b:=b1) (off:=o1) (len:=a.length) (cap:=c_a) (ik:=.i64) 24 9 1 (a.length-1) J7 Jn
 refine Jr 4 25 (Sr x1) [(24,Pt b1 (o1+(a.length-1)*1))] (fun X=>?_)
 exact JW 25 9 (cs:=[Sr x1]) 0 (Sr x1) hc1 Jn
 refine Jr 5 26 (U (Jg x1)) [(25,Sr x1)] (fun X=>?_)
 exact Jj 26 (U (Jg x1)) (WX x1 (Vx w1) G) Jn
 refine Jr 8 29 (I ((a.length-1:Nat):Int)) [(28,I (a.length:Int))] (fun X=>?_)
 exact K5 29 (I (IntKind.i64.wrap ((a.length:Int)-1))) (I ((a.length-1:Nat):Int)) (by simp only [e2]) Jn
 refine Jr 9 30 (Pt b2 (o2+(a.length-1)*1)) [(27,Sl (At b2 o2) b.length c_b),(29,I ((a.length-1:Nat):Int))] (fun X=>?_)
 exact J3 (b:=b2) (off:=o2) (len:=b.length) (cap:=c_b) (ik:=.i64) 30 9 1 (a.length-1) J7 Jn
 refine Jr 10 31 (Sr x2) [(30,Pt b2 (o2+(a.length-1)*1))] (fun X=>?_)
 exact JW 31 9 (cs:=[Sr x2]) 0 (Sr x2) hc2 Jn
 refine Jr 11 32 (U (Jg x2)) [(31,Sr x2)] (fun X=>?_)
 exact Jj 32 (U (Jg x2)) (WX x2 (Vx w2) G) Jn
 refine Jb (Jk (!decide (Jg x1=Jg x2)) (fun h2=>?_) (fun h2=>?_))
 refine Jf [0,0,0] [(4,Sr ([])),(5,Sr ([])),(6,I 8)] (Jl (Jt (Jh ?_)))
 have hf2:K9 a b=([],[],8):=by
  unfold K9;(rw [if_neg (by omega)];have hb_:b.length-1=a.length-1:=(by omega);(have ha_:=Yp (a:=a) rfl hx1;have hb2_:=Yp (a:=b) (k:=a.length-1) (by omega) hx2;subst ha_;subst hb2_;rw [if_pos ‹_›];done))
 refine Jm [0,0,0] [Sr ([]),Sr ([]),I 8] (Jy [] (Jp.le_refl _) ?_)
 rw [hf2]
 try dsimp only
 exact ⟨rfl,(Nat.le_of_ble_eq_true rfl),(Nat.le_of_ble_eq_true rfl),rfl⟩
 refine Jo (JM (Jb (Je (Jf [0,0,0] [(8,I (IntKind.i64.wrap ((a.length:Int)-1)))] (Jg3 8 ((a.length:Int)-1) (by (have hle_:=h_a.le;have hmx_:=h_a.max;omega)) (Jz ?_))))))
 have hlm_h_a:a.length≤9223372036854775807:=Nat.le_trans (h_a).le (h_a).max
 have hlm_h_b:b.length≤9223372036854775807:=Nat.le_trans (h_b).le (h_b).max
 refine Qh (σ:=Int) (fun q_=>(-1≤q_∧q_<a.length)∧(tGo a b a.length=tGo a b (q_+1).toNat)) (fun q_=>[(0,Sl (At b1 o1) a.length c_a),(1,Sl (At b2 o2) b.length c_b),(8,I q_)]) (fun q_=>G) (fun q_=>[]) (fun q_=>(q_+1).toNat) ((a.length:Int)-1) ⟨(by (try dsimp only);omega),(by (try dsimp only);congr 1;omega)⟩ (fun q_ hs=>?_)
 revert hs;revert q_;intro i hs
 obtain ⟨hi,hn⟩:=hs
 dsimp only
 refine Je (Jf [0,0] [(37,Bo (decide (i ≥ 0)))] (Jk (decide (i ≥ 0)) (fun h3=>?_) (fun h3=>?_)))
 refine Jo (Jb (Je (Jz (Je ?_))))
 obtain ⟨kn1,hkn1⟩:∃ k_:Nat,i=(k_:Int):=⟨(i).toNat,by omega⟩
 have e3:i=(kn1:Int):=hkn1
 refine QX 8 (I (kn1:Int)) (congrArg I e3) (Je ?_)
 obtain ⟨x3,hx3⟩:=We (l:=a) (k:=kn1) (by omega)
 obtain ⟨_,⟨rfl,w3⟩,hc3⟩:=RS.get h_a hx3
 obtain ⟨x4,hx4⟩:=We (l:=b) (k:=kn1) (by omega)
 obtain ⟨_,⟨rfl,w4⟩,hc4⟩:=RS.get h_b hx4
 refine Ko [] (Wm [(0,Sl (At b1 o1) a.length c_a),(1,I (kn1:Int)),(2,Pt b1 (o1+kn1*1)),(3,Sr x3),(4,Sl (At b2 o2) b.length c_b),(5,I (kn1:Int)),(6,Pt b2 (o2+kn1*1)),(7,Sr x4),(8,Bo ((B x3).toList == (B x4).toList))] (Km [] [(0,0),(1,0),(4,0),(5,0),(8,0)] [2,3,6,7] [(0,Sl (At b1 o1) a.length c_a),(1,Sl (At b2 o2) b.length c_b),(8,I (kn1:Int)),(48,Bo ((B x3).toList == (B x4).toList))] (Ke ?_ (Ke ?_ (Ke ?_ (Ke ?_ K4)))) ?_))
 refine Jr 2 42 (Pt b1 (o1+kn1*1)) [(40,Sl (At b1 o1) a.length c_a),(41,I (kn1:Int))] (fun X=>?_)
 exact J3 (b:=b1) (off:=o1) (len:=a.length) (cap:=c_a) (ik:=.i64) 42 9 1 kn1 J7 Jn
 refine Jr 3 43 (Sr x3) [(42,Pt b1 (o1+kn1*1))] (fun X=>?_)
 exact JW 43 9 (cs:=[Sr x3]) 0 (Sr x3) hc3 Jn
 refine Jr 6 46 (Pt b2 (o2+kn1*1)) [(44,Sl (At b2 o2) b.length c_b),(45,I (kn1:Int))] (fun X=>?_)
 exact J3 (b:=b2) (off:=o2) (len:=b.length) (cap:=c_b) (ik:=.i64) 46 9 1 kn1 J7 Jn
 refine Jr 7 47 (Sr x4) [(46,Pt b2 (o2+kn1*1))] (fun X=>?_)
 exact JW 47 9 (cs:=[Sr x4]) 0 (Sr x4) hc4 Jn
 refine Jcx 48 (Bo (x3 == x4)) (show (Bo ((B x3).toList == (B x4).toList):Value)=Bo (x3 == x4) by simp only [Qj]) (Jb (Jk (x3 == x4) (fun h4=>?_) (fun h4=>?_)))
 exact KW (JZ (JR (Jb (Jc (Ja [0,0,0] [(8,I (IntKind.i64.wrap ((kn1:Int)-1)))] (Kw 8 ((kn1:Int)-1) J7 (Jd (Qr ((kn1:Int)-1) ⟨(by (try dsimp only);omega),(by (try dsimp only);rw [hn,show (i+1).toNat=kn1+1 by omega,JiM ‹_› ‹_› ‹_›];congr 1;omega)⟩ (by (try dsimp only);omega)))))))))
 refine Jo (Jb (Je (Je (Ko [] (Wm [(0,Sl (At b1 o1) a.length c_a),(1,I (kn1:Int)),(2,Pt b1 (o1+kn1*1)),(3,Sr x3),(4,Sl (At b2 o2) b.length c_b),(5,I (kn1:Int)),(6,Pt b2 (o2+kn1*1)),(7,Sr x4),(8,Bo (!(x3 == x4) && decide (Jg x3=Jg x4)))] (Km [] [(0,0),(1,0),(4,0),(5,0)] [2,3,6,7,8] [(0,Sl (At b1 o1) a.length c_a),(1,Sl (At b2 o2) b.length c_b),(8,I (kn1:Int)),(57,Bo (!(x3 == x4) && decide (Jg x3=Jg x4)))] (Ke ?_ (Ke ?_ (Ke ?_ (Ke ?_ (Ke ?_ K4))))) ?_))))))
 refine Jr 2 51 (Pt b1 (o1+kn1*1)) [(49,Sl (At b1 o1) a.length c_a),(50,I (kn1:Int))] (fun X=>?_)
 exact J3 (b:=b1) (off:=o1) (len:=a.length) (cap:=c_a) (ik:=.i64) 51 9 1 kn1 J7 Jn
 refine Jr 3 52 (Sr x3) [(51,Pt b1 (o1+kn1*1))] (fun X=>?_)
 exact JW 52 9 (cs:=[Sr x3]) 0 (Sr x3) hc3 Jn
 refine Jr 6 55 (Pt b2 (o2+kn1*1)) [(53,Sl (At b2 o2) b.length c_b),(54,I (kn1:Int))] (fun X=>?_)
 exact J3 (b:=b2) (off:=o2) (len:=b.length) (cap:=c_b) (ik:=.i64) 55 9 1 kn1 J7 Jn
 refine Jr 7 56 (Sr x4) [(55,Pt b2 (o2+kn1*1))] (fun X=>?_)
 exact JW 56 9 (cs:=[Sr x4]) 0 (Sr x4) hc4 Jn
 refine Jr 8 57 (Bo (!(x3 == x4) && decide (Jg x3=Jg x4))) [(52,Sr x3),(56,Sr x4)] (fun X=>?_)
 exact Jj 57 (Bo (!(x3 == x4) && decide (Jg x3=Jg x4))) (Jcg x3 x4 (Vx w3) (Vx w4) G) Jn
 refine Jb (Jk (!(x3 == x4) && decide (Jg x3=Jg x4)) (fun h5=>?_) (fun h5=>?_))
 refine Je (Ko [] (Wm [(0,Sl (At b1 o1) a.length c_a),(1,I (kn1:Int)),(2,Pt b1 (o1+kn1*1)),(3,Sr x3),(4,Sl (At b2 o2) b.length c_b),(5,I (kn1:Int)),(6,Pt b2 (o2+kn1*1)),(7,Sr x4),(8,Sr x3),(9,Sr x4),(10,I 0)] (Km [] [(0,0),(1,0),(4,0),(5,0),(8,0),(9,0),(10,0)] [2,3,6,7] [(4,Sr x3),(5,Sr x4),(6,I 0)] (Ke ?_ (Ke ?_ (Ke ?_ (Ke ?_ K4)))) ?_)))
 refine Jr 2 60 (Pt b1 (o1+kn1*1)) [(58,Sl (At b1 o1) a.length c_a),(59,I (kn1:Int))] (fun X=>?_)
 exact J3 (b:=b1) (off:=o1) (len:=a.length) (cap:=c_a) (ik:=.i64) 60 9 1 kn1 J7 Jn
 refine Jr 3 61 (Sr x3) [(60,Pt b1 (o1+kn1*1))] (fun X=>?_)
 exact JW 61 9 (cs:=[Sr x3]) 0 (Sr x3) hc3 Jn
 refine Jr 6 64 (Pt b2 (o2+kn1*1)) [(62,Sl (At b2 o2) b.length c_b),(63,I (kn1:Int))] (fun X=>?_)
 exact J3 (b:=b2) (off:=o2) (len:=b.length) (cap:=c_b) (ik:=.i64) 64 9 1 kn1 J7 Jn
 refine Jr 7 65 (Sr x4) [(64,Pt b2 (o2+kn1*1))] (fun X=>?_)
 exact JW 65 9 (cs:=[Sr x4]) 0 (Sr x4) hc4 Jn
 refine Jb (Jl (Jh (Jt (Jh (QS (Jt (Jh ?_)))))))
 have hf3:K9 a b=(x3,x4,0):=by
  unfold K9;(rw [if_neg (by omega)];have hb_:b.length-1=a.length-1:=(by omega);(have ha_:=Yp (a:=a) rfl hx1;have hb2_:=Yp (a:=b) (k:=a.length-1) (by omega) hx2;subst ha_;subst hb2_;rw [if_neg (by simp_all),hn];(rw [show (i+1).toNat=kn1+1 by omega,Jkj ‹_› ‹_› ‹_›];(rw [if_pos (by unfold JaH;simp_all)];done))))
 refine Jm [0,0,0] [Sr x3,Sr x4,I 0] (Jy [] (Jp.le_refl _) ?_)
 rw [hf3]
 try dsimp only
 exact ⟨rfl,w3,w4,rfl⟩
 refine Jo (Jb (KW (YL rfl (JZ (J8 (JR (Jb (Jf [0,0,0] [(4,Sr ([])),(5,Sr ([])),(6,I 5)] (Jl ?_)))))))))
 have hf4:K9 a b=([],[],5):=by
  unfold K9;(rw [if_neg (by omega)];have hb_:b.length-1=a.length-1:=(by omega);(have ha_:=Yp (a:=a) rfl hx1;have hb2_:=Yp (a:=b) (k:=a.length-1) (by omega) hx2;subst ha_;subst hb2_;rw [if_neg (by simp_all),hn];(rw [show (i+1).toNat=kn1+1 by omega,Jkj ‹_› ‹_› ‹_›];(rw [if_neg (by unfold JaH;simp_all)];done))))
 refine Jm [0,0,0] [Sr ([]),Sr ([]),I 5] (Jy [] (Jp.le_refl _) ?_)
 rw [hf4]
 try dsimp only
 exact ⟨rfl,(Nat.le_of_ble_eq_true rfl),(Nat.le_of_ble_eq_true rfl),rfl⟩
 refine KW (JZ (J8 (JR (Jb (Jf [0,0,0] [(4,Sr ([])),(5,Sr ([])),(6,I 5)] (Jl ?_))))))
 have hf5:K9 a b=([],[],5):=by
  unfold K9;(rw [if_neg (by omega)];have hb_:b.length-1=a.length-1:=(by omega);(have ha_:=Yp (a:=a) rfl hx1;have hb2_:=Yp (a:=b) (k:=a.length-1) (by omega) hx2;subst ha_;subst hb2_;rw [if_neg (by simp_all),hn];(rw [show (i+1).toNat=0 by omega];rfl)))
 refine Jm [0,0,0] [Sr ([]),Sr ([]),I 5] (Jy [] (Jp.le_refl _) ?_)
 rw [hf5]
 try dsimp only
 exact ⟨rfl,(Nat.le_of_ble_eq_true rfl),(Nat.le_of_ble_eq_true rfl),rfl⟩
theorem JeG (G:Jp) (vs_p:List Value) (p:Qy) (h_p:JcC.R G vs_p p) (vs_q:List Value) (q:Qy) (h_q:JcC.R G vs_q q) :Yi 43 #[.agg vs_p.toArray,.agg vs_q.toArray] G [] (fun u G' L'=>u=.tuple #[Sr ((KS p q).1),Sr ((KS p q).2.1),I ((KS p q).2.2)]∧(((KS p q).1).length≤140737488351232)∧(((KS p q).2.1).length≤140737488351232)∧L'=[]):=by
 obtain ⟨a1,c1,a2,c2,rfl,w1,hs1,hs2⟩:=h_p
 obtain ⟨a3,c3,a4,c4,rfl,w2,hs3,hs4⟩:=h_q
 refine JN Tryz.func43 37 [(0,(Yq p a1 c1 a2 c2)),(1,(Yq q a3 c3 a4 c4))] rfl (fun w0 G0=>?_)
 refine Je (Jc (Jv 2 #[Sr p.name,Sl a1 p.entries.length c1,Sl a2 p.sides.length c2] 47 (fun b1=>Jv 3 #[Sr q.name,Sl a3 q.entries.length c3,Sl a4 q.sides.length c4] 47 (fun b2=>Ja [0,0,0] [] (Jd (Jb (Je (Jc (Ja [4] [(11,(Yq p a1 c1 a2 c2))] (JF 12 (JaF G (Yy p a1 c1 a2 c2) p (⟨a1,c1,a2,c2,rfl,w1,hs1,hs2⟩)) (fun v G1 L1 hl1 hp=>?_)))))))))))
 obtain ⟨a5,c5,rfl,hs5,rfl⟩:=hp
 refine Ja [0,0,0,0,0] [(7,Sl a5 (((JX p).1).length) c5),(8,I ((JX p).2))] (Jd (Jb (Je (Jf [0,0] [(16,Bo (!decide ((JX p).2=0)))] (Jk (!decide ((JX p).2=0)) (fun h1=>?_) (fun h1=>?_))))))
 refine Jf [0,0,0,0] [(4,Sr ([])),(5,Sr ([])),(6,I ((JX p).2))] (Jl (Jh ?_))
 have hf1:KS p q=([],[],(JX p).2):=by
  unfold KS;simp_all
 refine Jm [0,0,0] [Sr ([]),Sr ([]),I ((JX p).2)] (Jy [] hl1 ?_)
 rw [hf1]
 try dsimp only
 exact ⟨rfl,(Nat.le_of_ble_eq_true rfl),(Nat.le_of_ble_eq_true rfl),rfl⟩
 refine Jo (Jb (Je (Jc (Ja [2] [(19,(Yq q a3 c3 a4 c4))] (JF 20 (JaF G1 (Yy q a3 c3 a4 c4) q (⟨a3,c3,a4,c4,rfl,w2,(hs3.mono hl1),(hs4.mono hl1)⟩)) (fun v G2 L1 hl2 hp=>?_))))))
 obtain ⟨a6,c6,rfl,hs6,rfl⟩:=hp
 refine Ja [0,0,0,0,0] [(8,I ((JX q).2)),(9,Sl a6 (((JX q).1).length) c6)] (Jd (Jb (Je (Jf [0,0] [(24,Bo (!decide ((JX q).2=0)))] (Jk (!decide ((JX q).2=0)) (fun h2=>?_) (fun h2=>?_))))))
 refine Jf [0,0,0,0] [(4,Sr ([])),(5,Sr ([])),(6,I ((JX q).2))] (Jl (Jh ?_))
 have hf2:KS p q=([],[],(JX q).2):=by
  unfold KS;simp_all
 refine Jm [0,0,0] [Sr ([]),Sr ([]),I ((JX q).2)] (Jy [] (Jp.le_trans hl1 hl2) ?_)
 rw [hf2]
 try dsimp only
 exact ⟨rfl,(Nat.le_of_ble_eq_true rfl),(Nat.le_of_ble_eq_true rfl),rfl⟩
 refine Jo (Jb (Je (Jf [0,4,0,2,0] [(30,Bo (!((B p.name).toList == (B q.name).toList)))] (QX 30 (Bo (!(p.name == q.name))) (show (Bo (!((B p.name).toList == (B q.name).toList)):Value)=Bo (!(p.name == q.name)) by simp only [Qj]) (Jk (!(p.name == q.name)) (fun h3=>?_) (fun h3=>?_))))))
 refine Jf [0,0,0] [(4,Sr ([])),(5,Sr ([])),(6,I 3)] (Jl (Jh ?_))
 have hf3:KS p q=([],[],3):=by
  unfold KS;simp_all
 refine Jm [0,0,0] [Sr ([]),Sr ([]),I 3] (Jy [] (Jp.le_trans hl1 hl2) ?_)
 rw [hf3]
 try dsimp only
 exact ⟨rfl,(Nat.le_of_ble_eq_true rfl),(Nat.le_of_ble_eq_true rfl),rfl⟩
 refine Jo (Jb (Je (Jc (Ja [0,0] [(31,Sl a5 (((JX p).1).length) c5),(32,Sl a6 (((JX q).1).length) c6)] (JF 33 (Jfz G2 a5 c5 ((JX p).1) (hs5.mono hl2) a6 c6 ((JX q).1) hs6) (fun v G3 L1 hl3 hp=>?_))))))
 obtain ⟨rfl,w3,w4,rfl⟩:=hp
 refine Ja [0,0,0,0,0,0] [(4,Sr ((K9 ((JX p).1) ((JX q).1)).1)),(5,Sr ((K9 ((JX p).1) ((JX q).1)).2.1)),(6,I ((K9 ((JX p).1) ((JX q).1)).2.2))] (Jd (Jb (Jl ?_)))
 have hf4:KS p q=((K9 ((JX p).1) ((JX q).1)).1,(K9 ((JX p).1) ((JX q).1)).2.1,(K9 ((JX p).1) ((JX q).1)).2.2):=by
  unfold KS;simp_all
 refine Jm [0,0,0] [Sr ((K9 ((JX p).1) ((JX q).1)).1),Sr ((K9 ((JX p).1) ((JX q).1)).2.1),I ((K9 ((JX p).1) ((JX q).1)).2.2)] (Jy [] (Jp.le_trans (Jp.le_trans hl1 hl2) hl3) ?_)
 rw [hf4]
 try dsimp only
 exact ⟨rfl,w3,w4,rfl⟩
def Jaz (x y:JQ):Bool:=decide (JA x y.root y.at_=(y,0))
theorem JdW {x y:JQ}:Jaz x y=true ↔ (JA x y.root y.at_).2=0∧(JA x y.root y.at_).1.epoch=y.epoch∧(JA x y.root y.at_).1.root=y.root∧(JA x y.root y.at_).1.prev=y.prev∧(JA x y.root y.at_).1.at_=y.at_:=by
 unfold Jaz
 rw [decide_eq_true_eq]
 constructor
 · intro h;rw [h];simp
 ·
  rintro ⟨h1,h2⟩
  exact Prod.ext (Yz.2 h2) h1
def lnk:List JQ→Nat→Int
 | x::y::r,i=>if Jaz x y then lnk (y::r) (i+1) else (i:Int)
 | _,_=>-1
def Wl (l:List JQ):Int:=lnk l 1
theorem Jpo {l:List JQ} {i:Nat} (h:l.length≤1):lnk l i=-1:=by
 match l,h with
 | [],_=>rfl
 | [_],_=>rfl
theorem Jn3 {l:List JQ} {i:Nat} {x y:JQ} (hi:1≤i) (hx:l[i-1]? = some x) (hy:l[i]? = some y) (h:Jaz x y=true):lnk (l.drop (i-1)) i=lnk (l.drop (i+1-1)) (i+1):=by
 obtain ⟨h1,rfl⟩:=List.getElem?_eq_some_iff.1 hx
 obtain ⟨h2,rfl⟩:=List.getElem?_eq_some_iff.1 hy
 rw [List.drop_eq_getElem_cons h1,show i-1+1=i by omega,show i+1-1=i by omega,List.drop_eq_getElem_cons h2]
 show (if Jaz _ _=true then _ else _)=_
 rw [if_pos h]
theorem Jn4 {l:List JQ} {i:Nat} {x y:JQ} (hi:1≤i) (hx:l[i-1]? = some x) (hy:l[i]? = some y) (h:¬ Jaz x y=true):lnk (l.drop (i-1)) i=(i:Int):=by
 obtain ⟨h1,rfl⟩:=List.getElem?_eq_some_iff.1 hx
 obtain ⟨h2,rfl⟩:=List.getElem?_eq_some_iff.1 hy
 rw [List.drop_eq_getElem_cons h1,show i-1+1=i by omega,List.drop_eq_getElem_cons h2]
 show (if Jaz _ _=true then _ else _)=_
 rw [if_neg h]
theorem Jle:∀ (l:List JQ) (i:Nat),lnk l i<0 ↔ ∀ (k:Nat) x y,l[k]? = some x→l[k+1]? = some y→Jaz x y=true
 | [],i=>by simp [lnk]
 | [a],i=>by simp [lnk]
 | a::b::r,i=>by
  have ih:=Jle (b::r) (i+1)
  unfold lnk
  split
  ·
   rename_i h
   rw [ih]
   constructor
   ·
    intro hh k x y hx hy
    cases k with
    | zero=>simp at hx hy;subst hx hy;exact h
    | succ k=>exact hh k x y hx hy
   ·
    intro hh k x y hx hy
    exact hh (k+1) x y hx hy
  ·
   rename_i h
   constructor
   · intro hh;omega
   · intro hh;exact absurd (hh 0 a b rfl rfl) h
def Y5:List JQ→Nat→Int×Int
 | [],_=>(0,0)
 | h::l,i=>if JI h=0 then Y5 l (i+1) else (JI h,(i:Int))
theorem JiN {l:List JQ} {i:Nat} {x:JQ} (hx:l[i]? = some x) (h:JI x=0):Y5 (l.drop i) i=Y5 (l.drop (i+1)) (i+1):=by
 obtain ⟨h1,rfl⟩:=List.getElem?_eq_some_iff.1 hx
 rw [List.drop_eq_getElem_cons h1]
 show (if JI _=0 then _ else _)=_
 rw [if_pos h]
theorem Jmx {l:List JQ} {i:Nat} {x:JQ} (hx:l[i]? = some x) (h:¬ JI x=0):Y5 (l.drop i) i=(JI x,(i:Int)):=by
 obtain ⟨h1,rfl⟩:=List.getElem?_eq_some_iff.1 hx
 rw [List.drop_eq_getElem_cons h1]
 show (if JI _=0 then _ else _)=_
 rw [if_neg h]
theorem JfA:∀ (l:List JQ) (i:Nat),(Y5 l i).1=0 ↔ ∀ h∈l,JI h=0
 | [],i=>by simp [Y5]
 | h::l,i=>by
  have ih:=JfA l (i+1)
  unfold Y5
  split
  · rename_i e;rw [ih];simp [e]
  · rename_i e;simp [e]
def Kd (l:List JQ):Int×Int:=if l.length=0 then (5,0) else if 40<l.length then (2,0) else if (Y5 l 0).1 ≠ 0 then Y5 l 0 else if 0≤Wl l then (8,Wl l) else (0,0)
structure Zc (l:List JQ):Prop where
 len1:1≤l.length
 len:l.length≤40
 ok:∀ h∈l,JI h=0
 lnk:∀ (k:Nat) x y,l[k]? = some x→l[k+1]? = some y→Jaz x y=true
theorem K7 {l:List JQ}:(Kd l).1=0 ↔ Zc l:=by
 unfold Kd
 have e1:=JfA l 0
 have e2:=Jle l 1
 constructor
 ·
  intro h
  split at h
  · cases h
  split at h
  · cases h
  split at h
  · contradiction
  split at h
  · cases h
  ·
   rename_i h1 h2 h3 h4
   exact ⟨by omega,by omega,e1.1 (Decidable.not_not.1 h3),e2.1 (by unfold Wl at h4;omega)⟩
 ·
  rintro ⟨h1,h2,h3,h4⟩
  rw [if_neg (by omega),if_neg (by omega),if_neg (by have:=e1.2 h3;omega),if_neg (by have:=e2.2 h4;unfold Wl;omega)]
def K0:List (List JQ)→Int
 | []=>0
 | l::r=>if (Kd l).1=0 then K0 r else (Kd l).1
theorem Jf9 {l:List (List JQ)} {i:Nat} {x:List JQ} (hx:l[i]? = some x) (h:(Kd x).1=0):K0 (l.drop i)=K0 (l.drop (i+1)):=by
 obtain ⟨h1,rfl⟩:=List.getElem?_eq_some_iff.1 hx
 rw [List.drop_eq_getElem_cons h1]
 show (if (Kd _).1=0 then _ else _)=_
 rw [if_pos h]
theorem JiO {l:List (List JQ)} {i:Nat} {x:List JQ} (hx:l[i]? = some x) (h:¬ (Kd x).1=0):K0 (l.drop i)=(Kd x).1:=by
 obtain ⟨h1,rfl⟩:=List.getElem?_eq_some_iff.1 hx
 rw [List.drop_eq_getElem_cons h1]
 show (if (Kd _).1=0 then _ else _)=_
 rw [if_neg h]
theorem Jdf:∀ (l:List (List JQ)),K0 l=0 ↔ ∀ x∈l,Zc x
 | []=>by simp [K0]
 | a::l=>by
  have ih:=Jdf l
  unfold K0
  split
  · rename_i e;rw [ih];simp [K7.1 e]
  ·
   rename_i e;constructor
   · intro h;exact absurd h e
   · intro h;exact absurd (K7.2 (h a (by simp))) e
theorem QC {l:List JQ}:K0 [l]=0 ↔ Zc l:=by rw [Jdf];simp
def WU (l:List JQ):JQ:=l[l.length-1]?.getD Zq
def WO (l:List JQ):JQ:=l[0]?.getD Zq
theorem WB {l:List JQ} {k:Nat} {x:JQ} (hk:k=l.length-1) (h:l[k]? = some x):x=WU l:=by unfold WU;rw [← hk,h];rfl
theorem WP {l:List JQ} {x:JQ} (h:l[0]? = some x):x=WO l:=by unfold WO;rw [h];rfl
def ZT (l:List JQ) (root at_:Int):Int:=if K0 [l] ≠ 0 then K0 [l] else if (l.length:Int)=40 then 7 else (JA (WU l) root at_).2
def Qt (l:List JQ) (root at_:Int):List JQ×Int:=if ZT l root at_ ≠ 0 then ([],ZT l root at_) else (l++[(JA (WU l) root at_).1],0)
def cut (l:List JQ) (a b:Int):List JQ:=(l.take (b-(WO l).epoch+1).toNat).drop (a-(WO l).epoch).toNat
def W1 (l:List JQ) (a b:Int):List JQ×Int:=if K0 [l] ≠ 0 then ([],K0 [l]) else if b<a∨a<(WO l).epoch∨(WU l).epoch<b then ([],4) else (cut l a b,0)
def QU (h:JQ) (l:List JQ):Bool×Int:=if K0 [l] ≠ 0 then (false,K0 [l]) else if JI h ≠ 0 then (false,JI h) else (decide (Wl [h,WO l]<0),0)
theorem Zc.first {l:List JQ} (h:Zc l):l[0]? = some (WO l):=by
 have:=h.len1
 have e:l[0]? = some (l[0]'(by omega)):=List.getElem?_eq_getElem (by omega)
 rw [e];unfold WO;rw [e];rfl
theorem Zc.last {l:List JQ} (h:Zc l):l[l.length-1]? = some (WU l):=by
 have:=h.len1
 have e:l[l.length-1]? = some (l[l.length-1]'(by omega)):=List.getElem?_eq_getElem (by omega)
 rw [e];unfold WU;rw [e];rfl
theorem JiP {x y:JQ} (h:Jaz x y=true):y.epoch=x.epoch+1:=by
 unfold Jaz at h
 rw [decide_eq_true_eq] at h
 have h0:(JA x y.root y.at_).2=0:=by rw [h]
 have:=(Jax h0).2.2.2.1
 rw [h] at this
 have:=congrArg (fun p=>p.1.epoch) this
 simpa using this
theorem Zc.epoch {l:List JQ} (h:Zc l):∀ (k:Nat) x,l[k]? = some x→x.epoch=(WO l).epoch+k
 | 0,x,hx=>by rw [h.first] at hx;rw [← Option.some.inj hx];simp
 | k+1,x,hx=>by
  have hk:=(List.getElem?_eq_some_iff.1 hx).1
  have e:l[k]? = some (l[k]'(by omega)):=List.getElem?_eq_getElem (by omega)
  have:=h.epoch k _ e
  have:=JiP (h.lnk k _ _ e hx)
  omega
theorem Zc.lastE {l:List JQ} (h:Zc l):(WU l).epoch=(WO l).epoch+l.length-1:=by
 have:=h.epoch _ _ h.last
 have:=h.len1
 omega
theorem Zc.fb {l:List JQ} (h:Zc l):0≤(WO l).epoch∧(WO l).epoch≤1000000:=by
 have:=Zb (h.ok _ (List.mem_of_getElem? h.first));omega
theorem Zc.lb {l:List JQ} (h:Zc l):0≤(WU l).epoch∧(WU l).epoch≤1000000:=by
 have:=Zb (h.ok _ (List.mem_of_getElem? h.last));omega
theorem Jdg {l:List JQ} {r t:Int} (h:(Qt l r t).2=0):Zc l∧l.length<40∧(JA (WU l) r t).2=0∧Qt l r t=(l++[(JA (WU l) r t).1],0):=by
 unfold Qt at h ⊢
 split at h
 · contradiction
 ·
  rename_i h1
  rw [if_neg h1]
  unfold ZT at h1
  by_cases e1:K0 [l]=0
  ·
   rw [if_neg (by omega)] at h1
   have hc:=QC.1 e1
   by_cases e2:(l.length:Int)=40
   · rw [if_pos e2] at h1;omega
   ·
    rw [if_neg e2] at h1
    exact ⟨hc,by have:=hc.len;omega,Decidable.not_not.1 h1,rfl⟩
  · rw [if_pos e1] at h1;omega
theorem Jga {l:List JQ} {r t:Int} (h:¬ (Qt l r t).2=0):(Qt l r t).1=[]:=by
 revert h;unfold Qt;split <;> simp
theorem Zc.snoc {l:List JQ} (h:Zc l) (hl:l.length<40) {n:JQ} (hn:JI n=0) (hk:Jaz (WU l) n=true):Zc (l++[n]):=by
 refine ⟨by simp,by simp;omega,fun x hx=>?_,fun k x y hx hy=>?_⟩
 ·
  rcases List.mem_append.1 hx with hx | hx
  · exact h.ok x hx
  · rw [List.mem_singleton.1 hx];exact hn
 ·
  by_cases e:k+1<l.length
  ·
   rw [List.getElem?_append_left (by omega)] at hx hy
   exact h.lnk k x y hx hy
  ·
   have hy1:=(List.getElem?_eq_some_iff.1 hy).1
   simp at hy1
   have e2:k=l.length-1:=by have:=h.len1;omega
   have:=h.len1
   rw [List.getElem?_append_left (by omega),e2,h.last] at hx
   rw [List.getElem?_append_right (by omega),show k+1-l.length=0 by omega] at hy
   simp at hy
   rw [← Option.some.inj hx,← hy];exact hk
theorem Jkk {x:JQ} {r t:Int} (h:(JA x r t).2=0):Jaz x (JA x r t).1=true∧JI (JA x r t).1=0:=by
 obtain ⟨h1,h2,h3,h4,h5⟩:=Jax h
 have e1:(JA x r t).1.root=r:=by rw [h4]
 have e2:(JA x r t).1.at_=t:=by rw [h4]
 refine ⟨?_,by rw [h4];exact h5⟩
 unfold Jaz
 rw [decide_eq_true_eq,e1,e2]
 exact Prod.ext rfl h
theorem Yb {x:JQ} {r t:Int} (hr:0≤r) (h:(JA x r t).2=0):(0≤(JA x r t).1.epoch∧(JA x r t).1.epoch≤1000000)∧(0≤(JA x r t).1.root∧(JA x r t).1.root<2305843009213693951)∧(0≤(JA x r t).1.prev∧(JA x r t).1.prev<2305843009213693951)∧0≤(JA x r t).1.at_∧(JA x r t).1.at_≤1000000000:=by
 obtain ⟨h1,h2,h3,h4,h5⟩:=Jax h
 have:=Zb h5
 have:=Qo (VG x)
 rw [h4]
 simp only at *
 omega
theorem JbG (G:Jp) (a_l:Option Addr) (c_l:Nat) (l:List JQ) (h_l:RS KA G a_l c_l l) :Q2 174 #[Sl a_l l.length c_l] G (I (Wl l)):=by
 refine JN Tryz.func174 42 [(0,Sl a_l l.length c_l)] rfl (fun w0 G0=>?_)
 refine Jf [0] [] (Je (Jf [0] [(3,I 1)] (Jz ?_)))
 have hlm_h_l:l.length≤9223372036854775807:=Nat.le_trans (h_l).le (h_l).max
 refine Qh (σ:=Nat) (fun q_=>(1≤q_∧(q_≤l.length∨q_=1))∧(Wl l=lnk (l.drop (q_-1)) q_)) (fun q_=>[(0,Sl a_l l.length c_l),(3,I (q_:Int))]) (fun q_=>G) (fun q_=>[]) (fun q_=>l.length-q_) 1 ⟨⟨Nat.le_refl _,.inr rfl⟩,rfl⟩ (fun q_ hs=>?_)
 revert hs;revert q_;intro i hs
 obtain ⟨hi,hn⟩:=hs
 dsimp only
 refine Je (Jf [0,0,0,0] [(9,Bo (decide ((i:Int)<(l.length:Int))))] (Jk (decide ((i:Int)<(l.length:Int))) (fun h1=>?_) (fun h1=>?_)))
 refine Jo (Jb (Je (Jz (Je ?_))))
 have e1:IntKind.i64.wrap ((i:Int)-1)=((i-1:Nat):Int):=(IntWalk.i64_in _ (by omega)).trans (show (i:Int)-1=((i-1:Nat):Int) by omega)
 obtain ⟨b1,o1,rfl⟩:=RS.addr h_l (k:=i-1) (by omega)
 obtain ⟨x1,hx1⟩:=We (l:=l) (k:=i-1) (by omega)
 obtain ⟨_,⟨rfl,w1,w2,w3,w4⟩,hc1⟩:=RS.get h_l hx1
 obtain ⟨x2,hx2⟩:=We (l:=l) (k:=i) (by omega)
 obtain ⟨_,⟨rfl,_,w6,_,w8⟩,hc2⟩:=RS.get h_l hx2
 refine Ko [19,20] (Wm [(0,Sl (At b1 o1) l.length c_l),(1,I (i:Int)),(2,I ((i-1:Nat):Int)),(3,Pt b1 (o1+(i-1)*4)),(4,.agg #[I x1.epoch,U x1.root,U x1.prev,I x1.at_]),(5,Sl (At b1 o1) l.length c_l),(6,I (i:Int)),(7,Pt b1 (o1+i*4)),(8,Pt b1 (o1+i*4+1)),(9,U x2.root),(10,Sl (At b1 o1) l.length c_l),(11,I (i:Int)),(12,Pt b1 (o1+i*4)),(13,Pt b1 (o1+i*4+3)),(14,I x2.at_),(15,.tuple #[(Y9 (JA x1 x2.root x2.at_).1),I ((JA x1 x2.root x2.at_).2)]),(16,.tuple #[(Y9 (JA x1 x2.root x2.at_).1),I ((JA x1 x2.root x2.at_).2)]),(17,(Y9 (JA x1 x2.root x2.at_).1)),(18,I ((JA x1 x2.root x2.at_).2))] (JK [] [(0,0),(1,0),(5,0),(6,0),(8,0),(10,0),(11,0),(13,0),(16,0),(17,0),(18,0)] [2,3,4,7,9,12,14,15] [19] (Ke ?_ (Ke ?_ (Ke ?_ (Ke ?_ (Ke ?_ (Ke ?_ (Ke ?_ (Ke ?_ K4)))))))) (Ke ?_ K4)))
 refine Jr 2 15 (I ((i-1:Nat):Int)) [(14,I (i:Int))] (fun X=>?_)
 exact K5 15 (I (IntKind.i64.wrap ((i:Int)-1))) (I ((i-1:Nat):Int)) (by simp only [e1]) Jn
 refine Jr 3 16 (Pt b1 (o1+(i-1)*4)) [(13,Sl (At b1 o1) l.length c_l),(15,I ((i-1:Nat):Int))] (fun X=>?_)
 exact J3 (b:=b1) (off:=o1) (len:=l.length) (cap:=c_l) (ik:=.i64) 16 43 4 (i-1) J7 Jn
 refine Jr 4 17 (.agg #[I x1.epoch,U x1.root,U x1.prev,I x1.at_]) [(16,Pt b1 (o1+(i-1)*4))] (fun X=>?_)
 exact JW 17 43 (cs:=[I x1.epoch,U x1.root,U x1.prev,I x1.at_]) 0 (.agg #[I x1.epoch,U x1.root,U x1.prev,I x1.at_]) hc1 Jn
 refine Jr 7 20 (Pt b1 (o1+i*4)) [(18,Sl (At b1 o1) l.length c_l),(19,I (i:Int))] (fun X=>?_)
 exact J3 (b:=b1) (off:=o1) (len:=l.length) (cap:=c_l) (ik:=.i64) 20 43 4 i J7 Jn
 refine Jr 9 22 (U x2.root) [(21,Pt b1 (o1+i*4+1))] (fun X=>?_)
 exact JW 22 41 (cs:=[I x2.epoch,U x2.root,U x2.prev,I x2.at_]) 1 (U x2.root) hc2 Jn
 refine Jr 12 25 (Pt b1 (o1+i*4)) [(23,Sl (At b1 o1) l.length c_l),(24,I (i:Int))] (fun X=>?_)
 exact J3 (b:=b1) (off:=o1) (len:=l.length) (cap:=c_l) (ik:=.i64) 25 43 4 i J7 Jn
 refine Jr 14 27 (I x2.at_) [(26,Pt b1 (o1+i*4+3))] (fun X=>?_)
 exact JW 27 2 (cs:=[I x2.epoch,U x2.root,U x2.prev,I x2.at_]) 3 (I x2.at_) hc2 Jn
 refine Jr 15 28 (.tuple #[(Y9 (JA x1 x2.root x2.at_).1),I ((JA x1 x2.root x2.at_).2)]) [(17,.agg #[I x1.epoch,U x1.root,U x1.prev,I x1.at_]),(22,U x2.root),(27,I x2.at_)] (fun X=>?_)
 exact Jj 28 (.tuple #[(Y9 (JA x1 x2.root x2.at_).1),I ((JA x1 x2.root x2.at_).2)]) (Ja9 G [I x1.epoch,U x1.root,U x1.prev,I x1.at_] x1 (⟨rfl,w1,w2,w3,w4⟩) x2.root w6 x2.at_ w8) Jn
 refine JD 19 [] (fun X=>?_)
 refine Jv 4 #[I 0,U 0,U 0,I 0] 43 (fun b2=>?_)
 have e2:IntKind.i64.wrap ((i:Int)-1)=((i-1:Nat):Int):=(IntWalk.i64_in _ (by omega)).trans (show (i:Int)-1=((i-1:Nat):Int) by omega)
 refine JC [(19,Pt b2 0)] (JK [] [(0,0),(1,0),(5,0),(6,0),(8,0),(10,0),(11,0),(13,0),(16,0),(17,0),(18,0)] [2,3,4,7,9,12,14,15] [20] (Ke ?_ (Ke ?_ (Ke ?_ (Ke ?_ (Ke ?_ (Ke ?_ (Ke ?_ (Ke ?_ K4)))))))) (Ke ?_ K4))
 refine Jr 2 15 (I ((i-1:Nat):Int)) [(14,I (i:Int))] (fun X=>?_)
 exact K5 15 (I (IntKind.i64.wrap ((i:Int)-1))) (I ((i-1:Nat):Int)) (by simp only [e2]) Jn
 refine Jr 3 16 (Pt b1 (o1+(i-1)*4)) [(13,Sl (At b1 o1) l.length c_l),(15,I ((i-1:Nat):Int))] (fun X=>?_)
 exact J3 (b:=b1) (off:=o1) (len:=l.length) (cap:=c_l) (ik:=.i64) 16 43 4 (i-1) J7 Jn
 refine Jr 4 17 (.agg #[I x1.epoch,U x1.root,U x1.prev,I x1.at_]) [(16,Pt b1 (o1+(i-1)*4))] (fun X=>?_)
 exact JW 17 43 (cs:=[I x1.epoch,U x1.root,U x1.prev,I x1.at_]) 0 (.agg #[I x1.epoch,U x1.root,U x1.prev,I x1.at_]) hc1 Jn
 refine Jr 7 20 (Pt b1 (o1+i*4)) [(18,Sl (At b1 o1) l.length c_l),(19,I (i:Int))] (fun X=>?_)
 exact J3 (b:=b1) (off:=o1) (len:=l.length) (cap:=c_l) (ik:=.i64) 20 43 4 i J7 Jn
 refine Jr 9 22 (U x2.root) [(21,Pt b1 (o1+i*4+1))] (fun X=>?_)
 exact JW 22 41 (cs:=[I x2.epoch,U x2.root,U x2.prev,I x2.at_]) 1 (U x2.root) hc2 Jn
 refine Jr 12 25 (Pt b1 (o1+i*4)) [(23,Sl (At b1 o1) l.length c_l),(24,I (i:Int))] (fun X=>?_)
 exact J3 (b:=b1) (off:=o1) (len:=l.length) (cap:=c_l) (ik:=.i64) 25 43 4 i J7 Jn
 refine Jr 14 27 (I x2.at_) [(26,Pt b1 (o1+i*4+3))] (fun X=>?_)
 exact JW 27 2 (cs:=[I x2.epoch,U x2.root,U x2.prev,I x2.at_]) 3 (I x2.at_) hc2 Jn
 refine Jr 15 28 (.tuple #[(Y9 (JA x1 x2.root x2.at_).1),I ((JA x1 x2.root x2.at_).2)]) [(17,.agg #[I x1.epoch,U x1.root,U x1.prev,I x1.at_]),(22,U x2.root),(27,I x2.at_)] (fun X=>?_)
 exact Jj 28 (.tuple #[(Y9 (JA x1 x2.root x2.at_).1),I ((JA x1 x2.root x2.at_).2)]) (Ja9 G [I x1.epoch,U x1.root,U x1.prev,I x1.at_] x1 (⟨rfl,w1,w2,w3,w4⟩) x2.root w6 x2.at_ w8) Jn
 refine JD 20 [(4,Pt b2 0),(29,(Y9 (JA x1 x2.root x2.at_).1))] (fun X=>?_)
 refine KL 0 [[Sg b2 0 (Jc3 (JA x1 x2.root x2.at_).1)]] (Kc [(21,I ((JA x1 x2.root x2.at_).2))] (Km [0,1,2,3,4,5,6,7,8,9,10,11,12,13,14,15,16,17] [(18,0),(21,0)] [] [(0,Sl (At b1 o1) l.length c_l),(3,I (i:Int)),(4,Pt b2 0),(5,I ((JA x1 x2.root x2.at_).2))] (List.forall_mem_nil _) (Jb (Je ?_))))
 rcases Bool.eq_false_or_eq_true (!decide ((JA x1 x2.root x2.at_).2=0)) with h2 | h2
 have h2d:=h2
 try simp only [BB] at h2d
 refine Ko [] (Wm [(0,I ((JA x1 x2.root x2.at_).2)),(1,Bo true),(2,Bo true),(3,undef),(4,undef),(5,undef),(6,undef),(7,undef),(8,undef),(9,Bo true)] (Km [] [(0,0),(2,0),(3,1),(4,1),(5,1),(6,1),(7,1),(8,1),(9,0)] [1] [(0,Sl (At b1 o1) l.length c_l),(3,I (i:Int)),(40,Bo true)] (Ke ?_ K4) ?_))
 refine Jr 1 32 (Bo true) [(31,I ((JA x1 x2.root x2.at_).2))] (fun X=>?_)
 exact K5 32 (Bo (!decide ((JA x1 x2.root x2.at_).2=0))) (Bo true) (by rw [h2]) Jn
 refine Jb (JU (Jf [0,0] [(2,I (i:Int))] (Jl (Jt (Jh (QS (Jt (Jh (Jm [0] [I (i:Int)] (Jw (Jp.le_refl _) (congrArg I (?_:(Wl l)=(i:Int)).symm)))))))))))
 rw [hn];exact Jn4 (by omega) hx1 hx2 (by rw [JdW];simp_all)
 have h2d:=h2
 try simp only [BB] at h2d
 refine Ko [] (Wm [(0,I ((JA x1 x2.root x2.at_).2)),(1,Bo false),(2,Bo false),(3,(Y9 (JA x1 x2.root x2.at_).1)),(4,Sl (At b1 o1) l.length c_l),(5,I (i:Int)),(6,Pt b1 (o1+i*4)),(7,.agg #[I x2.epoch,U x2.root,U x2.prev,I x2.at_]),(8,Bo (!(decide (((JA x1 x2.root x2.at_).1).epoch=x2.epoch) && decide (((JA x1 x2.root x2.at_).1).root=x2.root) && decide (((JA x1 x2.root x2.at_).1).prev=x2.prev) && decide (((JA x1 x2.root x2.at_).1).at_=x2.at_)))),(9,Bo (!(decide (((JA x1 x2.root x2.at_).1).epoch=x2.epoch) && decide (((JA x1 x2.root x2.at_).1).root=x2.root) && decide (((JA x1 x2.root x2.at_).1).prev=x2.prev) && decide (((JA x1 x2.root x2.at_).1).at_=x2.at_))))] (Km [] [(0,0),(2,0),(3,2),(4,0),(5,0),(9,0)] [1,6,7,8] [(0,Sl (At b1 o1) l.length c_l),(3,I (i:Int)),(40,Bo (!(decide (((JA x1 x2.root x2.at_).1).epoch=x2.epoch) && decide (((JA x1 x2.root x2.at_).1).root=x2.root) && decide (((JA x1 x2.root x2.at_).1).prev=x2.prev) && decide (((JA x1 x2.root x2.at_).1).at_=x2.at_))))] (Ke ?_ (Ke ?_ (Ke ?_ (Ke ?_ K4)))) ?_))
 refine Jr 1 32 (Bo false) [(31,I ((JA x1 x2.root x2.at_).2))] (fun X=>?_)
 exact K5 32 (Bo (!decide ((JA x1 x2.root x2.at_).2=0))) (Bo false) (by rw [h2]) Jn
 refine Jr 6 37 (Pt b1 (o1+i*4)) [(33,Bo false),(35,Sl (At b1 o1) l.length c_l),(36,I (i:Int))] (fun X=>?_)
 exact J3 (b:=b1) (off:=o1) (len:=l.length) (cap:=c_l) (ik:=.i64) 37 43 4 i J7 Jn
 refine Jr 7 38 (.agg #[I x2.epoch,U x2.root,U x2.prev,I x2.at_]) [(33,Bo false),(37,Pt b1 (o1+i*4))] (fun X=>?_)
 exact JW 38 43 (cs:=[I x2.epoch,U x2.root,U x2.prev,I x2.at_]) 0 (.agg #[I x2.epoch,U x2.root,U x2.prev,I x2.at_]) hc2 Jn
 refine Jr 8 39 (Bo (!(decide (((JA x1 x2.root x2.at_).1).epoch=x2.epoch) && decide (((JA x1 x2.root x2.at_).1).root=x2.root) && decide (((JA x1 x2.root x2.at_).1).prev=x2.prev) && decide (((JA x1 x2.root x2.at_).1).at_=x2.at_)))) [(33,Bo false),(34,(Y9 (JA x1 x2.root x2.at_).1)),(38,.agg #[I x2.epoch,U x2.root,U x2.prev,I x2.at_])] (fun X=>?_)
 exact JaR 39 (Bo (!(decide (((JA x1 x2.root x2.at_).1).epoch=x2.epoch) && (decide (((JA x1 x2.root x2.at_).1).root=x2.root) && (decide (((JA x1 x2.root x2.at_).1).prev=x2.prev) && (decide (((JA x1 x2.root x2.at_).1).at_=x2.at_) && true)))))) (Bo (!(decide (((JA x1 x2.root x2.at_).1).epoch=x2.epoch) && decide (((JA x1 x2.root x2.at_).1).root=x2.root) && decide (((JA x1 x2.root x2.at_).1).prev=x2.prev) && decide (((JA x1 x2.root x2.at_).1).at_=x2.at_)))) (by simp [Qj,Bool.and_assoc]) Jn
 refine Jb (Jk (!(decide (((JA x1 x2.root x2.at_).1).epoch=x2.epoch) && decide (((JA x1 x2.root x2.at_).1).root=x2.root) && decide (((JA x1 x2.root x2.at_).1).prev=x2.prev) && decide (((JA x1 x2.root x2.at_).1).at_=x2.at_))) (fun h3=>?_) (fun h3=>?_))
 refine Jf [0,0] [(2,I (i:Int))] (Jl (Jt (Jh (QS (Jt (Jh (Jm [0] [I (i:Int)] (Jw (Jp.le_refl _) (congrArg I (?_:(Wl l)=(i:Int)).symm)))))))))
 rw [hn];exact Jn4 (by omega) hx1 hx2 (by rw [JdW];simp_all)
 exact Jo (JM (Jb (Jc (Ja [0,0,0] [(3,I (IntKind.i64.wrap ((i:Int)+1)))] (Kw 3 ((i:Int)+1) J7 (Jd (QT [] (Qr (i+1) ⟨⟨by (try dsimp only);omega,.inl (by (try dsimp only);omega)⟩,(by rw [hn];exact Jn3 J7 hx1 hx2 (JdW.2 (by simp_all)))⟩ (by (try dsimp only);omega)))))))))
 refine KW (JZ (J8 (JR (Jb (Jf [0] [(2,I (-1))] (Jl (Jm [0] [I (-1)] (Jw (Jp.le_refl _) (congrArg I (?_:(Wl l)=(-1)).symm)))))))))
 rw [hn];exact Jpo (by simp;omega)
theorem Jan (G:Jp) (a_l:Option Addr) (c_l:Nat) (l:List JQ) (h_l:RS KA G a_l c_l l) :Q2 120 #[Sl a_l l.length c_l] G (.tuple #[I ((Kd l).1),I ((Kd l).2)]):=by
 refine JN Tryz.func120 35 [(0,Sl a_l l.length c_l)] rfl (fun w0 G0=>?_)
 refine Jf [0,0] [] (Je (Jz (Jf [0,0,0,0] [(8,Bo (decide ((l.length:Int)=0)))] (Jk (decide ((l.length:Int)=0)) (fun h1=>?_) (fun h1=>?_)))))
 refine Jf [0,0] [(2,I 5),(3,I 0)] (Jl (Jt (Jh (Jm [0,0] [I 5,I 0] (Jw (Jp.le_refl _) ?_)))))
 have hf_:(Kd l)=(5,0):=by
  unfold Kd;(rw [if_pos (by omega)];done)
 · (try rw [hf_]);(simp only [Ql];done)
 refine Jf [0,0,0,0] [(12,Bo (decide ((l.length:Int) > 40)))] (Jk (decide ((l.length:Int) > 40)) (fun h2=>?_) (fun h2=>?_))
 refine Jf [0,0] [(2,I 2),(3,I 0)] (Jl (Jt (Jh (Jm [0,0] [I 2,I 0] (Jw (Jp.le_refl _) ?_)))))
 have hf_:(Kd l)=(2,0):=by
  unfold Kd;(rw [if_neg (by omega),if_pos (by omega)];done)
 · (try rw [hf_]);(simp only [Ql];done)
 refine Jo (JM (Jb (Je (Jf [0,0,0] [(16,Sl a_l l.length c_l),(17,I (l.length:Int)),(18,I 0)] (Jz ?_)))))
 have hlm_h_l:l.length≤9223372036854775807:=Nat.le_trans (h_l).le (h_l).max
 refine Qh (σ:=Nat) (fun q_=>(q_≤l.length)∧(Y5 l 0=Y5 (l.drop q_) q_)) (fun q_=>[(0,Sl a_l l.length c_l),(16,Sl a_l l.length c_l),(17,I (l.length:Int)),(18,I (q_:Int))]) (fun q_=>G) (fun q_=>[]) (fun q_=>l.length-q_) 0 ⟨(by (try dsimp only);exact Nat.zero_le _),rfl⟩ (fun q_ hs=>?_)
 revert hs;revert q_;intro i hs
 obtain ⟨hi,hn⟩:=hs
 dsimp only
 refine Jf [0] [(19,Bo (decide ((i:Int)<(l.length:Int))))] (Je (Jk (decide ((i:Int)<(l.length:Int))) (fun h3=>?_) (fun h3=>?_)))
 refine Jo (Jb (Je (Jz (Je (Jc (Ja [0] [(20,I (i:Int))] ?_))))))
 obtain ⟨b1,o1,rfl⟩:=RS.addr h_l (k:=i) (by omega)
 obtain ⟨x1,hx1⟩:=We (l:=l) (k:=i) (by omega)
 obtain ⟨_,⟨rfl,_,_,_,_⟩,hc1⟩:=RS.get h_l hx1
 refine J3 (b:=b1) (off:=o1) (len:=l.length) (cap:=c_l) (ik:=.i64) 21 43 4 i J7 (JW 22 43 (cs:=[I x1.epoch,U x1.root,U x1.prev,I x1.at_]) 0 (.agg #[I x1.epoch,U x1.root,U x1.prev,I x1.at_]) hc1 (Jv 5 #[I 0,U 0,U 0,I 0] 43 (fun b2=>JV [0,3] [(4,I (i:Int))] [[Sg b2 0 [I x1.epoch,U x1.root,U x1.prev,I x1.at_]]] (Jd (Jb (Je (Jc (Ja [2] [(23,.agg #[I x1.epoch,U x1.root,U x1.prev,I x1.at_])] (Jj 24 (I (JI x1)) (ZS x1 G) (Ja [0] [(6,I (JI x1))] (Jd (Jb (Jf [0,0] [(26,Bo (!decide (JI x1=0)))] (Jk (!decide (JI x1=0)) (fun h4=>?_) (fun h4=>?_)))))))))))))))
 refine Jf [0,0,0,0] [(2,I (JI x1)),(3,I (i:Int))] (Jl (Jt (Jh (QS (Jt (Jh (Jm [0,0] [I (JI x1),I (i:Int)] (Jw (Jp.le_refl _) ?_))))))))
 have hf_:(Kd l)=((JI x1),(i:Int)):=by
  unfold Kd;(rw [if_neg (by omega),if_neg (by omega)];(have e_:=Jmx hx1 ‹_›;rw [← hn] at e_;rw [if_pos (by rw [e_];assumption),e_];done))
 · (try rw [hf_]);(simp only [Ql];done)
 exact Jo (JM (Jb (Jc (Ja [0,0] [(18,I (IntKind.i64.wrap ((i:Int)+1)))] (Kw 18 ((i:Int)+1) J7 (Jd (QT [] (Qr (i+1) ⟨J7,(by rw [hn];exact JiN hx1 ‹_›)⟩ (by (try dsimp only);omega)))))))))
 refine KW (JZ (J8 (JR (Jb (Je (Je (Jc (Ja [0] [(30,Sl a_l l.length c_l)] (Jj 31 (I (Wl l)) (JbG G a_l c_l l h_l) (Ja [0] [(7,I (Wl l))] (Jd (Jb (Jf [0,0] [(33,Bo (decide (Wl l ≥ 0)))] (Jk (decide (Wl l ≥ 0)) (fun h5=>?_) (fun h5=>?_)))))))))))))))
 refine Jf [0,0,0] [(2,I 8),(3,I (Wl l))] (Jl (Jh (Jm [0,0] [I 8,I (Wl l)] (Jw (Jp.le_refl _) ?_))))
 have hf_:(Kd l)=(8,(Wl l)):=by
  unfold Kd;(rw [if_neg (by omega),if_neg (by omega)];(have e_:Y5 l 0=(0,0):=(by rw [hn,List.drop_eq_nil_of_le (by omega)];rfl);rw [if_neg (by rw [e_];simp)];(rw [if_pos (by omega)];done)))
 · (try rw [hf_]);(simp only [Ql];done)
 refine Jo (Jb (Jf [0,0] [(2,I 0),(3,I 0)] (Jl (Jm [0,0] [I 0,I 0] (Jw (Jp.le_refl _) ?_)))))
 have hf_:(Kd l)=(0,0):=by
  unfold Kd;(rw [if_neg (by omega),if_neg (by omega)];(have e_:Y5 l 0=(0,0):=(by rw [hn,List.drop_eq_nil_of_le (by omega)];rfl);rw [if_neg (by rw [e_];simp)];(rw [if_neg (by omega)];done)))
 · (try rw [hf_]);(simp only [Ql];done)
theorem Jbe (G:Jp) (a_l:Option Addr) (c_l:Nat) (l:List (List JQ)) (h_l:RS JeP G a_l c_l l) :Q2 175 #[Sl a_l l.length c_l] G (I (K0 l)):=by
 refine JN Tryz.func175 22 [(0,Sl a_l l.length c_l)] rfl (fun w0 G0=>?_)
 refine Jf [0] [] (Je (Jf [0,0,0] [(7,Sl a_l l.length c_l),(8,I (l.length:Int)),(9,I 0)] (Jz ?_)))
 have hlm_h_l:l.length≤9223372036854775807:=Nat.le_trans (h_l).le (h_l).max
 refine Qh (σ:=Nat) (fun q_=>(q_≤l.length)∧(K0 l=K0 (l.drop q_))) (fun q_=>[(7,Sl a_l l.length c_l),(8,I (l.length:Int)),(9,I (q_:Int))]) (fun q_=>G) (fun q_=>[]) (fun q_=>l.length-q_) 0 ⟨(by (try dsimp only);exact Nat.zero_le _),rfl⟩ (fun q_ hs=>?_)
 revert hs;revert q_;intro i hs
 obtain ⟨hi,hn⟩:=hs
 dsimp only
 refine Jf [0] [(10,Bo (decide ((i:Int)<(l.length:Int))))] (Je (Jk (decide ((i:Int)<(l.length:Int))) (fun h1=>?_) (fun h1=>?_)))
 refine Jo (Jb (Je (Jz (Je (Jc ?_)))))
 obtain ⟨b1,o1,rfl⟩:=RS.addr h_l (k:=i) (by omega)
 obtain ⟨x1,hx1⟩:=We (l:=l) (k:=i) (by omega)
 obtain ⟨_,⟨a1,c1,rfl,hs1⟩,hc1⟩:=RS.get h_l hx1
 refine J3 (b:=b1) (off:=o1) (len:=l.length) (cap:=c_l) (ik:=.i64) 11 40 1 i J7 (JW 12 40 (cs:=[Sl a1 x1.length c1]) 0 (Sl a1 x1.length c1) hc1 (Ja [0] [(4,Sl a1 x1.length c1)] (Jd (Jb (Je (Jc (Ja [0] [(14,Sl a1 x1.length c1)] (Jj 15 (.tuple #[I ((Kd x1).1),I ((Kd x1).2)]) (Jan G a1 c1 x1 hs1) (Ja [0,0,0,0,0] [(5,I ((Kd x1).1))] (Jd (Jb (Jf [0,0] [(19,Bo (!decide ((Kd x1).1=0)))] (Jk (!decide ((Kd x1).1=0)) (fun h2=>?_) (fun h2=>?_))))))))))))))
 refine Jf [0,0] [(2,I ((Kd x1).1))] (Jl (Jt (Jh (QS (Jt (Jh (Jm [0] [I ((Kd x1).1)] (Jw (Jp.le_refl _) (congrArg I (?_:(K0 l)=((Kd x1).1)).symm)))))))))
 rw [hn];exact JiO hx1 ‹_›
 exact Jo (JM (Jb (Jc (Ja [0,0] [(9,I (IntKind.i64.wrap ((i:Int)+1)))] (Kw 9 ((i:Int)+1) J7 (Jd (Qr (i+1) ⟨J7,(by rw [hn];exact Jf9 hx1 ‹_›)⟩ (by (try dsimp only);omega))))))))
 refine KW (JZ (J8 (JR (Jb (Jf [0] [(2,I 0)] (Jl (Jm [0] [I 0] (Jw (Jp.le_refl _) (congrArg I (?_:(K0 l)=0).symm)))))))))
 rw [hn];(rw [List.drop_eq_nil_of_le (by omega)];rfl)
theorem Jgb (G:Jp) (a_l:Option Addr) (c_l:Nat) (l:List JQ) (h_l:RS KA G a_l c_l l) (root:Int) (hw_root:rU root) (a:Int) (hw_a:rI a) :Yi 166 #[Sl a_l l.length c_l,U root,I a] G [] (fun u G' L'=>∃ (a1:Option Addr) (c2:Nat) (r3:List Kg),u=.tuple #[Sl a1 (((Qt l root a).1).length) c2,I ((Qt l root a).2)]∧(J0 KA G' a1 c2 ((Qt l root a).1) r3)∧L'=[r3]):=by
 refine JN Tryz.func166 41 [(0,Sl a_l l.length c_l),(1,U root),(2,I a)] rfl (fun w0 G0=>?_)
 refine Jf [0,0] [] (Je (Jc (Ja [0] [(10,Sl a_l l.length c_l)] (Kq 11 1 #[Sl a_l l.length c_l] 40 (fun b1=>QV (b:=b1) (o:=0) (cs:=[Sl a_l l.length c_l]) 0 (fun G1 hl1 hz1=>?_))))))
 have hs1:RS JeP G1 (At b1 0) 1 [l]:=RS.lit [[Sl a_l l.length c_l]] [l] ⟨⟨a_l,c_l,rfl,(h_l.mono hl1)⟩,trivial⟩ hz1 (Nat.le_of_ble_eq_true rfl) (Nat.le_of_ble_eq_true rfl)
 refine Jj 12 (I (K0 ([l]))) (Jbe G1 (At b1 0) 1 ([l]) hs1) (Ja [0] [(8,I (K0 ([l])))] (Jd (Jb (Je (Jz (Jf [0,0,0] [(13,Bo (!decide (K0 ([l])=0)))] (Jk (!decide (K0 ([l])=0)) (fun h1=>?_) (fun h1=>?_))))))))
 refine Jf [0,0,0] [(6,Sl none 0 0),(7,I (K0 ([l])))] (Jl (Jt (Jh (Zy (Ji 0 ?_)))))
 have hf1:Qt l root a=([],K0 ([l])):=by
  unfold Qt ZT;(simp_all;done)
 refine Jm [0,0] [Sl none 0 0,I (K0 ([l]))] (Jy [[]] hl1 ?_)
 rw [hf1]
 try dsimp only
 exact ⟨none,0,([]),rfl,(J0.none KA _),rfl⟩
 refine Jf [0,0,0,0] [(17,Bo (decide ((l.length:Int)=40)))] (Jk (decide ((l.length:Int)=40)) (fun h2=>?_) (fun h2=>?_))
 refine Jf [0,0] [(6,Sl none 0 0),(7,I 7)] (Jl (Jt (Jh (Zy (Ji 0 ?_)))))
 have hf2:Qt l root a=([],7):=by
  unfold Qt ZT;(simp_all;done)
 refine Jm [0,0] [Sl none 0 0,I 7] (Jy [[]] hl1 ?_)
 rw [hf2]
 try dsimp only
 exact ⟨none,0,([]),rfl,(J0.none KA _),rfl⟩
 refine Jo (JM (Jb (Je (Jc (Ja [0,0,0,0] [(22,Sl a_l l.length c_l),(25,I (IntKind.i64.wrap ((l.length:Int)-1)))] ?_)))))
 have e1:IntKind.i64.wrap ((l.length:Int)-1)=((l.length-1:Nat):Int):=(IntWalk.i64_in _ (by (have q_:=QC.1 ‹_›;have q1_:=q_.len1;have q2_:=q_.len;have q3_:=q_.lastE;have q4_:=q_.fb;have q5_:=q_.lb;omega))).trans (show (l.length:Int)-1=((l.length-1:Nat):Int) by (have q_:=QC.1 ‹_›;have q1_:=q_.len1;have q2_:=q_.len;have q3_:=q_.lastE;have q4_:=q_.fb;have q5_:=q_.lb;omega))
 refine KI 25 (I ((l.length-1:Nat):Int)) (congrArg I e1) ?_
 clear e1
 obtain ⟨b2,o1,rfl⟩:=RS.addr (h_l.mono hl1) (k:=l.length-1) (by (have q_:=QC.1 ‹_›;have q1_:=q_.len1;have q2_:=q_.len;have q3_:=q_.lastE;have q4_:=q_.fb;have q5_:=q_.lb;omega))
 obtain ⟨x1,hx1⟩:=We (l:=l) (k:=l.length-1) (by (have q_:=QC.1 ‹_›;have q1_:=q_.len1;have q2_:=q_.len;have q3_:=q_.lastE;have q4_:=q_.fb;have q5_:=q_.lb;omega))
 obtain ⟨_,⟨rfl,w1,w2,w3,w4⟩,hc1⟩:=RS.get (h_l.mono hl1) hx1
 refine J3 (b:=b2) (off:=o1) (len:=l.length) (cap:=c_l) (ik:=.i64) 26 43 4 (l.length-1) (by (have q_:=QC.1 ‹_›;have q1_:=q_.len1;have q2_:=q_.len;have q3_:=q_.lastE;have q4_:=q_.fb;have q5_:=q_.lb;omega)) (JW 27 43 (cs:=[I x1.epoch,U x1.root,U x1.prev,I x1.at_]) 0 (.agg #[I x1.epoch,U x1.root,U x1.prev,I x1.at_]) hc1 (Ja [0,0] [(28,U root),(29,I a)] (Jj 30 (.tuple #[(Y9 (JA x1 root a).1),I ((JA x1 root a).2)]) (Ja9 G1 [I x1.epoch,U x1.root,U x1.prev,I x1.at_] x1 (⟨rfl,w1,w2,w3,w4⟩) root ‹_› a ‹_›) (Ja [0,0,0] [(31,(Y9 (JA x1 root a).1)),(32,I ((JA x1 root a).2))] (Jv 9 #[I 0,U 0,U 0,I 0] 43 (fun b3=>JV [3,0] [(8,I ((JA x1 root a).2))] [[Sg b3 0 (Jc3 (JA x1 root a).1)],[]] (Jd (Jb (Je (Jf [0,0] [(34,Bo (!decide ((JA x1 root a).2=0)))] (Jk (!decide ((JA x1 root a).2=0)) (fun h3=>?_) (fun h3=>?_))))))))))))
 refine Jf [0,0,0] [(6,Sl none 0 0),(7,I ((JA x1 root a).2))] (Jl (Jh (Zy (Ji 0 ?_))))
 have hf3:Qt l root a=([],(JA x1 root a).2):=by
  unfold Qt ZT;(have hl_:=WB (l:=l) (k:=l.length-1) rfl ‹_›;subst hl_;(simp_all;done))
 refine Jm [0,0] [Sl none 0 0,I ((JA x1 root a).2)] (Jy [[]] hl1 ?_)
 rw [hf3]
 try dsimp only
 exact ⟨none,0,([]),rfl,(J0.none KA _),rfl⟩
 refine Jo (Jb (Je (Ko [1,3,4] (Wm [(0,Sl (At b2 o1) l.length c_l),(2,(Y9 (JA x1 root a).1))] (JK [] [(0,0),(2,2)] [] [1,3] (List.forall_mem_nil _) (Ke ?_ (Ke ?_ K4)))))))
 refine JD 1 [(36,Sl (At b2 o1) l.length c_l)] (fun X=>?_)
 refine JF 37 (Vm G1 (At b2 o1) c_l l (h_l.mono hl1)) (fun v G2 L1 hl2 hp=>?_)
 obtain ⟨a1,c1,_,rfl,hr1,rfl⟩:=hp
 refine JC [(1,Sl a1 l.length c1)] (JK [0] [(2,4)] [] [3] (List.forall_mem_nil _) (Ke ?_ K4))
 refine JD 3 [(38,(Y9 (JA x1 root a).1))] (fun X=>?_)
 refine Kq 39 1 #[I (((JA x1 root a).1).epoch),U (((JA x1 root a).1).root),U (((JA x1 root a).1).prev),I (((JA x1 root a).1).at_)] 43 (fun b4=>JC [(3,Sl (At b4 0) 1 1)] (JK [0,2] [] [] [4] (List.forall_mem_nil _) (Ke ?_ K4)))
 refine JD 4 [(37,Sl a1 l.length c1),(39,Sl (At b4 0) 1 1)] (fun X=>?_)
 refine Qv (b:=b4) (cs:=(Jc3 (JA x1 root a).1)) 40 43 1 0 (E:=KA) ((JA x1 root a).1) hr1 ⟨rfl,(by have q_:=Yb (x:=x1) (r:=root) (t:=a) J7 ‹_›;omega),(by have q_:=Yb (x:=x1) (r:=root) (t:=a) J7 ‹_›;omega),(by have q_:=Yb (x:=x1) (r:=root) (t:=a) J7 ‹_›;omega),(by have q_:=Yb (x:=x1) (r:=root) (t:=a) J7 ‹_›;omega)⟩ (by have q_:=QC.1 ‹_›;have q1_:=q_.len1;have q2_:=q_.len;have q3_:=q_.lastE;have q4_:=q_.fb;have q5_:=q_.lb;(try simp only [KA,List.length_append,List.length_cons,List.length_nil]);omega) (by have q_:=QC.1 ‹_›;have q1_:=q_.len1;have q2_:=q_.len;have q3_:=q_.lastE;have q4_:=q_.fb;have q5_:=q_.lb;(try simp only [KA,List.length_append,List.length_cons,List.length_nil]);omega) (fun a2 c2 r2 hr2=>JC [(4,Sl a2 ((l++[((JA x1 root a).1)]).length) c2),(5,Sl a2 ((l++[((JA x1 root a).1)]).length) c2),(6,I 0)] (Km [0,2] [(5,0),(6,0)] [] [(6,Sl a2 ((l++[((JA x1 root a).1)]).length) c2),(7,I 0)] (List.forall_mem_nil _) (Jb (Jl (Ji 1 ?_)))))
 have hf4:Qt l root a=(l++[((JA x1 root a).1)],0):=by
  unfold Qt ZT;(have hl_:=WB (l:=l) (k:=l.length-1) rfl ‹_›;subst hl_;(simp_all;done))
 refine Jm [0,0] [Sl a2 ((l++[((JA x1 root a).1)]).length) c2,I 0] (Jy [r2] (Jp.le_trans hl1 hl2) ?_)
 rw [hf4]
 try dsimp only
 exact ⟨a2,c2,r2,rfl,hr2,rfl⟩
 refine JD 3 [(38,(Y9 (JA x1 root a).1))] (fun X=>?_)
 refine Kq 39 1 #[I (((JA x1 root a).1).epoch),U (((JA x1 root a).1).root),U (((JA x1 root a).1).prev),I (((JA x1 root a).1).at_)] 43 (fun b5=>JC [(3,Sl (At b5 0) 1 1)] (JK [2] [(0,0)] [] [1] (List.forall_mem_nil _) (Ke ?_ K4)))
 refine JD 1 [(36,Sl (At b2 o1) l.length c_l)] (fun X=>?_)
 refine JF 37 (Vm G1 (At b2 o1) c_l l (h_l.mono hl1)) (fun v G3 L1 hl3 hp=>?_)
 obtain ⟨a3,c3,r3,rfl,hr3,rfl⟩:=hp
 refine JC [(1,Sl a3 l.length c3)] (JK [0,2] [] [] [4] (List.forall_mem_nil _) (Ke ?_ K4))
 refine JD 4 [(37,Sl a3 l.length c3),(39,Sl (At b5 0) 1 1)] (fun X=>?_)
 refine Qv (b:=b5) (cs:=(Jc3 (JA x1 root a).1)) 40 43 0 1 (E:=KA) ((JA x1 root a).1) hr3 ⟨rfl,(by have q_:=Yb (x:=x1) (r:=root) (t:=a) J7 ‹_›;omega),(by have q_:=Yb (x:=x1) (r:=root) (t:=a) J7 ‹_›;omega),(by have q_:=Yb (x:=x1) (r:=root) (t:=a) J7 ‹_›;omega),(by have q_:=Yb (x:=x1) (r:=root) (t:=a) J7 ‹_›;omega)⟩ (by have q_:=QC.1 ‹_›;have q1_:=q_.len1;have q2_:=q_.len;have q3_:=q_.lastE;have q4_:=q_.fb;have q5_:=q_.lb;(try simp only [KA,List.length_append,List.length_cons,List.length_nil]);omega) (by have q_:=QC.1 ‹_›;have q1_:=q_.len1;have q2_:=q_.len;have q3_:=q_.lastE;have q4_:=q_.fb;have q5_:=q_.lb;(try simp only [KA,List.length_append,List.length_cons,List.length_nil]);omega) (fun a4 c4 r4 hr4=>JC [(4,Sl a4 ((l++[((JA x1 root a).1)]).length) c4),(5,Sl a4 ((l++[((JA x1 root a).1)]).length) c4),(6,I 0)] (Km [0,2] [(5,0),(6,0)] [] [(6,Sl a4 ((l++[((JA x1 root a).1)]).length) c4),(7,I 0)] (List.forall_mem_nil _) (Jb (Jl (Ji 0 ?_)))))
 have hf5:Qt l root a=(l++[((JA x1 root a).1)],0):=by
  unfold Qt ZT;(have hl_:=WB (l:=l) (k:=l.length-1) rfl ‹_›;subst hl_;(simp_all;done))
 refine Jm [0,0] [Sl a4 ((l++[((JA x1 root a).1)]).length) c4,I 0] (Jy [r4] (Jp.le_trans hl1 hl3) ?_)
 rw [hf5]
 try dsimp only
 exact ⟨a4,c4,r4,rfl,hr4,rfl⟩
theorem Jgc (G:Jp) (a_l:Option Addr) (c_l:Nat) (l:List JQ) (h_l:RS KA G a_l c_l l) (a:Int) (hw_a:rI a) (b:Int) (hw_b:rI b) :Yi 214 #[Sl a_l l.length c_l,I a,I b] G [] (fun u G' L'=>∃ (a1:Option Addr) (c2:Nat),u=.tuple #[Sl a1 (((W1 l a b).1).length) c2,I ((W1 l a b).2)]∧(RS KA G' a1 c2 ((W1 l a b).1))∧L'=[]):=by
 refine JN Tryz.func214 51 [(0,Sl a_l l.length c_l),(1,I a),(2,I b)] rfl (fun w0 G0=>?_)
 refine Jf [0,0] [] (Je (Je (Jc (Ja [0] [(11,Sl a_l l.length c_l)] (Kq 12 1 #[Sl a_l l.length c_l] 40 (fun b1=>QV (b:=b1) (o:=0) (cs:=[Sl a_l l.length c_l]) 0 (fun G1 hl1 hz1=>?_)))))))
 have hs1:RS JeP G1 (At b1 0) 1 [l]:=RS.lit [[Sl a_l l.length c_l]] [l] ⟨⟨a_l,c_l,rfl,(h_l.mono hl1)⟩,trivial⟩ hz1 (Nat.le_of_ble_eq_true rfl) (Nat.le_of_ble_eq_true rfl)
 refine Jj 13 (I (K0 ([l]))) (Jbe G1 (At b1 0) 1 ([l]) hs1) (Ja [0] [(8,I (K0 ([l])))] (Jd (Jb (Jf [0,0] [(15,Bo (!decide (K0 ([l])=0)))] (Jk (!decide (K0 ([l])=0)) (fun h1=>?_) (fun h1=>?_))))))
 refine Jf [0,0,0] [(6,Sl none 0 0),(7,I (K0 ([l])))] (Jl (Jh ?_))
 have hf1:W1 l a b=([],K0 ([l])):=by
  unfold W1;(simp_all;done)
 refine Jm [0,0] [Sl none 0 0,I (K0 ([l]))] (Jy [] hl1 ?_)
 rw [hf1]
 try dsimp only
 exact ⟨none,0,rfl,(RS.nil' KA G1),rfl⟩
 refine Jo (Jb (Je ?_))
 obtain ⟨b2,o1,rfl⟩:=RS.addr (h_l.mono hl1) (k:=0) (by (have q_:=QC.1 ‹_›;have q1_:=q_.len1;have q2_:=q_.len;have q3_:=q_.lastE;have q4_:=q_.fb;have q5_:=q_.lb;omega))
 obtain ⟨x1,hx1⟩:=We (l:=l) (k:=0) (by (have q_:=QC.1 ‹_›;have q1_:=q_.len1;have q2_:=q_.len;have q3_:=q_.lastE;have q4_:=q_.fb;have q5_:=q_.lb;omega))
 obtain ⟨_,⟨rfl,_,_,_,_⟩,hc1⟩:=RS.get (h_l.mono hl1) hx1
 have e1:IntKind.i64.wrap ((l.length:Int)-1)=((l.length-1:Nat):Int):=(IntWalk.i64_in _ (by (have q_:=QC.1 ‹_›;have q1_:=q_.len1;have q2_:=q_.len;have q3_:=q_.lastE;have q4_:=q_.fb;have q5_:=q_.lb;omega))).trans (show (l.length:Int)-1=((l.length-1:Nat):Int) by (have q_:=QC.1 ‹_›;have q1_:=q_.len1;have q2_:=q_.len;have q3_:=q_.lastE;have q4_:=q_.fb;have q5_:=q_.lb;omega))
 obtain ⟨x2,hx2⟩:=We (l:=l) (k:=l.length-1) (by (have q_:=QC.1 ‹_›;have q1_:=q_.len1;have q2_:=q_.len;have q3_:=q_.lastE;have q4_:=q_.fb;have q5_:=q_.lb;omega))
 obtain ⟨_,⟨rfl,_,_,_,_⟩,hc2⟩:=RS.get (h_l.mono hl1) hx2
 refine Ko [] (Wm [(0,Sl (At b2 o1) l.length c_l),(1,Pt b2 (o1+0*4)),(2,Pt b2 (o1+0*4)),(3,I x1.epoch),(4,Sl (At b2 o1) l.length c_l),(5,Sl (At b2 o1) l.length c_l),(6,I (l.length:Int)),(7,I ((l.length-1:Nat):Int)),(8,Pt b2 (o1+(l.length-1)*4)),(9,Pt b2 (o1+(l.length-1)*4)),(10,I x2.epoch),(11,I x1.epoch),(12,I x2.epoch)] (Km [] [(0,0),(2,0),(4,0),(5,0),(6,0),(9,0),(11,0),(12,0)] [1,3,7,8,10] [(0,Sl (At b2 o1) l.length c_l),(1,I a),(2,I b),(9,I x1.epoch),(10,I x2.epoch)] (Ke ?_ (Ke ?_ (Ke ?_ (Ke ?_ (Ke ?_ K4))))) ?_))
 refine Jr 1 18 (Pt b2 (o1+0*4)) [(17,Sl (At b2 o1) l.length c_l)] (fun X=>?_)
 exact J3 (b:=b2) (off:=o1) (len:=l.length) (cap:=c_l) (ik:=.i64) 18 43 4 0 (by (have hl_:=WB (l:=l) (k:=l.length-1) rfl hx2;have hf_:=WP hx1;subst hl_;subst hf_;have q_:=QC.1 ‹_›;have q1_:=q_.len1;have q2_:=q_.len;have q3_:=q_.lastE;have q4_:=q_.fb;have q5_:=q_.lb;omega)) Jn
 refine Jr 3 20 (I x1.epoch) [(19,Pt b2 (o1+0*4))] (fun X=>?_)
 exact JW 20 2 (cs:=[I x1.epoch,U x1.root,U x1.prev,I x1.at_]) 0 (I x1.epoch) hc1 Jn
 refine Jr 7 24 (I ((l.length-1:Nat):Int)) [(23,I (l.length:Int))] (fun X=>?_)
 exact K5 24 (I (IntKind.i64.wrap ((l.length:Int)-1))) (I ((l.length-1:Nat):Int)) (by simp only [e1]) Jn
 refine Jr 8 25 (Pt b2 (o1+(l.length-1)*4)) [(21,Sl (At b2 o1) l.length c_l),(24,I ((l.length-1:Nat):Int))] (fun X=>?_)
 exact J3 (b:=b2) (off:=o1) (len:=l.length) (cap:=c_l) (ik:=.i64) 25 43 4 (l.length-1) (by (have hl_:=WB (l:=l) (k:=l.length-1) rfl hx2;have hf_:=WP hx1;subst hl_;subst hf_;have q_:=QC.1 ‹_›;have q1_:=q_.len1;have q2_:=q_.len;have q3_:=q_.lastE;have q4_:=q_.fb;have q5_:=q_.lb;omega)) Jn
 refine Jr 10 27 (I x2.epoch) [(26,Pt b2 (o1+(l.length-1)*4))] (fun X=>?_)
 exact JW 27 2 (cs:=[I x2.epoch,U x2.root,U x2.prev,I x2.at_]) 0 (I x2.epoch) hc2 Jn
 refine Jb (Je (Je (Jc (Ja [0,0,0,0] [(31,Bo (decide (a > b)))] (Kn (decide (a > b)) [31] [1,1,1,0] [0,0,0,0] (fun bb=>[(35,Bo (bb || (decide (a<x1.epoch))))]) (Ja [0] [(36,Bo ((decide (a > b)) || (decide (a<x1.epoch))))] (Kn ((decide (a > b)) || (decide (a<x1.epoch))) [36] [1,1,1,0] [0,0,0,0] (fun bb=>[(40,Bo (bb || (decide (b > x2.epoch))))]) (Jd (Jb (Jk (((decide (a > b)) || (decide (a<x1.epoch))) || (decide (b > x2.epoch))) (fun h2=>?_) (fun h2=>?_)))))))))))
 refine Jf [0,0] [(6,Sl none 0 0),(7,I 4)] (Jl (Jh ?_))
 have hf2:W1 l a b=([],4):=by
  unfold W1;(have hl_:=WB (l:=l) (k:=l.length-1) rfl hx2;have hf_:=WP hx1;subst hl_;subst hf_;rw [if_neg (by omega)];(rw [if_pos (by omega)];done))
 refine Jm [0,0] [Sl none 0 0,I 4] (Jy [] hl1 ?_)
 rw [hf2]
 try dsimp only
 exact ⟨none,0,rfl,(RS.nil' KA G1),rfl⟩
 refine Jo (Jb (Je (Jc (Ja [0,0,0,0,0,0,0,0] [(41,Sl (At b2 o1) l.length c_l),(44,I (IntKind.i64.wrap (a-x1.epoch))),(48,I (IntKind.i64.wrap ((IntKind.i64.wrap (b-x1.epoch))+1)))] ?_))))
 have e2:IntKind.i64.wrap (a-x1.epoch)=a-x1.epoch:=IntWalk.i64_in _ (by (have hl_:=WB (l:=l) (k:=l.length-1) rfl hx2;have hf_:=WP hx1;subst hl_;subst hf_;have q_:=QC.1 ‹_›;have q1_:=q_.len1;have q2_:=q_.len;have q3_:=q_.lastE;have q4_:=q_.fb;have q5_:=q_.lb;omega))
 have e3:IntKind.i64.wrap (b-x1.epoch)=b-x1.epoch:=IntWalk.i64_in _ (by (have hl_:=WB (l:=l) (k:=l.length-1) rfl hx2;have hf_:=WP hx1;subst hl_;subst hf_;have q_:=QC.1 ‹_›;have q1_:=q_.len1;have q2_:=q_.len;have q3_:=q_.lastE;have q4_:=q_.fb;have q5_:=q_.lb;omega))
 have e4:IntKind.i64.wrap ((b-x1.epoch)+1)=(b-x1.epoch)+1:=IntWalk.i64_in _ (by (have hl_:=WB (l:=l) (k:=l.length-1) rfl hx2;have hf_:=WP hx1;subst hl_;subst hf_;have q_:=QC.1 ‹_›;have q1_:=q_.len1;have q2_:=q_.len;have q3_:=q_.lastE;have q4_:=q_.fb;have q5_:=q_.lb;omega))
 refine KI 44 (I (a-x1.epoch)) (congrArg I e2) (KI 48 (I ((b-x1.epoch)+1)) (show (I (IntKind.i64.wrap ((IntKind.i64.wrap (b-x1.epoch))+1)):Value)=I ((b-x1.epoch)+1) by simp only [e2,e3,e4]) ?_)
 clear e4 e3 e2
 obtain ⟨kn1,hkn1⟩:∃ k_:Nat,a-x1.epoch=(k_:Int):=⟨(a-x1.epoch).toNat,by omega⟩
 have e5:a-x1.epoch=(kn1:Int):=hkn1
 refine KI 44 (I (kn1:Int)) (congrArg I e5) ?_
 obtain ⟨kn2,hkn2⟩:∃ k_:Nat,(b-x1.epoch)+1=(k_:Int):=⟨((b-x1.epoch)+1).toNat,by omega⟩
 have e6:(b-x1.epoch)+1=(kn2:Int):=hkn2
 refine KI 48 (I (kn2:Int)) (congrArg I e6) ?_
 obtain ⟨a1,c1,ea1,ec1,en1,eh1,hs2⟩:=RS.reslX (h_l.mono hl1) kn1 kn2 J7 (by (have hl_:=WB (l:=l) (k:=l.length-1) rfl hx2;have hf_:=WP hx1;subst hl_;subst hf_;have q_:=QC.1 ‹_›;have q1_:=q_.len1;have q2_:=q_.len;have q3_:=q_.lastE;have q4_:=q_.fb;have q5_:=q_.lb;omega))
 refine WD (a:=At b2 o1) (len:=l.length) (cap:=c_l) 49 4 (some (I (kn1:Int))) (some (I (kn2:Int))) kn1 kn2 (.inr ⟨_,rfl⟩) (.inr ⟨_,rfl⟩) J7 ea1 ec1 en1 eh1 (JF 50 (Vm G1 a1 c1 ((l.take kn2).drop kn1) hs2) (fun v G2 L1 hl2 hp=>?_))
 obtain ⟨a2,c2,_,rfl,hr1,rfl⟩:=hp
 refine Ja [0,0] [(6,Sl a2 (((l.take kn2).drop kn1).length) c2),(7,I 0)] (Jd (Jb (Jl (WA (E:=KA) 0 hr1 (by exact (hs2).fit) (fun G3 hl3 hs3=>?_)))))
 have hf3:W1 l a b=((l.take kn2).drop kn1,0):=by
  unfold W1;(have hl_:=WB (l:=l) (k:=l.length-1) rfl hx2;have hf_:=WP hx1;subst hl_;subst hf_;rw [if_neg (by omega)];(rw [if_neg (by omega)];unfold cut;rw [show (a-(WO l).epoch).toNat=kn1 by omega,show (b-(WO l).epoch+1).toNat=kn2 by omega];done))
 refine Jm [0,0] [Sl a2 (((l.take kn2).drop kn1).length) c2,I 0] (Jy [] (Jp.le_trans (Jp.le_trans hl1 hl2) hl3) ?_)
 rw [hf3]
 try dsimp only
 exact ⟨a2,c2,rfl,hs3,rfl⟩
theorem JdX (G:Jp) (vs_h:List Value) (h:JQ) (h_h:KA.R G vs_h h) (a_l:Option Addr) (c_l:Nat) (l:List JQ) (h_l:RS KA G a_l c_l l) :Q2 121 #[.agg vs_h.toArray,Sl a_l l.length c_l] G (.tuple #[Bo ((QU h l).1),I ((QU h l).2)]):=by
 obtain ⟨rfl,w1,w2,w3,w4⟩:=h_h
 refine JN Tryz.func121 24 [(0,.agg #[I h.epoch,U h.root,U h.prev,I h.at_]),(1,Sl a_l l.length c_l)] rfl (fun w0 G0=>?_)
 refine Je (Jc (Jv 2 #[I h.epoch,U h.root,U h.prev,I h.at_] 43 (fun b1=>Ja [0,0] [] (Jd (Jb (Je (Jc (Ja [0] [(7,Sl a_l l.length c_l)] (Kq 8 1 #[Sl a_l l.length c_l] 40 (fun b2=>QV (b:=b2) (o:=0) (cs:=[Sl a_l l.length c_l]) 0 (fun G1 hl1 hz1=>?_)))))))))))
 have hs1:RS JeP G1 (At b2 0) 1 [l]:=RS.lit [[Sl a_l l.length c_l]] [l] ⟨⟨a_l,c_l,rfl,(h_l.mono hl1)⟩,trivial⟩ hz1 (Nat.le_of_ble_eq_true rfl) (Nat.le_of_ble_eq_true rfl)
 refine Jj 9 (I (K0 ([l]))) (Jbe G1 (At b2 0) 1 ([l]) hs1) (Ja [0] [(6,I (K0 ([l])))] (Jd (Jb (Je (Jf [0,0] [(11,Bo (decide (K0 ([l])=0)))] (Jk (decide (K0 ([l])=0)) (fun h1=>?_) (fun h1=>?_)))))))
 refine Jc (Ja [4] [(12,.agg #[I h.epoch,U h.root,U h.prev,I h.at_])] (Jj 13 (I (JI h)) (ZS h G1) (Ja [0] [(6,I (JI h))] (Jd (Jb (Je (Jf [0,0] [(15,Bo (!decide (JI h=0)))] (Jk (!decide (JI h=0)) (fun h2=>?_) (fun h2=>?_)))))))))
 refine Jf [0,0,0] [(4,Bo false),(5,I (JI h))] (Jl (Jh (Jm [0,0] [Bo false,I (JI h)] (Jw hl1 ?_))))
 have hf_:(QU h l)=(false,(JI h)):=by
  unfold QU;(simp_all;done)
 · (try rw [hf_]);(simp only [Ql];done)
 refine Jo (Jb (Je ?_))
 obtain ⟨b3,o1,rfl⟩:=RS.addr (h_l.mono hl1) (k:=0) (by (have q_:=QC.1 ‹_›;have q1_:=q_.len1;have q2_:=q_.len;have q3_:=q_.lastE;have q4_:=q_.fb;have q5_:=q_.lb;omega))
 obtain ⟨x1,hx1⟩:=We (l:=l) (k:=0) (by (have q_:=QC.1 ‹_›;have q1_:=q_.len1;have q2_:=q_.len;have q3_:=q_.lastE;have q4_:=q_.fb;have q5_:=q_.lb;omega))
 obtain ⟨_,⟨rfl,w5,w6,w7,w8⟩,hc1⟩:=RS.get (h_l.mono hl1) hx1
 refine Ko [4,5] (Wm [(0,.agg #[I h.epoch,U h.root,U h.prev,I h.at_]),(1,Sl (At b3 o1) l.length c_l),(2,Pt b3 (o1+0*4)),(3,.agg #[I x1.epoch,U x1.root,U x1.prev,I x1.at_])] (JK [] [(0,4),(1,0)] [2,3] [4] (Ke ?_ (Ke ?_ K4)) (Ke ?_ K4)))
 refine Jr 2 19 (Pt b3 (o1+0*4)) [(18,Sl (At b3 o1) l.length c_l)] (fun X=>?_)
 exact J3 (b:=b3) (off:=o1) (len:=l.length) (cap:=c_l) (ik:=.i64) 19 43 4 0 (by (have q_:=QC.1 ‹_›;have q1_:=q_.len1;have q2_:=q_.len;have q3_:=q_.lastE;have q4_:=q_.fb;have q5_:=q_.lb;omega)) Jn
 refine Jr 3 20 (.agg #[I x1.epoch,U x1.root,U x1.prev,I x1.at_]) [(19,Pt b3 (o1+0*4))] (fun X=>?_)
 exact JW 20 43 (cs:=[I x1.epoch,U x1.root,U x1.prev,I x1.at_]) 0 (.agg #[I x1.epoch,U x1.root,U x1.prev,I x1.at_]) hc1 Jn
 refine JD 4 [(17,.agg #[I h.epoch,U h.root,U h.prev,I h.at_]),(20,.agg #[I x1.epoch,U x1.root,U x1.prev,I x1.at_])] (fun X=>?_)
 refine Kq 21 2 #[I h.epoch,U h.root,U h.prev,I h.at_,I x1.epoch,U x1.root,U x1.prev,I x1.at_] 43 (fun b4=>JC [(4,Sl (At b4 0) 2 2)] (JK [0,1,2,3] [] [] [5] (List.forall_mem_nil _) (Ke ?_ K4)))
 refine JD 5 [(21,Sl (At b4 0) 2 2)] (fun X=>?_)
 refine QV (b:=b4) (o:=0) (cs:=[I h.epoch,U h.root,U h.prev,I h.at_,I x1.epoch,U x1.root,U x1.prev,I x1.at_]) 0 (fun G2 hl2 hz2=>?_)
 have hs2:RS KA G2 (At b4 0) 2 [h,x1]:=RS.lit [[I h.epoch,U h.root,U h.prev,I h.at_],[I x1.epoch,U x1.root,U x1.prev,I x1.at_]] [h,x1] ⟨⟨rfl,w1,w2,w3,w4⟩,⟨⟨rfl,w5,w6,w7,w8⟩,trivial⟩⟩ hz2 (Nat.le_of_ble_eq_true rfl) (Nat.le_of_ble_eq_true rfl)
 refine Jj 22 (I (Wl ([h,x1]))) (JbG G2 (At b4 0) 2 ([h,x1]) hs2) (JC [(5,I (Wl ([h,x1]))),(6,Bo (decide (Wl ([h,x1])<0))),(7,Bo (decide (Wl ([h,x1])<0))),(8,I 0)] (Km [0,1,2,3] [(6,0),(7,0),(8,0)] [] [(4,Bo (decide (Wl ([h,x1])<0))),(5,I 0)] (List.forall_mem_nil _) (Jb (Jl (Jm [0,0] [Bo (decide (Wl ([h,x1])<0)),I 0] (Jw (Jp.le_trans hl1 hl2) ?_))))))
 have hf_:(QU h l)=((decide (Wl ([h,x1])<0)),0):=by
  unfold QU;(have hf_:=WP hx1;subst hf_;simp_all;done)
 · (try rw [hf_]);(simp only [Ql];done)
 refine Jo (Jb (Je (Jf [0,0] [(15,Bo (!decide (K0 ([l])=0)))] (Jk (!decide (K0 ([l])=0)) (fun h3=>?_) (fun h3=>?_)))))
 refine Jf [0,0,0] [(4,Bo false),(5,I (K0 ([l])))] (Jl (Jh (Jm [0,0] [Bo false,I (K0 ([l]))] (Jw hl1 ?_))))
 have hf_:(QU h l)=(false,(K0 ([l]))):=by
  unfold QU;(simp_all;done)
 · (try rw [hf_]);(simp only [Ql];done)
 refine Jo (Jb (Je ?_))
 obtain ⟨b5,o2,rfl⟩:=RS.addr (h_l.mono hl1) (k:=0) (by omega)
 obtain ⟨x2,hx2⟩:=We (l:=l) (k:=0) (by omega)
 obtain ⟨_,⟨rfl,w9,w10,w11,w12⟩,hc2⟩:=RS.get (h_l.mono hl1) hx2
 refine Ko [4,5] (Wm [(0,.agg #[I h.epoch,U h.root,U h.prev,I h.at_]),(1,Sl (At b5 o2) l.length c_l),(2,Pt b5 (o2+0*4)),(3,.agg #[I x2.epoch,U x2.root,U x2.prev,I x2.at_])] (JK [] [(0,4),(1,0)] [2,3] [4] (Ke ?_ (Ke ?_ K4)) (Ke ?_ K4)))
 refine Jr 2 19 (Pt b5 (o2+0*4)) [(18,Sl (At b5 o2) l.length c_l)] (fun X=>?_)
 exact J3 (b:=b5) (off:=o2) (len:=l.length) (cap:=c_l) (ik:=.i64) 19 43 4 0 J7 Jn
 refine Jr 3 20 (.agg #[I x2.epoch,U x2.root,U x2.prev,I x2.at_]) [(19,Pt b5 (o2+0*4))] (fun X=>?_)
 exact JW 20 43 (cs:=[I x2.epoch,U x2.root,U x2.prev,I x2.at_]) 0 (.agg #[I x2.epoch,U x2.root,U x2.prev,I x2.at_]) hc2 Jn
 refine JD 4 [(17,.agg #[I h.epoch,U h.root,U h.prev,I h.at_]),(20,.agg #[I x2.epoch,U x2.root,U x2.prev,I x2.at_])] (fun X=>?_)
 refine Kq 21 2 #[I h.epoch,U h.root,U h.prev,I h.at_,I x2.epoch,U x2.root,U x2.prev,I x2.at_] 43 (fun b6=>JC [(4,Sl (At b6 0) 2 2)] (JK [0,1,2,3] [] [] [5] (List.forall_mem_nil _) (Ke ?_ K4)))
 refine JD 5 [(21,Sl (At b6 0) 2 2)] (fun X=>?_)
 refine QV (b:=b6) (o:=0) (cs:=[I h.epoch,U h.root,U h.prev,I h.at_,I x2.epoch,U x2.root,U x2.prev,I x2.at_]) 0 (fun G3 hl3 hz3=>?_)
 have hs3:RS KA G3 (At b6 0) 2 [h,x2]:=RS.lit [[I h.epoch,U h.root,U h.prev,I h.at_],[I x2.epoch,U x2.root,U x2.prev,I x2.at_]] [h,x2] ⟨⟨rfl,w1,w2,w3,w4⟩,⟨⟨rfl,w9,w10,w11,w12⟩,trivial⟩⟩ hz3 (Nat.le_of_ble_eq_true rfl) (Nat.le_of_ble_eq_true rfl)
 refine Jj 22 (I (Wl ([h,x2]))) (JbG G3 (At b6 0) 2 ([h,x2]) hs3) (JC [(5,I (Wl ([h,x2]))),(6,Bo (decide (Wl ([h,x2])<0))),(7,Bo (decide (Wl ([h,x2])<0))),(8,I 0)] (Km [0,1,2,3] [(6,0),(7,0),(8,0)] [] [(4,Bo (decide (Wl ([h,x2])<0))),(5,I 0)] (List.forall_mem_nil _) (Jb (Jl (Jm [0,0] [Bo (decide (Wl ([h,x2])<0)),I 0] (Jw (Jp.le_trans hl1 hl3) ?_))))))
 have hf_:(QU h l)=((decide (Wl ([h,x2])<0)),0):=by
  unfold QU;(simp_all;done)
 · (try rw [hf_]);(simp only [Ql];done)
def Vy:K2:=⟨[],0,Zq,[],0⟩
def WK (s:List UInt8):Bool:=decide (s.length > 20)
def Ka (o:K2):Int:=if KN o.name=false then 3 else if JI o.head ≠ 0 then JI o.head else if 30<(o.wanted.length:Int)∨(o.wanted.any fun x0=>WK x0)=true then 2 else if o.had<0∨(o.wanted.length:Int)<o.had then 4 else 0
def Kf (name:List UInt8) (key:Int) (h:JQ):K2×Int:=if Ka ⟨name,key,h,[],0⟩ ≠ 0 then (Vy,Ka ⟨name,key,h,[],0⟩) else (⟨name,key,h,[],0⟩,0)
def Yf (o:K2) (v:List UInt8):Int:=if Ka o ≠ 0 then Ka o else if WK v=true then 2 else if (o.wanted.length:Int)=30 then 7 else 0
def JO (o:K2) (v:List UInt8):K2×Zv×Int:=if Yf o v ≠ 0 then (Vy,Jiw,Yf o v) else (⟨o.name,o.key,o.head,o.wanted++[v],o.had⟩,(W7 o.key o.name v o.wanted.length).1,0)
theorem K8 {o:K2}:Ka o=0 ↔ KN o.name=true∧JI o.head=0∧o.wanted.length≤30∧(∀ s∈o.wanted,s.length≤20)∧0≤o.had∧o.had≤o.wanted.length:=by
 unfold Ka
 have e:(o.wanted.any fun x0=>WK x0)=true ↔ ¬ ∀ s∈o.wanted,s.length≤20:=by
  rw [List.any_eq_true]
  unfold WK
  constructor
  ·
   rintro ⟨x,hx,h⟩ hc
   have:=hc x hx
   simp at h;omega
  ·
   intro h
   apply Classical.byContradiction
   intro hc
   refine h fun s hs=>?_
   apply Classical.byContradiction
   intro h2
   exact hc ⟨s,hs,by simp;omega⟩
 cases hn:KN o.name with
 | false=>simp
 | true =>
  rw [if_neg (by simp)]
  by_cases h1:JI o.head=0
  ·
   rw [if_neg (by omega)]
   by_cases h2:30<(o.wanted.length:Int)∨(o.wanted.any fun x0=>WK x0)=true
   ·
    rw [if_pos h2]
    constructor
    · intro h;cases h
    ·
     rintro ⟨_,_,h3,h4,_⟩
     rcases h2 with h2 | h2
     · omega
     · exact absurd h4 (e.1 h2)
   ·
    rw [if_neg h2]
    have h3:o.wanted.length≤30:=Nat.le_of_not_lt fun h=>h2 (.inl (by omega))
    have h4:∀ s∈o.wanted,s.length≤20:=Decidable.not_not.1 fun h=>h2 (.inr (e.2 h))
    split
    ·
     constructor
     · intro h;cases h
     · rintro ⟨_,_,_,_,_,_⟩;omega
    · exact ⟨fun _=>⟨rfl,h1,h3,h4,by omega,by omega⟩,fun _=>rfl⟩
  ·
   rw [if_pos h1]
   exact ⟨fun h=>absurd h h1,fun h=>absurd h.2.1 h1⟩
theorem JhC {o:K2} {v:List UInt8} (h:(JO o v).2.2=0):Ka o=0∧v.length≤20∧o.wanted.length<30∧JO o v=(⟨o.name,o.key,o.head,o.wanted++[v],o.had⟩,⟨o.name,v,o.wanted.length,Vo o.key (Wu o.name v o.wanted.length)⟩,0)∧Ka (JO o v).1=0∧Z2 o.key (JO o v).2.1=true∧(JO o v).1.key=o.key∧(JO o v).2.1.n=o.wanted.length∧(JO o v).1.wanted.length=o.wanted.length+1:=by
 have key:Ka o=0∧WK v=false∧¬ (o.wanted.length:Int)=30:=by
  unfold JO at h
  split at h
  · contradiction
  ·
   rename_i h1
   unfold Yf at h1
   by_cases e1:Ka o=0
   ·
    rw [if_neg (by omega)] at h1
    by_cases e2:WK v=true
    · rw [if_pos e2] at h1;omega
    ·
     rw [if_neg e2] at h1
     by_cases e3:(o.wanted.length:Int)=30
     · rw [if_pos e3] at h1;omega
     · exact ⟨e1,by simpa using e2,e3⟩
   · rw [if_pos e1] at h1;omega
 obtain ⟨e1,e2,e3⟩:=key
 have hi:=K8.1 e1
 have hv:v.length≤20:=by unfold WK at e2;simp at e2;omega
 have hE:Yf o v=0:=by unfold Yf;rw [if_neg (by omega),if_neg (by rw [e2];simp),if_neg e3]
 have hr:Qw o.name v=0:=by unfold Qw;rw [if_neg (by rw [hi.1];simp),if_neg (by omega)]
 have ht:W7 o.key o.name v o.wanted.length=(⟨o.name,v,o.wanted.length,Vo o.key (Wu o.name v o.wanted.length)⟩,0):=by unfold W7;rw [if_neg (by omega)]
 have hw:JO o v=(⟨o.name,o.key,o.head,o.wanted++[v],o.had⟩,⟨o.name,v,o.wanted.length,Vo o.key (Wu o.name v o.wanted.length)⟩,0):=by
  unfold JO;rw [if_neg (by omega),ht]
 refine ⟨e1,hv,by omega,hw,?_,?_,?_,?_,?_⟩ <;> rw [hw] <;> simp only
 ·
  rw [K8]
  refine ⟨hi.1,hi.2.1,by simp;omega,fun s hs=>?_,hi.2.2.2.2.1,by simp;omega⟩
  rcases List.mem_append.1 hs with hs | hs
  · exact hi.2.2.2.1 s hs
  · rw [List.mem_singleton.1 hs];exact hv
 · unfold Z2;simp [hr]
 · simp
theorem Jcj (G:Jp) (s:List UInt8) :Q2 70 #[Sr s] G (Bo (WK s)):=by
 refine JN Tryz.func70 6 [(0,Sr s)] rfl (fun w0 G0=>?_)
 refine Jf [0] [] (Jf [0,0,0,0] [(2,Bo (decide (((s).length:Int) > 20)))] (Jl (Jm [0] [Bo (decide (((s).length:Int) > 20))] (Jw (Jp.le_refl _) (congrArg Bo (?_:(WK s)=(decide (((s).length:Int) > 20))).symm)))))
 unfold WK;rw [Bool.eq_iff_iff];simp;omega
theorem Jao (G:Jp) (vs_o:List Value) (o:K2) (h_o:Q1.R G vs_o o) :Q2 38 #[.agg vs_o.toArray] G (I (Ka o)):=by
 obtain ⟨a1,c1,rfl,_,_,_,_,_,_,hs1,_⟩:=h_o
 refine JN Tryz.func38 36 [(0,(Ku o a1 c1))] rfl (fun w0 G0=>?_)
 refine Je (Jc (Jv 1 #[Sr o.name,U o.key,I o.head.epoch,U o.head.root,U o.head.prev,I o.head.at_,Sl a1 o.wanted.length c1,I o.had] 76 (fun b1=>Ja [0] [] (Jd (Jb (Je (Je (Jc (Ja [0,2] [(5,Sr o.name)] (Jj 6 (Bo (KN o.name)) (ZJ G o.name) (Ja [0] [(7,Bo (!(KN o.name)))] (Jd (Jb (Jk (!(KN o.name)) (fun h1=>?_) (fun h1=>?_)))))))))))))))
 refine Jf [0] [(2,I 3)] (Jl (Jh (Jm [0] [I 3] (Jw (Jp.le_refl _) (congrArg I (?_:(Ka o)=3).symm)))))
 · unfold Ka;(rw [if_pos (by simp_all)];done)
 refine Jo (Jb (Je (Je (Jc (Ja [0,2] [(9,.agg #[I o.head.epoch,U o.head.root,U o.head.prev,I o.head.at_])] (Jj 10 (I (JI o.head)) (ZS o.head G) (Ja [0] [(3,I (JI o.head))] (Jd (Jb (Jf [0,0] [(12,Bo (!decide (JI o.head=0)))] (Jk (!decide (JI o.head=0)) (fun h2=>?_) (fun h2=>?_))))))))))))
 refine Jf [0,0] [(2,I (JI o.head))] (Jl (Jh (Jm [0] [I (JI o.head)] (Jw (Jp.le_refl _) (congrArg I (?_:(Ka o)=(JI o.head)).symm)))))
 · unfold Ka;(rw [if_neg (by simp_all),if_pos (by omega)];done)
 refine Jo (Jb (Je (Jz (Je (Jc (Ja [0,2,0,0,0] [(19,Bo (decide ((o.wanted.length:Int) > 30)))] (Qu [19] (decide ((o.wanted.length:Int) > 30)) (fun h3=>?_) (fun h3=>?_))))))))
 refine Ja [1,1,1,0,0] [(14,Bo true)] (Jd (Jb (JU (Jf [0] [(2,I 2)] (Jl (Jt (Jh (Jm [0] [I 2] (Jw (Jp.le_refl _) (congrArg I (?_:(Ka o)=2).symm))))))))))
 · unfold Ka;(rw [if_neg (by simp_all),if_neg (by omega)];(rw [if_pos (by simp_all)];done))
 refine Ja [0,2] [(21,Sl a1 o.wanted.length c1)] (Jj 22 (Bo (o.wanted.any (fun x0=>WK x0))) (Jpg G a1 c1 o.wanted hs1 70 #[] (fun x0=>WK x0) (fun _ _=>by kernel_rfl) (fun x0 hx0=>Jcj G x0)) (Ja [0,0] [(14,Bo (o.wanted.any (fun x0=>WK x0)))] (Jd (Jb (Jk (o.wanted.any (fun x0=>WK x0)) (fun h4=>?_) (fun h4=>?_))))))
 refine Jf [0] [(2,I 2)] (Jl (Jt (Jh (Jm [0] [I 2] (Jw (Jp.le_refl _) (congrArg I (?_:(Ka o)=2).symm))))))
 · unfold Ka;(rw [if_neg (by simp_all),if_neg (by omega)];(rw [if_pos (by simp_all)];done))
 refine Je (Jc (Ja [0,2,0,0] [(28,Bo (decide (o.had<0)))] (Kn (decide (o.had<0)) [28] [1,1,1,1,1,1,0] [0,2,0,2,0,0,0] (fun bb=>[(35,Bo (bb || (decide (o.had > (o.wanted.length:Int)))))]) (Ja [0] [(24,Bo ((decide (o.had<0)) || (decide (o.had > (o.wanted.length:Int)))))] (Jd (Jb (Jk ((decide (o.had<0)) || (decide (o.had > (o.wanted.length:Int)))) (fun h5=>?_) (fun h5=>?_))))))))
 refine Jf [0] [(2,I 4)] (Jl (Jt (Jh (Jm [0] [I 4] (Jw (Jp.le_refl _) (congrArg I (?_:(Ka o)=4).symm))))))
 · unfold Ka;(rw [if_neg (by simp_all),if_neg (by omega)];(rw [if_neg (by simp_all),if_pos (by omega)];done))
 refine Jo (JM (Jb (Jf [0] [(2,I 0)] (Jl (Jm [0] [I 0] (Jw (Jp.le_refl _) (congrArg I (?_:(Ka o)=0).symm)))))))
 · unfold Ka;(rw [if_neg (by simp_all),if_neg (by omega)];(rw [if_neg (by simp_all),if_neg (by omega)];done))
theorem Jdh (G:Jp) (name:List UInt8) (hw_name:(name).length≤140737488351232) (key:Int) (hw_key:rU key) (vs_h:List Value) (h:JQ) (h_h:KA.R G vs_h h) :Yi 57 #[Sr name,U key,.agg vs_h.toArray] G [] (fun u G' L'=>∃ (a1:Option Addr) (c2:Nat),u=.tuple #[.agg #[Sr (((Kf name key h).1).name),U (((Kf name key h).1).key),I (((Kf name key h).1).head.epoch),U (((Kf name key h).1).head.root),U (((Kf name key h).1).head.prev),I (((Kf name key h).1).head.at_),Sl a1 ((((Kf name key h).1).wanted).length) c2,I (((Kf name key h).1).had)],I ((Kf name key h).2)]∧((((Kf name key h).1).name).length≤140737488351232)∧(rU (((Kf name key h).1).key))∧(rI (((Kf name key h).1).head.epoch))∧(rU (((Kf name key h).1).head.root))∧(rU (((Kf name key h).1).head.prev))∧(rI (((Kf name key h).1).head.at_))∧(RS ES G' a1 c2 (((Kf name key h).1).wanted))∧(rI (((Kf name key h).1).had))∧L'=[]):=by
 obtain ⟨rfl,w1,w2,w3,w4⟩:=h_h
 refine JN Tryz.func57 21 [(0,Sr name),(1,U key),(2,.agg #[I h.epoch,U h.root,U h.prev,I h.at_])] rfl (fun w0 G0=>?_)
 refine Je (Jc (Jv 5 #[I h.epoch,U h.root,U h.prev,I h.at_] 43 (fun b1=>Jv 6 #[Sr ([]),U 0,I 0,U 0,U 0,I 0,Sl none 0 0,I 0] 76 (fun b2=>Ja [0] [] (Jd (Jb (Je (Jc (Ja [0,0,4,0] [(13,.agg #[Sr name,U key,I h.epoch,U h.root,U h.prev,I h.at_,Sl none 0 0,I 0])] (Jv 8 #[Sr ([]),U 0,I 0,U 0,U 0,I 0,Sl none 0 0,I 0] 76 (fun b3=>JV [3] [] [[Sg b3 0 [Sr name,U key,I h.epoch,U h.root,U h.prev,I h.at_,Sl none 0 0,I 0]],[Sg b2 0 [Sr ([]),U 0,I 0,U 0,U 0,I 0,Sl none 0 0,I 0]],[Sg b1 0 [I h.epoch,U h.root,U h.prev,I h.at_]]] (Jd (Jb (Je (Je (Jc (Ja [2] [(14,.agg #[Sr name,U key,I h.epoch,U h.root,U h.prev,I h.at_,Sl none 0 0,I 0])] (Jj 15 (I (Ka (⟨name,key,h,[],0⟩:K2))) (Jao G [Sr name,U key,I h.epoch,U h.root,U h.prev,I h.at_,Sl none 0 0,I 0] (⟨name,key,h,[],0⟩:K2) (⟨none,0,rfl,hw_name,hw_key,w1,w2,w3,w4,(RS.nil' ES G),(by (simp;done))⟩)) (Ja [0] [(9,I (Ka (⟨name,key,h,[],0⟩:K2)))] (Jd (Jb (Jf [0,0] [(17,Bo (!decide (Ka (⟨name,key,h,[],0⟩:K2)=0)))] ?_))))))))))))))))))))))
 refine Jk (!decide (Ka (⟨name,key,h,[],0⟩:K2)=0)) (fun h1=>?_) (fun h1=>?_)
 refine Jf [0,0,5,0] [(7,I (Ka (⟨name,key,h,[],0⟩:K2)))] (Jl (Jh ?_))
 have hf1:Kf name key h=((⟨[],0,(⟨0,0,0,0⟩:JQ),[],0⟩:K2),Ka (⟨name,key,h,[],0⟩:K2)):=by
  unfold Kf Vy Zq;simp_all
 refine Jm [1,0] [.agg #[Sr ([]),U 0,I 0,U 0,U 0,I 0,Sl none 0 0,I 0],I (Ka (⟨name,key,h,[],0⟩:K2))] (Jy [] (Jp.le_refl _) ?_)
 rw [hf1]
 try dsimp only
 exact ⟨none,0,rfl,(Nat.le_of_ble_eq_true rfl),J7,J7,J7,J7,J7,(RS.nil' ES G),J7,rfl⟩
 refine Jo (Jb (Qx [2,5,0] [(7,I 0)] [[Sg b3 0 [Sr name,U key,I h.epoch,U h.root,U h.prev,I h.at_,Sl none 0 0,I 0]],[Sg b2 0 [Sr name,U key,I h.epoch,U h.root,U h.prev,I h.at_,Sl none 0 0,I 0]],[Sg b1 0 [I h.epoch,U h.root,U h.prev,I h.at_]]] (Jl ?_)))
 have hf2:Kf name key h=((⟨name,key,h,[],0⟩:K2),0):=by
  unfold Kf Vy Zq;simp_all
 refine Jm [1,0] [.agg #[Sr name,U key,I h.epoch,U h.root,U h.prev,I h.at_,Sl none 0 0,I 0],I 0] (Jy [] (Jp.le_refl _) ?_)
 rw [hf2]
 try dsimp only
 exact ⟨none,0,rfl,hw_name,hw_key,w1,w2,w3,w4,(RS.nil' ES G),J7,rfl⟩
theorem YX (G:Jp) (vs_o:List Value) (o:K2) (h_o:Q1.R G vs_o o) (v:List UInt8) (hw_v:(v).length≤140737488351232) :Yi 101 #[.agg vs_o.toArray,Sr v] G [] (fun u G' L'=>∃ (a1:Option Addr) (c2:Nat),u=.tuple #[.agg #[Sr (((JO o v).1).name),U (((JO o v).1).key),I (((JO o v).1).head.epoch),U (((JO o v).1).head.root),U (((JO o v).1).head.prev),I (((JO o v).1).head.at_),Sl a1 ((((JO o v).1).wanted).length) c2,I (((JO o v).1).had)],.agg #[Sr (((JO o v).2.1).name),Sr (((JO o v).2.1).value),U (((JO o v).2.1).n),U (((JO o v).2.1).tag)],I ((JO o v).2.2)]∧((((JO o v).1).name).length≤140737488351232)∧(rU (((JO o v).1).key))∧(rI (((JO o v).1).head.epoch))∧(rU (((JO o v).1).head.root))∧(rU (((JO o v).1).head.prev))∧(rI (((JO o v).1).head.at_))∧(RS ES G' a1 c2 (((JO o v).1).wanted))∧(rI (((JO o v).1).had))∧((((JO o v).2.1).name).length≤140737488351232)∧((((JO o v).2.1).value).length≤140737488351232)∧(rU (((JO o v).2.1).n))∧(rU (((JO o v).2.1).tag))∧L'=[]):=by
 obtain ⟨a1,c1,rfl,w1,w2,w3,w4,w5,w6,hs1,w7⟩:=h_o
 refine JN Tryz.func101 52 [(0,(Ku o a1 c1)),(1,Sr v)] rfl (fun w0 G0=>?_)
 refine Je (Jc (Jv 2 #[Sr o.name,U o.key,I o.head.epoch,U o.head.root,U o.head.prev,I o.head.at_,Sl a1 o.wanted.length c1,I o.had] 76 (fun b1=>Jv 4 #[Sr ([]),U 0,I 0,U 0,U 0,I 0,Sl none 0 0,I 0] 76 (fun b2=>Jv 5 #[Sr ([]),Sr ([]),U 0,U 0] 182 (fun b3=>Ja [0] [] (Jd (Jb (Je (Jc (Ja [6] [(10,(Ku o a1 c1))] (Jj 11 (I (Ka o)) (Jao G (KE o a1 c1) o (⟨a1,c1,rfl,w1,w2,w3,w4,w5,w6,hs1,w7⟩)) (Ja [0] [(7,I (Ka o))] (Jd (Jb (Je (Jz (Jf [0,0,0] [(12,Bo (!decide (Ka o=0)))] (Jk (!decide (Ka o=0)) (fun h1=>?_) (fun h1=>?_)))))))))))))))))))
 refine Jf [0,0,0,5,3,0] [(6,I (Ka o))] (Jl (Jt (Jh ?_)))
 have hf1:JO o v=((⟨[],0,(⟨0,0,0,0⟩:JQ),[],0⟩:K2),(⟨[],[],0,0⟩:Zv),Ka o):=by
  unfold JO Yf Vy Jiw Zq;simp_all
 refine Jm [1,0,0] [.agg #[Sr ([]),U 0,I 0,U 0,U 0,I 0,Sl none 0 0,I 0],.agg #[Sr ([]),Sr ([]),U 0,U 0],I (Ka o)] (Jy [] (Jp.le_refl _) ?_)
 rw [hf1]
 try dsimp only
 exact ⟨none,0,rfl,(Nat.le_of_ble_eq_true rfl),J7,J7,J7,J7,J7,(RS.nil' ES G),J7,(Nat.le_of_ble_eq_true rfl),(Nat.le_of_ble_eq_true rfl),J7,J7,rfl⟩
 refine Je (Jc (Ja [0] [(19,Sr v)] (Jj 20 (Bo (WK v)) (Jcj G v) (Ja [0] [(18,Bo (WK v))] (Jd (Jb (Jk (WK v) (fun h2=>?_) (fun h2=>?_))))))))
 refine Jf [0,0,5,3,0] [(6,I 2)] (Jl (Jt (Jh ?_)))
 have hf2:JO o v=((⟨[],0,(⟨0,0,0,0⟩:JQ),[],0⟩:K2),(⟨[],[],0,0⟩:Zv),2):=by
  unfold JO Yf Vy Jiw Zq;simp_all
 refine Jm [1,0,0] [.agg #[Sr ([]),U 0,I 0,U 0,U 0,I 0,Sl none 0 0,I 0],.agg #[Sr ([]),Sr ([]),U 0,U 0],I 2] (Jy [] (Jp.le_refl _) ?_)
 rw [hf2]
 try dsimp only
 exact ⟨none,0,rfl,(Nat.le_of_ble_eq_true rfl),J7,J7,J7,J7,J7,(RS.nil' ES G),J7,(Nat.le_of_ble_eq_true rfl),(Nat.le_of_ble_eq_true rfl),J7,J7,rfl⟩
 refine Jf [0,6,0,0,0] [(23,Bo (decide ((o.wanted.length:Int)=30)))] (Jk (decide ((o.wanted.length:Int)=30)) (fun h3=>?_) (fun h3=>?_))
 refine Jf [0,0,5,3,0] [(6,I 7)] (Jl (Jt (Jh ?_)))
 have hf3:JO o v=((⟨[],0,(⟨0,0,0,0⟩:JQ),[],0⟩:K2),(⟨[],[],0,0⟩:Zv),7):=by
  unfold JO Yf Vy Jiw Zq;simp_all
 refine Jm [1,0,0] [.agg #[Sr ([]),U 0,I 0,U 0,U 0,I 0,Sl none 0 0,I 0],.agg #[Sr ([]),Sr ([]),U 0,U 0],I 7] (Jy [] (Jp.le_refl _) ?_)
 rw [hf3]
 try dsimp only
 exact ⟨none,0,rfl,(Nat.le_of_ble_eq_true rfl),J7,J7,J7,J7,J7,(RS.nil' ES G),J7,(Nat.le_of_ble_eq_true rfl),(Nat.le_of_ble_eq_true rfl),J7,J7,rfl⟩
 refine Jo (JM (Jb (Je (Jc (Ja [0,6,0,6,0,0,6,0,0] [(32,U o.key),(34,Sr o.name),(35,Sr v),(39,U (IntKind.u64.wrap (o.wanted.length:Int)))] (JaN 39 (o.wanted.length:Int) (by (have q_:=K8.1 ‹_›;omega)) (JF 40 (Jj3 G o.key o.name ‹_› v ‹_› (o.wanted.length:Int) (by (have q_:=K8.1 ‹_›;omega))) (fun v G1 L1 hl1 hp=>?_))))))))
 obtain ⟨rfl,w8,w9,w10,w11,rfl⟩:=hp
 refine Ja [0,0,0] [(41,(JjU (W7 o.key o.name v (o.wanted.length:Int)).1)),(42,I ((W7 o.key o.name v (o.wanted.length:Int)).2))] (Jv 8 #[Sr ([]),Sr ([]),U 0,U 0] 182 (fun b4=>JV [3,0] [] [[Sg b4 0 (Jij (W7 o.key o.name v (o.wanted.length:Int)).1)],[Sg b3 0 [Sr ([]),Sr ([]),U 0,U 0]],[Sg b2 0 [Sr ([]),U 0,I 0,U 0,U 0,I 0,Sl none 0 0,I 0]],[Sg b1 0 (KE o a1 c1)]] (Jd (Jb (Je (Jc (Ja [0,8] [(44,Sl a1 o.wanted.length c1)] (JF 45 (JbZ G1 a1 c1 o.wanted (hs1.mono hl1)) (fun v G2 L1 hl2 hp=>?_)))))))))
 obtain ⟨_,c2,_,rfl,hr1,rfl⟩:=hp
 refine Ja [0] [(46,Sr v)] (Kq 47 1 #[Sr v] 9 (fun b5=>Qv (b:=b5) (cs:=[Sr v]) 48 9 1 0 (E:=ES) v hr1 ⟨rfl,‹_›⟩ (by have q_:=K8.1 ‹_›;(try simp only [ES,List.length_append,List.length_cons,List.length_nil]);omega) (by have q_:=K8.1 ‹_›;(try simp only [ES,List.length_append,List.length_cons,List.length_nil]);omega) (fun a3 c3 r2 hr2=>JV [0,13] [] [[Sg b5 0 [Sr v]],r2,[Sg b4 0 (Jij (W7 o.key o.name v (o.wanted.length:Int)).1)],[Sg b3 0 [Sr ([]),Sr ([]),U 0,U 0]],[Sg b2 0 [Sr ([]),U 0,I 0,U 0,U 0,I 0,Sl none 0 0,I 0]],[Sg b1 0 (KE (⟨o.name,o.key,o.head,(o.wanted++[v]),o.had⟩:K2) a3 c3)]] (Jd (Jb (Je (Ko [2,3] (Wm [(0,(Ku (⟨o.name,o.key,o.head,(o.wanted++[v]),o.had⟩:K2) a3 c3)),(1,(JjU (W7 o.key o.name v (o.wanted.length:Int)).1))] (JK [] [(0,12),(1,6)] [] [2] (List.forall_mem_nil _) (Ke ?_ K4))))))))))
 refine JD 2 [(4,Pt b2 0),(50,(Ku (⟨o.name,o.key,o.head,(o.wanted++[v]),o.had⟩:K2) a3 c3))] (fun X=>?_)
 refine KL 4 [[Sg b5 0 [Sr v]],r2,[Sg b4 0 (Jij (W7 o.key o.name v (o.wanted.length:Int)).1)],[Sg b3 0 [Sr ([]),Sr ([]),U 0,U 0]],[Sg b2 0 (KE (⟨o.name,o.key,o.head,(o.wanted++[v]),o.had⟩:K2) a3 c3)],[Sg b1 0 (KE (⟨o.name,o.key,o.head,(o.wanted++[v]),o.had⟩:K2) a3 c3)]] (Kc [] (JK [0] [(1,6)] [] [3] (List.forall_mem_nil _) (Ke ?_ K4)))
 refine JD 3 [(5,Pt b3 0),(51,(JjU (W7 o.key o.name v (o.wanted.length:Int)).1))] (fun X=>?_)
 refine KL 3 [[Sg b5 0 [Sr v]],r2,[Sg b4 0 (Jij (W7 o.key o.name v (o.wanted.length:Int)).1)],[Sg b3 0 (Jij (W7 o.key o.name v (o.wanted.length:Int)).1)],[Sg b2 0 (KE (⟨o.name,o.key,o.head,(o.wanted++[v]),o.had⟩:K2) a3 c3)],[Sg b1 0 (KE (⟨o.name,o.key,o.head,(o.wanted++[v]),o.had⟩:K2) a3 c3)]] (Kc [(4,I 0)] (Km [0,1] [(4,0)] [] [(4,Pt b2 0),(5,Pt b3 0),(6,I 0)] (List.forall_mem_nil _) (Jb (Jl (WA (E:=ES) 1 hr2 (by have q_:=K8.1 ‹_›;(try simp only [ES,List.length_append,List.length_cons,List.length_nil]);omega) (fun G3 hl3 hs2=>?_))))))
 have hf4:JO o v=((⟨o.name,o.key,o.head,o.wanted++[v],o.had⟩:K2),((W7 o.key o.name v (o.wanted.length:Int)).1),0):=by
  unfold JO Yf Vy Jiw Zq;simp_all
 refine Jm [4,3,0] [(Ku (⟨o.name,o.key,o.head,(o.wanted++[v]),o.had⟩:K2) a3 c3),(JjU (W7 o.key o.name v (o.wanted.length:Int)).1),I 0] (Jy [] (Jp.le_trans (Jp.le_trans hl1 hl2) hl3) ?_)
 rw [hf4]
 try dsimp only
 exact ⟨a3,c3,rfl,‹_›,‹_›,‹_›,‹_›,‹_›,‹_›,hs2,‹_›,w8,w9,w10,w11,rfl⟩
def QQ (p:Qy):Int×Int:=if (JX p).2 ≠ 0 then (0,(JX p).2) else (Jg (Jfy (JX p).1),0)
def WQ (root:Int) (p:Qy):Int:=if (QQ p).2=0∧¬ (QQ p).1=root then 8 else (QQ p).2
def Qp (root:Int) (p:Qy):List UInt8×Bool×Int:=if ¬ WQ root p=0 then ([],false,WQ root p) else WY p.entries p.name
def Jq (r:QB):List UInt8×Bool×Int:=if ¬ JI r.head=0 then ([],false,JI r.head) else Qp r.head.root r.proof
theorem YY {p:Qy} (h:(JX p).2=0):(JX p).1.length=17:=by
 unfold JX at h ⊢
 split at h
 · contradiction
 ·
  rename_i h1
  rw [if_neg h1]
  simp only
  rw [Zf,(Q4.1 (Decidable.not_not.1 h1)).sides]
def Z3 (x h:JQ):Bool:=decide (x.epoch=h.epoch) && !decide (x=h)
def K1 (h:JQ) (l:List JQ):Int:=if ¬ (Kd l).1=0∨(WO l).epoch > h.epoch+1 then 2 else if (WO l).epoch=h.epoch+1∧(QU h l).1=false then 2 else if (l.any fun x0=>Z3 x0 h)=true then 3 else if (WU l).epoch≤h.epoch then 1 else 0
def VB (o:K2):Int:=if 0 > o.had-1 then 0 else o.had-1
def Jap (o:K2) (w:List UInt8):Int:=QR (fun x=>decide (w=x)) (o.wanted.drop (VB o).toNat)
def JY (o:K2) (l:List JQ) (r:QB):Int×Int:=if ¬ K1 o.head l=0 then (K1 o.head l,0) else if (¬ (Jq r).2.2=0∨¬ r.head=WU l)∨¬ r.proof.name=o.name then (4,0) else if (Jq r).2.1=false∧o.had > 0 then (5,0) else if (Jq r).2.1=false then (0,0) else if Jap o (Jq r).1<0 then (6,0) else (0,VB o+Jap o (Jq r).1+1)
def Ju (o:K2) (l:List JQ) (r:QB):K2×Int×Int:=if ¬ Ka o=0 then (Vy,0,Ka o) else if (JY o l r).1=0 then (⟨o.name,o.key,r.head,o.wanted,(JY o l r).2⟩,0,0) else (o,(JY o l r).1,0)
theorem YF {h:JQ} {l:List JQ} (e:K1 h l=0):Zc l∧h.epoch<(WU l).epoch:=by
 unfold K1 at e
 split at e
 · cases e
 split at e
 · cases e
 split at e
 · cases e
 split at e
 · cases e
 ·
  rename_i h1 _ _ h4
  exact ⟨K7.1 (Decidable.not_not.1 fun hc=>h1 (.inl hc)),by omega⟩
theorem JiQ {h:JQ} {l:List JQ} {x:JQ} (h1:¬ (Kd l).1=0∨(l[0]? = some x∧x.epoch > h.epoch+1)):K1 h l=2:=by
 unfold K1
 rw [if_pos]
 rcases h1 with h1 | ⟨h1,h2⟩
 · exact .inl h1
 · rw [← WP h1];exact .inr h2
theorem Jn5 {h:JQ} {l:List JQ} {x:JQ} (h0:(Kd l).1=0) (h1:l[0]? = some x) (h2:x.epoch≤h.epoch+1) (h3:x.epoch=h.epoch+1) (h4:(QU h l).1=false):K1 h l=2:=by
 unfold K1
 rw [← WP h1,if_neg (by omega),if_pos ⟨h3,h4⟩]
theorem JaW {h:JQ} {l:List JQ} {x:JQ} (h0:(Kd l).1=0) (h1:l[0]? = some x) (h2:x.epoch≤h.epoch+1) (h3:¬ x.epoch=h.epoch+1∨(QU h l).1=true):K1 h l=if (l.any fun x0=>Z3 x0 h)=true then 3 else if (WU l).epoch≤h.epoch then 1 else 0:=by
 unfold K1
 rw [← WP h1,if_neg (by omega),if_neg]
 rintro ⟨a,b⟩
 rcases h3 with h3 | h3
 · exact h3 a
 · rw [h3] at b;cases b
theorem Jlf {α:Type} (p:α→Bool) (l:List α):-1≤QR p l∧QR p l<l.length+1:=by
 by_cases h:QR p l<0
 ·
  refine ⟨?_,by omega⟩
  unfold QR;split <;> omega
 ·
  obtain ⟨k,hk⟩:∃ k:Nat,QR p l=k:=⟨_,(Int.toNat_of_nonneg (by omega)).symm⟩
  obtain ⟨x,hx,_⟩:=Jho hk
  have:=(List.getElem?_eq_some_iff.1 hx).1
  omega
theorem JeV {o:K2} {l:List JQ} {r:QB} {x:JQ} (h0:K1 o.head l=0) (h1:(Jq r).2.2=0) (h2:l[l.length-1]? = some x) (h3:((r.head.epoch=x.epoch∧r.head.root=x.root)∧r.head.prev=x.prev)∧r.head.at_=x.at_) (h4:r.proof.name=o.name) :
  JY o l r=if (Jq r).2.1=false∧o.had > 0 then (5,0) else if (Jq r).2.1=false then (0,0) else if Jap o (Jq r).1<0 then (6,0) else (0,VB o+Jap o (Jq r).1+1):=by
 unfold JY
 have e:=WB rfl h2
 have e2:r.head=WU l:=by rw [← e,Yz];exact ⟨h3.1.1.1,h3.1.1.2,h3.1.2,h3.2⟩
 rw [if_neg (by omega),if_neg]
 rintro ((a | a) | a)
 · exact a h1
 · exact a e2
 · exact a h4
theorem JhD {o:K2} {l:List JQ} {r:QB} (h0:K1 o.head l=0) (h1:(¬ (Jq r).2.2=0∨∃ x,l[l.length-1]? = some x∧(((r.head.epoch=x.epoch∧r.head.root=x.root)∧r.head.prev=x.prev)→¬ r.head.at_=x.at_))∨¬ r.proof.name=o.name):JY o l r=(4,0):=by
 unfold JY
 rw [if_neg (by omega),if_pos]
 rcases h1 with (h1 | ⟨x,h1,h2⟩) | h1
 · exact .inl (.inl h1)
 ·
  refine .inl (.inr ?_)
  rw [← WB rfl h1,Yz]
  rintro ⟨a,b,c,d⟩
  exact h2 ⟨⟨a,b⟩,c⟩ d
 · exact .inr h1
theorem JiR {o:K2} {k:Nat} (w:List UInt8) (h:(if 0 > o.had-1 then 0 else o.had-1)=(k:Int)):VB o=k∧Jap o w=QR (fun x=>decide (w=x)) (o.wanted.drop k):=by
 have e:VB o=k:=h
 refine ⟨e,?_⟩
 unfold Jap;rw [e];rfl
theorem JiS {o:K2} {w:List UInt8} (h:¬ Jap o w<0):∃ k:Nat,Jap o w=k∧o.wanted[(VB o).toNat+k]? = some w:=by
 obtain ⟨k,hk⟩:∃ k:Nat,Jap o w=k:=⟨_,(Int.toNat_of_nonneg (by omega)).symm⟩
 refine ⟨k,hk,?_⟩
 unfold Jap at hk
 obtain ⟨x,hx,hp⟩:=Jho hk
 rw [List.getElem?_drop] at hx
 rw [hx,of_decide_eq_true hp]
theorem Jdi {o:K2} {l:List JQ} {r:QB} (hc:Ka o=0) (h:(JY o l r).1=0) :
  (Jq r).2.2=0∧o.head.epoch<r.head.epoch∧JI r.head=0∧o.had≤(JY o l r).2∧0≤(JY o l r).2∧(JY o l r).2≤o.wanted.length ∧
  ((Jq r).2.1=false→(JY o l r).2=0∧o.had=0)∧((Jq r).2.1=true→1≤(JY o l r).2∧∃ k:Nat,(JY o l r).2-1=k∧o.wanted[k]? = some (Jq r).1):=by
 have ho:=K8.1 hc
 unfold JY at h ⊢
 by_cases h1:K1 o.head l=0
 ·
  rw [if_neg (by omega)] at h ⊢
  obtain ⟨c1,c2⟩:=YF h1
  by_cases h2:(¬ (Jq r).2.2=0∨¬ r.head=WU l)∨¬ r.proof.name=o.name
  · rw [if_pos h2] at h;cases h
  ·
   rw [if_neg h2] at h ⊢
   have e1:(Jq r).2.2=0:=Decidable.not_not.1 fun hc=>h2 (.inl (.inl hc))
   have e2:r.head=WU l:=Decidable.not_not.1 fun hc=>h2 (.inl (.inr hc))
   have e3:JI r.head=0:=by rw [e2];exact c1.ok _ (List.mem_of_getElem? c1.last)
   by_cases h3:(Jq r).2.1=false∧o.had > 0
   · rw [if_pos h3] at h;cases h
   ·
    rw [if_neg h3] at h ⊢
    by_cases h4:(Jq r).2.1=false
    ·
     rw [if_pos h4] at h ⊢
     have:¬ o.had > 0:=fun hc=>h3 ⟨h4,hc⟩
     exact ⟨e1,by rw [e2];exact c2,e3,by simp only;omega,by simp,by simp,fun _=>⟨rfl,by omega⟩,fun hc=>by rw [h4] at hc;cases hc⟩
    ·
     rw [if_neg h4] at h ⊢
     by_cases h5:Jap o (Jq r).1<0
     · rw [if_pos h5] at h;cases h
     ·
      rw [if_neg h5]
      obtain ⟨k,hk,hw⟩:=JiS h5
      have hlt:=(List.getElem?_eq_some_iff.1 hw).1
      have hf:0≤VB o∧o.had-1≤VB o:=by unfold VB;split <;> omega
      simp only
      refine ⟨e1,by rw [e2];exact c2,e3,by omega,by omega,by omega,fun hc=>absurd hc h4,fun _=>⟨by omega,(VB o).toNat+k,by omega,hw⟩⟩
 · rw [if_pos h1] at h;exact absurd h h1
theorem Jn6 {o:K2} {l:List JQ} {r:QB} (h:(Ju o l r).2.2=0):Ka o=0∧(Ju o l r).2.1=(JY o l r).1∧((JY o l r).1=0→(Ju o l r).1=⟨o.name,o.key,r.head,o.wanted,(JY o l r).2⟩)∧(¬ (JY o l r).1=0→(Ju o l r).1=o):=by
 unfold Ju at h ⊢
 by_cases h1:Ka o=0
 ·
  rw [if_neg (by omega)] at h ⊢
  by_cases h2:(JY o l r).1=0
  · rw [if_pos h2];exact ⟨h1,h2.symm,fun _=>rfl,fun hc=>absurd h2 hc⟩
  · rw [if_neg h2];exact ⟨h1,rfl,fun hc=>absurd hc h2,fun _=>rfl⟩
 · rw [if_pos h1] at h;exact absurd h h1
theorem JiT {o:K2} {l:List JQ} {r:QB} (h:(Ju o l r).2.2=0) (hv:(Ju o l r).2.1=0):(Jq r).2.2=0∧(Ju o l r).1.head=r.head∧o.head.epoch<(Ju o l r).1.head.epoch∧o.had≤(Ju o l r).1.had∧Ka (Ju o l r).1=0∧((Jq r).2.1=false→(Ju o l r).1.had=0∧o.had=0)∧((Jq r).2.1=true→1≤(Ju o l r).1.had∧(Ju o l r).1.had≤o.wanted.length∧∃ k:Nat,(Ju o l r).1.had-1=k∧o.wanted[k]? = some (Jq r).1):=by
 obtain ⟨h1,h2,h3,_⟩:=Jn6 h
 have hv0:(JY o l r).1=0:=by rw [← h2];exact hv
 have hx:=h3 hv0
 have ho:=K8.1 h1
 obtain ⟨a1,a2,a3,a4,a5,a6,a7,a8⟩:=Jdi h1 hv0
 rw [hx]
 refine ⟨a1,rfl,a2,a4,K8.2 ⟨ho.1,a3,ho.2.2.1,ho.2.2.2.1,a5,a6⟩,a7,fun hi=>⟨(a8 hi).1,a6,(a8 hi).2⟩⟩
theorem Jgd (G:Jp) (vs_p:List Value) (p:Qy) (h_p:JcC.R G vs_p p) :Q2 124 #[.agg vs_p.toArray] G (.tuple #[U ((QQ p).1),I ((QQ p).2)]):=by
 obtain ⟨a1,c1,a2,c2,rfl,w1,hs1,hs2⟩:=h_p
 refine JN Tryz.func124 21 [(0,(Yq p a1 c1 a2 c2))] rfl (fun w0 G0=>?_)
 refine Je (Jc (Jv 1 #[Sr p.name,Sl a1 p.entries.length c1,Sl a2 p.sides.length c2] 47 (fun b1=>Ja [0,0] [] (Jd (Jb (Je (Jc (Ja [2] [(7,(Yq p a1 c1 a2 c2))] (JF 8 (JaF G (Yy p a1 c1 a2 c2) p (⟨a1,c1,a2,c2,rfl,w1,hs1,hs2⟩)) (fun v G1 L1 hl1 hp=>?_))))))))))
 obtain ⟨a3,c3,rfl,hs3,rfl⟩:=hp
 refine Ja [0,0,0,0,0] [(4,Sl a3 (((JX p).1).length) c3),(5,I ((JX p).2))] (Jd (Jb (Je (Jf [0,0] [(12,Bo (!decide ((JX p).2=0)))] (Jk (!decide ((JX p).2=0)) (fun h1=>?_) (fun h1=>?_))))))
 refine Jf [0,0,0] [(2,U 0),(3,I ((JX p).2))] (Jl (Jh (Jm [0,0] [U 0,I ((JX p).2)] (Jw hl1 ?_))))
 have hf_:(QQ p)=(0,((JX p).2)):=by
  unfold QQ;(rw [if_pos ‹_›];done)
 · (try rw [hf_]);(simp only [Ql];done)
 refine Jo (Jb (Je (Jc (Ja [0,0,0,0] [(14,Sl a3 (((JX p).1).length) c3),(17,I (IntKind.i64.wrap ((((JX p).1).length:Int)-1)))] ?_))))
 have e1:IntKind.i64.wrap ((((JX p).1).length:Int)-1)=((((JX p).1).length-1:Nat):Int):=(IntWalk.i64_in _ (by (have q_:=YY (p:=p) ‹_›;omega))).trans (show (((JX p).1).length:Int)-1=((((JX p).1).length-1:Nat):Int) by (have q_:=YY (p:=p) ‹_›;omega))
 refine KI 17 (I ((((JX p).1).length-1:Nat):Int)) (congrArg I e1) ?_
 clear e1
 obtain ⟨b2,o1,rfl⟩:=RS.addr hs3 (k:=((JX p).1).length-1) (by (have q_:=YY (p:=p) ‹_›;omega))
 obtain ⟨x1,hx1⟩:=We (l:=(JX p).1) (k:=((JX p).1).length-1) (by (have q_:=YY (p:=p) ‹_›;omega))
 obtain ⟨_,⟨rfl,w2⟩,hc1⟩:=RS.get hs3 hx1
 refine J3 (b:=b2) (off:=o1) (len:=((JX p).1).length) (cap:=c3) (ik:=.i64) 18 9 1 (((JX p).1).length-1) (by (have q_:=YY (p:=p) ‹_›;omega)) (JW 19 9 (cs:=[Sr x1]) 0 (Sr x1) hc1 (Jj 20 (U (Jg x1)) (WX x1 (Vx w2) G1) (Ja [0,0] [(2,U (Jg x1)),(3,I 0)] (Jd (Jb (Jl (Jm [0,0] [U (Jg x1),I 0] (Jw hl1 ?_))))))))
 have hf_:(QQ p)=((Jg x1),0):=by
  unfold QQ;(rw [if_neg (by omega)];have hl_:=Yp (a:=(JX p).1) rfl hx1;rw [← hl_];done)
 · (try rw [hf_]);(simp only [Ql];done)
theorem Jge (G:Jp) (root:Int) (vs_p:List Value) (p:Qy) (h_p:JcC.R G vs_p p) :Q2 72 #[U root,.agg vs_p.toArray] G (I (WQ root p)):=by
 obtain ⟨a1,c1,a2,c2,rfl,w1,hs1,hs2⟩:=h_p
 refine JN Tryz.func72 20 [(0,U root),(1,(Yq p a1 c1 a2 c2))] rfl (fun w0 G0=>?_)
 refine Je (Jc (Jv 3 #[Sr p.name,Sl a1 p.entries.length c1,Sl a2 p.sides.length c2] 47 (fun b1=>Ja [0] [] (Jd (Jb (Je (Jc (Ja [2] [(8,(Yq p a1 c1 a2 c2))] (Jj 9 (.tuple #[U ((QQ p).1),I ((QQ p).2)]) (Jgd G (Yy p a1 c1 a2 c2) p (⟨a1,c1,a2,c2,rfl,w1,hs1,hs2⟩)) (Ja [0,0,0,0,0] [(5,U ((QQ p).1)),(6,I ((QQ p).2))] (Jd (Jb (Je (Je (Jc (Ja [0,0,0] [(14,Bo (decide ((QQ p).2=0)))] (Kn (decide ((QQ p).2=0)) [14] [0,0,0,0] [1,1,1,0] (fun bb=>[(18,Bo (bb && (!decide ((QQ p).1=root))))]) (Jd (Jb (Jk ((decide ((QQ p).2=0)) && (!decide ((QQ p).1=root))) (fun h1=>?_) (fun h1=>?_)))))))))))))))))))))
 refine Jc (Ja [0] [(6,I 8)] (Jd (Jb (Jf [0,0] [(4,I 8)] (Jl (Jm [0] [I 8] (Jw (Jp.le_refl _) (congrArg I (?_:(WQ root p)=8).symm))))))))
 · unfold WQ;(rw [if_pos (by simp_all)];done)
 refine Jo (Jb (Jf [0,0] [(4,I ((QQ p).2))] (Jl (Jm [0] [I ((QQ p).2)] (Jw (Jp.le_refl _) (congrArg I (?_:(WQ root p)=((QQ p).2)).symm))))))
 · unfold WQ;(rw [if_neg (by simp_all)];done)
theorem Jgf (G:Jp) (root:Int) (vs_p:List Value) (p:Qy) (h_p:JcC.R G vs_p p) :Yi 42 #[U root,.agg vs_p.toArray] G [] (fun u G' L'=>u=.tuple #[Sr ((Qp root p).1),Bo ((Qp root p).2.1),I ((Qp root p).2.2)]∧(((Qp root p).1).length≤140737488351232)∧L'=[]):=by
 obtain ⟨a1,c1,a2,c2,rfl,w1,hs1,hs2⟩:=h_p
 refine JN Tryz.func42 22 [(0,U root),(1,(Yq p a1 c1 a2 c2))] rfl (fun w0 G0=>?_)
 refine Je (Jc (Jv 3 #[Sr p.name,Sl a1 p.entries.length c1,Sl a2 p.sides.length c2] 47 (fun b1=>Ja [0,0,0] [] (Jd (Jb (Je (Je (Jc (Ja [0,2] [(8,U root),(9,(Yq p a1 c1 a2 c2))] (Jj 10 (I (WQ root p)) (Jge G root (Yy p a1 c1 a2 c2) p (⟨a1,c1,a2,c2,rfl,w1,hs1,hs2⟩)) (Ja [0] [(7,I (WQ root p))] (Jd (Jb (Jf [0,0] [(12,Bo (!decide (WQ root p=0)))] (Jk (!decide (WQ root p=0)) (fun h1=>?_) (fun h1=>?_))))))))))))))))
 refine Jf [0,0,0,0] [(4,Sr ([])),(5,Bo false),(6,I (WQ root p))] (Jl (Jh ?_))
 have hf1:Qp root p=([],false,WQ root p):=by
  unfold Qp;(rw [if_pos ‹_›];done)
 refine Jm [0,0,0] [Sr ([]),Bo false,I (WQ root p)] (Jy [] (Jp.le_refl _) ?_)
 rw [hf1]
 try dsimp only
 exact ⟨rfl,(Nat.le_of_ble_eq_true rfl),rfl⟩
 refine Jo (Jb (Je (Jc (Ja [0,2,0,2] [(15,Sl a1 p.entries.length c1),(17,Sr p.name)] (JF 18 (JiD G a1 c1 p.entries hs1 p.name w1) (fun v G1 L1 hl1 hp=>?_))))))
 obtain ⟨rfl,w2,rfl⟩:=hp
 refine Ja [0,0,0,0,0,0] [(4,Sr ((WY p.entries p.name).1)),(5,Bo ((WY p.entries p.name).2.1)),(6,I ((WY p.entries p.name).2.2))] (Jd (Jb (Jl ?_)))
 have hf2:Qp root p=((WY p.entries p.name).1,(WY p.entries p.name).2.1,(WY p.entries p.name).2.2):=by
  unfold Qp;(rw [if_neg (by simp_all)];done)
 refine Jm [0,0,0] [Sr ((WY p.entries p.name).1),Bo ((WY p.entries p.name).2.1),I ((WY p.entries p.name).2.2)] (Jy [] hl1 ?_)
 rw [hf2]
 try dsimp only
 exact ⟨rfl,w2,rfl⟩
theorem YZ (G:Jp) (vs_r:List Value) (r:QB) (h_r:Jbz.R G vs_r r) :Yi 24 #[.agg vs_r.toArray] G [] (fun u G' L'=>u=.tuple #[Sr ((Jq r).1),Bo ((Jq r).2.1),I ((Jq r).2.2)]∧(((Jq r).1).length≤140737488351232)∧L'=[]):=by
 obtain ⟨a1,c1,a2,c2,rfl,_,_,_,_,w5,hs1,hs2⟩:=h_r
 refine JN Tryz.func24 21 [(0,(Q9 r a1 c1 a2 c2))] rfl (fun w0 G0=>?_)
 refine Je (Jc (Jv 1 #[I r.head.epoch,U r.head.root,U r.head.prev,I r.head.at_,Sr r.proof.name,Sl a1 r.proof.entries.length c1,Sl a2 r.proof.sides.length c2] 49 (fun b1=>Ja [0,0,0] [] (Jd (Jb (Je (Je (Jc (Ja [0,2] [(7,.agg #[I r.head.epoch,U r.head.root,U r.head.prev,I r.head.at_])] (Jj 8 (I (JI r.head)) (ZS r.head G) (Ja [0] [(5,I (JI r.head))] (Jd (Jb (Jf [0,0] [(10,Bo (!decide (JI r.head=0)))] (Jk (!decide (JI r.head=0)) (fun h1=>?_) (fun h1=>?_))))))))))))))))
 refine Jf [0,0,0,0] [(2,Sr ([])),(3,Bo false),(4,I (JI r.head))] (Jl (Jh ?_))
 have hf1:Jq r=([],false,JI r.head):=by
  unfold Jq;(rw [if_pos ‹_›];done)
 refine Jm [0,0,0] [Sr ([]),Bo false,I (JI r.head)] (Jy [] (Jp.le_refl _) ?_)
 rw [hf1]
 try dsimp only
 exact ⟨rfl,(Nat.le_of_ble_eq_true rfl),rfl⟩
 refine Jo (Jb (Je (Jc (Ja [0,0,2,0,2] [(14,U r.head.root),(16,(Yq r.proof a1 c1 a2 c2))] (JF 17 (Jgf G r.head.root (Yy r.proof a1 c1 a2 c2) r.proof (⟨a1,c1,a2,c2,rfl,w5,hs1,hs2⟩)) (fun v G1 L1 hl1 hp=>?_))))))
 obtain ⟨rfl,w6,rfl⟩:=hp
 refine Ja [0,0,0,0,0,0] [(2,Sr ((Qp r.head.root r.proof).1)),(3,Bo ((Qp r.head.root r.proof).2.1)),(4,I ((Qp r.head.root r.proof).2.2))] (Jd (Jb (Jl ?_)))
 have hf2:Jq r=((Qp r.head.root r.proof).1,(Qp r.head.root r.proof).2.1,(Qp r.head.root r.proof).2.2):=by
  unfold Jq;(rw [if_neg (by simp_all)];done)
 refine Jm [0,0,0] [Sr ((Qp r.head.root r.proof).1),Bo ((Qp r.head.root r.proof).2.1),I ((Qp r.head.root r.proof).2.2)] (Jy [] hl1 ?_)
 rw [hf2]
 try dsimp only
 exact ⟨rfl,w6,rfl⟩
theorem Jdj (G:Jp) (vs_x:List Value) (x:JQ) (h_x:KA.R G vs_x x) (vs_h:List Value) (h:JQ) (h_h:KA.R G vs_h h) (b_h:Nat) (hz_h:∀ j v,(vs_h:List Value)[j]? = some v→G b_h (0+j)=some v) :Q2 123 #[.agg vs_x.toArray,Pt b_h 0] G (Bo (Z3 x h)):=by
 obtain ⟨rfl,_,_,_,_⟩:=h_x
 obtain ⟨rfl,_,_,_,_⟩:=h_h
 refine JN Tryz.func123 14 [(0,.agg #[I x.epoch,U x.root,U x.prev,I x.at_]),(1,Pt b_h 0)] rfl (fun w0 G0=>?_)
 refine Je (Jc (Jv 2 #[I x.epoch,U x.root,U x.prev,I x.at_] 43 (fun b1=>Ja [0] [] (Jd (Jb (Je (Jc (Ja [0,2,0] [(5,I x.epoch),(6,Pt b_h 0)] (JW (o':=0) 7 2 (cs:=[I h.epoch,U h.root,U h.prev,I h.at_]) 0 (I h.epoch) hz_h (Ja [0,0] [(9,Bo (decide (x.epoch=h.epoch)))] (Qu [9] (decide (x.epoch=h.epoch)) (fun h1=>?_) (fun h1=>?_))))))))))))
 refine Ja [2] [(10,.agg #[I x.epoch,U x.root,U x.prev,I x.at_])] (JW (o':=0) 11 43 (cs:=[I h.epoch,U h.root,U h.prev,I h.at_]) 0 (.agg #[I h.epoch,U h.root,U h.prev,I h.at_]) hz_h (JaR 12 (Bo (!(decide (x.epoch=h.epoch) && (decide (x.root=h.root) && (decide (x.prev=h.prev) && (decide (x.at_=h.at_) && true)))))) (Bo (!(decide (x.epoch=h.epoch) && decide (x.root=h.root) && decide (x.prev=h.prev) && decide (x.at_=h.at_)))) (by simp [Qj,Bool.and_assoc]) (Ja [0,0] [(3,Bo (!(decide (x.epoch=h.epoch) && decide (x.root=h.root) && decide (x.prev=h.prev) && decide (x.at_=h.at_))))] (Jd (Jb (Jl (Jm [0] [Bo (!(decide (x.epoch=h.epoch) && decide (x.root=h.root) && decide (x.prev=h.prev) && decide (x.at_=h.at_)))] (Jw (Jp.le_refl _) (congrArg Bo (?_:(Z3 x h)=(!(decide (x.epoch=h.epoch) && decide (x.root=h.root) && decide (x.prev=h.prev) && decide (x.at_=h.at_)))).symm)))))))))
 unfold Z3;rw [Bool.eq_iff_iff];simp [Yz];grind
 refine Ja [1,1,1,0,0] [(3,Bo false)] (Jd (Jb (Jl (Jm [0] [Bo false] (Jw (Jp.le_refl _) (congrArg Bo (?_:(Z3 x h)=false).symm))))))
 unfold Z3;rw [Bool.eq_iff_iff];simp [Yz];grind
set_option maxRecDepth 20000 in
theorem JfB (G:Jp) (vs_h:List Value) (h:JQ) (h_h:KA.R G vs_h h) (a_l:Option Addr) (c_l:Nat) (l:List JQ) (h_l:RS KA G a_l c_l l) (hh:JI h=0):Q2 71 #[.agg vs_h.toArray,Sl a_l l.length c_l] G (I (K1 h l)):=by
 obtain ⟨rfl,w1,w2,w3,w4⟩:=h_h
 refine JN Tryz.func71 55 [(0,.agg #[I h.epoch,U h.root,U h.prev,I h.at_]),(1,Sl a_l l.length c_l)] rfl (fun w0 G0=>?_)
 refine Je (Jc (Jv 2 #[I h.epoch,U h.root,U h.prev,I h.at_] 43 (fun b1=>Ja [0] [] (Jd (Jb (Je (Je (Jc (Ja [0] [(10,Sl a_l l.length c_l)] (Jj 11 (.tuple #[I ((Kd l).1),I ((Kd l).2)]) (Jan G a_l c_l l h_l) (Ja [0,0,0,0,0] [(5,I ((Kd l).1))] (Jd (Jb (Je ?_))))))))))))))
 rcases Bool.eq_false_or_eq_true (!decide ((Kd l).1=0)) with h1 | h1
 have h1d:=h1
 try simp only [BB] at h1d
 refine Ko [] (Wm [(0,I ((Kd l).1)),(1,Bo true),(2,Bo true),(3,undef),(4,undef),(5,undef),(6,undef),(7,undef),(8,undef),(9,undef),(10,undef),(11,Bo true)] (Km [] [(0,0),(2,0),(3,1),(4,1),(5,1),(6,1),(7,1),(8,1),(9,1),(10,1),(11,0)] [1] [(1,Sl a_l l.length c_l),(2,Pt b1 0),(25,Bo true)] (Ke ?_ K4) ?_))
 refine Jr 1 15 (Bo true) [(14,I ((Kd l).1))] (fun X=>?_)
 exact K5 15 (Bo (!decide ((Kd l).1=0))) (Bo true) (by rw [h1]) Jn
 refine Jb (JU (Jf [0] [(4,I 2)] (Jl (Jh (Jm [0] [I 2] (Jw (Jp.le_refl _) (congrArg I (?_:(K1 h l)=2).symm)))))))
 exact JiQ (x:=Zq) (.inl ‹_›)
 have h1d:=h1
 try simp only [BB] at h1d
 obtain ⟨b2,o1,rfl⟩:=RS.addr h_l (k:=0) (by (have q_:=(K7.1 ‹_›);have q1_:=q_.len1;have q2_:=q_.len;omega))
 obtain ⟨x1,hx1⟩:=We (l:=l) (k:=0) (by (have q_:=(K7.1 ‹_›);have q1_:=q_.len1;have q2_:=q_.len;omega))
 obtain ⟨_,⟨rfl,_,_,_,_⟩,hc1⟩:=RS.get h_l hx1
 have e1:IntKind.i64.wrap (h.epoch+1)=h.epoch+1:=IntWalk.i64_in _ (by (have q0_:=Zb hh;omega))
 refine Ko [] (Wm [(0,I ((Kd l).1)),(1,Bo false),(2,Bo false),(3,Sl (At b2 o1) l.length c_l),(4,Pt b2 (o1+0*4)),(5,Pt b2 (o1+0*4)),(6,I x1.epoch),(7,Pt b1 0),(8,I h.epoch),(9,I (h.epoch+1)),(10,Bo (decide (x1.epoch > h.epoch+1))),(11,Bo (decide (x1.epoch > h.epoch+1)))] (Km [] [(0,0),(2,0),(3,0),(5,0),(7,0),(8,2),(10,0),(11,0)] [1,4,6,9] [(1,Sl (At b2 o1) l.length c_l),(2,Pt b1 0),(25,Bo (decide (x1.epoch > h.epoch+1)))] (Ke ?_ (Ke ?_ (Ke ?_ (Ke ?_ K4)))) ?_))
 refine Jr 1 15 (Bo false) [(14,I ((Kd l).1))] (fun X=>?_)
 exact K5 15 (Bo (!decide ((Kd l).1=0))) (Bo false) (by rw [h1]) Jn
 refine Jr 4 18 (Pt b2 (o1+0*4)) [(16,Bo false),(17,Sl (At b2 o1) l.length c_l)] (fun X=>?_)
 exact J3 (b:=b2) (off:=o1) (len:=l.length) (cap:=c_l) (ik:=.i64) 18 43 4 0 (by (have q_:=(K7.1 ‹_›);have q1_:=q_.len1;have q2_:=q_.len;omega)) Jn
 refine Jr 6 20 (I x1.epoch) [(16,Bo false),(19,Pt b2 (o1+0*4))] (fun X=>?_)
 exact JW 20 2 (cs:=[I x1.epoch,U x1.root,U x1.prev,I x1.at_]) 0 (I x1.epoch) hc1 Jn
 refine Jr 9 23 (I (h.epoch+1)) [(16,Bo false),(22,I h.epoch)] (fun X=>?_)
 exact K5 23 (I (IntKind.i64.wrap (h.epoch+1))) (I (h.epoch+1)) (by simp only [e1]) Jn
 refine Jb (Jk (decide (x1.epoch > h.epoch+1)) (fun h2=>?_) (fun h2=>?_))
 refine Jf [0] [(4,I 2)] (Jl (Jh (Jm [0] [I 2] (Jw (Jp.le_refl _) (congrArg I (?_:(K1 h l)=2).symm)))))
 exact JiQ (.inr ⟨hx1,by assumption⟩)
 refine Jo (Jb (Je (Je ?_)))
 have e2:IntKind.i64.wrap (h.epoch+1)=h.epoch+1:=IntWalk.i64_in _ (by (have q0_:=Zb hh;omega))
 refine Ko [] (Wm [(0,Sl (At b2 o1) l.length c_l),(1,Pt b2 (o1+0*4)),(2,Pt b2 (o1+0*4)),(3,I x1.epoch),(4,Pt b1 0),(5,I h.epoch),(6,I (h.epoch+1)),(7,Bo (decide (x1.epoch=h.epoch+1)))] (Km [] [(0,0),(2,0),(4,0),(5,2),(7,0)] [1,3,6] [(1,Sl (At b2 o1) l.length c_l),(2,Pt b1 0),(33,Bo (decide (x1.epoch=h.epoch+1)))] (Ke ?_ (Ke ?_ (Ke ?_ K4))) ?_))
 refine Jr 1 27 (Pt b2 (o1+0*4)) [(26,Sl (At b2 o1) l.length c_l)] (fun X=>?_)
 exact J3 (b:=b2) (off:=o1) (len:=l.length) (cap:=c_l) (ik:=.i64) 27 43 4 0 (by (have q_:=(K7.1 ‹_›);have q1_:=q_.len1;have q2_:=q_.len;omega)) Jn
 refine Jr 3 29 (I x1.epoch) [(28,Pt b2 (o1+0*4))] (fun X=>?_)
 exact JW 29 2 (cs:=[I x1.epoch,U x1.root,U x1.prev,I x1.at_]) 0 (I x1.epoch) hc1 Jn
 refine Jr 6 32 (I (h.epoch+1)) [(31,I h.epoch)] (fun X=>?_)
 exact K5 32 (I (IntKind.i64.wrap (h.epoch+1))) (I (h.epoch+1)) (by simp only [e2]) Jn
 refine Jb (Jk (decide (x1.epoch=h.epoch+1)) (fun h3=>?_) (fun h3=>?_))
 refine Je (Jc (Ja [2,0] [(35,.agg #[I h.epoch,U h.root,U h.prev,I h.at_]),(36,Sl (At b2 o1) l.length c_l)] (Jj 37 (.tuple #[Bo ((QU h l).1),I ((QU h l).2)]) (JdX G [I h.epoch,U h.root,U h.prev,I h.at_] h (⟨rfl,w1,w2,w3,w4⟩) (At b2 o1) c_l l h_l) (Ja [0,0,0,0,0] [(7,Bo ((QU h l).1))] (Jd (Jb (Jf [0,0] [(41,Bo (!((QU h l).1)))] (Jk (!((QU h l).1)) (fun h4=>?_) (fun h4=>?_)))))))))
 refine Jf [0] [(4,I 2)] (Jl (Jh (Jm [0] [I 2] (Jw (Jp.le_refl _) (congrArg I (?_:(K1 h l)=2).symm)))))
 exact Jn5 ‹_› hx1 ‹_› ‹_› ‹_›
 refine Jo (Jb (Je (Je (Jc (Ja [0,0] [(42,Sl (At b2 o1) l.length c_l),(43,Fv 123 #[Pt b1 0])] (QV (b:=b1) (o:=0) (cs:=[I h.epoch,U h.root,U h.prev,I h.at_]) 0 (fun G1 hl1 hz1=>Jj 44 (Bo (l.any (fun x0=>Z3 x0 h))) (Jfk G1 (At b2 o1) c_l l (h_l.mono hl1) 123 #[Pt b1 0] (fun x0=>Z3 x0 h) (fun _ _=>by kernel_rfl) (fun vs0 x0 hx0=>by obtain ⟨rfl,w9,w10,w11,w12⟩:=hx0;exact Jdj G1 [I x0.epoch,U x0.root,U x0.prev,I x0.at_] x0 (⟨rfl,w9,w10,w11,w12⟩) [I h.epoch,U h.root,U h.prev,I h.at_] h (⟨rfl,w1,w2,w3,w4⟩) b1 hz1)) (Jd (Jb (Jk (l.any (fun x0=>Z3 x0 h)) (fun h5=>?_) (fun h5=>?_)))))))))))
 refine Jf [0] [(4,I 3)] (Jl (Jh (Jm [0] [I 3] (Jw hl1 (congrArg I (?_:(K1 h l)=3).symm)))))
 · (rw [JaW ‹_› hx1 ‹_› (by exact .inr ‹_›)];(rw [if_pos ‹_›];done))
 refine Jo (Jb (Je (Je ?_)))
 have e3:IntKind.i64.wrap ((l.length:Int)-1)=((l.length-1:Nat):Int):=(IntWalk.i64_in _ (by (have q_:=(K7.1 ‹_›);have q1_:=q_.len1;have q2_:=q_.len;omega))).trans (show (l.length:Int)-1=((l.length-1:Nat):Int) by (have q_:=(K7.1 ‹_›);have q1_:=q_.len1;have q2_:=q_.len;omega))
 obtain ⟨x2,hx2⟩:=We (l:=l) (k:=l.length-1) (by (have q_:=(K7.1 ‹_›);have q1_:=q_.len1;have q2_:=q_.len;omega))
 obtain ⟨_,⟨rfl,_,_,_,_⟩,hc2⟩:=RS.get (h_l.mono hl1) hx2
 refine Ko [] (Wm [(0,Sl (At b2 o1) l.length c_l),(1,Sl (At b2 o1) l.length c_l),(2,I (l.length:Int)),(3,I ((l.length-1:Nat):Int)),(4,Pt b2 (o1+(l.length-1)*4)),(5,Pt b2 (o1+(l.length-1)*4)),(6,I x2.epoch),(7,Pt b1 0),(8,I h.epoch),(9,Bo (decide (x2.epoch≤h.epoch)))] (Km [] [(0,0),(1,0),(2,0),(5,0),(7,0),(9,0)] [3,4,6,8] [(54,Bo (decide (x2.epoch≤h.epoch)))] (Ke ?_ (Ke ?_ (Ke ?_ (Ke ?_ K4)))) ?_))
 refine Jr 3 48 (I ((l.length-1:Nat):Int)) [(47,I (l.length:Int))] (fun X=>?_)
 exact K5 48 (I (IntKind.i64.wrap ((l.length:Int)-1))) (I ((l.length-1:Nat):Int)) (by simp only [e3]) Jn
 refine Jr 4 49 (Pt b2 (o1+(l.length-1)*4)) [(45,Sl (At b2 o1) l.length c_l),(48,I ((l.length-1:Nat):Int))] (fun X=>?_)
 exact J3 (b:=b2) (off:=o1) (len:=l.length) (cap:=c_l) (ik:=.i64) 49 43 4 (l.length-1) (by (have q_:=(K7.1 ‹_›);have q1_:=q_.len1;have q2_:=q_.len;omega)) Jn
 refine Jr 6 51 (I x2.epoch) [(50,Pt b2 (o1+(l.length-1)*4))] (fun X=>?_)
 exact JW 51 2 (cs:=[I x2.epoch,U x2.root,U x2.prev,I x2.at_]) 0 (I x2.epoch) hc2 Jn
 refine Jr 8 53 (I h.epoch) [(52,Pt b1 0)] (fun X=>?_)
 exact JW (o':=0) 53 2 (cs:=[I h.epoch,U h.root,U h.prev,I h.at_]) 0 (I h.epoch) hz1 Jn
 refine Jb (Jk (decide (x2.epoch≤h.epoch)) (fun h6=>?_) (fun h6=>?_))
 refine Jf [0] [(4,I 1)] (Jl (Jh (Jm [0] [I 1] (Jw hl1 (congrArg I (?_:(K1 h l)=1).symm)))))
 · (rw [JaW ‹_› hx1 ‹_› (by exact .inr ‹_›)];(have el_:=WB (l:=l) (k:=l.length-1) rfl ‹_›;subst el_;rw [if_neg (by simp_all)];(rw [if_pos ‹_›];done)))
 refine Jo (Jb (Jf [0] [(4,I 0)] (Jl (Jm [0] [I 0] (Jw hl1 (congrArg I (?_:(K1 h l)=0).symm))))))
 · (rw [JaW ‹_› hx1 ‹_› (by exact .inr ‹_›)];(have el_:=WB (l:=l) (k:=l.length-1) rfl ‹_›;subst el_;rw [if_neg (by simp_all)];(rw [if_neg (by omega)];done)))
 refine Jo (Jb (Je (Je (Jc (Ja [0,0] [(42,Sl (At b2 o1) l.length c_l),(43,Fv 123 #[Pt b1 0])] (QV (b:=b1) (o:=0) (cs:=[I h.epoch,U h.root,U h.prev,I h.at_]) 0 (fun G2 hl2 hz2=>Jj 44 (Bo (l.any (fun x0=>Z3 x0 h))) (Jfk G2 (At b2 o1) c_l l (h_l.mono hl2) 123 #[Pt b1 0] (fun x0=>Z3 x0 h) (fun _ _=>by kernel_rfl) (fun vs0 x0 hx0=>by obtain ⟨rfl,w17,w18,w19,w20⟩:=hx0;exact Jdj G2 [I x0.epoch,U x0.root,U x0.prev,I x0.at_] x0 (⟨rfl,w17,w18,w19,w20⟩) [I h.epoch,U h.root,U h.prev,I h.at_] h (⟨rfl,w1,w2,w3,w4⟩) b1 hz2)) (Jd (Jb (Jk (l.any (fun x0=>Z3 x0 h)) (fun h7=>?_) (fun h7=>?_)))))))))))
 refine Jf [0] [(4,I 3)] (Jl (Jh (Jm [0] [I 3] (Jw hl2 (congrArg I (?_:(K1 h l)=3).symm)))))
 · (rw [JaW ‹_› hx1 ‹_› (by exact .inl ‹_›)];(rw [if_pos ‹_›];done))
 refine Jo (Jb (Je (Je ?_)))
 have e4:IntKind.i64.wrap ((l.length:Int)-1)=((l.length-1:Nat):Int):=(IntWalk.i64_in _ (by (have q_:=(K7.1 ‹_›);have q1_:=q_.len1;have q2_:=q_.len;omega))).trans (show (l.length:Int)-1=((l.length-1:Nat):Int) by (have q_:=(K7.1 ‹_›);have q1_:=q_.len1;have q2_:=q_.len;omega))
 obtain ⟨x3,hx3⟩:=We (l:=l) (k:=l.length-1) (by (have q_:=(K7.1 ‹_›);have q1_:=q_.len1;have q2_:=q_.len;omega))
 obtain ⟨_,⟨rfl,_,_,_,_⟩,hc3⟩:=RS.get (h_l.mono hl2) hx3
 refine Ko [] (Wm [(0,Sl (At b2 o1) l.length c_l),(1,Sl (At b2 o1) l.length c_l),(2,I (l.length:Int)),(3,I ((l.length-1:Nat):Int)),(4,Pt b2 (o1+(l.length-1)*4)),(5,Pt b2 (o1+(l.length-1)*4)),(6,I x3.epoch),(7,Pt b1 0),(8,I h.epoch),(9,Bo (decide (x3.epoch≤h.epoch)))] (Km [] [(0,0),(1,0),(2,0),(5,0),(7,0),(9,0)] [3,4,6,8] [(54,Bo (decide (x3.epoch≤h.epoch)))] (Ke ?_ (Ke ?_ (Ke ?_ (Ke ?_ K4)))) ?_))
 refine Jr 3 48 (I ((l.length-1:Nat):Int)) [(47,I (l.length:Int))] (fun X=>?_)
 exact K5 48 (I (IntKind.i64.wrap ((l.length:Int)-1))) (I ((l.length-1:Nat):Int)) (by simp only [e4]) Jn
 refine Jr 4 49 (Pt b2 (o1+(l.length-1)*4)) [(45,Sl (At b2 o1) l.length c_l),(48,I ((l.length-1:Nat):Int))] (fun X=>?_)
 exact J3 (b:=b2) (off:=o1) (len:=l.length) (cap:=c_l) (ik:=.i64) 49 43 4 (l.length-1) (by (have q_:=(K7.1 ‹_›);have q1_:=q_.len1;have q2_:=q_.len;omega)) Jn
 refine Jr 6 51 (I x3.epoch) [(50,Pt b2 (o1+(l.length-1)*4))] (fun X=>?_)
 exact JW 51 2 (cs:=[I x3.epoch,U x3.root,U x3.prev,I x3.at_]) 0 (I x3.epoch) hc3 Jn
 refine Jr 8 53 (I h.epoch) [(52,Pt b1 0)] (fun X=>?_)
 exact JW (o':=0) 53 2 (cs:=[I h.epoch,U h.root,U h.prev,I h.at_]) 0 (I h.epoch) hz2 Jn
 refine Jb (Jk (decide (x3.epoch≤h.epoch)) (fun h8=>?_) (fun h8=>?_))
 refine Jf [0] [(4,I 1)] (Jl (Jh (Jm [0] [I 1] (Jw hl2 (congrArg I (?_:(K1 h l)=1).symm)))))
 · (rw [JaW ‹_› hx1 ‹_› (by exact .inl ‹_›)];(have el_:=WB (l:=l) (k:=l.length-1) rfl ‹_›;subst el_;rw [if_neg (by simp_all)];(rw [if_pos ‹_›];done)))
 refine Jo (Jb (Jf [0] [(4,I 0)] (Jl (Jm [0] [I 0] (Jw hl2 (congrArg I (?_:(K1 h l)=0).symm))))))
 · (rw [JaW ‹_› hx1 ‹_› (by exact .inl ‹_›)];(have el_:=WB (l:=l) (k:=l.length-1) rfl ‹_›;subst el_;rw [if_neg (by simp_all)];(rw [if_neg (by omega)];done)))
theorem JiU (G:Jp) (vs_o:List Value) (o:K2) (h_o:Q1.R G vs_o o) :Yi 39 #[.agg vs_o.toArray] G [] (fun u G' L'=>∃ (a1:Option Addr) (c2:Nat),u=.agg #[Sr o.name,U o.key,I o.head.epoch,U o.head.root,U o.head.prev,I o.head.at_,Sl a1 o.wanted.length c2,I o.had]∧((o.name).length≤140737488351232)∧(rU o.key)∧(rI o.head.epoch)∧(rU o.head.root)∧(rU o.head.prev)∧(rI o.head.at_)∧(RS ES G' a1 c2 o.wanted)∧(rI o.had)∧L'=[]):=by
 obtain ⟨a1,c1,rfl,w1,w2,w3,w4,w5,w6,hs1,w7⟩:=h_o
 refine JN Tryz.func39 8 [(0,(Ku o a1 c1))] rfl (fun w0 G0=>?_)
 refine Je (Jc (Jv 1 #[Sr o.name,U o.key,I o.head.epoch,U o.head.root,U o.head.prev,I o.head.at_,Sl a1 o.wanted.length c1,I o.had] 76 (fun b1=>Jv 2 #[Sr ([]),U 0,I 0,U 0,U 0,I 0,Sl none 0 0,I 0] 76 (fun b2=>Jd (Jb (Je (Jc (Ja [0,4] [(4,Sl a1 o.wanted.length c1)] (JF 5 (JbZ G a1 c1 o.wanted hs1) (fun v G1 L1 hl1 hp=>?_))))))))))
 obtain ⟨a2,c2,r1,rfl,hr1,rfl⟩:=hp
 refine JV [0,7] [] [r1,[Sg b2 0 [Sr ([]),U 0,I 0,U 0,U 0,I 0,Sl none 0 0,I 0]],[Sg b1 0 (KE o a2 c2)]] (Jd (Jb (Qx [6,5] [] [r1,[Sg b2 0 (KE o a2 c2)],[Sg b1 0 (KE o a2 c2)]] (Jl (WA (E:=ES) 0 hr1 (by exact (hs1).fit) (fun G2 hl2 hs2=>?_))))))
 have hf1:o=o:=by
  rfl
 refine Jm [1] [(Ku o a2 c2)] (Jy [] (Jp.le_trans hl1 hl2) ?_)
 rw [hf1]
 try dsimp only
 exact ⟨a2,c2,rfl,w1,w2,w3,w4,w5,w6,hs2,w7,rfl⟩
set_option maxRecDepth 20000 in
theorem JdY (G:Jp) (vs_o:List Value) (o:K2) (h_o:Q1.R G vs_o o) (a_l:Option Addr) (c_l:Nat) (l:List JQ) (h_l:RS KA G a_l c_l l) (vs_r:List Value) (r:QB) (h_r:Jbz.R G vs_r r) (ho:Ka o=0):Q2 40 #[.agg vs_o.toArray,Sl a_l l.length c_l,.agg vs_r.toArray] G (.tuple #[I ((JY o l r).1),I ((JY o l r).2)]):=by
 obtain ⟨a1,c1,rfl,_,_,w3,w4,w5,w6,hs1,_⟩:=h_o
 obtain ⟨a2,c2,a3,c3,rfl,w8,w9,w10,w11,w12,hs2,hs3⟩:=h_r
 refine JN Tryz.func40 76 [(0,(Ku o a1 c1)),(1,Sl a_l l.length c_l),(2,(Q9 r a2 c2 a3 c3))] rfl (fun w0 G0=>?_)
 refine Je (Jc (Jv 3 #[Sr o.name,U o.key,I o.head.epoch,U o.head.root,U o.head.prev,I o.head.at_,Sl a1 o.wanted.length c1,I o.had] 76 (fun b1=>Jv 5 #[I r.head.epoch,U r.head.root,U r.head.prev,I r.head.at_,Sr r.proof.name,Sl a2 r.proof.entries.length c2,Sl a3 r.proof.sides.length c3] 49 (fun b2=>Ja [0,0] [] (Jd (Jb (Je (Je (Jc (Ja [0,4,0] [(15,.agg #[I o.head.epoch,U o.head.root,U o.head.prev,I o.head.at_]),(16,Sl a_l l.length c_l)] (Jj 17 (I (K1 o.head l)) (JfB G [I o.head.epoch,U o.head.root,U o.head.prev,I o.head.at_] o.head (⟨rfl,w3,w4,w5,w6⟩) a_l c_l l h_l (K8.1 ho).2.1) (Ja [0] [(8,I (K1 o.head l))] (Jd (Jb (Jf [0,0] [(19,Bo (!decide (K1 o.head l=0)))] (Jk (!decide (K1 o.head l=0)) (fun h1=>?_) (fun h1=>?_)))))))))))))))))
 refine Jf [0,0,0] [(6,I (K1 o.head l)),(7,I 0)] (Jl (Jh (Jm [0,0] [I (K1 o.head l),I 0] (Jw (Jp.le_refl _) ?_))))
 have hf_:(JY o l r)=((K1 o.head l),0):=by
  (unfold JY;rw [if_pos ‹_›];done)
 · (try rw [hf_]);(simp only [Ql];done)
 refine Jo (Jb (Je (Jc (Ja [2] [(22,(Q9 r a2 c2 a3 c3))] (JF 23 (YZ G (Wp r a2 c2 a3 c3) r (⟨a2,c2,a3,c3,rfl,w8,w9,w10,w11,w12,hs2,hs3⟩)) (fun v G1 L1 hl1 hp=>?_))))))
 obtain ⟨rfl,_,rfl⟩:=hp
 refine Ja [0,0,0,0,0,0,0] [(9,Sr ((Jq r).1)),(10,Bo ((Jq r).2.1)),(11,I ((Jq r).2.2))] (Jd (Jb (Je (Jz (Je ?_)))))
 rcases Bool.eq_false_or_eq_true (!decide ((Jq r).2.2=0)) with h2 | h2
 have h2d:=h2
 try simp only [BB] at h2d
 refine Ko [] (Wm [(0,I ((Jq r).2.2)),(1,Bo true),(2,Bo true),(3,undef),(4,undef),(5,undef),(6,undef),(7,undef),(8,undef),(9,undef),(10,undef),(11,undef),(12,Bo true),(13,Bo true),(14,undef),(15,undef),(16,undef),(17,undef),(18,undef),(19,undef),(20,Bo true),(21,Bo true)] (Km [] [(0,0),(2,0),(3,1),(4,1),(5,1),(6,1),(7,1),(8,1),(9,1),(10,1),(11,1),(12,0),(13,0),(14,1),(15,1),(16,1),(17,1),(18,1),(19,1),(20,0),(21,0)] [1] [(3,Pt b1 0),(9,Sr ((Jq r).1)),(10,Bo ((Jq r).2.1)),(27,Bo true)] (Ke ?_ K4) ?_))
 refine Jr 1 29 (Bo true) [(28,I ((Jq r).2.2))] (fun X=>?_)
 exact K5 29 (Bo (!decide ((Jq r).2.2=0))) (Bo true) (by rw [h2]) Jn
 refine Jb (JU (Jf [0,0] [(6,I 4),(7,I 0)] (Jl (Jt (Jh (Jm [0,0] [I 4,I 0] (Jw hl1 ?_)))))))
 have hf_:(JY o l r)=(4,0):=by
  exact JhD ‹_› (.inl (.inl ‹_›))
 · (try rw [hf_]);(simp only [Ql];done)
 have h2d:=h2
 try simp only [BB] at h2d
 have e1:IntKind.i64.wrap ((l.length:Int)-1)=((l.length-1:Nat):Int):=(IntWalk.i64_in _ (by (have q_:=(YF ‹_›).1;have q1_:=q_.len1;have q2_:=q_.len;omega))).trans (show (l.length:Int)-1=((l.length-1:Nat):Int) by (have q_:=(YF ‹_›).1;have q1_:=q_.len1;have q2_:=q_.len;omega))
 obtain ⟨b3,o1,rfl⟩:=RS.addr (h_l.mono hl1) (k:=l.length-1) (by (have q_:=(YF ‹_›).1;have q1_:=q_.len1;have q2_:=q_.len;omega))
 obtain ⟨x1,hx1⟩:=We (l:=l) (k:=l.length-1) (by (have q_:=(YF ‹_›).1;have q1_:=q_.len1;have q2_:=q_.len;omega))
 obtain ⟨_,⟨rfl,_,_,_,_⟩,hc1⟩:=RS.get (h_l.mono hl1) hx1
 rcases Bool.eq_false_or_eq_true (!(decide (r.head.epoch=x1.epoch) && decide (r.head.root=x1.root) && decide (r.head.prev=x1.prev) && decide (r.head.at_=x1.at_))) with h3 | h3
 have h3d:=h3
 try simp only [BB] at h3d
 have e2:IntKind.i64.wrap ((l.length:Int)-1)=((l.length-1:Nat):Int):=(IntWalk.i64_in _ (by (have q_:=(YF ‹_›).1;have q1_:=q_.len1;have q2_:=q_.len;omega))).trans (show (l.length:Int)-1=((l.length-1:Nat):Int) by (have q_:=(YF ‹_›).1;have q1_:=q_.len1;have q2_:=q_.len;omega))
 refine Ko [] (Wm [(0,I ((Jq r).2.2)),(1,Bo false),(2,Bo false),(3,Pt b2 0),(4,.agg #[I r.head.epoch,U r.head.root,U r.head.prev,I r.head.at_]),(5,Sl (At b3 o1) l.length c_l),(6,Sl (At b3 o1) l.length c_l),(7,I (l.length:Int)),(8,I ((l.length-1:Nat):Int)),(9,Pt b3 (o1+(l.length-1)*4)),(10,.agg #[I x1.epoch,U x1.root,U x1.prev,I x1.at_]),(11,Bo (!(decide (r.head.epoch=x1.epoch) && decide (r.head.root=x1.root) && decide (r.head.prev=x1.prev) && decide (r.head.at_=x1.at_)))),(12,Bo true),(13,Bo true),(14,undef),(15,undef),(16,undef),(17,undef),(18,undef),(19,undef),(20,Bo true),(21,Bo true)] (Km [] [(0,0),(2,0),(3,0),(4,2),(5,0),(6,0),(7,0),(13,0),(14,1),(15,1),(16,1),(17,1),(18,1),(19,1),(20,0),(21,0)] [1,8,9,10,11,12] [(3,Pt b1 0),(9,Sr ((Jq r).1)),(10,Bo ((Jq r).2.1)),(27,Bo true)] (Ke ?_ (Ke ?_ (Ke ?_ (Ke ?_ (Ke ?_ (Ke ?_ K4)))))) ?_))
 refine Jr 1 29 (Bo false) [(28,I ((Jq r).2.2))] (fun X=>?_)
 exact K5 29 (Bo (!decide ((Jq r).2.2=0))) (Bo false) (by rw [h2]) Jn
 refine Jr 8 36 (I ((l.length-1:Nat):Int)) [(30,Bo false),(35,I (l.length:Int))] (fun X=>?_)
 exact K5 36 (I (IntKind.i64.wrap ((l.length:Int)-1))) (I ((l.length-1:Nat):Int)) (by simp only [e2]) Jn
 refine Jr 9 37 (Pt b3 (o1+(l.length-1)*4)) [(30,Bo false),(33,Sl (At b3 o1) l.length c_l),(36,I ((l.length-1:Nat):Int))] (fun X=>?_)
 exact J3 (b:=b3) (off:=o1) (len:=l.length) (cap:=c_l) (ik:=.i64) 37 43 4 (l.length-1) (by (have q_:=(YF ‹_›).1;have q1_:=q_.len1;have q2_:=q_.len;omega)) Jn
 refine Jr 10 38 (.agg #[I x1.epoch,U x1.root,U x1.prev,I x1.at_]) [(30,Bo false),(37,Pt b3 (o1+(l.length-1)*4))] (fun X=>?_)
 exact JW 38 43 (cs:=[I x1.epoch,U x1.root,U x1.prev,I x1.at_]) 0 (.agg #[I x1.epoch,U x1.root,U x1.prev,I x1.at_]) hc1 Jn
 refine Jr 11 39 (Bo (!(decide (r.head.epoch=x1.epoch) && decide (r.head.root=x1.root) && decide (r.head.prev=x1.prev) && decide (r.head.at_=x1.at_)))) [(30,Bo false),(32,.agg #[I r.head.epoch,U r.head.root,U r.head.prev,I r.head.at_]),(38,.agg #[I x1.epoch,U x1.root,U x1.prev,I x1.at_])] (fun X=>?_)
 exact JaR 39 (Bo (!(decide (r.head.epoch=x1.epoch) && (decide (r.head.root=x1.root) && (decide (r.head.prev=x1.prev) && (decide (r.head.at_=x1.at_) && true)))))) (Bo (!(decide (r.head.epoch=x1.epoch) && decide (r.head.root=x1.root) && decide (r.head.prev=x1.prev) && decide (r.head.at_=x1.at_)))) (by simp [Qj,Bool.and_assoc]) Jn
 refine Jr 12 40 (Bo true) [(30,Bo false),(39,Bo (!(decide (r.head.epoch=x1.epoch) && decide (r.head.root=x1.root) && decide (r.head.prev=x1.prev) && decide (r.head.at_=x1.at_))))] (fun X=>?_)
 exact K5 40 (Bo (!(decide (r.head.epoch=x1.epoch) && decide (r.head.root=x1.root) && decide (r.head.prev=x1.prev) && decide (r.head.at_=x1.at_)))) (Bo true) (by rw [h3]) Jn
 refine Jb (JU (Jf [0,0] [(6,I 4),(7,I 0)] (Jl (Jt (Jh (Jm [0,0] [I 4,I 0] (Jw hl1 ?_)))))))
 have hf_:(JY o l r)=(4,0):=by
  exact JhD ‹_› (.inl (.inr ⟨_,hx1,by assumption⟩))
 · (try rw [hf_]);(simp only [Ql];done)
 have h3d:=h3
 try simp only [BB] at h3d
 have e3:IntKind.i64.wrap ((l.length:Int)-1)=((l.length-1:Nat):Int):=(IntWalk.i64_in _ (by (have q_:=(YF ‹_›).1;have q1_:=q_.len1;have q2_:=q_.len;omega))).trans (show (l.length:Int)-1=((l.length-1:Nat):Int) by (have q_:=(YF ‹_›).1;have q1_:=q_.len1;have q2_:=q_.len;omega))
 refine Ko [] (Wm [(0,I ((Jq r).2.2)),(1,Bo false),(2,Bo false),(3,Pt b2 0),(4,.agg #[I r.head.epoch,U r.head.root,U r.head.prev,I r.head.at_]),(5,Sl (At b3 o1) l.length c_l),(6,Sl (At b3 o1) l.length c_l),(7,I (l.length:Int)),(8,I ((l.length-1:Nat):Int)),(9,Pt b3 (o1+(l.length-1)*4)),(10,.agg #[I x1.epoch,U x1.root,U x1.prev,I x1.at_]),(11,Bo (!(decide (r.head.epoch=x1.epoch) && decide (r.head.root=x1.root) && decide (r.head.prev=x1.prev) && decide (r.head.at_=x1.at_)))),(12,Bo false),(13,Bo false),(14,Pt b2 4),(15,Pt b2 4),(16,Sr r.proof.name),(17,Pt b1 0),(18,Sr o.name),(19,Bo (!((B r.proof.name).toList == (B o.name).toList))),(20,Bo (!((B r.proof.name).toList == (B o.name).toList))),(21,Bo (!((B r.proof.name).toList == (B o.name).toList)))] (Km [] [(0,0),(2,0),(3,0),(4,2),(5,0),(6,0),(7,0),(13,0),(14,0),(15,0),(16,2),(17,0),(18,4),(19,0),(20,0),(21,0)] [1,8,9,10,11,12] [(3,Pt b1 0),(9,Sr ((Jq r).1)),(10,Bo ((Jq r).2.1)),(27,Bo (!((B r.proof.name).toList == (B o.name).toList)))] (Ke ?_ (Ke ?_ (Ke ?_ (Ke ?_ (Ke ?_ (Ke ?_ K4)))))) ?_))
 refine Jr 1 29 (Bo false) [(28,I ((Jq r).2.2))] (fun X=>?_)
 exact K5 29 (Bo (!decide ((Jq r).2.2=0))) (Bo false) (by rw [h2]) Jn
 refine Jr 8 36 (I ((l.length-1:Nat):Int)) [(30,Bo false),(35,I (l.length:Int))] (fun X=>?_)
 exact K5 36 (I (IntKind.i64.wrap ((l.length:Int)-1))) (I ((l.length-1:Nat):Int)) (by simp only [e3]) Jn
 refine Jr 9 37 (Pt b3 (o1+(l.length-1)*4)) [(30,Bo false),(33,Sl (At b3 o1) l.length c_l),(36,I ((l.length-1:Nat):Int))] (fun X=>?_)
 exact J3 (b:=b3) (off:=o1) (len:=l.length) (cap:=c_l) (ik:=.i64) 37 43 4 (l.length-1) (by (have q_:=(YF ‹_›).1;have q1_:=q_.len1;have q2_:=q_.len;omega)) Jn
 refine Jr 10 38 (.agg #[I x1.epoch,U x1.root,U x1.prev,I x1.at_]) [(30,Bo false),(37,Pt b3 (o1+(l.length-1)*4))] (fun X=>?_)
 exact JW 38 43 (cs:=[I x1.epoch,U x1.root,U x1.prev,I x1.at_]) 0 (.agg #[I x1.epoch,U x1.root,U x1.prev,I x1.at_]) hc1 Jn
 refine Jr 11 39 (Bo (!(decide (r.head.epoch=x1.epoch) && decide (r.head.root=x1.root) && decide (r.head.prev=x1.prev) && decide (r.head.at_=x1.at_)))) [(30,Bo false),(32,.agg #[I r.head.epoch,U r.head.root,U r.head.prev,I r.head.at_]),(38,.agg #[I x1.epoch,U x1.root,U x1.prev,I x1.at_])] (fun X=>?_)
 exact JaR 39 (Bo (!(decide (r.head.epoch=x1.epoch) && (decide (r.head.root=x1.root) && (decide (r.head.prev=x1.prev) && (decide (r.head.at_=x1.at_) && true)))))) (Bo (!(decide (r.head.epoch=x1.epoch) && decide (r.head.root=x1.root) && decide (r.head.prev=x1.prev) && decide (r.head.at_=x1.at_)))) (by simp [Qj,Bool.and_assoc]) Jn
 refine Jr 12 40 (Bo false) [(30,Bo false),(39,Bo (!(decide (r.head.epoch=x1.epoch) && decide (r.head.root=x1.root) && decide (r.head.prev=x1.prev) && decide (r.head.at_=x1.at_))))] (fun X=>?_)
 exact K5 40 (Bo (!(decide (r.head.epoch=x1.epoch) && decide (r.head.root=x1.root) && decide (r.head.prev=x1.prev) && decide (r.head.at_=x1.at_)))) (Bo false) (by rw [h3]) Jn
 refine Jcx 27 (Bo (!(r.proof.name == o.name))) (show (Bo (!((B r.proof.name).toList == (B o.name).toList)):Value)=Bo (!(r.proof.name == o.name)) by simp only [Qj]) (Jb (Jk (!(r.proof.name == o.name)) (fun h4=>?_) (fun h4=>?_)))
 refine Jf [0,0] [(6,I 4),(7,I 0)] (Jl (Jt (Jh (Jm [0,0] [I 4,I 0] (Jw hl1 ?_)))))
 have hf_:(JY o l r)=(4,0):=by
  exact JhD ‹_› (.inr ‹_›)
 · (try rw [hf_]);(simp only [Ql];done)
 refine Je (Jc (Ja [0,0,0] [(52,Bo (!((Jq r).2.1)))] (Kn (!((Jq r).2.1)) [52] [0,4,0,0] [1,1,1,0] (fun bb=>[(56,Bo (bb && (decide (o.had > 0))))]) (Ja [0] [(49,Bo ((!((Jq r).2.1)) && (decide (o.had > 0))))] (Jd (Jb (Jk ((!((Jq r).2.1)) && (decide (o.had > 0))) (fun h5=>?_) (fun h5=>?_))))))))
 refine Jf [0,0] [(6,I 5),(7,I 0)] (Jl (Jt (Jh (Jm [0,0] [I 5,I 0] (Jw hl1 ?_)))))
 have hf_:(JY o l r)=(5,0):=by
  (rw [JeV ‹_› ‹_› hx1 ‹_› ‹_›];(rw [if_pos ‹_›];done))
 · (try rw [hf_]);(simp only [Ql];done)
 refine Jf [0,0,0] [(57,Bo (!((Jq r).2.1)))] (Jk (!((Jq r).2.1)) (fun h6=>?_) (fun h6=>?_))
 refine Jf [0,0] [(6,I 0),(7,I 0)] (Jl (Jt (Jh (Jm [0,0] [I 0,I 0] (Jw hl1 ?_)))))
 have hf_:(JY o l r)=(0,0):=by
  (rw [JeV ‹_› ‹_› hx1 ‹_› ‹_›];(rw [if_neg (by simp_all)];(rw [if_pos ‹_›];done)))
 · (try rw [hf_]);(simp only [Ql];done)
 refine Jo (JM (Jb (Jf [0,4,0,0,0] [(12,I (if 0 > (IntKind.i64.wrap (o.had-1)) then 0 else (IntKind.i64.wrap (o.had-1))))] ?_)))
 have e4:IntKind.i64.wrap (o.had-1)=o.had-1:=IntWalk.i64_in _ (by (have q_:=K8.1 ho;omega))
 refine QX 12 (I (if 0 > (o.had-1) then 0 else (o.had-1))) (show (I (if 0 > (IntKind.i64.wrap (o.had-1)) then 0 else (IntKind.i64.wrap (o.had-1))):Value)=I (if 0 > (o.had-1) then 0 else (o.had-1)) by simp only [e4]) ?_
 clear e4
 refine Je (Jc (Ja [0,4,0] [(65,Sl a1 o.wanted.length c1),(66,I (if 0 > (o.had-1) then 0 else (o.had-1)))] ?_))
 obtain ⟨kn1,hkn1⟩:∃ k_:Nat,(if 0 > (o.had-1) then 0 else (o.had-1))=(k_:Int):=⟨(if 0 > (o.had-1) then 0 else (o.had-1)).toNat,by omega⟩
 have e5:(if 0 > (o.had-1) then 0 else (o.had-1))=(kn1:Int):=hkn1
 refine KI 12 (I (kn1:Int)) (congrArg I e5) (KI 66 (I (kn1:Int)) (congrArg I e5) ?_)
 obtain ⟨a4,c4,ea1,ec1,en1,eh1,hs4⟩:=RS.reslXD (hs1.mono hl1) kn1 (by (have q_:=K8.1 ho;omega))
 refine WD (a:=a1) (len:=o.wanted.length) (cap:=c1) 67 1 (some (I (kn1:Int))) none kn1 o.wanted.length (.inr ⟨_,rfl⟩) (.inl ⟨rfl,rfl⟩) (by (have q_:=K8.1 ho;omega)) ea1 ec1 en1 eh1 (Ja [0] [(68,Sr ((Jq r).1))] (Jj 69 (I (QR (fun x=>decide ((Jq r).1=x)) (o.wanted.drop kn1))) (Jk6 G1 a4 c4 (o.wanted.drop kn1) hs4 ((Jq r).1)) (Ja [0] [(13,I (QR (fun x=>decide ((Jq r).1=x)) (o.wanted.drop kn1)))] (Jd (Jb (Je (Jf [0,0] [(71,Bo (decide (QR (fun x=>decide ((Jq r).1=x)) (o.wanted.drop kn1)<0)))] (Jk (decide (QR (fun x=>decide ((Jq r).1=x)) (o.wanted.drop kn1)<0)) (fun h7=>?_) (fun h7=>?_)))))))))
 refine Jf [0,0] [(6,I 6),(7,I 0)] (Jl (Jh (Jm [0,0] [I 6,I 0] (Jw hl1 ?_))))
 have hf_:(JY o l r)=(6,0):=by
  (rw [JeV ‹_› ‹_› hx1 ‹_› ‹_›];(rw [if_neg (by simp_all)];(rw [if_neg (by simp_all)];obtain ⟨q1_,q2_⟩:=JiR (Jq r).1 hkn1;rw [q1_,q2_];(rw [if_pos ‹_›];done))))
 · (try rw [hf_]);(simp only [Ql];done)
 refine Jo (Jb (Jf [0,0,0,0,0,0] [(6,I 0),(7,I (IntKind.i64.wrap ((IntKind.i64.wrap ((kn1:Int)+(QR (fun x=>decide ((Jq r).1=x)) (o.wanted.drop kn1))))+1)))] ?_))
 have e6:IntKind.i64.wrap ((kn1:Int)+(QR (fun x=>decide ((Jq r).1=x)) (o.wanted.drop kn1)))=(kn1:Int)+(QR (fun x=>decide ((Jq r).1=x)) (o.wanted.drop kn1)):=IntWalk.i64_in _ (by (have q_:=K8.1 ho;have q1_:=Jlf (fun x=>decide ((Jq r).1=x)) (o.wanted.drop kn1);rw [List.length_drop] at q1_;omega))
 have e7:IntKind.i64.wrap (((kn1:Int)+(QR (fun x=>decide ((Jq r).1=x)) (o.wanted.drop kn1)))+1)=((kn1:Int)+(QR (fun x=>decide ((Jq r).1=x)) (o.wanted.drop kn1)))+1:=IntWalk.i64_in _ (by (have q_:=K8.1 ho;have q1_:=Jlf (fun x=>decide ((Jq r).1=x)) (o.wanted.drop kn1);rw [List.length_drop] at q1_;omega))
 refine QX 7 (I (((kn1:Int)+(QR (fun x=>decide ((Jq r).1=x)) (o.wanted.drop kn1)))+1)) (show (I (IntKind.i64.wrap ((IntKind.i64.wrap ((kn1:Int)+(QR (fun x=>decide ((Jq r).1=x)) (o.wanted.drop kn1))))+1)):Value)=I (((kn1:Int)+(QR (fun x=>decide ((Jq r).1=x)) (o.wanted.drop kn1)))+1) by simp only [e6,e7]) ?_
 clear e7 e6
 refine Jl (Jm [0,0] [I 0,I (((kn1:Int)+(QR (fun x=>decide ((Jq r).1=x)) (o.wanted.drop kn1)))+1)] (Jw hl1 ?_))
 have hf_:(JY o l r)=(0,(((kn1:Int)+(QR (fun x=>decide ((Jq r).1=x)) (o.wanted.drop kn1)))+1)):=by
  (rw [JeV ‹_› ‹_› hx1 ‹_› ‹_›];(rw [if_neg (by simp_all)];(rw [if_neg (by simp_all)];obtain ⟨q1_,q2_⟩:=JiR (Jq r).1 hkn1;rw [q1_,q2_];(rw [if_neg (by omega)];done))))
 · (try rw [hf_]);(simp only [Ql];done)
theorem Jbf (G:Jp) (vs_o:List Value) (o:K2) (h_o:Q1.R G vs_o o) (a_l:Option Addr) (c_l:Nat) (l:List JQ) (h_l:RS KA G a_l c_l l) (vs_r:List Value) (r:QB) (h_r:Jbz.R G vs_r r) :Yi 23 #[.agg vs_o.toArray,Sl a_l l.length c_l,.agg vs_r.toArray] G [] (fun u G' L'=>∃ (a1:Option Addr) (c2:Nat),u=.tuple #[.agg #[Sr (((Ju o l r).1).name),U (((Ju o l r).1).key),I (((Ju o l r).1).head.epoch),U (((Ju o l r).1).head.root),U (((Ju o l r).1).head.prev),I (((Ju o l r).1).head.at_),Sl a1 ((((Ju o l r).1).wanted).length) c2,I (((Ju o l r).1).had)],I ((Ju o l r).2.1),I ((Ju o l r).2.2)]∧((((Ju o l r).1).name).length≤140737488351232)∧(rU (((Ju o l r).1).key))∧(rI (((Ju o l r).1).head.epoch))∧(rU (((Ju o l r).1).head.root))∧(rU (((Ju o l r).1).head.prev))∧(rI (((Ju o l r).1).head.at_))∧(RS ES G' a1 c2 (((Ju o l r).1).wanted))∧(rI (((Ju o l r).1).had))∧L'=[]):=by
 obtain ⟨a1,c1,rfl,w1,w2,w3,w4,w5,w6,hs1,w7⟩:=h_o
 obtain ⟨a2,c2,a3,c3,rfl,w8,w9,w10,w11,w12,hs2,hs3⟩:=h_r
 refine JN Tryz.func23 36 [(0,(Ku o a1 c1)),(1,Sl a_l l.length c_l),(2,(Q9 r a2 c2 a3 c3))] rfl (fun w0 G0=>?_)
 refine Je (Jc (Jv 3 #[Sr o.name,U o.key,I o.head.epoch,U o.head.root,U o.head.prev,I o.head.at_,Sl a1 o.wanted.length c1,I o.had] 76 (fun b1=>Jv 5 #[I r.head.epoch,U r.head.root,U r.head.prev,I r.head.at_,Sr r.proof.name,Sl a2 r.proof.entries.length c2,Sl a3 r.proof.sides.length c3] 49 (fun b2=>Jv 6 #[Sr ([]),U 0,I 0,U 0,U 0,I 0,Sl none 0 0,I 0] 76 (fun b3=>Ja [0,0] [] (Jd (Jb (Je (Je (Jc (Ja [6] [(12,(Ku o a1 c1))] (Jj 13 (I (Ka o)) (Jao G (KE o a1 c1) o (⟨a1,c1,rfl,w1,w2,w3,w4,w5,w6,hs1,w7⟩)) (Ja [0] [(9,I (Ka o))] (Jd (Jb (Jf [0,0] [(15,Bo (!decide (Ka o=0)))] (Jk (!decide (Ka o=0)) (fun h1=>?_) (fun h1=>?_))))))))))))))))))
 refine Jf [0,0,3,0,0] [(7,I 0),(8,I (Ka o))] (Jl (Jh ?_))
 have hf1:Ju o l r=((⟨[],0,(⟨0,0,0,0⟩:JQ),[],0⟩:K2),0,Ka o):=by
  unfold Ju Vy Zq;simp_all
 refine Jm [0,0,0] [.agg #[Sr ([]),U 0,I 0,U 0,U 0,I 0,Sl none 0 0,I 0],I 0,I (Ka o)] (Jy [] (Jp.le_refl _) ?_)
 rw [hf1]
 try dsimp only
 exact ⟨none,0,rfl,(Nat.le_of_ble_eq_true rfl),J7,J7,J7,J7,J7,(RS.nil' ES G),J7,rfl⟩
 refine Jo (Jb (Je (Jc (Ja [6] [(18,(Ku o a1 c1))] (JF 19 (JiU G (KE o a1 c1) o (⟨a1,c1,rfl,w1,w2,w3,w4,w5,w6,hs1,w7⟩)) (fun v G1 L1 hl1 hp=>?_))))))
 obtain ⟨a4,c4,rfl,w13,w14,w15,w16,w17,w18,hs4,w19,rfl⟩:=hp
 refine JV [7] [] [[Sg b3 0 [Sr ([]),U 0,I 0,U 0,U 0,I 0,Sl none 0 0,I 0]],[Sg b2 0 (Wp r a2 c2 a3 c3)],[Sg b1 0 (KE o a4 c4)]] (Jd (Jb (Je (Jc (Ja [6,0,4] [(21,(Ku o a4 c4)),(22,Sl a_l l.length c_l),(23,(Q9 r a2 c2 a3 c3))] (Jj 24 (.tuple #[I ((JY o l r).1),I ((JY o l r).2)]) (JdY G1 (KE o a4 c4) o (⟨a4,c4,rfl,w13,w14,w15,w16,w17,w18,hs4,w19⟩) a_l c_l l (h_l.mono hl1) (Wp r a2 c2 a3 c3) r (⟨a2,c2,a3,c3,rfl,w8,w9,w10,w11,w12,(hs2.mono hl1),(hs3.mono hl1)⟩) ‹_›) (Ja [0,0,0,0,0] [(10,I ((JY o l r).1)),(11,I ((JY o l r).2))] (Jd (Jb (Je (Jf [0,0] [(28,Bo (decide ((JY o l r).1=0)))] (Jk (decide ((JY o l r).1=0)) (fun h2=>?_) (fun h2=>?_)))))))))))))
 refine Jc (JV [0,4,0,0,7,0,7] [] [[Sg b3 0 [Sr ([]),U 0,I 0,U 0,U 0,I 0,Sl none 0 0,I 0]],[Sg b2 0 (Wp r a2 c2 a3 c3)],[Sg b1 0 [Sr o.name,U o.key,I r.head.epoch,U r.head.root,U r.head.prev,I r.head.at_,Sl a4 o.wanted.length c4,I ((JY o l r).2)]]] (Jd (Jb (Qx [6,0,3,0,0] [(7,I ((JY o l r).1)),(8,I 0)] [[Sg b3 0 [Sr o.name,U o.key,I r.head.epoch,U r.head.root,U r.head.prev,I r.head.at_,Sl a4 o.wanted.length c4,I ((JY o l r).2)]],[Sg b2 0 (Wp r a2 c2 a3 c3)],[Sg b1 0 [Sr o.name,U o.key,I r.head.epoch,U r.head.root,U r.head.prev,I r.head.at_,Sl a4 o.wanted.length c4,I ((JY o l r).2)]]] (Jl ?_)))))
 have hf2:Ju o l r=((⟨o.name,o.key,r.head,o.wanted,(JY o l r).2⟩:K2),(JY o l r).1,0):=by
  unfold Ju Vy Zq;simp_all
 refine Jm [0,0,0] [.agg #[Sr o.name,U o.key,I r.head.epoch,U r.head.root,U r.head.prev,I r.head.at_,Sl a4 o.wanted.length c4,I ((JY o l r).2)],I ((JY o l r).1),I 0] (Jy [] hl1 ?_)
 rw [hf2]
 try dsimp only
 exact ⟨a4,c4,rfl,w13,w14,w8,w9,w10,w11,hs4,(by (have q_:=Jdi ‹_› ‹_›;have q1_:=K8.1 ‹_›;omega)),rfl⟩
 refine Jo (Jb (Qx [6,0,3,0,0] [(7,I ((JY o l r).1)),(8,I 0)] [[Sg b3 0 (KE o a4 c4)],[Sg b2 0 (Wp r a2 c2 a3 c3)],[Sg b1 0 (KE o a4 c4)]] (Jl ?_)))
 have hf3:Ju o l r=(o,(JY o l r).1,0):=by
  unfold Ju Vy Zq;simp_all
 refine Jm [0,0,0] [(Ku o a4 c4),I ((JY o l r).1),I 0] (Jy [] hl1 ?_)
 rw [hf3]
 try dsimp only
 exact ⟨a4,c4,rfl,w13,w14,w15,w16,w17,w18,hs4,w19,rfl⟩
theorem JfC (p r:List UInt8) (h:p.length≤600):Jhm (Jc5 p++r)=(p,r,true):=by
 have e1:(Yj (IntKind.u8.wrap ((p.length:Int).fdiv (2 ^ 8)))).toNat*256+(Yj (IntKind.u8.wrap (p.length:Int))).toNat=p.length:=by
  have a:=Jfj (u8w ((p.length:Int).fdiv (2 ^ 8)))
  have b:=Jfj (u8w (p.length:Int))
  rw [Ja5] at a b
  rw [Int.fdiv_eq_ediv_of_nonneg _ (by decide)] at a
  rw [Int.fdiv_eq_ediv_of_nonneg _ (by decide),Ja5,Ja5]
  omega
 show Jhm (Yj _::Yj _::(p++r))=_
 unfold Jhm
 simp only
 rw [e1,if_pos (by simp)]
 simp
theorem JgR:∀ (l:List (List UInt8)) (n:Nat),n≤600→n+(Jbt l).length≤600→JbB n l=true
 | [],_,_,_=>rfl
 | p::l,n,_,h=>by
  have e:(Jbt (p::l)).length=2+p.length+(Jbt l).length:=by simp [Jbt,Jc5];omega
  unfold JbB
  simp only [Bool.and_eq_true,decide_eq_true_eq]
  exact ⟨by omega,JgR l _ (by omega) (by omega)⟩
theorem Jpp {l:List (List UInt8)} (h:l.length≤60) (h2:(Jbt l).length≤600):Vf l=(Jbt l,0):=by
 unfold Vf
 rw [if_neg (by omega),if_pos (JgR l 0 (by omega) (by omega))]
end Go.Proofs.YteaampgpgokjmaaGreatDoor
