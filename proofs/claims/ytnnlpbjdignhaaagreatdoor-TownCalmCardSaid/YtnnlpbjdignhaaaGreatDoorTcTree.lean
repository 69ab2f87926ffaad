import Derived.Test.YtnnlpbjdignhaaaGreatDoorTcPath
namespace Go.Proofs.YtnnlpbjdignhaaaGreatDoor
open Go.Tx
set_option linter.unusedVariables false
set_option linter.unusedSimpArgs false
def KC (name value:List UInt8):Int:=if Kt name=false then 3 else if 20<value.length then 2 else 0
def Jau (l:List JV):Nat→List JV→Int
 | _,[]=>0
 | i,x::r=>if KC x.name x.value ≠ 0 then KC x.name x.value else if 0<i∧0≤ZK ((l[i-1]?.getD x).name) x.name then 3 else Jau l (i+1) r
def Kg (l:List JV):Int:=if 24<l.length then 2 else Jau l 0 l
theorem JaW {l:List JV} {i:Nat} {x:JV} (hx:l[i]? = some x) (h:KC x.name x.value=0) (h2:¬ (0<i∧0≤ZK ((l[i-1]?.getD x).name) x.name)):Jau l i (l.drop i)=Jau l (i+1) (l.drop (i+1)):=by
 obtain ⟨h1,rfl⟩:=List.getElem?_eq_some_iff.1 hx
 rw [List.drop_eq_getElem_cons h1]
 show (if _ then _ else if _ then _ else _)=_
 rw [if_neg (by omega),if_neg h2]
theorem JgW {l:List JV} {i:Nat} {x:JV} (hx:l[i]? = some x) (h:¬ KC x.name x.value=0):Jau l i (l.drop i)=KC x.name x.value:=by
 obtain ⟨h1,rfl⟩:=List.getElem?_eq_some_iff.1 hx
 rw [List.drop_eq_getElem_cons h1]
 show (if _ then _ else if _ then _ else _)=_
 rw [if_pos h]
theorem JgX {l:List JV} {i:Nat} {x y:JV} (hx:l[i]? = some x) (h:KC x.name x.value=0) (hi:0<i) (hy:l[i-1]? = some y) (h2:0≤ZK y.name x.name):Jau l i (l.drop i)=3:=by
 obtain ⟨h1,rfl⟩:=List.getElem?_eq_some_iff.1 hx
 rw [List.drop_eq_getElem_cons h1]
 show (if _ then _ else if _ then _ else _)=_
 rw [if_neg (by omega),if_pos ⟨hi,by rw [hy];exact h2⟩]
structure QP (l:List JV):Prop where
 len:l.length≤24
 ok:∀ x∈l,KC x.name x.value=0
 ord:∀ (i j:Nat) x y,i<j→l[i]? = some x→l[j]? = some y→ZK x.name y.name<0
theorem JdX {l:List JV}:∀ (n i:Nat),l.length≤i+n→(Jau l i (l.drop i)=0 ↔ (∀ j x,i≤j→l[j]? = some x→KC x.name x.value=0)∧∀ j x y,i≤j+1→l[j]? = some x→l[j+1]? = some y→ZK x.name y.name<0)
 | 0,i,h=>by
  rw [List.drop_eq_nil_of_le (by omega)]
  refine ⟨fun _=>⟨fun j x hj hx=>?_,fun j x y hj hx hy=>?_⟩,fun _=>rfl⟩
  ·
   have:=(List.getElem?_eq_some_iff.1 hx).1;omega
  ·
   have:=(List.getElem?_eq_some_iff.1 hy).1;omega
 | n+1,i,h=>by
  by_cases hi:i<l.length
  ·
   have hx:l[i]? = some l[i]:=List.getElem?_eq_getElem hi
   by_cases h1:KC l[i].name l[i].value=0
   ·
    by_cases h2:0<i∧0≤ZK ((l[i-1]?.getD l[i]).name) l[i].name
    ·
     have hy:l[i-1]? = some (l[i-1]'(by omega)):=List.getElem?_eq_getElem (by omega)
     have h3:=h2.2
     rw [hy] at h3
     rw [JgX hx h1 h2.1 hy h3]
     constructor
     ·
      intro hc;cases hc
     ·
      rintro ⟨_,h4⟩
      have:=h4 (i-1) _ _ (by omega) hy (by rw [show i-1+1=i by omega];exact hx)
      simp at h3;omega
    ·
     rw [JaW hx h1 h2,JdX n (i+1) (by omega)]
     constructor
     ·
      rintro ⟨a,b⟩
      refine ⟨fun j x hj hjx=>?_,fun j x y hj hjx hjy=>?_⟩
      ·
       by_cases e:j=i
       ·
        subst e;rw [hx] at hjx;rw [← Option.some.inj hjx];exact h1
       ·
        exact a j x (by omega) hjx
      ·
       by_cases e:j+1=i
       ·
        have:0<i:=by omega
        have hy:l[i-1]? = some x:=by rw [← e];exact hjx
        rw [hy] at h2
        rw [e,hx] at hjy
        rw [← Option.some.inj hjy]
        have:=fun hc=>h2 ⟨by omega,hc⟩
        simp at this;omega
       ·
        exact b j x y (by omega) hjx hjy
     ·
      rintro ⟨a,b⟩
      exact ⟨fun j x hj=>a j x (by omega),fun j x y hj=>b j x y (by omega)⟩
   ·
    rw [JgW hx h1]
    exact ⟨fun hc=>absurd hc h1,fun hc=>absurd (hc.1 i _ (Nat.le_refl _) hx) h1⟩
  ·
   rw [List.drop_eq_nil_of_le (by omega)]
   refine ⟨fun _=>⟨fun j x hj hx=>?_,fun j x y hj hx hy=>?_⟩,fun _=>rfl⟩
   ·
    have:=(List.getElem?_eq_some_iff.1 hx).1;omega
   ·
    have:=(List.getElem?_eq_some_iff.1 hy).1;omega
theorem JiX {l:List JV} (h:∀ j x y,l[j]? = some x→l[j+1]? = some y→ZK x.name y.name<0):∀ (d i:Nat) x y,l[i]? = some x→l[i+d+1]? = some y→ZK x.name y.name<0
 | 0,i,x,y,hx,hy=>h i x y hx hy
 | d+1,i,x,y,hx,hy=>by
  have hj:=(List.getElem?_eq_some_iff.1 hy).1
  have hz:l[i+d+1]? = some (l[i+d+1]'(by omega)):=List.getElem?_eq_getElem (by omega)
  exact JbH (JiX h d i x _ hx hz) (h _ _ _ hz hy)
theorem KJ {l:List JV}:Kg l=0 ↔ QP l:=by
 unfold Kg
 have e:=JdX (l:=l) l.length 0 (by omega)
 rw [List.drop_zero] at e
 constructor
 ·
  intro h
  split at h
  ·
   cases h
  ·
   have h2:=e.1 h
   refine ⟨by omega,fun x hx=>?_,fun i j x y hij hx hy=>?_⟩
   ·
    obtain ⟨k,hk⟩:=List.getElem?_of_mem hx
    exact h2.1 k x (Nat.zero_le _) hk
   ·
    obtain ⟨d,rfl⟩:∃ d,j=i+d+1:=⟨j-i-1,by omega⟩
    exact JiX (fun j x y hx hy=>h2.2 j x y (by omega) hx hy) d i x y hx hy
 ·
  rintro ⟨h1,h2,h3⟩
  rw [if_neg (by omega)]
  exact e.2 ⟨fun j x _ hx=>h2 x (List.mem_of_getElem? hx),fun j x y _ hx hy=>h3 j (j+1) x y (by omega) hx hy⟩
def Vl (c:JV→Int) (l:List JV):Nat→Nat→Nat→Nat
 | 0,i,_=>i
 | f+1,i,j=>if i<j then match l[(i+j) / 2]? with
   | some x=>if c x<0 then Vl c l f ((i+j) / 2+1) j else Vl c l f i ((i+j) / 2)
   | none=>i
  else i
theorem Jbh (c:JV→Int) (l:List JV):∀ (f g i j:Nat),j≤i+f→j≤i+g→Vl c l f i j=Vl c l g i j
 | 0,0,_,_,_,_=>rfl
 | 0,g+1,i,j,h,_=>by unfold Vl;rw [if_neg (by omega)]
 | f+1,0,i,j,_,h=>by unfold Vl;rw [if_neg (by omega)]
 | f+1,g+1,i,j,h1,h2=>by
  unfold Vl
  split
  ·
   split
   ·
    split
    ·
     exact Jbh c l f g _ _ (by omega) (by omega)
    ·
     exact Jbh c l f g _ _ (by omega) (by omega)
   ·
    rfl
  ·
   rfl
def bsI (c:JV→Int) (l:List JV):Nat:=Vl c l l.length 0 l.length
theorem bs_lt {c:JV→Int} {l:List JV} {i j:Nat} {x:JV} (h:i<j) (hj:j≤l.length) (hx:l[(i+j) / 2]? = some x) (hc:c x<0):Vl c l l.length i j=Vl c l l.length ((i+j) / 2+1) j:=by
 rw [Jbh c l l.length (l.length+1) i j (by omega) (by omega)]
 conv=>lhs;unfold Vl
 rw [if_pos h,hx]
 simp only
 rw [if_pos hc]
theorem bs_ge {c:JV→Int} {l:List JV} {i j:Nat} {x:JV} (h:i<j) (hj:j≤l.length) (hx:l[(i+j) / 2]? = some x) (hc:¬ c x<0):Vl c l l.length i j=Vl c l l.length i ((i+j) / 2):=by
 rw [Jbh c l l.length (l.length+1) i j (by omega) (by omega)]
 conv=>lhs;unfold Vl
 rw [if_pos h,hx]
 simp only
 rw [if_neg hc]
theorem Jk7 {c:JV→Int} {l:List JV} {i j n:Nat} (h:¬ i<j):Vl c l n i j=i:=by
 cases n with
 | zero=>rfl
 | succ n=>unfold Vl;rw [if_neg h]
theorem Jcv (c:JV→Int) (l:List JV) (hm:∀ (p q:Nat) x y,p<q→l[p]? = some x→l[q]? = some y→c y<0→c x<0):∀ (f i j:Nat),j≤i+f→i≤j→j≤l.length→(∀ p x,p<i→l[p]? = some x→c x<0)→(∀ p x,j≤p→l[p]? = some x→¬ c x<0) →
  i≤Vl c l f i j∧Vl c l f i j≤j∧(∀ p x,p<Vl c l f i j→l[p]? = some x→c x<0)∧(∀ p x,Vl c l f i j≤p→l[p]? = some x→¬ c x<0)
 | 0,i,j,h1,h2,h3,h4,h5=>by
  have:i=j:=by omega
  subst this
  exact ⟨Nat.le_refl _,Nat.le_refl _,h4,h5⟩
 | f+1,i,j,h1,h2,h3,h4,h5=>by
  unfold Vl
  by_cases h:i<j
  ·
   rw [if_pos h]
   have hx:l[(i+j) / 2]? = some (l[(i+j) / 2]'(by omega)):=List.getElem?_eq_getElem (by omega)
   rw [hx]
   simp only
   split
   ·
    rename_i hc
    have:=Jcv c l hm f ((i+j) / 2+1) j (by omega) (by omega) h3 (fun p x hp hpx=>by
     by_cases e:p=(i+j) / 2
     ·
      subst e;rw [hx] at hpx;rw [← Option.some.inj hpx];exact hc
     ·
      exact hm p ((i+j) / 2) x _ (by omega) hpx hx hc) h5
    exact ⟨by omega,this.2.1,this.2.2⟩
   ·
    rename_i hc
    have:=Jcv c l hm f i ((i+j) / 2) (by omega) (by omega) (by omega) h4 (fun p x hp hpx hcx=>by
     by_cases e:p=(i+j) / 2
     ·
      subst e;rw [hx] at hpx;rw [← Option.some.inj hpx] at hcx;exact hc hcx
     ·
      exact hc (hm ((i+j) / 2) p _ x (by omega) hx hpx hcx))
    exact ⟨this.1,by omega,this.2.2⟩
  ·
   rw [if_neg h]
   have:i=j:=by omega
   subst this
   exact ⟨Nat.le_refl _,Nat.le_refl _,h4,h5⟩
def bsF (l:List JV) (t:List UInt8) (c:JV→List UInt8→Int):Int×Bool:=(((bsI (fun x=>c x t) l:Nat):Int),match l[bsI (fun x=>c x t) l]? with
 | some x=>decide (c x t=0)
 | none=>false)
def QE (x:JV) (name:List UInt8):Int:=ZK x.name name
def Jq (l:List JV) (name:List UInt8):Int×Bool×Int:=if Kg l ≠ 0 then (0,false,Kg l) else if Kt name=false then (0,false,3) else ((bsF l name QE).1,(bsF l name QE).2,0)
theorem Jk8 (c:JV→Int) (l:List JV):bsI c l≤l.length:=by
 have:∀ (f i j:Nat),i≤j→Vl c l f i j≤j:=by
  intro f
  induction f with
  | zero=>intro i j h;exact h
  | succ f ih =>
   intro i j h
   unfold Vl
   split
   ·
    split
    ·
     split
     ·
      exact ih _ _ (by omega)
     ·
      exact Nat.le_trans (ih _ _ (by omega)) (by omega)
    ·
     exact h
   ·
    exact h
 exact this _ _ _ (Nat.zero_le _)
theorem JdY {l:List JV} (h:QP l) (name:List UInt8):(∀ p x,p<bsI (fun x=>QE x name) l→l[p]? = some x→ZK x.name name<0)∧(∀ p x,bsI (fun x=>QE x name) l≤p→l[p]? = some x→¬ ZK x.name name<0):=by
 have:=Jcv (fun x=>QE x name) l (fun p q x y hpq hx hy hc=>JbH (h.ord p q x y hpq hx hy) hc) l.length 0 l.length (by omega) (Nat.zero_le _) (Nat.le_refl _) (fun p x hp=>absurd hp (Nat.not_lt_zero _)) (fun p x hp hx=>by have:=(List.getElem?_eq_some_iff.1 hx).1;omega)
 exact this.2.2
theorem Jf0 {l:List JV} (h:QP l) (name:List UInt8):(bsF l name QE).2=true ↔ ∃ x∈l,x.name=name:=by
 have hs:=JdY h name
 unfold bsF
 simp only
 constructor
 ·
  intro e
  cases hx:l[bsI (fun x=>QE x name) l]? with
  | none=>rw [hx] at e;cases e
  | some x =>
   rw [hx] at e
   exact ⟨x,List.mem_of_getElem? hx,Zi.1 (of_decide_eq_true e)⟩
 ·
  rintro ⟨x,hx,rfl⟩
  obtain ⟨k,hk⟩:=List.getElem?_of_mem hx
  have h1:¬ ZK x.name x.name<0:=by have:ZK x.name x.name=0:=Zi.2 rfl;omega
  have h2:bsI (fun y=>QE y x.name) l≤k:=by
   apply Nat.le_of_not_lt;intro hc;exact h1 (hs.1 k x hc hk)
  have h3:bsI (fun y=>QE y x.name) l=k:=by
   apply Classical.byContradiction;intro hne
   have hl:=(List.getElem?_eq_some_iff.1 hk).1
   have hy:l[bsI (fun y=>QE y x.name) l]? = some (l[bsI (fun y=>QE y x.name) l]'(by omega)):=List.getElem?_eq_getElem (by omega)
   exact hs.2 _ _ (Nat.le_refl _) hy (h.ord _ k _ x (by omega) hy hk)
  rw [h3,hk]
  simp only [decide_eq_true_eq]
  exact Zi.2 rfl
theorem JhU {l:List JV} {name:List UInt8} (e:(bsF l name QE).2=true):∃ x,l[bsI (fun x=>QE x name) l]? = some x∧x.name=name:=by
 unfold bsF at e
 simp only at e
 cases hx:l[bsI (fun x=>QE x name) l]? with
 | none=>rw [hx] at e;cases e
 | some x=>rw [hx] at e;exact ⟨x,rfl,Zi.1 (of_decide_eq_true e)⟩
def K7 (l:List JV) (name:List UInt8):List UInt8×Bool×Int:=if (Jq l name).2.1=false then ([],false,(Jq l name).2.2) else ((l[(Jq l name).1.toNat]?.map (·.value)).getD [],true,(Jq l name).2.2)
theorem JgY {l:List JV} {name:List UInt8} (h:(Jq l name).2.1=true):QP l∧Kt name=true∧Jq l name=((bsF l name QE).1,true,0)∧(bsF l name QE).2=true:=by
 unfold Jq at h ⊢
 split at h
 ·
  cases h
 split at h
 ·
  cases h
 ·
  rename_i h1 h2
  rw [if_neg h1,if_neg h2]
  have h3:(bsF l name QE).2=true:=h
  exact ⟨KJ.1 (Decidable.not_not.1 h1),by simpa using h2,by rw [h3],h3⟩
theorem Z6 {l:List JV} {name:List UInt8} (h:(Jq l name).2.1=true):0≤(Jq l name).1∧(Jq l name).1<l.length:=by
 obtain ⟨h1,h2,h3,h4⟩:=JgY h
 obtain ⟨x,hx,_⟩:=JhU h4
 have:=(List.getElem?_eq_some_iff.1 hx).1
 rw [h3];unfold bsF;simp only;omega
theorem Jbr (G:Jt) (name:List UInt8) (value:List UInt8) :QF Tryz.prog 99 #[Sr name,Sr value] G [] (fun u G' L'=>u=I (KC name value)):=by
 refine JJ Tryz.func99 13 [(0,Sr name),(1,Sr value)] rfl (fun w0 G0=>?_)
 refine Jg [0] [(0,Sr name),(1,Sr value)] (Je (Jz (Je (Jb (Jd [0] [(1,Sr value),(6,Sr name)] (Ji 7 (Bo (Kt name)) (Zk G name) (Jd [0,0] [(1,Sr value),(5,Bo (!(Kt name)))] (Jc (Ja (Jo (!(Kt name)) (fun h1=>?_) (fun h1=>?_)))))))))))
 try simp only [BB] at h1
 refine Jg [0] [(4,I 3)] (Jk (Js (Jh (Jl [0] [I 3] (Jv (Jt.le_refl _) ?_)))))
 have hf_:(KC name value)=3:=by
  unfold KC;simp_all;try omega
 · (try rw [hf_]);(simp only [JL];done)
 try simp only [BB] at h1
 refine Jg [0,0,0,0] [(9,Bo (decide (((value).length:Int) > 20)))] (Jo (decide (((value).length:Int) > 20)) (fun h2=>?_) (fun h2=>?_))
 try simp only [BB] at h2
 refine Jg [0] [(4,I 2)] (Jk (Js (Jh (Jl [0] [I 2] (Jv (Jt.le_refl _) ?_)))))
 have hf_:(KC name value)=2:=by
  unfold KC;simp_all;try omega
 · (try rw [hf_]);(simp only [JL];done)
 try simp only [BB] at h2
 refine Jm (JM (Ja (Jg [0] [(4,I 0)] (Jk (Jl [0] [I 0] (Jv (Jt.le_refl _) ?_))))))
 have hf_:(KC name value)=0:=by
  unfold KC;simp_all;try omega
 · (try rw [hf_]);(simp only [JL];done)
theorem Yr (G:Jt) (a_l:Option Addr) (c_l:Nat) (l:List JV) (h_l:RS Qo G a_l c_l l) :QF Tryz.prog 121 #[Sl a_l l.length c_l] G [] (fun u G' L'=>u=I (Kg l)):=by
 refine JJ Tryz.func121 39 [(0,Sl a_l l.length c_l)] rfl (fun w0 G0=>?_)
 refine Jg [0] [(0,Sl a_l l.length c_l)] (Je (Jg [0,0,0] [(0,Sl a_l l.length c_l),(8,Bo (decide ((l.length:Int) > 24)))] (Jo (decide ((l.length:Int) > 24)) (fun h1=>?_) (fun h1=>?_))))
 try simp only [BB] at h1
 refine Jg [0] [(2,I 2)] (Jk (Jh (Jl [0] [I 2] (Jv (Jt.le_refl _) ?_))))
 have hf_:(Kg l)=2:=by
  unfold Kg;(rw [if_pos (by omega)];done)
 · (try rw [hf_]);(simp only [JL];done)
 try simp only [BB] at h1
 refine Jm (Ja (Je (Jg [0,0,0] [(0,Sl a_l l.length c_l),(9,Sl a_l l.length c_l),(10,I (l.length:Int)),(11,I 0)] (Jz ?_))))
 have hlm_h_l:l.length≤9223372036854775807:=Nat.le_trans (h_l).le (h_l).max
 refine Qc (σ:=Nat) (fun q_=>(q_≤l.length)∧(Jau l 0 l=Jau l q_ (l.drop q_))) (fun q_=>[(0,Sl a_l l.length c_l),(9,Sl a_l l.length c_l),(10,I (l.length:Int)),(11,I (q_:Int))]) (fun q_=>G) (fun q_=>[]) (fun q_=>l.length-q_) 0 ⟨(by (try dsimp only);exact Nat.zero_le _),rfl⟩ (fun q_ hs=>?_)
 revert hs;revert q_;intro i hs
 obtain ⟨hi,hn⟩:=hs
 refine KQ (fr':=[(0,Sl a_l l.length c_l),(9,Sl a_l l.length c_l),(10,I (l.length:Int)),(11,I (i:Int))]) (L':=[]) rfl rfl (Jg [0] [(0,Sl a_l l.length c_l),(9,Sl a_l l.length c_l),(10,I (l.length:Int)),(11,I (i:Int)),(12,Bo (decide ((i:Int)<(l.length:Int))))] (Je (Jo (decide ((i:Int)<(l.length:Int))) (fun h2=>?_) (fun h2=>?_))))
 try simp only [BB] at h2
 refine Jm (Ja (Je (Jz (Je (Jb (Jd [0] [(0,Sl a_l l.length c_l),(9,Sl a_l l.length c_l),(10,I (l.length:Int)),(11,I (i:Int)),(13,I (i:Int))] ?_))))))
 obtain ⟨b1,o1,rfl⟩:=RS.addr h_l (k:=i) (by omega)
 obtain ⟨x1,hx1⟩:=Wh (l:=l) (k:=i) (by omega)
 obtain ⟨_,⟨rfl,w1,_⟩,hc1⟩:=RS.get h_l hx1
 refine Kh (b:=b1) (off:=o1) (len:=l.length) (cap:=c_l) (ik:=.i64) 14 94 2 i (by omega) (Ka 15 94 (cs:=[Sr x1.name,Sr x1.value]) 0 (.agg #[Sr x1.name,Sr x1.value]) hc1 (Ju 4 #[Sr ([]),Sr ([])] 94 (fun b2=>Kd [0,3] [(0,Sl (At b1 o1) l.length c_l),(3,I (i:Int)),(4,Pt b2 0),(9,Sl (At b1 o1) l.length c_l),(10,I (l.length:Int)),(11,I (i:Int))] [[Sg b2 0 [Sr x1.name,Sr x1.value]]] (Jc (Ja (Je (Je (Jb (Jd [0,2,0,2] [(0,Sl (At b1 o1) l.length c_l),(3,I (i:Int)),(4,Pt b2 0),(9,Sl (At b1 o1) l.length c_l),(10,I (l.length:Int)),(11,I (i:Int)),(17,Sr x1.name),(19,Sr x1.value)] (Ji 20 (I (KC x1.name x1.value)) (Jbr G x1.name x1.value) (Jd [0] [(0,Sl (At b1 o1) l.length c_l),(3,I (i:Int)),(4,Pt b2 0),(5,I (KC x1.name x1.value)),(9,Sl (At b1 o1) l.length c_l),(10,I (l.length:Int)),(11,I (i:Int))] (Jc (Ja (Jg [0,0] [(0,Sl (At b1 o1) l.length c_l),(3,I (i:Int)),(4,Pt b2 0),(5,I (KC x1.name x1.value)),(9,Sl (At b1 o1) l.length c_l),(10,I (l.length:Int)),(11,I (i:Int)),(22,Bo (!decide (KC x1.name x1.value=0)))] (Jo (!decide (KC x1.name x1.value=0)) (fun h3=>?_) (fun h3=>?_))))))))))))))))
 try simp only [BB] at h3
 refine Jg [0,0] [(2,I (KC x1.name x1.value))] (Jk (Jh (Js (Jh (QC (Js (Jh (Jl [0] [I (KC x1.name x1.value)] (Jv (Jt.le_refl _) ?_)))))))))
 have hf_:(Kg l)=(KC x1.name x1.value):=by
  unfold Kg;(rw [if_neg (by omega),hn];exact JgW hx1 ‹_›)
 · (try rw [hf_]);(simp only [JL];done)
 try simp only [BB] at h3
 refine Jm (Ja (Je ?_))
 rcases Bool.eq_false_or_eq_true (decide ((i:Int) > 0)) with h4 | h4
 have h4d:=h4
 try simp only [BB] at h4d
 have e1:IntKind.i64.wrap ((i:Int)-1)=((i-1:Nat):Int):=(IntWalk.i64_in _ (by omega)).trans (show (i:Int)-1=((i-1:Nat):Int) by omega)
 obtain ⟨x2,hx2⟩:=Wh (l:=l) (k:=i-1) (by omega)
 obtain ⟨_,⟨rfl,w3,_⟩,hc2⟩:=RS.get h_l hx2
 refine KB [] (Wr [(0,I (i:Int)),(1,Bo true),(2,Bo true),(3,Sl (At b1 o1) l.length c_l),(4,I (i:Int)),(5,I ((i-1:Nat):Int)),(6,Pt b1 (o1+(i-1)*2)),(7,Pt b1 (o1+(i-1)*2)),(8,Sr x2.name),(9,Pt b2 0),(10,Sr x1.name),(11,I (ZK x2.name x1.name)),(12,Bo (decide (ZK x2.name x1.name ≥ 0))),(13,Bo (decide (ZK x2.name x1.name ≥ 0)))] (KA [] [(0,0),(2,0),(3,0),(4,0),(7,0),(9,0),(10,2),(12,0),(13,0)] [1,5,6,8,11] [(0,Sl (At b1 o1) l.length c_l),(9,Sl (At b1 o1) l.length c_l),(10,I (l.length:Int)),(11,I (i:Int)),(37,Bo (decide (ZK x2.name x1.name ≥ 0)))] (List.forall_mem_cons.2 ⟨?_,(List.forall_mem_cons.2 ⟨?_,(List.forall_mem_cons.2 ⟨?_,(List.forall_mem_cons.2 ⟨?_,(List.forall_mem_cons.2 ⟨?_,List.forall_mem_nil _⟩)⟩)⟩)⟩)⟩) ?_))
 refine Jr 1 25 (Bo true) [(24,I (i:Int))] (fun X=>?_)
 exact K6 25 (Bo (decide ((i:Int) > 0))) (Bo true) (by rw [h4]) Jp
 refine Jr 5 29 (I ((i-1:Nat):Int)) [(26,Bo true),(28,I (i:Int))] (fun X=>?_)
 exact K6 29 (I (IntKind.i64.wrap ((i:Int)-1))) (I ((i-1:Nat):Int)) (by simp only [e1]) Jp
 refine Jr 6 30 (Pt b1 (o1+(i-1)*2)) [(26,Bo true),(27,Sl (At b1 o1) l.length c_l),(29,I ((i-1:Nat):Int))] (fun X=>?_)
 exact Kh (b:=b1) (off:=o1) (len:=l.length) (cap:=c_l) (ik:=.i64) 30 94 2 (i-1) (by omega) Jp
 refine Jr 8 32 (Sr x2.name) [(26,Bo true),(31,Pt b1 (o1+(i-1)*2))] (fun X=>?_)
 exact Ka 32 9 (cs:=[Sr x2.name,Sr x2.value]) 0 (Sr x2.name) hc2 Jp
 refine Jr 11 35 (I (ZK x2.name x1.name)) [(26,Bo true),(32,Sr x2.name),(34,Sr x1.name)] (fun X=>?_)
 exact Ji 35 (I (ZK x2.name x1.name)) (JgV G x2.name w3 x1.name w1) Jp
 refine Ja (Jo (decide (ZK x2.name x1.name ≥ 0)) (fun h5=>?_) (fun h5=>?_))
 try simp only [BB] at h5
 refine Jg [0] [(2,I 3)] (Jk (Js (Jh (QC (Js (Jh (Jl [0] [I 3] (Jv (Jt.le_refl _) ?_))))))))
 have hf_:(Kg l)=3:=by
  unfold Kg;(rw [if_neg (by omega),hn];exact JgX hx1 ‹_› (by omega) ‹_› (by omega))
 · (try rw [hf_]);(simp only [JL];done)
 try simp only [BB] at h5
 refine Jm (JM (Ja (Jb (Jd [0,0] [(0,Sl (At b1 o1) l.length c_l),(9,Sl (At b1 o1) l.length c_l),(10,I (l.length:Int)),(11,I (IntKind.i64.wrap ((i:Int)+1)))] ?_))))
 have e2:IntKind.i64.wrap ((i:Int)+1)=(i:Int)+1:=IntWalk.i64_in _ (by omega)
 refine J3 (fr':=[(0,Sl (At b1 o1) l.length c_l),(9,Sl (At b1 o1) l.length c_l),(10,I (l.length:Int)),(11,I ((i:Int)+1))]) (L':=[[Sg b2 0 [Sr x1.name,Sr x1.value]]]) (by simp only [e2]) (by rfl) ?_
 clear e2
 exact Jc (Q4 [] (.cons _ .slnil) (Qg (i+1) ⟨(by omega),(by rw [hn];exact JaW hx1 ‹_› (by (intro hc_;simp_all;omega)))⟩ (by (try dsimp only);omega)))
 have h4d:=h4
 try simp only [BB] at h4d
 refine KB [] (Wr [(0,I (i:Int)),(1,Bo false),(2,Bo false),(3,undef),(4,undef),(5,undef),(6,undef),(7,undef),(8,undef),(9,undef),(10,undef),(11,undef),(12,undef),(13,Bo false)] (KA [] [(0,0),(2,0),(3,1),(4,1),(5,1),(6,1),(7,1),(8,1),(9,1),(10,1),(11,1),(12,1),(13,0)] [1] [(0,Sl (At b1 o1) l.length c_l),(9,Sl (At b1 o1) l.length c_l),(10,I (l.length:Int)),(11,I (i:Int)),(37,Bo false)] (List.forall_mem_cons.2 ⟨?_,List.forall_mem_nil _⟩) ?_))
 refine Jr 1 25 (Bo false) [(24,I (i:Int))] (fun X=>?_)
 exact K6 25 (Bo (decide ((i:Int) > 0))) (Bo false) (by rw [h4]) Jp
 refine Ja (Qv (Jm (JM (Ja (Jb (Jd [0,0] [(0,Sl (At b1 o1) l.length c_l),(9,Sl (At b1 o1) l.length c_l),(10,I (l.length:Int)),(11,I (IntKind.i64.wrap ((i:Int)+1)))] ?_))))))
 have e3:IntKind.i64.wrap ((i:Int)+1)=(i:Int)+1:=IntWalk.i64_in _ (by omega)
 refine J3 (fr':=[(0,Sl (At b1 o1) l.length c_l),(9,Sl (At b1 o1) l.length c_l),(10,I (l.length:Int)),(11,I ((i:Int)+1))]) (L':=[[Sg b2 0 [Sr x1.name,Sr x1.value]]]) (by simp only [e3]) (by rfl) ?_
 clear e3
 exact Jc (Q4 [] (.cons _ .slnil) (Qg (i+1) ⟨(by omega),(by rw [hn];exact JaW hx1 ‹_› (by (intro hc_;omega)))⟩ (by (try dsimp only);omega)))
 try simp only [BB] at h2
 refine K0 (J2 (Kf (JU (Ja (Jg [0] [(2,I 0)] (Jk (Jl [0] [I 0] (Jv (Jt.le_refl _) ?_))))))))
 have hf_:(Kg l)=0:=by
  unfold Kg;(rw [if_neg (by omega),hn];(rw [List.drop_eq_nil_of_le (by omega)];rfl))
 · (try rw [hf_]);(simp only [JL];done)
theorem JhV (G:Jt) (vs_x:List Value) (x:JV) (h_x:Qo.R G vs_x x) (name:List UInt8) (hw_name:(name).length≤140737488351232) :QF Tryz.prog 133 #[.agg vs_x.toArray,Sr name] G [] (fun u G' L'=>u=I (QE x name)):=by
 obtain ⟨rfl,w1,_⟩:=h_x
 refine JJ Tryz.func133 9 [(0,.agg #[Sr x.name,Sr x.value]),(1,Sr name)] rfl (fun w0 G0=>?_)
 refine Je (Jb (Ju 2 #[Sr x.name,Sr x.value] 94 (fun b1=>Jd [0] [(1,Sr name),(2,Pt b1 0)] (Jc (Ja (Je (Jb (Jd [0,2,0] [(6,Sr x.name),(7,Sr name)] (Ji 8 (I (ZK x.name name)) (JgV G x.name w1 name hw_name) (Jd [0] [(4,I (ZK x.name name))] (Jc (Ja (Jk (Jl [0] [I (ZK x.name name)] (Jv (Jt.le_refl _) ?_)))))))))))))))
 have hf_:(QE x name)=(ZK x.name name):=by
  rfl
 · (try rw [hf_]);(simp only [JL];done)
theorem Jmw (G:Jt) (a_l:Option Addr) (c_l:Nat) (l:List JV) (h_l:RS Qo G a_l c_l l) (target:List UInt8) (hw_target:(target).length≤140737488351232) (k_cmp:FuncId) (caps_cmp:Array Value) (p_cmp:JV→(List UInt8)→Int) (hk_cmp:VR Tryz.prog k_cmp) (h_cmp:∀ (vs0:List Value) (x0:JV) (hx0:Qo.R G vs0 x0) (x1:List UInt8) (hx1:(x1).length≤140737488351232),QF Tryz.prog k_cmp (#[.agg vs0.toArray,Sr x1]++caps_cmp) G [] (fun u _ _=>u=I (p_cmp x0 x1))) :QF Tryz.prog 132 #[Sl a_l l.length c_l,Sr target,.func (.func k_cmp) #[] caps_cmp] G [] (fun u G' L'=>u=.tuple #[I ((bsF l target p_cmp).1),Bo ((bsF l target p_cmp).2)]):=by
 refine JJ Tryz.func132 49 [(0,Sl a_l l.length c_l),(1,Sr target),(2,.func (.func k_cmp) #[] caps_cmp)] rfl (fun w0 G0=>?_)
 refine Jg [0,0] [(0,Sl a_l l.length c_l),(1,Sr target),(2,.func (.func k_cmp) #[] caps_cmp)] (Jg [0,0,0] [(0,Sl a_l l.length c_l),(1,Sr target),(2,.func (.func k_cmp) #[] caps_cmp),(8,I (l.length:Int))] (Jg [0,0,0] [(0,Sl a_l l.length c_l),(1,Sr target),(2,.func (.func k_cmp) #[] caps_cmp),(8,I (l.length:Int)),(9,I 0),(10,I (l.length:Int))] (Je (Jz ?_))))
 have hlm_h_l:l.length≤9223372036854775807:=Nat.le_trans (h_l).le (h_l).max
 refine Qc (σ:=Nat×Nat) (fun q_=>(q_.1≤q_.2∧q_.2≤l.length)∧(bsI (fun x=>p_cmp x target) l=Vl (fun x=>p_cmp x target) l l.length q_.1 q_.2)) (fun q_=>[(0,Sl a_l l.length c_l),(1,Sr target),(2,.func (.func k_cmp) #[] caps_cmp),(8,I (l.length:Int)),(9,I (q_.1:Int)),(10,I (q_.2:Int))]) (fun q_=>G) (fun q_=>[]) (fun q_=>q_.2-q_.1) (0,l.length) ⟨⟨Nat.zero_le _,Nat.le_refl _⟩,rfl⟩ (fun q_ hs=>?_)
 obtain ⟨i,j⟩:=q_
 obtain ⟨hj,hn⟩:=hs
 dsimp only at hj hn
 refine KQ (fr':=[(0,Sl a_l l.length c_l),(1,Sr target),(2,.func (.func k_cmp) #[] caps_cmp),(8,I (l.length:Int)),(9,I (i:Int)),(10,I (j:Int))]) (L':=[]) rfl rfl (Je (Jg [0,0,0] [(0,Sl a_l l.length c_l),(1,Sr target),(2,.func (.func k_cmp) #[] caps_cmp),(8,I (l.length:Int)),(9,I (i:Int)),(10,I (j:Int)),(17,Bo (decide ((i:Int)<(j:Int))))] (Jo (decide ((i:Int)<(j:Int))) (fun h1=>?_) (fun h1=>?_))))
 try simp only [BB] at h1
 refine Jm (Ja (Jz (Jg [0,0,0,0,0,0,0] [(0,Sl a_l l.length c_l),(1,Sr target),(2,.func (.func k_cmp) #[] caps_cmp),(8,I (l.length:Int)),(9,I (i:Int)),(10,I (j:Int)),(11,I (IntKind.i64.wrap ((IntKind.u64.wrap (IntKind.i64.wrap ((i:Int)+(j:Int)))).fdiv (2 ^ 1))))] ?_)))
 have e1:IntKind.i64.wrap ((i:Int)+(j:Int))=(i:Int)+(j:Int):=IntWalk.i64_in _ (by (have hf_:=h_l.fit;simp only [Qo] at hf_;omega))
 have e2:IntKind.u64.wrap ((i:Int)+(j:Int))=(i:Int)+(j:Int):=IntWalk.u64_in _ (by omega)
 have e3:((i:Int)+(j:Int)).fdiv (2 ^ 1)=(((i+j) / 2:Nat):Int):=by rw [Int.fdiv_eq_ediv_of_nonneg _ (by decide)];omega
 have e4:IntKind.i64.wrap (((i+j) / 2:Nat):Int)=(((i+j) / 2:Nat):Int):=IntWalk.i64_in _ (by omega)
 refine KQ (fr':=[(0,Sl a_l l.length c_l),(1,Sr target),(2,.func (.func k_cmp) #[] caps_cmp),(8,I (l.length:Int)),(9,I (i:Int)),(10,I (j:Int)),(11,I (((i+j) / 2:Nat):Int))]) (L':=[]) (by simp only [e1,e2,e3,e4]) (by rfl) ?_
 clear e4 e3 e2 e1
 refine Je (Jb (Jd [0,0,0] [(0,Sl a_l l.length c_l),(1,Sr target),(2,.func (.func k_cmp) #[] caps_cmp),(8,I (l.length:Int)),(9,I (i:Int)),(10,I (j:Int)),(11,I (((i+j) / 2:Nat):Int)),(24,.func (.func k_cmp) #[] caps_cmp),(25,Sl a_l l.length c_l),(26,I (((i+j) / 2:Nat):Int))] ?_))
 obtain ⟨b1,o1,rfl⟩:=RS.addr h_l (k:=(i+j) / 2) (by omega)
 obtain ⟨x1,hx1⟩:=Wh (l:=l) (k:=(i+j) / 2) (by omega)
 obtain ⟨_,⟨rfl,w1,w2⟩,hc1⟩:=RS.get h_l hx1
 refine Kh (b:=b1) (off:=o1) (len:=l.length) (cap:=c_l) (ik:=.i64) 27 94 2 ((i+j) / 2) (by omega) (Ka 28 94 (cs:=[Sr x1.name,Sr x1.value]) 0 (.agg #[Sr x1.name,Sr x1.value]) hc1 (Jd [0] [(0,Sl (At b1 o1) l.length c_l),(1,Sr target),(2,.func (.func k_cmp) #[] caps_cmp),(8,I (l.length:Int)),(9,I (i:Int)),(10,I (j:Int)),(11,I (((i+j) / 2:Nat):Int)),(24,.func (.func k_cmp) #[] caps_cmp),(28,.agg #[Sr x1.name,Sr x1.value]),(29,Sr target)] (W2 (k:=k_cmp) (caps:=caps_cmp) (args:=#[.agg #[Sr x1.name,Sr x1.value],Sr target]) 30 (I (p_cmp x1 target)) hk_cmp (h_cmp [Sr x1.name,Sr x1.value] x1 (⟨rfl,w1,w2⟩) target ‹_›) (Jd [0] [(0,Sl (At b1 o1) l.length c_l),(1,Sr target),(2,.func (.func k_cmp) #[] caps_cmp),(8,I (l.length:Int)),(9,I (i:Int)),(10,I (j:Int)),(11,I (((i+j) / 2:Nat):Int)),(31,Bo (decide (p_cmp x1 target<0)))] (Jc (Ja (Jo (decide (p_cmp x1 target<0)) (fun h2=>?_) (fun h2=>?_))))))))
 try simp only [BB] at h2
 refine Jb (Jd [0,0,0] [(0,Sl (At b1 o1) l.length c_l),(1,Sr target),(2,.func (.func k_cmp) #[] caps_cmp),(8,I (l.length:Int)),(9,I (IntKind.i64.wrap ((((i+j) / 2:Nat):Int)+1))),(10,I (j:Int))] ?_)
 have e5:IntKind.i64.wrap ((((i+j) / 2:Nat):Int)+1)=(((i+j) / 2:Nat):Int)+1:=IntWalk.i64_in _ (by omega)
 refine J3 (fr':=[(0,Sl (At b1 o1) l.length c_l),(1,Sr target),(2,.func (.func k_cmp) #[] caps_cmp),(8,I (l.length:Int)),(9,I ((((i+j) / 2:Nat):Int)+1)),(10,I (j:Int))]) (L':=[]) (by simp only [e5]) (by rfl) ?_
 clear e5
 exact Jc (JM (Qg ((i+j) / 2+1,j) ⟨(by (try dsimp only);omega),(by (try dsimp only);rw [hn];exact bs_lt (by omega) hj.2 hx1 ‹_›)⟩ (by (try dsimp only);omega)))
 try simp only [BB] at h2
 exact Jb (Jd [0,0] [(0,Sl (At b1 o1) l.length c_l),(1,Sr target),(2,.func (.func k_cmp) #[] caps_cmp),(8,I (l.length:Int)),(9,I (i:Int)),(10,I (((i+j) / 2:Nat):Int))] (Jc (JM (Qg (i,(i+j) / 2) ⟨(by (try dsimp only);omega),(by (try dsimp only);rw [hn];exact bs_ge (by omega) hj.2 hx1 (by omega))⟩ (by (try dsimp only);omega)))))
 try simp only [BB] at h1
 refine K0 (J2 (Kf (JU (Ja (Je (Jb (Jd [0,0,0,0,0] [(0,Sl a_l l.length c_l),(1,Sr target),(2,.func (.func k_cmp) #[] caps_cmp),(9,I (i:Int)),(35,I (i:Int)),(39,Bo (decide ((i:Int)<(l.length:Int))))] (Wd (fun bb=>[(0,Sl a_l l.length c_l),(1,Sr target),(2,.func (.func k_cmp) #[] caps_cmp),(9,I (i:Int)),(35,I (i:Int)),(39,Bo bb)]) (decide ((i:Int)<(l.length:Int))) (fun h3=>?_) (fun h3=>?_)))))))))
 try simp only [BB] at h3
 refine Jd [0,0,0] [(1,Sr target),(35,I (i:Int)),(39,Bo true),(40,.func (.func k_cmp) #[] caps_cmp),(41,Sl a_l l.length c_l),(42,I (i:Int))] ?_
 obtain ⟨b2,o2,rfl⟩:=RS.addr h_l (k:=i) (by omega)
 obtain ⟨x2,hx2⟩:=Wh (l:=l) (k:=i) (by omega)
 obtain ⟨_,⟨rfl,w3,w4⟩,hc2⟩:=RS.get h_l hx2
 refine Kh (b:=b2) (off:=o2) (len:=l.length) (cap:=c_l) (ik:=.i64) 43 94 2 i (by omega) (Ka 44 94 (cs:=[Sr x2.name,Sr x2.value]) 0 (.agg #[Sr x2.name,Sr x2.value]) hc2 (Jd [0] [(35,I (i:Int)),(39,Bo true),(40,.func (.func k_cmp) #[] caps_cmp),(44,.agg #[Sr x2.name,Sr x2.value]),(45,Sr target)] (W2 (k:=k_cmp) (caps:=caps_cmp) (args:=#[.agg #[Sr x2.name,Sr x2.value],Sr target]) 46 (I (p_cmp x2 target)) hk_cmp (h_cmp [Sr x2.name,Sr x2.value] x2 (⟨rfl,w3,w4⟩) target hw_target) (Jd [0,0,0,0] [(6,I (i:Int)),(7,Bo (decide (p_cmp x2 target=0)))] (Jc (Ja (Jk (Jl [0,0] [I (i:Int),Bo (decide (p_cmp x2 target=0))] (Jv (Jt.le_refl _) ?_)))))))))
 have hf_:(bsF l target p_cmp)=((i:Int),(decide (p_cmp x2 target=0))):=by
  unfold bsF;rw [hn,Jk7 (by omega)];(simp_all;done)
 · (try rw [hf_]);(simp only [JL];done)
 try simp only [BB] at h3
 refine Jd [1,1,1,1,1,1,1,1,0,0,0] [(6,I (i:Int)),(7,Bo false)] (Jc (Ja (Jk (Jl [0,0] [I (i:Int),Bo false] (Jv (Jt.le_refl _) ?_)))))
 have hf_:(bsF l target p_cmp)=((i:Int),false):=by
  unfold bsF;rw [hn,Jk7 (by omega)];(simp_all;done)
 · (try rw [hf_]);(simp only [JL];done)
theorem JbY (G:Jt) (a_l:Option Addr) (c_l:Nat) (l:List JV) (h_l:RS Qo G a_l c_l l) (name:List UInt8) (hw_name:(name).length≤140737488351232) :QF Tryz.prog 98 #[Sl a_l l.length c_l,Sr name] G [] (fun u G' L'=>u=.tuple #[I ((Jq l name).1),Bo ((Jq l name).2.1),I ((Jq l name).2.2)]):=by
 refine JJ Tryz.func98 26 [(0,Sl a_l l.length c_l),(1,Sr name)] rfl (fun w0 G0=>?_)
 refine Jg [0,0,0] [(0,Sl a_l l.length c_l),(1,Sr name)] (Je (Je (Jb (Jd [0] [(0,Sl a_l l.length c_l),(1,Sr name),(10,Sl a_l l.length c_l)] (Ji 11 (I (Kg l)) (Yr G a_l c_l l h_l) (Jd [0] [(0,Sl a_l l.length c_l),(1,Sr name),(7,I (Kg l))] (Jc (Ja (Jg [0,0] [(0,Sl a_l l.length c_l),(1,Sr name),(7,I (Kg l)),(13,Bo (!decide (Kg l=0)))] (Jo (!decide (Kg l=0)) (fun h1=>?_) (fun h1=>?_)))))))))))
 try simp only [BB] at h1
 refine Jg [0,0,0,0] [(4,I 0),(5,Bo false),(6,I (Kg l))] (Jk (Jh (Jl [0,0,0] [I 0,Bo false,I (Kg l)] (Jv (Jt.le_refl _) ?_))))
 have hf_:(Jq l name)=(0,false,(Kg l)):=by
  unfold Jq;simp_all
 · (try rw [hf_]);(simp only [JL];done)
 try simp only [BB] at h1
 refine Jm (Ja (Je (Je (Jb (Jd [0] [(0,Sl a_l l.length c_l),(1,Sr name),(15,Sr name)] (Ji 16 (Bo (Kt name)) (Zk G name) (Jd [0] [(0,Sl a_l l.length c_l),(1,Sr name),(17,Bo (!(Kt name)))] (Jc (Ja (Jo (!(Kt name)) (fun h2=>?_) (fun h2=>?_)))))))))))
 try simp only [BB] at h2
 refine Jg [0,0,0] [(4,I 0),(5,Bo false),(6,I 3)] (Jk (Jh (Jl [0,0,0] [I 0,Bo false,I 3] (Jv (Jt.le_refl _) ?_))))
 have hf_:(Jq l name)=(0,false,3):=by
  unfold Jq;simp_all
 · (try rw [hf_]);(simp only [JL];done)
 try simp only [BB] at h2
 refine Jm (Ja (Je (Jb (Jd [0,0] [(19,Sl a_l l.length c_l),(20,Sr name)] (Ji 21 (.tuple #[I ((bsF l name (fun x0 x1=>QE x0 x1)).1),Bo ((bsF l name (fun x0 x1=>QE x0 x1)).2)]) (Jmw G a_l c_l l h_l name hw_name 133 #[] (fun x0 x1=>QE x0 x1) (fun _ _=>by kernel_rfl) (fun vs0 x0 hx0 x1 hx1=>by obtain ⟨rfl,w1,w2⟩:=hx0;exact JhV G [Sr x0.name,Sr x0.value] x0 (⟨rfl,w1,w2⟩) x1 hx1)) (Jd [0,0,0,0,0] [(8,I ((bsF l name (fun x0 x1=>QE x0 x1)).1)),(9,Bo ((bsF l name (fun x0 x1=>QE x0 x1)).2))] (Jc (Ja (Jg [0,0,0,0,0] [(4,I ((bsF l name (fun x0 x1=>QE x0 x1)).1)),(5,Bo ((bsF l name (fun x0 x1=>QE x0 x1)).2)),(6,I 0)] (Jk (Jl [0,0,0] [I ((bsF l name (fun x0 x1=>QE x0 x1)).1),Bo ((bsF l name (fun x0 x1=>QE x0 x1)).2),I 0] (Jv (Jt.le_refl _) ?_))))))))))))
 have hf_:(Jq l name)=(((bsF l name (fun x0 x1=>QE x0 x1)).1),((bsF l name (fun x0 x1=>QE x0 x1)).2),0):=by
  unfold Jq;simp_all
 · (try rw [hf_]);(simp only [JL];done)
theorem JgZ (G:Jt) (a_l:Option Addr) (c_l:Nat) (l:List JV) (h_l:RS Qo G a_l c_l l) (name:List UInt8) (hw_name:(name).length≤140737488351232) :QF Tryz.prog 125 #[Sl a_l l.length c_l,Sr name] G [] (fun u G' L'=>u=.tuple #[Sr ((K7 l name).1),Bo ((K7 l name).2.1),I ((K7 l name).2.2)]∧(((K7 l name).1).length≤140737488351232)∧L'=[]):=by
 refine JJ Tryz.func125 26 [(0,Sl a_l l.length c_l),(1,Sr name)] rfl (fun w0 G0=>?_)
 refine Jg [0,0,0] [(0,Sl a_l l.length c_l),(1,Sr name)] (Je (Jb (Jd [0,0] [(0,Sl a_l l.length c_l),(11,Sl a_l l.length c_l),(12,Sr name)] (Ji 13 (.tuple #[I ((Jq l name).1),Bo ((Jq l name).2.1),I ((Jq l name).2.2)]) (JbY G a_l c_l l h_l name hw_name) (Jd [0,0,0,0,0,0,0] [(0,Sl a_l l.length c_l),(7,I ((Jq l name).1)),(8,Bo ((Jq l name).2.1)),(9,I ((Jq l name).2.2))] (Jc (Ja (Je (Jg [0,0] [(0,Sl a_l l.length c_l),(7,I ((Jq l name).1)),(9,I ((Jq l name).2.2)),(18,Bo (!((Jq l name).2.1)))] (Jo (!((Jq l name).2.1)) (fun h1=>?_) (fun h1=>?_)))))))))))
 try simp only [BB] at h1
 refine Jg [0,0,0,0] [(4,Sr ([])),(5,Bo false),(6,I ((Jq l name).2.2))] (Jk (Jh ?_))
 have hf1:K7 l name=([],false,(Jq l name).2.2):=by
  unfold K7;(simp_all;done)
 refine Jl [0,0,0] [Sr ([]),Bo false,I ((Jq l name).2.2)] (JY [] .slnil (Jt.le_refl _) ?_)
 rw [hf1]
 try dsimp only
 exact ⟨rfl,(Nat.le_of_ble_eq_true rfl),rfl⟩
 try simp only [BB] at h1
 refine Jm (Ja (Je (Jb (Jd [0,0] [(9,I ((Jq l name).2.2)),(20,Sl a_l l.length c_l),(21,I ((Jq l name).1))] ?_))))
 obtain ⟨kn1,hkn1⟩:∃ k_:Nat,(Jq l name).1=(k_:Int):=⟨((Jq l name).1).toNat,by (have q_:=Z6 (l:=l) (name:=name) ‹_›;omega)⟩
 have e1:(Jq l name).1=(kn1:Int):=hkn1
 refine Jd [] [(9,I ((Jq l name).2.2)),(20,Sl a_l l.length c_l),(21,I ((Jq l name).1))] (J3 (fr':=[(9,I ((Jq l name).2.2)),(20,Sl a_l l.length c_l),(21,I (kn1:Int))]) (L':=[]) (by (simp only [e1];done)) (by rfl) ?_)
 obtain ⟨b1,o1,rfl⟩:=RS.addr h_l (k:=kn1) (by (have q_:=Z6 (l:=l) (name:=name) ‹_›;omega))
 obtain ⟨x1,hx1⟩:=Wh (l:=l) (k:=kn1) (by (have q_:=Z6 (l:=l) (name:=name) ‹_›;omega))
 obtain ⟨_,⟨rfl,_,w2⟩,hc1⟩:=RS.get h_l hx1
 refine Kh (b:=b1) (off:=o1) (len:=l.length) (cap:=c_l) (ik:=.i64) 22 94 2 kn1 (by (have q_:=Z6 (l:=l) (name:=name) ‹_›;omega)) (Jd [0] [(9,I ((Jq l name).2.2)),(23,Pt b1 (o1+kn1*2+1))] (Ka 24 9 (cs:=[Sr x1.name,Sr x1.value]) 1 (Sr x1.value) hc1 (Jd [0,0,0,0] [(4,Sr x1.value),(5,Bo true),(6,I ((Jq l name).2.2))] (Jc (Ja (Jk ?_))))))
 have hf2:K7 l name=(x1.value,true,(Jq l name).2.2):=by
  unfold K7;(simp_all;done)
 refine Jl [0,0,0] [Sr x1.value,Bo true,I ((Jq l name).2.2)] (JY [] .slnil (Jt.le_refl _) ?_)
 rw [hf2]
 try dsimp only
 exact ⟨rfl,w2,rfl⟩
end Go.Proofs.YtnnlpbjdignhaaaGreatDoor
