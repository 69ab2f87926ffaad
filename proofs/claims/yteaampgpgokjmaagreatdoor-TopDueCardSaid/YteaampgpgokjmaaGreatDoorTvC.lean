import Derived.Test.YteaampgpgokjmaaGreatDoorTvB
set_option linter.unusedVariables false
set_option linter.unusedSimpArgs false
namespace Go.Proofs.YteaampgpgokjmaaGreatDoor
open Go.Tx
open IntKind renaming i64 → Ha, u64 → HW, i32 → H0
open _root_.List renaming getElem?_eq_some_iff → Hb, length_append → Hd, length_cons → He, length_nil → Hf, length_take → Hg, forall_mem_nil → Hi, drop_eq_getElem_cons → Hj, getElem?_eq_getElem → Hk, length → Hn, mem_of_getElem? → Ho, drop_eq_nil_of_le → Hq, take_add_one → Ht, getElem?_of_mem → Hu, dropWhile_cons → Hv, length_set → Hx, length_drop → Hy, mem_singleton → Hz, take_of_length_le → HA, any_eq_true → HB, mem_cons → HC, getElem?_append_left → HD, mem_append → HF, mem_cons_self → HH, getElem?_set → HI, mem_of_mem_take → HK, mem_of_mem_drop → HL, drop_drop → HN, getElem?_drop → HP, filter_append → HQ, getElem?_append_right → HR, mem_reverse → HT, not_mem_nil → HU, dropWhile_sublist → HV, take_append_drop → HX, length_filter_le → HZ, mem_cons_of_mem → H1
open _root_.Nat renaming le_of_ble_eq_true → Hc, le_trans → Hm, zero_le → Hr, le_refl → Hw, min_eq_left → HE, min_def → HY, min → H2, zero_add → H3
open IntWalk renaming i64_in → Hh
open _root_.Decidable renaming not_not → Hl
open _root_.Option renaming some → Hp
open _root_.Bool renaming eq_false_or_eq_true → Hs, eq_iff_iff → HG, and_assoc → HO
open _root_.UInt8 renaming ofNat → HJ
open _root_.Int renaming toNat_of_nonneg → HM, toNat_natCast → HS
def KE (name value:List UInt8):Int:=if KJ name=false then 3 else if 20<value.length then 2 else 0
def Jan (l:List J2):Nat→List J2→Int
 | _,[]=>0
 | i,x::r=>if KE x.name x.value ≠ 0 then KE x.name x.value else if 0<i∧0≤Ya ((l[i-1]?.getD x).name) x.name then 3 else Jan l (i+1) r
def Kk (l:List J2):Int:=if 24<l.length then 2 else Jan l 0 l
theorem JbF {l:List J2} {i:Nat} {x:J2} (hx:l[i]? = some x) (h:KE x.name x.value=0) (h2:¬ (0<i∧0≤Ya ((l[i-1]?.getD x).name) x.name)):Jan l i (l.drop i)=Jan l (i+1) (l.drop (i+1)):=by
 obtain ⟨h1,rfl⟩:=Hb.1 hx
 rw [Hj h1]
 show (if _ then _ else if _ then _ else _)=_
 rw [if_neg (by omega),if_neg h2]
theorem Jis {l:List J2} {i:Nat} {x:J2} (hx:l[i]? = some x) (h:¬ KE x.name x.value=0):Jan l i (l.drop i)=KE x.name x.value:=by
 obtain ⟨h1,rfl⟩:=Hb.1 hx
 rw [Hj h1]
 show (if _ then _ else if _ then _ else _)=_
 rw [if_pos h]
theorem Jit {l:List J2} {i:Nat} {x y:J2} (hx:l[i]? = some x) (h:KE x.name x.value=0) (hi:0<i) (hy:l[i-1]? = some y) (h2:0≤Ya y.name x.name):Jan l i (l.drop i)=3:=by
 obtain ⟨h1,rfl⟩:=Hb.1 hx
 rw [Hj h1]
 show (if _ then _ else if _ then _ else _)=_
 rw [if_neg (by omega),if_pos ⟨hi,by rw [hy];exact h2⟩]
structure W3 (l:List J2):Prop where
 len:l.length≤24
 ok:∀ x∈l,KE x.name x.value=0
 ord:∀ (i j:Nat) x y,i<j→l[i]? = some x→l[j]? = some y→Ya x.name y.name<0
theorem Jfl {l:List J2}:∀ (n i:Nat),l.length≤i+n→(Jan l i (l.drop i)=0 ↔ (∀ j x,i≤j→l[j]? = some x→KE x.name x.value=0)∧∀ j x y,i≤j+1→l[j]? = some x→l[j+1]? = some y→Ya x.name y.name<0)
 | 0,i,h=>by
  rw [Hq (by omega)]
  refine ⟨fun _=>⟨fun j x hj hx=>?_,fun j x y hj hx hy=>?_⟩,fun _=>rfl⟩
  · have:=(Hb.1 hx).1;omega
  · have:=(Hb.1 hy).1;omega
 | n+1,i,h=>by
  by_cases hi:i<l.length
  ·
   have hx:l[i]? = some l[i]:=Hk hi
   by_cases h1:KE l[i].name l[i].value=0
   ·
    by_cases h2:0<i∧0≤Ya ((l[i-1]?.getD l[i]).name) l[i].name
    ·
     have hy:l[i-1]? = some (l[i-1]'(by omega)):=Hk (by omega)
     have h3:=h2.2
     rw [hy] at h3
     rw [Jit hx h1 h2.1 hy h3]
     constructor
     · intro hc;cases hc
     ·
      rintro ⟨_,h4⟩
      have:=h4 (i-1) _ _ (by omega) hy (by rw [show i-1+1=i by omega];exact hx)
      simp at h3;omega
    ·
     rw [JbF hx h1 h2,Jfl n (i+1) (by omega)]
     constructor
     ·
      rintro ⟨a,b⟩
      refine ⟨fun j x hj hjx=>?_,fun j x y hj hjx hjy=>?_⟩
      ·
       by_cases e:j=i
       · subst e;rw [hx] at hjx;rw [← Hp.inj hjx];exact h1
       · exact a j x (by omega) hjx
      ·
       by_cases e:j+1=i
       ·
        have:0<i:=by omega
        have hy:l[i-1]? = some x:=by rw [← e];exact hjx
        rw [hy] at h2
        rw [e,hx] at hjy
        rw [← Hp.inj hjy]
        have:=fun hc=>h2 ⟨by omega,hc⟩
        simp at this;omega
       · exact b j x y (by omega) hjx hjy
     ·
      rintro ⟨a,b⟩
      exact ⟨fun j x hj=>a j x (by omega),fun j x y hj=>b j x y (by omega)⟩
   ·
    rw [Jis hx h1]
    exact ⟨fun hc=>absurd hc h1,fun hc=>absurd (hc.1 i _ (Hw _) hx) h1⟩
  ·
   rw [Hq (by omega)]
   refine ⟨fun _=>⟨fun j x hj hx=>?_,fun j x y hj hx hy=>?_⟩,fun _=>rfl⟩
   · have:=(Hb.1 hx).1;omega
   · have:=(Hb.1 hy).1;omega
theorem Jk2 {l:List J2} (h:∀ j x y,l[j]? = some x→l[j+1]? = some y→Ya x.name y.name<0):∀ (d i:Nat) x y,l[i]? = some x→l[i+d+1]? = some y→Ya x.name y.name<0
 | 0,i,x,y,hx,hy=>h i x y hx hy
 | d+1,i,x,y,hx,hy=>by
  have hj:=(Hb.1 hy).1
  have hz:l[i+d+1]? = some (l[i+d+1]'(by omega)):=Hk (by omega)
  exact Jcv (Jk2 h d i x _ hx hz) (h _ _ _ hz hy)
theorem K3 {l:List J2}:Kk l=0 ↔ W3 l:=by
 unfold Kk
 have e:=Jfl (l:=l) l.length 0 (by omega)
 rw [List.drop_zero] at e
 constructor
 ·
  intro h
  split at h
  · cases h
  ·
   have h2:=e.1 h
   refine ⟨by omega,fun x hx=>?_,fun i j x y hij hx hy=>?_⟩
   ·
    obtain ⟨k,hk⟩:=Hu hx
    exact h2.1 k x (Hr _) hk
   ·
    obtain ⟨d,rfl⟩:∃ d,j=i+d+1:=⟨j-i-1,by omega⟩
    exact Jk2 (fun j x y hx hy=>h2.2 j x y (by omega) hx hy) d i x y hx hy
 ·
  rintro ⟨h1,h2,h3⟩
  rw [if_neg (by omega)]
  exact e.2 ⟨fun j x _ hx=>h2 x (Ho hx),fun j x y _ hx hy=>h3 j (j+1) x y (by omega) hx hy⟩
def VZ (c:J2→Int) (l:List J2):Nat→Nat→Nat→Nat
 | 0,i,_=>i
 | f+1,i,j=>if i<j then match l[(i+j) / 2]? with
   | some x=>if c x<0 then VZ c l f ((i+j) / 2+1) j else VZ c l f i ((i+j) / 2)
   | none=>i
  else i
theorem Jb0 (c:J2→Int) (l:List J2):∀ (f g i j:Nat),j≤i+f→j≤i+g→VZ c l f i j=VZ c l g i j
 | 0,0,_,_,_,_=>rfl
 | 0,g+1,i,j,h,_=>by unfold VZ;rw [if_neg (by omega)]
 | f+1,0,i,j,_,h=>by unfold VZ;rw [if_neg (by omega)]
 | f+1,g+1,i,j,h1,h2=>by
  unfold VZ
  split
  ·
   split
   ·
    split
    · exact Jb0 c l f g _ _ (by omega) (by omega)
    · exact Jb0 c l f g _ _ (by omega) (by omega)
   · rfl
  · rfl
def bsI (c:J2→Int) (l:List J2):Nat:=VZ c l l.length 0 l.length
theorem bs_lt {c:J2→Int} {l:List J2} {i j:Nat} {x:J2} (h:i<j) (hj:j≤l.length) (hx:l[(i+j) / 2]? = some x) (hc:c x<0):VZ c l l.length i j=VZ c l l.length ((i+j) / 2+1) j:=by
 rw [Jb0 c l l.length (l.length+1) i j (by omega) (by omega)]
 conv=>lhs;unfold VZ
 rw [if_pos h,hx]
 simp only
 rw [if_pos hc]
theorem bs_ge {c:J2→Int} {l:List J2} {i j:Nat} {x:J2} (h:i<j) (hj:j≤l.length) (hx:l[(i+j) / 2]? = some x) (hc:¬ c x<0):VZ c l l.length i j=VZ c l l.length i ((i+j) / 2):=by
 rw [Jb0 c l l.length (l.length+1) i j (by omega) (by omega)]
 conv=>lhs;unfold VZ
 rw [if_pos h,hx]
 simp only
 rw [if_neg hc]
theorem Jnu {c:J2→Int} {l:List J2} {i j n:Nat} (h:¬ i<j):VZ c l n i j=i:=by
 cases n with
 | zero=>rfl
 | succ n=>unfold VZ;rw [if_neg h]
theorem JdL (c:J2→Int) (l:List J2) (hm:∀ (p q:Nat) x y,p<q→l[p]? = some x→l[q]? = some y→c y<0→c x<0):∀ (f i j:Nat),j≤i+f→i≤j→j≤l.length→(∀ p x,p<i→l[p]? = some x→c x<0)→(∀ p x,j≤p→l[p]? = some x→¬ c x<0) →
  i≤VZ c l f i j∧VZ c l f i j≤j∧(∀ p x,p<VZ c l f i j→l[p]? = some x→c x<0)∧(∀ p x,VZ c l f i j≤p→l[p]? = some x→¬ c x<0)
 | 0,i,j,h1,h2,h3,h4,h5=>by
  have:i=j:=by omega
  subst this
  exact ⟨Hw _,Hw _,h4,h5⟩
 | f+1,i,j,h1,h2,h3,h4,h5=>by
  unfold VZ
  by_cases h:i<j
  ·
   rw [if_pos h]
   have hx:l[(i+j) / 2]? = some (l[(i+j) / 2]'(by omega)):=Hk (by omega)
   rw [hx]
   simp only
   split
   ·
    rename_i hc
    have:=JdL c l hm f ((i+j) / 2+1) j (by omega) (by omega) h3 (fun p x hp hpx=>by
     by_cases e:p=(i+j) / 2
     · subst e;rw [hx] at hpx;rw [← Hp.inj hpx];exact hc
     · exact hm p ((i+j) / 2) x _ (by omega) hpx hx hc) h5
    exact ⟨by omega,this.2.1,this.2.2⟩
   ·
    rename_i hc
    have:=JdL c l hm f i ((i+j) / 2) (by omega) (by omega) (by omega) h4 (fun p x hp hpx hcx=>by
     by_cases e:p=(i+j) / 2
     · subst e;rw [hx] at hpx;rw [← Hp.inj hpx] at hcx;exact hc hcx
     · exact hc (hm ((i+j) / 2) p _ x (by omega) hx hpx hcx))
    exact ⟨this.1,by omega,this.2.2⟩
  ·
   rw [if_neg h]
   have:i=j:=by omega
   subst this
   exact ⟨Hw _,Hw _,h4,h5⟩
def bsF (l:List J2) (t:List UInt8) (c:J2→List UInt8→Int):Int×Bool:=(((bsI (fun x=>c x t) l:Nat):Int),match l[bsI (fun x=>c x t) l]? with
 | some x=>decide (c x t=0)
 | none=>false)
def QV (x:J2) (name:List UInt8):Int:=Ya x.name name
def JF (l:List J2) (name:List UInt8):Int×Bool×Int:=if Kk l ≠ 0 then (0,false,Kk l) else if KJ name=false then (0,false,3) else ((bsF l name QV).1,(bsF l name QV).2,0)
theorem Jnv (c:J2→Int) (l:List J2):bsI c l≤l.length:=by
 have:∀ (f i j:Nat),i≤j→VZ c l f i j≤j:=by
  intro f
  induction f with
  | zero=>intro i j h;exact h
  | succ f ih =>
   intro i j h
   unfold VZ
   split
   ·
    split
    ·
     split
     · exact ih _ _ (by omega)
     · exact Hm (ih _ _ (by omega)) (by omega)
    · exact h
   · exact h
 exact this _ _ _ (Hr _)
theorem Jfm {l:List J2} (h:W3 l) (name:List UInt8):(∀ p x,p<bsI (fun x=>QV x name) l→l[p]? = some x→Ya x.name name<0)∧(∀ p x,bsI (fun x=>QV x name) l≤p→l[p]? = some x→¬ Ya x.name name<0):=by
 have:=JdL (fun x=>QV x name) l (fun p q x y hpq hx hy hc=>Jcv (h.ord p q x y hpq hx hy) hc) l.length 0 l.length (by omega) (Hr _) (Hw _) (fun p x hp=>absurd hp (Nat.not_lt_zero _)) (fun p x hp hx=>by have:=(Hb.1 hx).1;omega)
 exact this.2.2
theorem Jhx {l:List J2} (h:W3 l) (name:List UInt8):(bsF l name QV).2=true ↔ ∃ x∈l,x.name=name:=by
 have hs:=Jfm h name
 unfold bsF
 simp only
 constructor
 ·
  intro e
  cases hx:l[bsI (fun x=>QV x name) l]? with
  | none=>rw [hx] at e;cases e
  | some x =>
   rw [hx] at e
   exact ⟨x,Ho hx,ZI.1 (of_decide_eq_true e)⟩
 ·
  rintro ⟨x,hx,rfl⟩
  obtain ⟨k,hk⟩:=Hu hx
  have h1:¬ Ya x.name x.name<0:=by have:Ya x.name x.name=0:=ZI.2 rfl;omega
  have h2:bsI (fun y=>QV y x.name) l≤k:=by
   apply Nat.le_of_not_lt;intro hc;exact h1 (hs.1 k x hc hk)
  have h3:bsI (fun y=>QV y x.name) l=k:=by
   apply Classical.byContradiction;intro hne
   have hl:=(Hb.1 hk).1
   have hy:l[bsI (fun y=>QV y x.name) l]? = some (l[bsI (fun y=>QV y x.name) l]'(by omega)):=Hk (by omega)
   exact hs.2 _ _ (Hw _) hy (h.ord _ k _ x (by omega) hy hk)
  rw [h3,hk]
  simp only [decide_eq_true_eq]
  exact ZI.2 rfl
theorem JjT {l:List J2} {name:List UInt8} (e:(bsF l name QV).2=true):∃ x,l[bsI (fun x=>QV x name) l]? = some x∧x.name=name:=by
 unfold bsF at e
 simp only at e
 cases hx:l[bsI (fun x=>QV x name) l]? with
 | none=>rw [hx] at e;cases e
 | some x=>rw [hx] at e;exact ⟨x,rfl,ZI.1 (of_decide_eq_true e)⟩
def KX (l:List J2) (name:List UInt8):List UInt8×Bool×Int:=if (JF l name).2.1=false then ([],false,(JF l name).2.2) else ((l[(JF l name).1.toNat]?.map (·.value)).getD [],true,(JF l name).2.2)
theorem Jiu {l:List J2} {name:List UInt8} (h:(JF l name).2.1=true):W3 l∧KJ name=true∧JF l name=((bsF l name QV).1,true,0)∧(bsF l name QV).2=true:=by
 unfold JF at h ⊢
 split at h
 · cases h
 split at h
 · cases h
 ·
  rename_i h1 h2
  rw [if_neg h1,if_neg h2]
  have h3:(bsF l name QV).2=true:=h
  exact ⟨K3.1 (Hl.1 h1),by simpa using h2,by rw [h3],h3⟩
theorem YD {l:List J2} {name:List UInt8} (h:(JF l name).2.1=true):0≤(JF l name).1∧(JF l name).1<l.length:=by
 obtain ⟨h1,h2,h3,h4⟩:=Jiu h
 obtain ⟨x,hx,_⟩:=JjT h4
 have:=(Hb.1 hx).1
 rw [h3];unfold bsF;simp only;omega
theorem Jce (G:J4) (name:List UInt8) (value:List UInt8) :Q4 115 #[Sr name,Sr value] G (I (KE name value)):=by
 refine JR Tryz.func115 13 [(0,Sr name),(1,Sr value)] rfl (fun w0 G0=>?_)
 refine Jg [0] [] (Jf (Jy (Jf (Jd (Jc [0] [(6,Sr name)] (Jm 7 (Bo (KJ name)) (ZN G name) (Jc [0,0] [(5,Bo (!(KJ name)))] (Je (Jb (Jl (!(KJ name)) (fun h1=>?_) (fun h1=>?_)))))))))))
 refine Jg [0] [(4,I 3)] (Jn (Js (Jj (Jo [0] [I 3] (Jx (Jh _) (congrArg I (?_:(KE name value)=3).symm))))))
 unfold KE;simp_all;try omega
 refine Jg [0,0,0,0] [(9,Bo (decide (((value).length:Int) > 20)))] (Jl (decide (((value).length:Int) > 20)) (fun h2=>?_) (fun h2=>?_))
 refine Jg [0] [(4,I 2)] (Jn (Js (Jj (Jo [0] [I 2] (Jx (Jh _) (congrArg I (?_:(KE name value)=2).symm))))))
 unfold KE;simp_all;try omega
 refine Jq (JN (Jb (Jg [0] [(4,I 0)] (Jn (Jo [0] [I 0] (Jx (Jh _) (congrArg I (?_:(KE name value)=0).symm)))))))
 unfold KE;simp_all;try omega
theorem YV (G:J4) (a_l:Option Addr) (c_l:Nat) (l:List J2) (h_l:RS QD G a_l c_l l) :Q4 65 #[Sl a_l l.length c_l] G (I (Kk l)):=by
 refine JR Tryz.func65 39 [(0,Sl a_l l.length c_l)] rfl (fun w0 G0=>?_)
 refine Jg [0] [] (Jf (Jg [0,0,0] [(8,Bo (decide ((l.length:Int) > 24)))] (Jl (decide ((l.length:Int) > 24)) (fun h1=>?_) (fun h1=>?_))))
 refine Jg [0] [(2,I 2)] (Jn (Jj (Jo [0] [I 2] (Jx (Jh _) (congrArg I (?_:(Kk l)=2).symm)))))
 · unfold Kk;(rw [if_pos (by omega)];done)
 refine Jq (Jb (Jf (Jg [0,0,0] [(9,Sl a_l l.length c_l),(10,I (l.length:Int)),(11,I 0)] (Jy ?_))))
 have hlm_h_l:l.length≤9223372036854775807:=Hm (h_l).le (h_l).max
 refine Qh (σ:=Nat) (fun q_=>(q_≤l.length)∧(Jan l 0 l=Jan l q_ (l.drop q_))) (fun q_=>[(0,Sl a_l l.length c_l),(9,Sl a_l l.length c_l),(10,I (l.length:Int)),(11,I (q_:Int))]) (fun q_=>G) (fun q_=>[]) (fun q_=>l.length-q_) 0 ⟨(by (try dsimp only);exact Hr _),rfl⟩ (fun q_ hs=>?_)
 revert hs;revert q_;intro i hs
 obtain ⟨hi,hn⟩:=hs
 dsimp only
 refine Jg [0] [(12,Bo (decide ((i:Int)<(l.length:Int))))] (Jf (Jl (decide ((i:Int)<(l.length:Int))) (fun h2=>?_) (fun h2=>?_)))
 refine Jq (Jb (Jf (Jy (Jf (Jd (Jc [0] [(13,I (i:Int))] ?_))))))
 obtain ⟨b1,o1,rfl⟩:=RS.addr h_l (k:=i) (by omega)
 obtain ⟨x1,hx1⟩:=Wf (l:=l) (k:=i) (by omega)
 obtain ⟨_,⟨rfl,w1,_⟩,hc1⟩:=RS.get h_l hx1
 refine J5 (b:=b1) (off:=o1) (len:=l.length) (cap:=c_l) (ik:=.i64) 14 111 2 i J8 (JZ 15 111 (cs:=[Sr x1.name,Sr x1.value]) 0 (.agg #[Sr x1.name,Sr x1.value]) hc1 (Jv 4 #[Sr ([]),Sr ([])] 111 (fun b2=>JV [0,3] [(3,I (i:Int))] [[Sg b2 0 [Sr x1.name,Sr x1.value]]] (Je (Jb (Jf (Jf (Jd (Jc [0,2,0,2] [(17,Sr x1.name),(19,Sr x1.value)] (Jm 20 (I (KE x1.name x1.value)) (Jce G x1.name x1.value) (Jc [0] [(5,I (KE x1.name x1.value))] (Je (Jb (Jg [0,0] [(22,Bo (!decide (KE x1.name x1.value=0)))] (Jl (!decide (KE x1.name x1.value=0)) (fun h3=>?_) (fun h3=>?_))))))))))))))))
 refine Jg [0,0] [(2,I (KE x1.name x1.value))] (Jn (Jj (Js (Jj (Qj (Js (Jj (Jo [0] [I (KE x1.name x1.value)] (Jx (Jh _) (congrArg I (?_:(Kk l)=(KE x1.name x1.value)).symm))))))))))
 unfold Kk;(rw [if_neg (by omega),hn];exact Jis hx1 ‹_›)
 refine Jq (Jb (Jf ?_))
 rcases Hs (decide ((i:Int) > 0)) with h4 | h4
 have h4d:=h4
 try simp only [BB] at h4d
 have e1:Ha.wrap ((i:Int)-1)=((i-1:Nat):Int):=(Hh _ (by omega)).trans (show (i:Int)-1=((i-1:Nat):Int) by omega)
 obtain ⟨x2,hx2⟩:=Wf (l:=l) (k:=i-1) (by omega)
 obtain ⟨_,⟨rfl,w3,_⟩,hc2⟩:=RS.get h_l hx2
 refine Kp [] (Wl [(0,I (i:Int)),(1,Bo true),(2,Bo true),(3,Sl (At b1 o1) l.length c_l),(4,I (i:Int)),(5,I ((i-1:Nat):Int)),(6,Pt b1 (o1+(i-1)*2)),(7,Pt b1 (o1+(i-1)*2)),(8,Sr x2.name),(9,Pt b2 0),(10,Sr x1.name),(11,I (Ya x2.name x1.name)),(12,Bo (decide (Ya x2.name x1.name ≥ 0))),(13,Bo (decide (Ya x2.name x1.name ≥ 0)))] (Km [] [(0,0),(2,0),(3,0),(4,0),(7,0),(9,0),(10,2),(12,0),(13,0)] [1,5,6,8,11] [(0,Sl (At b1 o1) l.length c_l),(9,Sl (At b1 o1) l.length c_l),(10,I (l.length:Int)),(11,I (i:Int)),(37,Bo (decide (Ya x2.name x1.name ≥ 0)))] (Ki ?_ (Ki ?_ (Ki ?_ (Ki ?_ (Ki ?_ K8))))) ?_))
 refine Jt 1 25 (Bo true) [(24,I (i:Int))] (fun X=>?_)
 exact KV 25 (Bo (decide ((i:Int) > 0))) (Bo true) (by rw [h4]) Jp
 refine Jt 5 29 (I ((i-1:Nat):Int)) [(26,Bo true),(28,I (i:Int))] (fun X=>?_)
 exact KV 29 (I (Ha.wrap ((i:Int)-1))) (I ((i-1:Nat):Int)) (by simp only [e1]) Jp
 refine Jt 6 30 (Pt b1 (o1+(i-1)*2)) [(26,Bo true),(27,Sl (At b1 o1) l.length c_l),(29,I ((i-1:Nat):Int))] (fun X=>?_)
 exact J5 (b:=b1) (off:=o1) (len:=l.length) (cap:=c_l) (ik:=.i64) 30 111 2 (i-1) J8 Jp
 refine Jt 8 32 (Sr x2.name) [(26,Bo true),(31,Pt b1 (o1+(i-1)*2))] (fun X=>?_)
 exact JZ 32 9 (cs:=[Sr x2.name,Sr x2.value]) 0 (Sr x2.name) hc2 Jp
 refine Jt 11 35 (I (Ya x2.name x1.name)) [(26,Bo true),(32,Sr x2.name),(34,Sr x1.name)] (fun X=>?_)
 exact Jm 35 (I (Ya x2.name x1.name)) (Jir G x2.name w3 x1.name w1) Jp
 refine Jb (Jl (decide (Ya x2.name x1.name ≥ 0)) (fun h5=>?_) (fun h5=>?_))
 refine Jg [0] [(2,I 3)] (Jn (Js (Jj (Qj (Js (Jj (Jo [0] [I 3] (Jx (Jh _) (congrArg I (?_:(Kk l)=3).symm)))))))))
 unfold Kk;(rw [if_neg (by omega),hn];exact Jit hx1 ‹_› (by omega) ‹_› (by omega))
 exact Jq (JN (Jb (Jd (Jc [0,0] [(11,I (Ha.wrap ((i:Int)+1)))] (Kr 11 ((i:Int)+1) J8 (Je (Qr [] (Qi (i+1) ⟨J8,(by rw [hn];exact JbF hx1 ‹_› (by (intro hc_;simp_all;omega)))⟩ (by (try dsimp only);omega)))))))))
 have h4d:=h4
 try simp only [BB] at h4d
 refine Kp [] (Wl [(0,I (i:Int)),(1,Bo false),(2,Bo false),(3,undef),(4,undef),(5,undef),(6,undef),(7,undef),(8,undef),(9,undef),(10,undef),(11,undef),(12,undef),(13,Bo false)] (Km [] [(0,0),(2,0),(3,1),(4,1),(5,1),(6,1),(7,1),(8,1),(9,1),(10,1),(11,1),(12,1),(13,0)] [1] [(0,Sl (At b1 o1) l.length c_l),(9,Sl (At b1 o1) l.length c_l),(10,I (l.length:Int)),(11,I (i:Int)),(37,Bo false)] (Ki ?_ K8) ?_))
 refine Jt 1 25 (Bo false) [(24,I (i:Int))] (fun X=>?_)
 exact KV 25 (Bo (decide ((i:Int) > 0))) (Bo false) (by rw [h4]) Jp
 exact Jb (Qq (Jq (JN (Jb (Jd (Jc [0,0] [(11,I (Ha.wrap ((i:Int)+1)))] (Kr 11 ((i:Int)+1) J8 (Je (Qr [] (Qi (i+1) ⟨J8,(by rw [hn];exact JbF hx1 ‹_› (by (intro hc_;omega)))⟩ (by (try dsimp only);omega)))))))))))
 refine KW (JY (J9 (JT (Jb (Jg [0] [(2,I 0)] (Jn (Jo [0] [I 0] (Jx (Jh _) (congrArg I (?_:(Kk l)=0).symm)))))))))
 unfold Kk;(rw [if_neg (by omega),hn];(rw [Hq (by omega)];rfl))
theorem JjU (G:J4) (vs_x:List Value) (x:J2) (h_x:QD.R G vs_x x) (name:List UInt8) (hw_name:(name).length≤140737488351232) :Q4 67 #[.agg vs_x.toArray,Sr name] G (I (QV x name)):=by
 obtain ⟨rfl,w1,_⟩:=h_x
 refine JR Tryz.func67 9 [(0,.agg #[Sr x.name,Sr x.value]),(1,Sr name)] rfl (fun w0 G0=>?_)
 refine Jf (Jd (Jv 2 #[Sr x.name,Sr x.value] 111 (fun b1=>Jc [0] [] (Je (Jb (Jf (Jd (Jc [0,2,0] [(6,Sr x.name),(7,Sr name)] (Jm 8 (I (Ya x.name name)) (Jir G x.name w1 name hw_name) (Jc [0] [(4,I (Ya x.name name))] (Je (Jb (Jn (Jo [0] [I (Ya x.name name)] (Jx (Jh _) (congrArg I (?_:(QV x name)=(Ya x.name name)).symm))))))))))))))))
 rfl
theorem Jo2 (G:J4) (a_l:Option Addr) (c_l:Nat) (l:List J2) (h_l:RS QD G a_l c_l l) (target:List UInt8) (hw_target:(target).length≤140737488351232) (k_cmp:FuncId) (caps_cmp:Array Value) (p_cmp:J2→(List UInt8)→Int) (hk_cmp:JaY Tryz.prog k_cmp) (h_cmp:∀ (vs0:List Value) (x0:J2) (hx0:QD.R G vs0 x0) (x1:List UInt8) (hx1:(x1).length≤140737488351232),Vp Tryz.prog k_cmp (#[.agg vs0.toArray,Sr x1]++caps_cmp) G [] (fun u _ _=>u=I (p_cmp x0 x1))) :Q4 66 #[Sl a_l l.length c_l,Sr target,Fv k_cmp caps_cmp] G (.tuple #[I ((bsF l target p_cmp).1),Bo ((bsF l target p_cmp).2)]):=by
 refine JR Tryz.func66 49 [(0,Sl a_l l.length c_l),(1,Sr target),(2,Fv k_cmp caps_cmp)] rfl (fun w0 G0=>?_)
 refine Jg [0,0] [] (Jg [0,0,0] [(8,I (l.length:Int))] (Jg [0,0,0] [(9,I 0),(10,I (l.length:Int))] (Jf (Jy ?_))))
 have hlm_h_l:l.length≤9223372036854775807:=Hm (h_l).le (h_l).max
 refine Qh (σ:=Nat×Nat) (fun q_=>(q_.1≤q_.2∧q_.2≤l.length)∧(bsI (fun x=>p_cmp x target) l=VZ (fun x=>p_cmp x target) l l.length q_.1 q_.2)) (fun q_=>[(0,Sl a_l l.length c_l),(1,Sr target),(2,Fv k_cmp caps_cmp),(8,I (l.length:Int)),(9,I (q_.1:Int)),(10,I (q_.2:Int))]) (fun q_=>G) (fun q_=>[]) (fun q_=>q_.2-q_.1) (0,l.length) ⟨⟨Hr _,Hw _⟩,rfl⟩ (fun q_ hs=>?_)
 obtain ⟨i,j⟩:=q_
 obtain ⟨hj,hn⟩:=hs
 dsimp only at hj hn
 dsimp only
 refine Jf (Jg [0,0,0] [(17,Bo (decide ((i:Int)<(j:Int))))] (Jl (decide ((i:Int)<(j:Int))) (fun h1=>?_) (fun h1=>?_)))
 refine Jq (Jb (Jy (Jg [0,0,0,0,0,0,0] [(11,I (Ha.wrap ((HW.wrap (Ha.wrap ((i:Int)+(j:Int)))).fdiv (2 ^ 1))))] ?_)))
 have e1:Ha.wrap ((i:Int)+(j:Int))=(i:Int)+(j:Int):=Hh _ (by (have hf_:=h_l.fit;simp only [QD] at hf_;omega))
 have e2:HW.wrap ((i:Int)+(j:Int))=(i:Int)+(j:Int):=IntWalk.u64_in _ (by omega)
 have e3:((i:Int)+(j:Int)).fdiv (2 ^ 1)=(((i+j) / 2:Nat):Int):=by rw [Int.fdiv_eq_ediv_of_nonneg _ (by decide)];omega
 have e4:Ha.wrap (((i+j) / 2:Nat):Int)=(((i+j) / 2:Nat):Int):=Hh _ (by omega)
 refine Q2 11 (I (((i+j) / 2:Nat):Int)) (show (I (Ha.wrap ((HW.wrap (Ha.wrap ((i:Int)+(j:Int)))).fdiv (2 ^ 1))):Value)=I (((i+j) / 2:Nat):Int) by simp only [e1,e2,e3,e4]) ?_
 clear e4 e3 e2 e1
 refine Jf (Jd (Jc [0,0,0] [(24,Fv k_cmp caps_cmp),(25,Sl a_l l.length c_l),(26,I (((i+j) / 2:Nat):Int))] ?_))
 obtain ⟨b1,o1,rfl⟩:=RS.addr h_l (k:=(i+j) / 2) (by omega)
 obtain ⟨x1,hx1⟩:=Wf (l:=l) (k:=(i+j) / 2) (by omega)
 obtain ⟨_,⟨rfl,w1,w2⟩,hc1⟩:=RS.get h_l hx1
 refine J5 (b:=b1) (off:=o1) (len:=l.length) (cap:=c_l) (ik:=.i64) 27 111 2 ((i+j) / 2) J8 (JZ 28 111 (cs:=[Sr x1.name,Sr x1.value]) 0 (.agg #[Sr x1.name,Sr x1.value]) hc1 (Jc [0] [(29,Sr target)] (ZT (k:=k_cmp) (caps:=caps_cmp) (args:=#[.agg #[Sr x1.name,Sr x1.value],Sr target]) 30 (I (p_cmp x1 target)) hk_cmp (h_cmp [Sr x1.name,Sr x1.value] x1 (⟨rfl,w1,w2⟩) target ‹_›) (Jc [0] [(31,Bo (decide (p_cmp x1 target<0)))] (Je (Jb (Jl (decide (p_cmp x1 target<0)) (fun h2=>?_) (fun h2=>?_))))))))
 exact Jd (Jc [0,0,0] [(9,I (Ha.wrap ((((i+j) / 2:Nat):Int)+1)))] (Kr 9 ((((i+j) / 2:Nat):Int)+1) J8 (Je (JN (Qi ((i+j) / 2+1,j) ⟨(by (try dsimp only);omega),(by (try dsimp only);rw [hn];exact bs_lt J8 hj.2 hx1 ‹_›)⟩ (by (try dsimp only);omega))))))
 exact Jd (Jc [0,0] [(10,I (((i+j) / 2:Nat):Int))] (Je (JN (Qi (i,(i+j) / 2) ⟨(by (try dsimp only);omega),(by (try dsimp only);rw [hn];exact bs_ge J8 hj.2 hx1 J8)⟩ (by (try dsimp only);omega)))))
 refine KW (JY (J9 (JT (Jb (Jf (Jd (Jc [0,0,0,0,0] [(35,I (i:Int)),(39,Bo (decide ((i:Int)<(l.length:Int))))] (QY [39] (decide ((i:Int)<(l.length:Int))) (fun h3=>?_) (fun h3=>?_)))))))))
 refine Jc [0,0,0] [(40,Fv k_cmp caps_cmp),(41,Sl a_l l.length c_l),(42,I (i:Int))] ?_
 obtain ⟨b2,o2,rfl⟩:=RS.addr h_l (k:=i) (by omega)
 obtain ⟨x2,hx2⟩:=Wf (l:=l) (k:=i) (by omega)
 obtain ⟨_,⟨rfl,w3,w4⟩,hc2⟩:=RS.get h_l hx2
 refine J5 (b:=b2) (off:=o2) (len:=l.length) (cap:=c_l) (ik:=.i64) 43 111 2 i J8 (JZ 44 111 (cs:=[Sr x2.name,Sr x2.value]) 0 (.agg #[Sr x2.name,Sr x2.value]) hc2 (Jc [0] [(45,Sr target)] (ZT (k:=k_cmp) (caps:=caps_cmp) (args:=#[.agg #[Sr x2.name,Sr x2.value],Sr target]) 46 (I (p_cmp x2 target)) hk_cmp (h_cmp [Sr x2.name,Sr x2.value] x2 (⟨rfl,w3,w4⟩) target hw_target) (Jc [0,0,0,0] [(6,I (i:Int)),(7,Bo (decide (p_cmp x2 target=0)))] (Je (Jb (Jn (Jo [0,0] [I (i:Int),Bo (decide (p_cmp x2 target=0))] (Jx (Jh _) ?_)))))))))
 have hf_:(bsF l target p_cmp)=((i:Int),(decide (p_cmp x2 target=0))):=by
  unfold bsF;rw [hn,Jnu (by omega)];(simp_all;done)
 · (try rw [hf_]);(simp only [Qx];done)
 refine Jc [1,1,1,1,1,1,1,1,0,0,0] [(6,I (i:Int)),(7,Bo false)] (Je (Jb (Jn (Jo [0,0] [I (i:Int),Bo false] (Jx (Jh _) ?_)))))
 have hf_:(bsF l target p_cmp)=((i:Int),false):=by
  unfold bsF;rw [hn,Jnu (by omega)];(simp_all;done)
 · (try rw [hf_]);(simp only [Qx];done)
theorem Jc2 (G:J4) (a_l:Option Addr) (c_l:Nat) (l:List J2) (h_l:RS QD G a_l c_l l) (name:List UInt8) (hw_name:(name).length≤140737488351232) :Q4 36 #[Sl a_l l.length c_l,Sr name] G (.tuple #[I ((JF l name).1),Bo ((JF l name).2.1),I ((JF l name).2.2)]):=by
 refine JR Tryz.func36 26 [(0,Sl a_l l.length c_l),(1,Sr name)] rfl (fun w0 G0=>?_)
 refine Jg [0,0,0] [] (Jf (Jf (Jd (Jc [0] [(10,Sl a_l l.length c_l)] (Jm 11 (I (Kk l)) (YV G a_l c_l l h_l) (Jc [0] [(7,I (Kk l))] (Je (Jb (Jg [0,0] [(13,Bo (!decide (Kk l=0)))] (Jl (!decide (Kk l=0)) (fun h1=>?_) (fun h1=>?_)))))))))))
 refine Jg [0,0,0,0] [(4,I 0),(5,Bo false),(6,I (Kk l))] (Jn (Jj (Jo [0,0,0] [I 0,Bo false,I (Kk l)] (Jx (Jh _) ?_))))
 have hf_:(JF l name)=(0,false,(Kk l)):=by
  unfold JF;simp_all
 · (try rw [hf_]);(simp only [Qx];done)
 refine Jq (Jb (Jf (Jf (Jd (Jc [0] [(15,Sr name)] (Jm 16 (Bo (KJ name)) (ZN G name) (Jc [0] [(17,Bo (!(KJ name)))] (Je (Jb (Jl (!(KJ name)) (fun h2=>?_) (fun h2=>?_)))))))))))
 refine Jg [0,0,0] [(4,I 0),(5,Bo false),(6,I 3)] (Jn (Jj (Jo [0,0,0] [I 0,Bo false,I 3] (Jx (Jh _) ?_))))
 have hf_:(JF l name)=(0,false,3):=by
  unfold JF;simp_all
 · (try rw [hf_]);(simp only [Qx];done)
 refine Jq (Jb (Jf (Jd (Jc [0,0] [(19,Sl a_l l.length c_l),(20,Sr name)] (Jm 21 (.tuple #[I ((bsF l name (fun x0 x1=>QV x0 x1)).1),Bo ((bsF l name (fun x0 x1=>QV x0 x1)).2)]) (Jo2 G a_l c_l l h_l name hw_name 67 #[] (fun x0 x1=>QV x0 x1) (fun _ _=>by kernel_rfl) (fun vs0 x0 hx0 x1 hx1=>by obtain ⟨rfl,w1,w2⟩:=hx0;exact JjU G [Sr x0.name,Sr x0.value] x0 (⟨rfl,w1,w2⟩) x1 hx1)) (Jc [0,0,0,0,0] [(8,I ((bsF l name (fun x0 x1=>QV x0 x1)).1)),(9,Bo ((bsF l name (fun x0 x1=>QV x0 x1)).2))] (Je (Jb (Jg [0,0,0,0,0] [(4,I ((bsF l name (fun x0 x1=>QV x0 x1)).1)),(5,Bo ((bsF l name (fun x0 x1=>QV x0 x1)).2)),(6,I 0)] (Jn (Jo [0,0,0] [I ((bsF l name (fun x0 x1=>QV x0 x1)).1),Bo ((bsF l name (fun x0 x1=>QV x0 x1)).2),I 0] (Jx (Jh _) ?_))))))))))))
 have hf_:(JF l name)=(((bsF l name (fun x0 x1=>QV x0 x1)).1),((bsF l name (fun x0 x1=>QV x0 x1)).2),0):=by
  unfold JF;simp_all
 · (try rw [hf_]);(simp only [Qx];done)
theorem Jef (G:J4) (a_l:Option Addr) (c_l:Nat) (l:List J2) (h_l:RS QD G a_l c_l l) (name:List UInt8) (hw_name:(name).length≤140737488351232) :Yw 21 #[Sl a_l l.length c_l,Sr name] G [] (fun u G' L'=>u=.tuple #[Sr ((KX l name).1),Bo ((KX l name).2.1),I ((KX l name).2.2)]∧(((KX l name).1).length≤140737488351232)∧L'=[]):=by
 refine JR Tryz.func21 26 [(0,Sl a_l l.length c_l),(1,Sr name)] rfl (fun w0 G0=>?_)
 refine Jg [0,0,0] [] (Jf (Jd (Jc [0,0] [(11,Sl a_l l.length c_l),(12,Sr name)] (Jm 13 (.tuple #[I ((JF l name).1),Bo ((JF l name).2.1),I ((JF l name).2.2)]) (Jc2 G a_l c_l l h_l name hw_name) (Jc [0,0,0,0,0,0,0] [(7,I ((JF l name).1)),(8,Bo ((JF l name).2.1)),(9,I ((JF l name).2.2))] (Je (Jb (Jf (Jg [0,0] [(18,Bo (!((JF l name).2.1)))] (Jl (!((JF l name).2.1)) (fun h1=>?_) (fun h1=>?_)))))))))))
 refine Jg [0,0,0,0] [(4,Sr ([])),(5,Bo false),(6,I ((JF l name).2.2))] (Jn (Jj ?_))
 have hf1:KX l name=([],false,(JF l name).2.2):=by
  unfold KX;(simp_all;done)
 refine Jo [0,0,0] [Sr ([]),Bo false,I ((JF l name).2.2)] (JA [] (Jh _) ?_)
 rw [hf1]
 try dsimp only
 exact ⟨rfl,(Hc rfl),rfl⟩
 refine Jq (Jb (Jf (Jd (Jc [0,0] [(20,Sl a_l l.length c_l),(21,I ((JF l name).1))] ?_))))
 obtain ⟨kn1,hkn1⟩:∃ k_:Nat,(JF l name).1=(k_:Int):=⟨((JF l name).1).toNat,by (have q_:=YD (l:=l) (name:=name) ‹_›;omega)⟩
 have e1:(JF l name).1=(kn1:Int):=hkn1
 refine KU 21 (I (kn1:Int)) (congrArg I e1) ?_
 obtain ⟨b1,o1,rfl⟩:=RS.addr h_l (k:=kn1) (by (have q_:=YD (l:=l) (name:=name) ‹_›;omega))
 obtain ⟨x1,hx1⟩:=Wf (l:=l) (k:=kn1) (by (have q_:=YD (l:=l) (name:=name) ‹_›;omega))
 obtain ⟨_,⟨rfl,_,w2⟩,hc1⟩:=RS.get h_l hx1
 refine J5 (b:=b1) (off:=o1) (len:=l.length) (cap:=c_l) (ik:=.i64) 22 111 2 kn1 (by (have q_:=YD (l:=l) (name:=name) ‹_›;omega)) (Jc [0] [(23,Pt b1 (o1+kn1*2+1))] (JZ 24 9 (cs:=[Sr x1.name,Sr x1.value]) 1 (Sr x1.value) hc1 (Jc [0,0,0,0] [(4,Sr x1.value),(5,Bo true),(6,I ((JF l name).2.2))] (Je (Jb (Jn ?_))))))
 have hf2:KX l name=(x1.value,true,(JF l name).2.2):=by
  unfold KX;(simp_all;done)
 refine Jo [0,0,0] [Sr x1.value,Bo true,I ((JF l name).2.2)] (JA [] (Jh _) ?_)
 rw [hf2]
 try dsimp only
 exact ⟨rfl,w2,rfl⟩
def Yb (l:List J2) (i:Nat) (x:J2):List J2:=l.take i++[x]++l.drop i
theorem Jao {l:List J2} {i:Nat} {x:J2} (h:i≤l.length):(Yb l i x).length=l.length+1:=by unfold Yb;simp;omega
theorem Jnw {l:List J2} {i:Nat} {x:J2} (h:i=l.length):l++[x]=Yb l i x:=by subst h;simp [Yb]
theorem one2 {a b:Value} (ha:a.oneCell'=true) (hb:b.oneCell'=true):∀ u∈[a,b],u.oneCell'=true:=by
 intro u hu
 rcases HC.1 hu with rfl | hu
 · exact ha
 · rw [Hz.1 hu];exact hb
def Zh (l:List J2) (name value:List UInt8):Int:=if (JF l name).2.2 ≠ 0 then (JF l name).2.2 else if KE name value ≠ 0 then KE name value else if (JF l name).2.1=false∧(l.length:Int)=24 then 7 else 0
def Ql (l:List J2) (name value:List UInt8):List J2×Int:=if Zh l name value ≠ 0 then ([],Zh l name value) else (if (JF l name).2.1=true then l.set (JF l name).1.toNat ⟨name,value⟩ else (Yb l (JF l name).1.toNat ⟨[],[]⟩).set (JF l name).1.toNat ⟨name,value⟩,0)
theorem Jnx {l:List J2} {i:Nat} {x y:J2} (h:i≤l.length):(Yb l i x).set i y=Yb l i y:=by
 unfold Yb
 rw [List.append_assoc,List.set_append_right _ _ (by rw [Hg];omega),Hg,HE h,Nat.sub_self]
 simp
theorem Jny {l:List J2} {i:Nat} {x:J2} (h:i≤l.length) (p:Nat):(Yb l i x)[p]? = if p<i then l[p]? else if p=i then some x else l[p-1]?:=by
 unfold Yb
 rw [List.append_assoc]
 by_cases h1:p<i
 · rw [if_pos h1,HD (by rw [Hg];omega),List.getElem?_take,if_pos h1]
 ·
  rw [if_neg h1,HR (by rw [Hg];omega),Hg,HE h]
  by_cases h2:p=i
  · rw [if_pos h2,h2,Nat.sub_self];rfl
  ·
   rw [if_neg h2]
   obtain ⟨m,hm⟩:∃ m,p-i=m+1:=⟨p-i-1,by omega⟩
   rw [hm]
   show (l.drop i)[m]? = _
   rw [HP];congr 1;omega
theorem Jeg {l:List J2} {name:List UInt8} (h:(JF l name).2.2=0):W3 l∧KJ name=true∧JF l name=((bsF l name QV).1,(bsF l name QV).2,0):=by
 unfold JF at h ⊢
 split at h
 · contradiction
 split at h
 · cases h
 ·
  rename_i h1 h2
  rw [if_neg h1,if_neg h2]
  exact ⟨K3.1 (Hl.1 h1),by simpa using h2,rfl⟩
theorem Zi {l:List J2} {name:List UInt8} (h:(JF l name).2.2=0):0≤(JF l name).1∧(JF l name).1≤l.length∧l.length≤24:=by
 obtain ⟨h1,_,h3⟩:=Jeg h
 have:=Jnv (fun x=>QV x name) l
 have:=h1.len
 rw [h3];unfold bsF;simp only;omega
theorem JlZ {l:List J2} {name value:List UInt8} (h:(Ql l name value).2=0):(JF l name).2.2=0∧KE name value=0∧((JF l name).2.1=true∨l.length<24):=by
 have h1:Zh l name value=0:=by
  unfold Ql at h;split at h
  · contradiction
  · rename_i h1;exact Hl.1 h1
 unfold Zh at h1
 by_cases e1:(JF l name).2.2=0
 ·
  rw [if_neg (by omega)] at h1
  by_cases e2:KE name value=0
  ·
   rw [if_neg (by omega)] at h1
   refine ⟨e1,e2,?_⟩
   by_cases e3:(JF l name).2.1=false∧(l.length:Int)=24
   · rw [if_pos e3] at h1;cases h1
   ·
    cases hb:(JF l name).2.1 with
    | true=>exact .inl rfl
    | false =>
     refine .inr ?_
     have:=(Zi e1).2.2
     have:¬ (l.length:Int)=24:=fun hc=>e3 ⟨hb,hc⟩
     omega
  · rw [if_pos e2] at h1;exact absurd h1 e2
 · rw [if_pos e1] at h1;exact absurd h1 e1
theorem Jiv {l:List J2} {name value:List UInt8} (h:¬ (Ql l name value).2=0):(Ql l name value).1=[]:=by
 revert h;unfold Ql;split <;> simp
theorem Y2 {l:List J2} {name value:List UInt8} (h:(Ql l name value).2=0):W3 l∧KJ name=true∧W3 (Ql l name value).1∧(∀ y,y∈(Ql l name value).1 ↔ y=⟨name,value⟩∨(y∈l∧y.name ≠ name)):=by
 obtain ⟨e1,e2,e3⟩:=JlZ h
 obtain ⟨hok,hp,hf⟩:=Jeg e1
 have hs:=Jfm hok name
 have hbd:=Jnv (fun x=>QV x name) l
 have hi:(JF l name).1.toNat=bsI (fun x=>QV x name) l:=by rw [hf];unfold bsF;simp
 have hE:Zh l name value=0:=by
  unfold Ql at h;split at h
  · contradiction
  · rename_i h1;exact Hl.1 h1
 have hval:Ql l name value=(if (JF l name).2.1=true then l.set (JF l name).1.toNat ⟨name,value⟩ else (Yb l (JF l name).1.toNat ⟨[],[]⟩).set (JF l name).1.toNat ⟨name,value⟩,0):=by
  unfold Ql;rw [if_neg (by omega)]
 rw [hval,hi]
 generalize hk:bsI (fun x=>QV x name) l=k at *
 refine ⟨hok,hp,?_⟩
 cases hb:(JF l name).2.1 with
 | true =>
  rw [if_pos rfl]
  have hb2:(bsF l name QV).2=true:=by rw [hf] at hb;exact hb
  obtain ⟨x,hx,hxn⟩:=JjT hb2
  rw [hk] at hx
  have hkl:=(Hb.1 hx).1
  have huni:∀ p y,l[p]? = some y→y.name=name→p=k:=by
   intro p y hy hyn
   rcases Nat.lt_trichotomy p k with hc | hc | hc
   · have:=hok.ord p k y x hc hy hx;rw [hyn,← hxn,ZI.2 rfl] at this;omega
   · exact hc
   · have:=hok.ord k p x y hc hx hy;rw [hyn,hxn,ZI.2 rfl] at this;omega
  refine ⟨⟨by rw [Hx];exact hok.len,fun y hy=>?_,fun p q y z hpq hy hz=>?_⟩,fun y=>?_⟩
  ·
   rcases List.mem_or_eq_of_mem_set hy with hy | rfl
   · exact hok.ok y hy
   · exact e2
  ·
   rw [HI] at hy hz
   have gy:∃ y',l[p]? = some y'∧y'.name=y.name:=by
    split at hy
    ·
     rename_i e;subst e
     (try rw [if_pos hkl] at hy)
     exact ⟨x,hx,by rw [← Hp.inj hy];exact hxn⟩
    · exact ⟨y,hy,rfl⟩
   have gz:∃ z',l[q]? = some z'∧z'.name=z.name:=by
    split at hz
    ·
     rename_i e;subst e
     (try rw [if_pos hkl] at hz)
     exact ⟨x,hx,by rw [← Hp.inj hz];exact hxn⟩
    · exact ⟨z,hz,rfl⟩
   obtain ⟨y',gy1,gy2⟩:=gy
   obtain ⟨z',gz1,gz2⟩:=gz
   rw [← gy2,← gz2];exact hok.ord p q y' z' hpq gy1 gz1
  ·
   constructor
   ·
    intro hy
    obtain ⟨p,hp2⟩:=Hu hy
    rw [HI] at hp2
    split at hp2
    · rename_i e;subst e;(try rw [if_pos hkl] at hp2);exact .inl (Hp.inj hp2).symm
    ·
     rename_i e
     exact .inr ⟨Ho hp2,fun hc=>e (huni p y hp2 hc).symm⟩
   ·
    rintro (rfl | ⟨hy,hne⟩)
    · exact Ho (i:=k) (by rw [HI,if_pos rfl,if_pos hkl])
    ·
     obtain ⟨p,hp2⟩:=Hu hy
     exact Ho (i:=p) (by rw [HI,if_neg (fun e=>hne (by subst e;rw [hx] at hp2;rw [← Hp.inj hp2];exact hxn))];exact hp2)
 | false =>
  rw [if_neg (by simp),Jnx hbd]
  have hb3:(bsF l name QV).2=false:=by rw [hf] at hb;exact hb
  have hb2:¬ (bsF l name QV).2=true:=by rw [hb3];simp
  have hno:∀ y∈l,y.name ≠ name:=fun y hy hc=>hb2 ((Jhx hok name).2 ⟨y,hy,hc⟩)
  have hlt:∀ p y,p<k→l[p]? = some y→Ya y.name name<0:=hs.1
  have hgt:∀ p y,k≤p→l[p]? = some y→Ya name y.name<0:=by
   intro p y hp2 hy
   have h1:=hs.2 p y hp2 hy
   have h2:Ya y.name name ≠ 0:=fun hc=>hno y (Ho hy) (ZI.1 hc)
   exact Jo0.1 (by omega)
  have hl24:l.length<24:=by rcases e3 with e3 | e3;rw [e3] at hb;cases hb;exact e3
  refine ⟨⟨by rw [Jao hbd];omega,fun y hy=>?_,fun p q y z hpq hy hz=>?_⟩,fun y=>?_⟩
  ·
   unfold Yb at hy
   simp only [HF,Hz] at hy
   rcases hy with (hy | rfl) | hy
   · exact hok.ok y (HK hy)
   · exact e2
   · exact hok.ok y (HL hy)
  ·
   rw [Jny hbd] at hy hz
   by_cases p1:p<k
   ·
    rw [if_pos p1] at hy
    by_cases q1:q<k
    · rw [if_pos q1] at hz;exact hok.ord p q y z hpq hy hz
    ·
     rw [if_neg q1] at hz
     by_cases q2:q=k
     · rw [if_pos q2] at hz;rw [← Hp.inj hz];exact hlt p y p1 hy
     · rw [if_neg q2] at hz;exact hok.ord p (q-1) y z (by omega) hy hz
   ·
    rw [if_neg p1] at hy
    rw [if_neg (by omega),if_neg (by omega)] at hz
    by_cases p2:p=k
    · rw [if_pos p2] at hy;rw [← Hp.inj hy];exact hgt (q-1) z (by omega) hz
    · rw [if_neg p2] at hy;exact hok.ord (p-1) (q-1) y z (by omega) hy hz
  ·
   unfold Yb
   simp only [HF,Hz]
   constructor
   ·
    rintro ((hy | rfl) | hy)
    · exact .inr ⟨HK hy,hno y (HK hy)⟩
    · exact .inl rfl
    · exact .inr ⟨HL hy,hno y (HL hy)⟩
   ·
    rintro (rfl | ⟨hy,_⟩)
    · exact .inl (.inr rfl)
    ·
     rw [← HX k l] at hy
     rcases HF.1 hy with hy | hy
     · exact .inl (.inl hy)
     · exact .inr hy
theorem Jfn {l:List J2} (h:W3 l) {x:J2} (hx:x∈l) (hp:KJ x.name=true):KX l x.name=(x.value,true,0):=by
 have hb:(bsF l x.name QV).2=true:=(Jhx h x.name).2 ⟨x,hx,rfl⟩
 have hf:JF l x.name=((bsF l x.name QV).1,true,0):=by
  unfold JF;rw [if_neg (by have:=K3.2 h;omega),if_neg (by rw [hp];simp),hb]
 obtain ⟨y,hy,hyn⟩:=JjT hb
 have hyx:y=x:=by
  obtain ⟨p,hp2⟩:=Hu hx
  have:=(Hb.1 hy).1
  rcases Nat.lt_trichotomy p (bsI (fun z=>QV z x.name) l) with hc | hc | hc
  · have:=h.ord _ _ x y hc hp2 hy;rw [hyn,ZI.2 rfl] at this;omega
  · rw [← hc,hp2] at hy;exact (Hp.inj hy).symm
  · have:=h.ord _ _ y x hc hy hp2;rw [hyn,ZI.2 rfl] at this;omega
 unfold KX
 rw [hf,if_neg (by simp)]
 unfold bsF
 simp only [HS]
 rw [hy,hyx];rfl
theorem JjV {l:List J2} (h:W3 l) {m:List UInt8} (hp:KJ m=true) (hn:∀ y∈l,y.name ≠ m):KX l m=([],false,0):=by
 have hb:(bsF l m QV).2=false:=by
  cases hb:(bsF l m QV).2 with
  | false=>rfl
  | true=>obtain ⟨y,hy,e⟩:=(Jhx h m).1 hb;exact absurd e (hn y hy)
 have hf:JF l m=((bsF l m QV).1,false,0):=by
  unfold JF;rw [if_neg (by have:=K3.2 h;omega),if_neg (by rw [hp];simp),hb]
 unfold KX;rw [hf,if_pos rfl]
theorem Jiw (l:List J2) (name value:List UInt8):(Ql l name value).1.length≤24:=by
 by_cases h:(Ql l name value).2=0
 · exact (Y2 h).2.2.1.len
 · rw [Jiv h];simp
theorem Jl0 {l:List J2} {name value:List UInt8} (h:¬ (JF l name).2.2=0):Ql l name value=([],(JF l name).2.2):=by
 have:Zh l name value=(JF l name).2.2:=by unfold Zh;rw [if_pos h]
 unfold Ql;rw [if_pos (by omega),this]
theorem Jl1 {l:List J2} {name value:List UInt8} (h0:(JF l name).2.2=0) (h:¬ KE name value=0):Ql l name value=([],KE name value):=by
 have:Zh l name value=KE name value:=by unfold Zh;rw [if_neg (by omega),if_pos h]
 unfold Ql;rw [if_pos (by omega),this]
theorem Jl2 {l:List J2} {name value:List UInt8} (h0:(JF l name).2.2=0) (h1:KE name value=0) (h:(JF l name).2.1=false∧(l.length:Int)=24):Ql l name value=([],7):=by
 have:Zh l name value=7:=by unfold Zh;rw [if_neg (by omega),if_neg (by omega),if_pos h]
 unfold Ql;rw [if_pos (by omega),this]
theorem Jl3 {l:List J2} {name value:List UInt8} {k:Nat} (h0:(JF l name).2.2=0) (h1:KE name value=0) (h:(JF l name).2.1=true) (hk:(JF l name).1=(k:Int)):Ql l name value=(l.set k ⟨name,value⟩,0):=by
 have:Zh l name value=0:=by unfold Zh;rw [if_neg (by omega),if_neg (by omega),if_neg (by rw [h];simp)]
 unfold Ql;rw [if_neg (by omega),if_pos h,hk,HS]
theorem Jl4 {l:List J2} {name value:List UInt8} {k:Nat} (h0:(JF l name).2.2=0) (h1:KE name value=0) (h:(JF l name).2.1=false) (h2:(JF l name).2.1=false→¬ (l.length:Int)=24) (hk:(JF l name).1=(k:Int)):Ql l name value=((Yb l k ⟨[],[]⟩).set k ⟨name,value⟩,0):=by
 have:Zh l name value=0:=by unfold Zh;rw [if_neg (by omega),if_neg (by omega),if_neg (fun hc=>h2 hc.1 hc.2)]
 unfold Ql;rw [if_neg (by omega),if_neg (by rw [h];simp),hk,HS]
set_option maxRecDepth 4000 in
theorem JgJ (G:J4) (a:Option Addr) (c:Nat) (l:List J2) (r:List Kh) (hr:J1 QD G a c l r) (bv:Nat) (x:J2) (hx0:(x.name).length≤140737488351232) (hx1:(x.value).length≤140737488351232) (i:Nat) (hi:i≤l.length) (hsm:l.length≤1000):Jg7 Tryz.prog 212 #[Sl a l.length c,I (i:Int),Sl (At bv 0) 1 1] G [r,[Vb 111 bv 0 [Sr x.name,Sr x.value]]] (fun u G' L'=>∃ a' c' r',u=Sl a' (Yb l i x).length c'∧J1 QD G' a' c' (Yb l i x) r'∧L'=[r']):=by
 intro Lr
 have hlc:=J1.lec hr
 have hcm:=J1.mx hr
 refine JR Tryz.func212 95 [(0,Sl a l.length c),(1,I (i:Int)),(2,Sl (At bv 0) 1 1)] rfl (fun w0 G0=>?_)
 show TC _ _ _ _ _ (r::[Vb 111 bv 0 [Sr x.name,Sr x.value]]::Lr)
 refine Jg [0] [] (Jf (Jd (Jc [0,0] [(10,Sl a l.length c),(11,I (i:Int))] (JmY (a:=a) (len:=l.length) (cap:=c) 12 2 (some (I (i:Int))) none i l.length (.inr ⟨_,rfl⟩) (.inl ⟨rfl,rfl⟩) hi hlc (fun a9=>Je (Jb (Jg [0,0,0] [(7,I (1:Int))] (Jf (Jg [0,0] [(16,Bo (decide ((1:Int)=0)))] (Jl (decide ((1:Int)=0)) (fun h1=>?_) (fun h1=>?_)))))))))))
 exfalso;omega
 refine Jq (Jb (Jg [0,0,0] [(8,I (l.length:Int))] (Jf (Jg [0,0,0] [(22,Bo (decide ((i:Int)=(l.length:Int))))] (Jl (decide ((i:Int)=(l.length:Int))) (fun h2=>?_) (fun h2=>?_))))))
 refine JdB 1 (Jf (Jd (Jc [0,0] [(23,Sl a l.length c),(24,Sl (At bv 0) 1 1)] (Qy (b:=bv) (cs:=[Sr x.name,Sr x.value]) 25 111 0 1 (E:=QD) x hr ⟨rfl,‹_›,‹_›⟩ J8 (by simp only [QD];omega) (fun a1 c1 r1 hr1=>Jc [0] [(6,Sl a1 ((l++[x]).length) c1)] (Je (Jb (Jn (Jj ?_)))))))))
 have e_:l++[x]=Yb l i x:=Jnw (by omega)
 have en_:(l++[x]).length=(Yb l i x).length:=by (rw [Jao hi];(try simp only [Hd,He,Hf]) <;> omega)
 exact Jo [0] [Sl a1 ((l++[x]).length) c1] (KT (Lr:=Lr) [r1] (Jh _) (⟨_,_,_,congrArg (fun n=>Sl a1 n c1) en_,(by rw [← e_];exact hr1),rfl⟩))
 refine Jq (Jb (Jf ?_))
 obtain ⟨b,off,css,spare,rfl,rfl,hc1,hc2,hc3,hsp,_,hmax,hone⟩:=J1.opened hr (by omega)
 refine Jg [0,0,0,0,0,0] [(31,Bo (decide (Ha.wrap ((l.length:Int)+(1:Int)) > (c:Int))))] ?_
 have e1:Ha.wrap ((l.length:Int)+(1:Int))=(l.length:Int)+(1:Int):=Hh _ (by omega)
 refine Q2 31 (Bo (decide ((l.length:Int)+(1:Int) > (c:Int)))) (show (Bo (decide (Ha.wrap ((l.length:Int)+(1:Int)) > (c:Int))):Value)=Bo (decide ((l.length:Int)+(1:Int) > (c:Int))) by simp only [e1]) ?_
 clear e1
 refine Jl (decide ((l.length:Int)+(1:Int) > (c:Int))) (fun h3=>?_) (fun h3=>?_)
 refine JdB 1 (Jf (Jd (Jc [0,0] [(32,Sl (At b off) l.length c),(33,I (i:Int))] (JbV (b:=b) (off:=off) (len:=l.length) (cap:=c) 34 2 (some (I (i:Int))) i (.inr ⟨_,rfl⟩) J8 (Jc [0,0,0,0,0] [(39,I (Ha.wrap ((Ha.wrap ((l.length:Int)+(1:Int)))-(i:Int))))] ?_)))))
 have e2:Ha.wrap ((l.length:Int)+(1:Int))=(l.length:Int)+(1:Int):=Hh _ (by omega)
 have e3:Ha.wrap (((l.length:Int)+(1:Int))-(i:Int))=((l.length+1-i:Nat):Int):=(Hh _ (by omega)).trans (show ((l.length:Int)+(1:Int))-(i:Int)=((l.length+1-i:Nat):Int) by omega)
 refine KU 39 (I ((l.length+1-i:Nat):Int)) (show (I (Ha.wrap ((Ha.wrap ((l.length:Int)+(1:Int)))-(i:Int))):Value)=I ((l.length+1-i:Nat):Int) by simp only [e2,e3]) ?_
 clear e3 e2
 refine JjB (b:=b) (off:=off) (cap:=c) (F:=(css.flatten++spare)) 40 0 111 2 32 (l.length+1-i) i J8 J8 J8 (by rw [Hd,QO hc3,hc1];simp only [QD];omega) J8 (fun b9 c9 zs hz1 hz2 hz3=>Jc [0] [(9,Sl (At b9 0) (i+(l.length+1-i)) c9)] (Je (Jb (Jf (Jd (Jc [0,0] [(41,Sl (At b9 0) (i+(l.length+1-i)) c9),(42,I (i:Int))] (Vh (b:=b9) (off:=0) (len:=(i+(l.length+1-i))) (cap:=c9) 43 2 (some (I (i:Int))) none i (i+(l.length+1-i)) (.inr ⟨_,rfl⟩) (.inl ⟨rfl,rfl⟩) J8 J8 J8 (Jc [0] [(44,Sl (At bv 0) 1 1)] (VI (b:=b9) (off:=0) (p:=(i*2)) (nd:=(i+(l.length+1-i)-i)) (cd:=(c9-i)) (bs:=bv) (os:=0) (ns:=1) (cs:=1) (F:=((css.flatten++spare).take (i*2)++zs)) 45 0 2 [Sr x.name,Sr x.value] (by rw [show H2 1 (i+(l.length+1-i)-i)=1 from by simp only [HY];split <;> omega];rfl) (by rw [hz3];simp only [He,Hf];omega) (one2 rfl rfl) (.inr ⟨2,0,[Sr x.name,Sr x.value],0,rfl,rfl,fun j v hv=>by rw [H3];exact hv⟩) (Je (Jb (Jf ?_))))))))))))
 have e4:Ha.wrap ((i:Int)+(1:Int))=((i+1:Nat):Int):=(Hh _ (by omega)).trans (show (i:Int)+(1:Int)=((i+1:Nat):Int) by omega)
 refine Kp [8] (Wl [(0,Sl (At b9 0) (i+(l.length+1-i)) c9),(1,I (i:Int)),(2,I (1:Int)),(3,I ((i+1:Nat):Int)),(4,Sl (At b9 (0+(i+1)*2)) ((i+(l.length+1-i))-(i+1)) (c9-(i+1))),(5,Sl (At b off) l.length c),(6,I (i:Int)),(7,Sl (At b (off+i*2)) (l.length-i) (c-i))] (JK [] [(0,0),(1,0),(2,0),(5,0),(6,0)] [3,4,7] [8] (Ki ?_ (Ki ?_ (Ki ?_ K8))) (Ki ?_ K8)))
 refine Jt 3 49 (I ((i+1:Nat):Int)) [(47,I (i:Int)),(48,I (1:Int))] (fun X=>?_)
 exact KV 49 (I (Ha.wrap ((i:Int)+(1:Int)))) (I ((i+1:Nat):Int)) (by simp only [e4]) Jp
 refine Jt 4 50 (Sl (At b9 (0+(i+1)*2)) ((i+(l.length+1-i))-(i+1)) (c9-(i+1))) [(46,Sl (At b9 0) (i+(l.length+1-i)) c9),(49,I ((i+1:Nat):Int))] (fun X=>?_)
 exact Vh (b:=b9) (off:=0) (len:=(i+(l.length+1-i))) (cap:=c9) 50 2 (some (I ((i+1:Nat):Int))) none (i+1) (i+(l.length+1-i)) (.inr ⟨_,rfl⟩) (.inl ⟨rfl,rfl⟩) J8 J8 J8 Jp
 refine Jt 7 53 (Sl (At b (off+i*2)) (l.length-i) (c-i)) [(51,Sl (At b off) l.length c),(52,I (i:Int))] (fun X=>?_)
 exact Vh (b:=b) (off:=off) (len:=l.length) (cap:=c) 53 2 (some (I (i:Int))) none i l.length (.inr ⟨_,rfl⟩) (.inl ⟨rfl,rfl⟩) J8 J8 J8 Jp
 refine JC 8 [(50,Sl (At b9 (0+(i+1)*2)) ((i+(l.length+1-i))-(i+1)) (c9-(i+1))),(53,Sl (At b (off+i*2)) (l.length-i) (c-i))] (fun X=>?_)
 refine VI (b:=b9) (off:=0) (p:=((i+1)*2)) (nd:=(i+(l.length+1-i)-(i+1))) (cd:=(c9-(i+1))) (bs:=b) (os:=(off+i*2)) (ns:=(l.length-i)) (cs:=(c-i)) (F:=(QP ((css.flatten++spare).take (i*2)++zs) (i*2) [Sr x.name,Sr x.value])) 54 0 2 (css.drop i).flatten (by rw [ZL hc3,hc1,show H2 (l.length-i) (i+(l.length+1-i)-(i+1))=l.length-i from by simp only [HY];split <;> omega];rfl) (by rw [ZS (by rw [hz3];simp only [He,Hf];omega),hz3,ZL hc3,hc1];simp only [QD];omega) (JkM i hone) (.inr ⟨1,off,(css.flatten++spare),i*2,rfl,rfl,JkO (sz:=2) hc3 J8⟩) (JD [(8,I ((H2 (l.length-i) (i+(l.length+1-i)-(i+1)):Nat):Int))] (Km [0,1,2,3,4,5,6,7] [] [] [(9,Sl (At b9 0) (i+(l.length+1-i)) c9)] (Hi _) (Jb (Jg [0,0] [(6,Sl (At b9 0) (i+(l.length+1-i)) c9)] (Jn (Jj ?_))))))
 have en_:i+(l.length+1-i)=(Yb l i x).length:=by (rw [Jao hi];(try simp only [Hd,He,Hf]) <;> omega)
 exact Jo [0] [Sl (At b9 0) (i+(l.length+1-i)) c9] (KT (Lr:=Lr) [[Sg b9 0 (QP (QP ((css.flatten++spare).take (i*2)++zs) (i*2) [Sr x.name,Sr x.value]) ((i+1)*2) (css.drop i).flatten)]] (Jh _) (⟨_,_,_,congrArg (fun n=>Sl (At b9 0) n c9) en_,(J1.insG (spare:=spare) i hi hc1 hc2 ⟨rfl,hx0,hx1⟩ hz3 J8 hz2),rfl⟩))
 refine Jq (Jb (Jf (Jd (Jc [0,0,0,0] [(56,Sl (At b off) l.length c),(59,I (Ha.wrap ((l.length:Int)+(1:Int))))] ?_))))
 have e5:Ha.wrap ((l.length:Int)+(1:Int))=((l.length+1:Nat):Int):=(Hh _ (by omega)).trans (show (l.length:Int)+(1:Int)=((l.length+1:Nat):Int) by omega)
 refine KU 59 (I ((l.length+1:Nat):Int)) (congrArg I e5) ?_
 clear e5
 refine JbV (b:=b) (off:=off) (len:=l.length) (cap:=c) 60 2 (some (I ((l.length+1:Nat):Int))) (l.length+1) (.inr ⟨_,rfl⟩) J8 (Jc [0] [(0,Sl (At b off) (l.length+1) c)] (Je (Jb (Jf (Jf (Jd (Jc [0,0,0,0,0] [(61,Sl (At bv 0) 1 1),(62,Sl (At b off) (l.length+1) c),(65,I (Ha.wrap ((i:Int)+(1:Int))))] ?_)))))))
 have e6:Ha.wrap ((i:Int)+(1:Int))=((i+1:Nat):Int):=(Hh _ (by omega)).trans (show (i:Int)+(1:Int)=((i+1:Nat):Int) by omega)
 refine KU 65 (I ((i+1:Nat):Int)) (congrArg I e6) ?_
 clear e6
 refine Vh (b:=b) (off:=off) (len:=(l.length+1)) (cap:=c) 66 2 (some (I ((i+1:Nat):Int))) none (i+1) (l.length+1) (.inr ⟨_,rfl⟩) (.inl ⟨rfl,rfl⟩) J8 J8 J8 ?_
 refine JlI (f:=249) (args:=#[Sl (At bv 0) 1 1,Sl (At b (off+(i+1)*2)) ((l.length+1)-(i+1)) (c-(i+1))]) 67 (Bo false) (fun w hw=>?_) ?_
 rw [run_callFunc_extern (e:=Extern.SlicesOverlaps.overlaps #[44,44] #[4]) Tryz.func249 (by kernel_rfl) (by kernel_rfl) (by kernel_rfl) (by kernel_rfl),JlJ hw (i:=1) (j:=0) rfl (by simp) rfl (by rw [Hd,QO hc3,hc1,hsp];simp only [QD];omega) (by decide) 44 4 111 2 (by kernel_rfl) (fun w=>by kernel_rfl)]
 rfl
 refine Jc [0] [(68,Bo true)] (Je (Jb (JW (JdB 1 (Jf ?_)))))
 have e7:Ha.wrap ((i:Int)+(1:Int))=((i+1:Nat):Int):=(Hh _ (by omega)).trans (show (i:Int)+(1:Int)=((i+1:Nat):Int) by omega)
 refine Kp [8] (Wl [(0,Sl (At b off) (l.length+1) c),(1,I (i:Int)),(2,I (1:Int)),(3,I ((i+1:Nat):Int)),(4,Sl (At b (off+(i+1)*2)) ((l.length+1)-(i+1)) (c-(i+1))),(5,Sl (At b off) (l.length+1) c),(6,I (i:Int)),(7,Sl (At b (off+i*2)) ((l.length+1)-i) (c-i))] (JK [] [(0,0),(1,0),(2,0),(5,0),(6,0)] [3,4,7] [8] (Ki ?_ (Ki ?_ (Ki ?_ K8))) (Ki ?_ K8)))
 refine Jt 3 72 (I ((i+1:Nat):Int)) [(70,I (i:Int)),(71,I (1:Int))] (fun X=>?_)
 exact KV 72 (I (Ha.wrap ((i:Int)+(1:Int)))) (I ((i+1:Nat):Int)) (by simp only [e7]) Jp
 refine Jt 4 73 (Sl (At b (off+(i+1)*2)) ((l.length+1)-(i+1)) (c-(i+1))) [(69,Sl (At b off) (l.length+1) c),(72,I ((i+1:Nat):Int))] (fun X=>?_)
 exact Vh (b:=b) (off:=off) (len:=(l.length+1)) (cap:=c) 73 2 (some (I ((i+1:Nat):Int))) none (i+1) (l.length+1) (.inr ⟨_,rfl⟩) (.inl ⟨rfl,rfl⟩) J8 J8 J8 Jp
 refine Jt 7 76 (Sl (At b (off+i*2)) ((l.length+1)-i) (c-i)) [(74,Sl (At b off) (l.length+1) c),(75,I (i:Int))] (fun X=>?_)
 exact Vh (b:=b) (off:=off) (len:=(l.length+1)) (cap:=c) 76 2 (some (I (i:Int))) none i (l.length+1) (.inr ⟨_,rfl⟩) (.inl ⟨rfl,rfl⟩) J8 J8 J8 Jp
 refine JC 8 [(73,Sl (At b (off+(i+1)*2)) ((l.length+1)-(i+1)) (c-(i+1))),(76,Sl (At b (off+i*2)) ((l.length+1)-i) (c-i))] (fun X=>?_)
 refine VI (b:=b) (off:=off) (p:=((i+1)*2)) (nd:=(l.length+1-(i+1))) (cd:=(c-(i+1))) (bs:=b) (os:=(off+i*2)) (ns:=(l.length+1-i)) (cs:=(c-i)) (F:=(css.flatten++spare)) 77 0 2 (css.drop i).flatten (by rw [ZL hc3,hc1,show H2 (l.length+1-i) (l.length+1-(i+1))=l.length-i from by simp only [HY];split <;> omega];rfl) (by rw [Hd,QO hc3,hc1,hsp];simp only [QD];rw [ZL hc3,hc1];simp only [QD];omega) (JkM i hone) (.inr ⟨0,off,(css.flatten++spare),i*2,rfl,rfl,JkO (sz:=2) hc3 J8⟩) (JD [(8,I ((H2 (l.length+1-i) (l.length+1-(i+1)):Nat):Int))] (Km [0,1,2,3,4,5,6,7] [] [] [(0,Sl (At b off) (l.length+1) c),(1,I (i:Int)),(2,Sl (At bv 0) 1 1)] (Hi _) (Jb (Jf (Jd (Jc [0,0] [(78,Sl (At b off) (l.length+1) c),(79,I (i:Int))] (Vh (b:=b) (off:=off) (len:=(l.length+1)) (cap:=c) 80 2 (some (I (i:Int))) none i (l.length+1) (.inr ⟨_,rfl⟩) (.inl ⟨rfl,rfl⟩) J8 J8 J8 (Jc [0] [(81,Sl (At bv 0) 1 1)] (VI (b:=b) (off:=off) (p:=(i*2)) (nd:=(l.length+1-i)) (cd:=(c-i)) (bs:=bv) (os:=0) (ns:=1) (cs:=1) (F:=(QP (css.flatten++spare) ((i+1)*2) (css.drop i).flatten)) 82 0 2 [Sr x.name,Sr x.value] (by rw [show H2 1 (l.length+1-i)=1 from by simp only [HY];split <;> omega];rfl) (by rw [ZS (by rw [Hd,QO hc3,hc1,hsp];simp only [QD];rw [ZL hc3,hc1];simp only [QD];omega)];rw [Hd,QO hc3,hc1,hsp];simp only [QD];simp only [He,Hf];omega) (one2 rfl rfl) (.inr ⟨1,0,[Sr x.name,Sr x.value],0,rfl,rfl,fun j v hv=>by rw [H3];exact hv⟩) (Je (Jb (Jg [0,0] [(6,Sl (At b off) (l.length+1) c)] (Jn (Jj ?_))))))))))))))
 have en_:l.length+1=(Yb l i x).length:=by (rw [Jao hi];done)
 exact Jo [0] [Sl (At b off) (l.length+1) c] (KT (Lr:=Lr) [[Sg b off (QP (QP (css.flatten++spare) ((i+1)*2) (css.drop i).flatten) (i*2) [Sr x.name,Sr x.value])]] (Jh _) (⟨_,_,_,congrArg (fun n=>Sl (At b off) n c) en_,(J1.insP i hi hc1 hc2 ⟨rfl,hx0,hx1⟩ hsp J8 hcm),rfl⟩))
set_option maxRecDepth 20000 in
theorem Jix (G:J4) (a_l:Option Addr) (c_l:Nat) (l:List J2) (h_l:RS QD G a_l c_l l) (name:List UInt8) (hw_name:(name).length≤140737488351232) (value:List UInt8) (hw_value:(value).length≤140737488351232) :Yw 165 #[Sl a_l l.length c_l,Sr name,Sr value] G [] (fun u G' L'=>∃ (a1:Option Addr) (c2:Nat) (r3:List Kh),u=.tuple #[Sl a1 (((Ql l name value).1).length) c2,I ((Ql l name value).2)]∧(J1 QD G' a1 c2 ((Ql l name value).1) r3)∧L'=[r3]):=by
 refine JR Tryz.func165 52 [(0,Sl a_l l.length c_l),(1,Sr name),(2,Sr value)] rfl (fun w0 G0=>?_)
 refine Jg [0,0] [] (Jf (Jd (Jc [0,0] [(13,Sl a_l l.length c_l),(14,Sr name)] (Jm 15 (.tuple #[I ((JF l name).1),Bo ((JF l name).2.1),I ((JF l name).2.2)]) (Jc2 G a_l c_l l h_l name hw_name) (Jc [0,0,0,0,0,0,0] [(8,I ((JF l name).1)),(9,Bo ((JF l name).2.1)),(10,I ((JF l name).2.2))] (Je (Jb (Jf (Jg [0,0] [(20,Bo (decide ((JF l name).2.2=0)))] (Jl (decide ((JF l name).2.2=0)) (fun h1=>?_) (fun h1=>?_)))))))))))
 refine Jd (Jc [0,0] [(21,Sr name),(22,Sr value)] (Jm 23 (I (KE name value)) (Jce G name value) (Jc [0] [(10,I (KE name value))] (Je (Jb (Jf (Jy (Jg [0,0,0] [(24,Bo (!decide (KE name value=0)))] (Jl (!decide (KE name value=0)) (fun h2=>?_) (fun h2=>?_))))))))))
 refine Jg [0,0,0] [(6,Sl none 0 0),(7,I (KE name value))] (Jn (Js (Jj (Zy (Jk 0 ?_)))))
 have hf1:Ql l name value=([],KE name value):=by
  exact Jl1 ‹_› ‹_›
 refine Jo [0,0] [Sl none 0 0,I (KE name value)] (JA [[]] (Jh _) ?_)
 rw [hf1]
 try dsimp only
 exact ⟨none,0,([]),rfl,(J1.none QD _),rfl⟩
 refine Jf (Jd (Jc [0,0,0] [(31,Bo (!((JF l name).2.1)))] (Ks (!((JF l name).2.1)) [31] [0,0,0,0] [1,1,1,0] (fun bb=>[(35,Bo (bb && (decide ((l.length:Int)=24))))]) (Jc [0] [(28,Bo ((!((JF l name).2.1)) && (decide ((l.length:Int)=24))))] (Je (Jb (Jl ((!((JF l name).2.1)) && (decide ((l.length:Int)=24))) (fun h3=>?_) (fun h3=>?_))))))))
 refine Jg [0,0] [(6,Sl none 0 0),(7,I 7)] (Jn (Js (Jj (Zy (Jk 0 ?_)))))
 have hf2:Ql l name value=([],7):=by
  exact Jl2 ‹_› ‹_› ‹_›
 refine Jo [0,0] [Sl none 0 0,I 7] (JA [[]] (Jh _) ?_)
 rw [hf2]
 try dsimp only
 exact ⟨none,0,([]),rfl,(J1.none QD _),rfl⟩
 refine Jq (JN (Jb (Jf (Jd (Jc [0] [(36,Sl a_l l.length c_l)] (JI 37 (YA G a_l c_l l h_l) (fun v G1 L1 hl1 hp=>?_)))))))
 obtain ⟨a1,c1,r1,rfl,hr1,rfl⟩:=hp
 refine Jc [0] [(11,Sl a1 l.length c1)] (Je (Jb (Jf (Jg [0,0] [(39,Bo (!((JF l name).2.1)))] (Jl (!((JF l name).2.1)) (fun h4=>?_) (fun h4=>?_))))))
 refine Jd (Jc [0,0,0] [(40,Sl a1 l.length c1),(41,I ((JF l name).1)),(42,.agg #[Sr ([]),Sr ([])])] (JgA 43 1 #[Sr ([]),Sr ([])] 111 (fun b1=>?_)))
 obtain ⟨kn1,hkn1⟩:∃ k_:Nat,(JF l name).1=(k_:Int):=⟨((JF l name).1).toNat,by (have q_:=Zi (l:=l) (name:=name) ‹_›;omega)⟩
 have e1:(JF l name).1=(kn1:Int):=hkn1
 refine KU 8 (I (kn1:Int)) (congrArg I e1) (KU 41 (I (kn1:Int)) (congrArg I e1) (Jw 0 (Jw 1 (Qp (Ls:=[r1,[Vb 111 b1 0 [Sr ([]),Sr ([])]]]) (Lr:=[]) 44 (JgJ G1 a1 c1 l r1 hr1 b1 (⟨[],[]⟩:J2) (Hc rfl) (Hc rfl) kn1 (by (have q_:=Zi (l:=l) (name:=name) ‹_›;omega)) (by (have q_:=Zi (l:=l) (name:=name) ‹_›;omega))) (fun v G2 L1 hl2 hp=>?_)))))
 obtain ⟨a2,c2,_,rfl,hr2,rfl⟩:=hp
 refine Jc [0] [(11,Sl a2 ((Yb l kn1 (⟨[],[]⟩:J2)).length) c2)] (Je (Jb (Jf (Jd (Jc [0,0,0,0,0] [(45,Sl a2 ((Yb l kn1 (⟨[],[]⟩:J2)).length) c2),(46,I (kn1:Int)),(49,.agg #[Sr name,Sr value])] ?_)))))
 obtain ⟨_,hx1⟩:=Wf (l:=Yb l kn1 (⟨[],[]⟩:J2)) (k:=kn1) (by (have q_:=Zi (l:=l) (name:=name) ‹_›;(rw [Jao (by omega)];omega)))
 obtain ⟨b2,o1,_,_,⟨rfl,_,_⟩,ha1,_,_⟩:=J1.ix hr2 hx1
 refine QK (b:=b2) (off:=o1) (len:=(Yb l kn1 (⟨[],[]⟩:J2)).length) (cap:=c2) (ik:=.i64) 50 111 2 kn1 ha1 (by (have q_:=Zi (l:=l) (name:=name) ‹_›;(rw [Jao (by omega)];omega))) (YT (b:=b2) (off:=o1) 0 hr2 kn1 (⟨name,value⟩:J2) ha1 (by (have q_:=Zi (l:=l) (name:=name) ‹_›;(rw [Jao (by omega)];omega))) (.agg #[Sr name,Sr value]) [Sr name,Sr value] ⟨rfl,hw_name,hw_value⟩ (fun r3 hr3=>?_))
 have e2:(Yb l kn1 (⟨[],[]⟩:J2)).length=((Yb l kn1 (⟨[],[]⟩:J2)).set kn1 (⟨name,value⟩:J2)).length:=(Hx ..).symm
 refine KU 11 (Sl a2 (((Yb l kn1 (⟨[],[]⟩:J2)).set kn1 (⟨name,value⟩:J2)).length) c2) (congrArg (Sl a2 · c2) e2) (Je (Jb (Jg [0,0,0] [(6,Sl a2 (((Yb l kn1 (⟨[],[]⟩:J2)).set kn1 (⟨name,value⟩:J2)).length) c2),(7,I 0)] (Jn (Jk 0 ?_)))))
 have hf3:Ql l name value=((Yb l kn1 (⟨[],[]⟩:J2)).set kn1 (⟨name,value⟩:J2),0):=by
  exact Jl4 ‹_› ‹_› ‹_› ‹_› ‹_›
 refine Jo [0,0] [Sl a2 (((Yb l kn1 (⟨[],[]⟩:J2)).set kn1 (⟨name,value⟩:J2)).length) c2,I 0] (JA [r3] (Ja hl1 hl2) ?_)
 rw [hf3]
 try dsimp only
 exact ⟨a2,c2,r3,rfl,hr3,rfl⟩
 refine Jq (Jb (Jf (Jd (Jc [0,0,0,0,0] [(45,Sl a1 l.length c1),(46,I ((JF l name).1)),(49,.agg #[Sr name,Sr value])] ?_))))
 obtain ⟨kn2,hkn2⟩:∃ k_:Nat,(JF l name).1=(k_:Int):=⟨((JF l name).1).toNat,by (have q_:=Zi (l:=l) (name:=name) ‹_›;omega)⟩
 have e3:(JF l name).1=(kn2:Int):=hkn2
 refine KU 46 (I (kn2:Int)) (congrArg I e3) ?_
 obtain ⟨_,hx2⟩:=Wf (l:=l) (k:=kn2) (by (have q_:=Zi (l:=l) (name:=name) ‹_›;(have q1_:=YD (l:=l) (name:=name) ‹_›;omega)))
 obtain ⟨b3,o2,_,_,⟨rfl,_,_⟩,ha2,_,_⟩:=J1.ix hr1 hx2
 refine QK (b:=b3) (off:=o2) (len:=l.length) (cap:=c1) (ik:=.i64) 50 111 2 kn2 ha2 (by (have q_:=Zi (l:=l) (name:=name) ‹_›;(have q1_:=YD (l:=l) (name:=name) ‹_›;omega))) (YT (b:=b3) (off:=o2) 0 hr1 kn2 (⟨name,value⟩:J2) ha2 (by (have q_:=Zi (l:=l) (name:=name) ‹_›;(have q1_:=YD (l:=l) (name:=name) ‹_›;omega))) (.agg #[Sr name,Sr value]) [Sr name,Sr value] ⟨rfl,hw_name,hw_value⟩ (fun r4 hr4=>?_))
 have e4:l.length=(l.set kn2 (⟨name,value⟩:J2)).length:=(Hx ..).symm
 refine KU 11 (Sl a1 ((l.set kn2 (⟨name,value⟩:J2)).length) c1) (congrArg (Sl a1 · c1) e4) (Je (Jb (Jg [0,0,0] [(6,Sl a1 ((l.set kn2 (⟨name,value⟩:J2)).length) c1),(7,I 0)] (Jn (Jk 0 ?_)))))
 have hf4:Ql l name value=(l.set kn2 (⟨name,value⟩:J2),0):=by
  exact Jl3 ‹_› ‹_› ‹_› ‹_›
 refine Jo [0,0] [Sl a1 ((l.set kn2 (⟨name,value⟩:J2)).length) c1,I 0] (JA [r4] hl1 ?_)
 rw [hf4]
 try dsimp only
 exact ⟨a1,c1,r4,rfl,hr4,rfl⟩
 refine Jq (Jb (Jf (Jy (Jg [0,0,0] [(24,Bo (!decide ((JF l name).2.2=0)))] (Jl (!decide ((JF l name).2.2=0)) (fun h5=>?_) (fun h5=>?_))))))
 refine Jg [0,0,0] [(6,Sl none 0 0),(7,I ((JF l name).2.2))] (Jn (Js (Jj (Zy (Jk 0 ?_)))))
 have hf5:Ql l name value=([],(JF l name).2.2):=by
  exact Jl0 ‹_›
 refine Jo [0,0] [Sl none 0 0,I ((JF l name).2.2)] (JA [[]] (Jh _) ?_)
 rw [hf5]
 try dsimp only
 exact ⟨none,0,([]),rfl,(J1.none QD _),rfl⟩
 refine Jf (Jd (Jc [0,0,0] [(31,Bo (!((JF l name).2.1)))] (Ks (!((JF l name).2.1)) [31] [0,0,0,0] [1,1,1,0] (fun bb=>[(35,Bo (bb && (decide ((l.length:Int)=24))))]) (Jc [0] [(28,Bo ((!((JF l name).2.1)) && (decide ((l.length:Int)=24))))] (Je (Jb (Jl ((!((JF l name).2.1)) && (decide ((l.length:Int)=24))) (fun h6=>?_) (fun h6=>?_))))))))
 refine Jg [0,0] [(6,Sl none 0 0),(7,I 7)] (Jn (Js (Jj (Zy (Jk 0 ?_)))))
 have hf6:Ql l name value=([],7):=by
  (exfalso;omega)
 refine Jo [0,0] [Sl none 0 0,I 7] (JA [[]] (Jh _) ?_)
 rw [hf6]
 try dsimp only
 exact ⟨none,0,([]),rfl,(J1.none QD _),rfl⟩
 refine Jq (JN (Jb (Jf (Jd (Jc [0] [(36,Sl a_l l.length c_l)] (JI 37 (YA G a_l c_l l h_l) (fun v G3 L1 hl3 hp=>?_)))))))
 obtain ⟨a3,c3,r5,rfl,hr5,rfl⟩:=hp
 refine Jc [0] [(11,Sl a3 l.length c3)] (Je (Jb (Jf (Jg [0,0] [(39,Bo (!((JF l name).2.1)))] (Jl (!((JF l name).2.1)) (fun h7=>?_) (fun h7=>?_))))))
 refine Jd (Jc [0,0,0] [(40,Sl a3 l.length c3),(41,I ((JF l name).1)),(42,.agg #[Sr ([]),Sr ([])])] (JgA 43 1 #[Sr ([]),Sr ([])] 111 (fun b4=>?_)))
 obtain ⟨kn3,hkn3⟩:∃ k_:Nat,(JF l name).1=(k_:Int):=⟨((JF l name).1).toNat,by omega⟩
 have e5:(JF l name).1=(kn3:Int):=hkn3
 refine KU 8 (I (kn3:Int)) (congrArg I e5) (KU 41 (I (kn3:Int)) (congrArg I e5) (Jw 0 (Jw 1 (Qp (Ls:=[r5,[Vb 111 b4 0 [Sr ([]),Sr ([])]]]) (Lr:=[]) 44 (JgJ G3 a3 c3 l r5 hr5 b4 (⟨[],[]⟩:J2) (Hc rfl) (Hc rfl) kn3 J8 J8) (fun v G4 L1 hl4 hp=>?_)))))
 obtain ⟨a4,c4,_,rfl,hr6,rfl⟩:=hp
 refine Jc [0] [(11,Sl a4 ((Yb l kn3 (⟨[],[]⟩:J2)).length) c4)] (Je (Jb (Jf (Jd (Jc [0,0,0,0,0] [(45,Sl a4 ((Yb l kn3 (⟨[],[]⟩:J2)).length) c4),(46,I (kn3:Int)),(49,.agg #[Sr name,Sr value])] ?_)))))
 obtain ⟨_,hx3⟩:=Wf (l:=Yb l kn3 (⟨[],[]⟩:J2)) (k:=kn3) (by omega)
 obtain ⟨b5,o3,_,_,⟨rfl,_,_⟩,ha3,_,_⟩:=J1.ix hr6 hx3
 refine QK (b:=b5) (off:=o3) (len:=(Yb l kn3 (⟨[],[]⟩:J2)).length) (cap:=c4) (ik:=.i64) 50 111 2 kn3 ha3 J8 (YT (b:=b5) (off:=o3) 0 hr6 kn3 (⟨name,value⟩:J2) ha3 J8 (.agg #[Sr name,Sr value]) [Sr name,Sr value] ⟨rfl,hw_name,hw_value⟩ (fun r7 hr7=>?_))
 have e6:(Yb l kn3 (⟨[],[]⟩:J2)).length=((Yb l kn3 (⟨[],[]⟩:J2)).set kn3 (⟨name,value⟩:J2)).length:=(Hx ..).symm
 refine KU 11 (Sl a4 (((Yb l kn3 (⟨[],[]⟩:J2)).set kn3 (⟨name,value⟩:J2)).length) c4) (congrArg (Sl a4 · c4) e6) (Je (Jb (Jg [0,0,0] [(6,Sl a4 (((Yb l kn3 (⟨[],[]⟩:J2)).set kn3 (⟨name,value⟩:J2)).length) c4),(7,I 0)] (Jn (Jk 0 ?_)))))
 have hf7:Ql l name value=((Yb l kn3 (⟨[],[]⟩:J2)).set kn3 (⟨name,value⟩:J2),0):=by
  (exfalso;omega)
 refine Jo [0,0] [Sl a4 (((Yb l kn3 (⟨[],[]⟩:J2)).set kn3 (⟨name,value⟩:J2)).length) c4,I 0] (JA [r7] (Ja hl3 hl4) ?_)
 rw [hf7]
 try dsimp only
 exact ⟨a4,c4,r7,rfl,hr7,rfl⟩
 refine Jq (Jb (Jf (Jd (Jc [0,0,0,0,0] [(45,Sl a3 l.length c3),(46,I ((JF l name).1)),(49,.agg #[Sr name,Sr value])] ?_))))
 obtain ⟨kn4,hkn4⟩:∃ k_:Nat,(JF l name).1=(k_:Int):=⟨((JF l name).1).toNat,by omega⟩
 have e7:(JF l name).1=(kn4:Int):=hkn4
 refine KU 46 (I (kn4:Int)) (congrArg I e7) ?_
 obtain ⟨_,hx4⟩:=Wf (l:=l) (k:=kn4) (by omega)
 obtain ⟨b6,o4,_,_,⟨rfl,_,_⟩,ha4,_,_⟩:=J1.ix hr5 hx4
 refine QK (b:=b6) (off:=o4) (len:=l.length) (cap:=c3) (ik:=.i64) 50 111 2 kn4 ha4 J8 (YT (b:=b6) (off:=o4) 0 hr5 kn4 (⟨name,value⟩:J2) ha4 J8 (.agg #[Sr name,Sr value]) [Sr name,Sr value] ⟨rfl,hw_name,hw_value⟩ (fun r8 hr8=>?_))
 have e8:l.length=(l.set kn4 (⟨name,value⟩:J2)).length:=(Hx ..).symm
 refine KU 11 (Sl a3 ((l.set kn4 (⟨name,value⟩:J2)).length) c3) (congrArg (Sl a3 · c3) e8) (Je (Jb (Jg [0,0,0] [(6,Sl a3 ((l.set kn4 (⟨name,value⟩:J2)).length) c3),(7,I 0)] (Jn (Jk 0 ?_)))))
 have hf8:Ql l name value=(l.set kn4 (⟨name,value⟩:J2),0):=by
  (exfalso;omega)
 refine Jo [0,0] [Sl a3 ((l.set kn4 (⟨name,value⟩:J2)).length) c3,I 0] (JA [r8] hl3 ?_)
 rw [hf8]
 try dsimp only
 exact ⟨a3,c3,r8,rfl,hr8,rfl⟩
def isB (b:UInt8):Bool:=b == 48 || b == 49
def Yr (c:Int):Bool:=decide (c=48) || decide (c=49)
theorem JaA (b:UInt8):Yr (b.toNat:Int)=isB b:=by
 have e1:((b.toNat:Int)=48) ↔ b=48:=⟨fun h=>UInt8.toNat_inj.1 (by have q:b.toNat=48:=(by omega);simpa using q),fun h=>by subst h;rfl⟩
 have e2:((b.toNat:Int)=49) ↔ b=49:=⟨fun h=>UInt8.toNat_inj.1 (by have q:b.toNat=49:=(by omega);simpa using q),fun h=>by subst h;rfl⟩
 unfold Yr isB;rw [HG];simp [e1,e2]
def VM (s:List UInt8):List UInt8:=s.dropWhile isB
def YE (s:List UInt8):List UInt8:=(s.reverse.dropWhile isB).reverse
def Ja1 (s:List UInt8):List UInt8:=VM (YE s)
theorem JjW {s:List UInt8} {y:UInt8} (h:s[0]? = some y) (hb:isB y=true):VM s=VM (s.drop 1):=by
 cases s with
 | nil=>cases h
 | cons x r=>simp at h;subst h;simp [VM,Hv,hb]
theorem Jl5 {s:List UInt8} {y:UInt8} (h:s[0]? = some y) (hb:isB y=false):VM s=s:=by
 cases s with
 | nil=>cases h
 | cons x r=>simp at h;subst h;simp [VM,Hv,hb]
theorem Jk3 {s:List UInt8} {y:UInt8} (h:s[s.length-1]? = some y):s=s.take (s.length-1)++[y]:=by
 obtain ⟨hl,e⟩:=Hb.1 h
 have:=HX (s.length-1) s
 rw [Hj hl,e,Hq (by omega)] at this
 exact this.symm
theorem JjX {s:List UInt8} {y:UInt8} (h:s[s.length-1]? = some y) (hb:isB y=true):YE s=YE (s.take (s.length-1)):=by
 have e:=Jk3 h
 generalize hr:s.take (s.length-1)=r at *
 rw [e];unfold YE;rw [List.reverse_append];simp [Hv,hb]
theorem Jl6 {s:List UInt8} {y:UInt8} (h:s[s.length-1]? = some y) (hb:isB y=false):YE s=s:=by
 have e:=Jk3 h
 generalize hr:s.take (s.length-1)=r at *
 rw [e];unfold YE;rw [List.reverse_append];simp [Hv,hb]
theorem Jnz {s:List UInt8} (h:((s.length:Nat):Int)≤0):s=[]:=List.eq_nil_of_length_eq_zero (by omega)
theorem Jl7 {s:List UInt8} (h:((s.length:Nat):Int)≤0):VM s=s:=by rw [Jnz h];rfl
theorem Jl8 {s:List UInt8} (h:((s.length:Nat):Int)≤0):YE s=s:=by rw [Jnz h];rfl
theorem JaK {p:UInt8→Bool}:∀ {s:List UInt8},s.dropWhile p=[] ↔ ∀ b∈s,p b=true
 | []=>by simp
 | x::r=>by
  rw [Hv]
  split
  · rename_i h;rw [JaK];simp [h]
  · rename_i h;simp [h]
theorem JbG {p:UInt8→Bool}:∀ {s:List UInt8} {x:UInt8},(s.dropWhile p).head? = some x→p x=false
 | [],_,h=>by cases h
 | y::r,x,h=>by
  rw [Hv] at h
  split at h
  · exact JbG h
  · rename_i hy;simp at h;subst h;simpa using hy
theorem JgK {s:List UInt8}:Ja1 s=[] ↔ ∀ b∈s,isB b=true:=by
 unfold Ja1 VM
 rw [JaK]
 constructor
 ·
  intro h
  by_cases e:s.reverse.dropWhile isB=[]
  · rw [JaK] at e;simpa using e
  ·
   exfalso
   obtain ⟨x,hx⟩:∃ x,(s.reverse.dropWhile isB).head? = some x:=by
    cases hh:s.reverse.dropWhile isB with
    | nil=>exact absurd hh e
    | cons x r=>exact ⟨x,rfl⟩
   have h1:=JbG hx
   have h2:x∈YE s:=by unfold YE;rw [HT];exact List.mem_of_mem_head? hx
   rw [h x h2] at h1;cases h1
 ·
  intro h b hb
  unfold YE at hb
  rw [HT] at hb
  exact h b (HT.1 ((HV _).subset hb))
theorem Jl9 (s:List UInt8):(YE s).length≤s.length:=by
 unfold YE;rw [List.length_reverse];have:=(HV (p:=isB) (l:=s.reverse)).length_le;rw [List.length_reverse] at this;exact this
def JdM:List Value:=(List.range 256).map fun (j:Nat)=>Bo (Yr (j:Int))
theorem JnA {k:Nat} (hk:k<256):JdM[k]? = some (Bo (Yr (k:Int))):=by
 unfold JdM;simp [hk]
theorem asc_at {G:J4} {b k:Nat} {cs:List Value} (hz:∀ j v,cs[j]? = some v→G b (0+j)=some v) (hc:cs=JdM) (hk:k<256):∀ j v,[Bo (Yr (k:Int))][j]? = some v→G b (0+k*1+j)=some v:=by
 intro j v hv
 cases j with
 | zero =>
  simp at hv;subst hv hc
  have:=hz k _ (JnA hk)
  rw [Nat.mul_one,Nat.add_zero];exact this
 | succ j=>simp at hv
set_option maxRecDepth 4000 in
theorem JjY (G:J4):Vp Tryz.prog 236 #[Sr [48,49]] G [] (fun u G' L'=>u=.tuple #[.agg JdM.toArray,Bo true]):=by
 refine JR Tryz.func236 21 [(0,Sr ([48,49]))] rfl (fun w0 G0=>?_)
 refine Jf (Jd (Jv 2 #[Bo false,Bo false,Bo false,Bo false,Bo false,Bo false,Bo false,Bo false,Bo false,Bo false,Bo false,Bo false,Bo false,Bo false,Bo false,Bo false,Bo false,Bo false,Bo false,Bo false,Bo false,Bo false,Bo false,Bo false,Bo false,Bo false,Bo false,Bo false,Bo false,Bo false,Bo false,Bo false,Bo false,Bo false,Bo false,Bo false,Bo false,Bo false,Bo false,Bo false,Bo false,Bo false,Bo false,Bo false,Bo false,Bo false,Bo false,Bo false,Bo false,Bo false,Bo false,Bo false,Bo false,Bo false,Bo false,Bo false,Bo false,Bo false,Bo false,Bo false,Bo false,Bo false,Bo false,Bo false,Bo false,Bo false,Bo false,Bo false,Bo false,Bo false,Bo false,Bo false,Bo false,Bo false,Bo false,Bo false,Bo false,Bo false,Bo false,Bo false,Bo false,Bo false,Bo false,Bo false,Bo false,Bo false,Bo false,Bo false,Bo false,Bo false,Bo false,Bo false,Bo false,Bo false,Bo false,Bo false,Bo false,Bo false,Bo false,Bo false,Bo false,Bo false,Bo false,Bo false,Bo false,Bo false,Bo false,Bo false,Bo false,Bo false,Bo false,Bo false,Bo false,Bo false,Bo false,Bo false,Bo false,Bo false,Bo false,Bo false,Bo false,Bo false,Bo false,Bo false,Bo false,Bo false,Bo false,Bo false,Bo false,Bo false,Bo false,Bo false,Bo false,Bo false,Bo false,Bo false,Bo false,Bo false,Bo false,Bo false,Bo false,Bo false,Bo false,Bo false,Bo false,Bo false,Bo false,Bo false,Bo false,Bo false,Bo false,Bo false,Bo false,Bo false,Bo false,Bo false,Bo false,Bo false,Bo false,Bo false,Bo false,Bo false,Bo false,Bo false,Bo false,Bo false,Bo false,Bo false,Bo false,Bo false,Bo false,Bo false,Bo false,Bo false,Bo false,Bo false,Bo false,Bo false,Bo false,Bo false,Bo false,Bo false,Bo false,Bo false,Bo false,Bo false,Bo false,Bo false,Bo false,Bo false,Bo false,Bo false,Bo false,Bo false,Bo false,Bo false,Bo false,Bo false,Bo false,Bo false,Bo false,Bo false,Bo false,Bo false,Bo false,Bo false,Bo false,Bo false,Bo false,Bo false,Bo false,Bo false,Bo false,Bo false,Bo false,Bo false,Bo false,Bo false,Bo false,Bo false,Bo false,Bo false,Bo false,Bo false,Bo false,Bo false,Bo false,Bo false,Bo false,Bo false,Bo false,Bo false,Bo false,Bo false,Bo false,Bo false,Bo false,Bo false,Bo false,Bo false,Bo false,Bo false,Bo false,Bo false,Bo false,Bo false,Bo false,Bo false,Bo false,Bo false,Bo false,Bo false,Bo false,Bo false,Bo false,Bo false] 316 (fun b1=>Jc [0] [] (Je (Jb (Jf (Jg [0] [(4,I 0)] (Jy (Jdv 3 (Wr (Jf (Jg [0,0,0,0] [(9,Bo true)] (JW (Jq (Jb (Jf (Jy (Jg [0,0,0,0] [(5,Y 48)] (Jf ?_)))))))))))))))))))
 refine Jg [0,0] [(16,Bo false)] (Qq (Jq (Jb (Jd (JV [0,0,3] [] [[Sg b1 0 [Bo false,Bo false,Bo false,Bo false,Bo false,Bo false,Bo false,Bo false,Bo false,Bo false,Bo false,Bo false,Bo false,Bo false,Bo false,Bo false,Bo false,Bo false,Bo false,Bo false,Bo false,Bo false,Bo false,Bo false,Bo false,Bo false,Bo false,Bo false,Bo false,Bo false,Bo false,Bo false,Bo false,Bo false,Bo false,Bo false,Bo false,Bo false,Bo false,Bo false,Bo false,Bo false,Bo false,Bo false,Bo false,Bo false,Bo false,Bo false,Bo true,Bo false,Bo false,Bo false,Bo false,Bo false,Bo false,Bo false,Bo false,Bo false,Bo false,Bo false,Bo false,Bo false,Bo false,Bo false,Bo false,Bo false,Bo false,Bo false,Bo false,Bo false,Bo false,Bo false,Bo false,Bo false,Bo false,Bo false,Bo false,Bo false,Bo false,Bo false,Bo false,Bo false,Bo false,Bo false,Bo false,Bo false,Bo false,Bo false,Bo false,Bo false,Bo false,Bo false,Bo false,Bo false,Bo false,Bo false,Bo false,Bo false,Bo false,Bo false,Bo false,Bo false,Bo false,Bo false,Bo false,Bo false,Bo false,Bo false,Bo false,Bo false,Bo false,Bo false,Bo false,Bo false,Bo false,Bo false,Bo false,Bo false,Bo false,Bo false,Bo false,Bo false,Bo false,Bo false,Bo false,Bo false,Bo false,Bo false,Bo false,Bo false,Bo false,Bo false,Bo false,Bo false,Bo false,Bo false,Bo false,Bo false,Bo false,Bo false,Bo false,Bo false,Bo false,Bo false,Bo false,Bo false,Bo false,Bo false,Bo false,Bo false,Bo false,Bo false,Bo false,Bo false,Bo false,Bo false,Bo false,Bo false,Bo false,Bo false,Bo false,Bo false,Bo false,Bo false,Bo false,Bo false,Bo false,Bo false,Bo false,Bo false,Bo false,Bo false,Bo false,Bo false,Bo false,Bo false,Bo false,Bo false,Bo false,Bo false,Bo false,Bo false,Bo false,Bo false,Bo false,Bo false,Bo false,Bo false,Bo false,Bo false,Bo false,Bo false,Bo false,Bo false,Bo false,Bo false,Bo false,Bo false,Bo false,Bo false,Bo false,Bo false,Bo false,Bo false,Bo false,Bo false,Bo false,Bo false,Bo false,Bo false,Bo false,Bo false,Bo false,Bo false,Bo false,Bo false,Bo false,Bo false,Bo false,Bo false,Bo false,Bo false,Bo false,Bo false,Bo false,Bo false,Bo false,Bo false,Bo false,Bo false,Bo false,Bo false,Bo false,Bo false,Bo false,Bo false,Bo false,Bo false,Bo false,Bo false,Bo false,Bo false,Bo false,Bo false,Bo false,Bo false,Bo false,Bo false,Bo false,Bo false,Bo false,Bo false,Bo false,Bo false,Bo false,Bo false]]] (Je (JN (Jb (Jd (Jc [0,0,0] [(4,I 1)] (Je (WH (Wr (Jf (Jg [0,0,0,0] [(9,Bo true)] (JW (Jq (Jb (Jf (Jy ?_))))))))))))))))))))
 refine Jg [0,0,0,0] [(5,Y 49)] (Jf (Jg [0,0] [(16,Bo false)] (Qq (Jq (Jb (Jd (JV [0,0,3] [] [[Sg b1 0 JdM]] (Je (JN (Jb (Jd (Jc [0,0,0] [(4,I 2)] (Je (WH (Wr (Jf (Jg [0,0,0,0] [(9,Bo false)] (Qq ?_))))))))))))))))))
 refine KW (JY (JY (JT (Jb (Jg [2,3,0] [(3,Bo true)] (Jn (Jo [0,0] [.agg JdM.toArray,Bo true] (Jx (Jh _) ?_))))))))
 rfl
theorem Jfo (G:J4) (b_as:Nat) (hz_as:∀ j v,(JdM:List Value)[j]? = some v→G b_as (0+j)=some v) (c:Int) (hw_c:0≤c∧c<256) :Q4 260 #[Pt b_as 0,Y c] G (Bo (Yr c)):=by
 refine JR Tryz.func260 10 [(0,Pt b_as 0),(1,Y c)] rfl (fun w0 G0=>?_)
 refine Jg [0] [] (Jf (Jd (Jc [0,0,0] [(6,Y c),(7,Pt b_as 0)] ?_)))
 obtain ⟨kn1,hkn1⟩:∃ k_:Nat,c=(k_:Int):=⟨(c).toNat,by omega⟩
 have e1:c=(kn1:Int):=hkn1
 refine KU 6 (Y (kn1:Int)) (congrArg Y e1) (JlB (b:=b_as) (off:=0) (ik:=.u8) 8 4 1 256 kn1 J8 (JZ (o':=0+kn1*1) 9 4 (cs:=[Bo (Yr (kn1:Int))]) 0 (Bo (Yr (kn1:Int))) (asc_at hz_as rfl J8) (Jc [0] [(4,Bo (Yr (kn1:Int)))] (Je (Jb (Jn (Jo [0] [Bo (Yr (kn1:Int))] (Jx (Jh _) (congrArg Bo (?_:(Yr c)=(Yr (kn1:Int))).symm)))))))))
 rw [hkn1]
theorem Jma (G:J4) (s:List UInt8) (hw_s:(s).length≤140737488351232) (b_as:Nat) (hz_as:∀ j v,(JdM:List Value)[j]? = some v→G b_as (0+j)=some v) :Q4 237 #[Sr s,Pt b_as 0] G (Sr (VM s)):=by
 refine JR Tryz.func237 16 [(0,Sr s),(1,Pt b_as 0)] rfl (fun w0 G0=>?_)
 refine Jg [0] [] (Jf (Jy ?_))
 refine Qh (σ:=List UInt8) (fun q_=>(q_.length≤140737488351232)∧(VM s=VM q_)) (fun q_=>[(0,Sr q_),(1,Pt b_as 0)]) (fun q_=>G) (fun q_=>[]) (fun q_=>q_.length) s ⟨hw_s,rfl⟩ (fun q_ hs=>?_)
 revert hs;revert q_;intro t hs
 obtain ⟨ht,hn⟩:=hs
 dsimp only
 refine Jf (Jg [0,0,0] [(7,Bo (decide (((t).length:Int) > 0)))] (Jl (decide (((t).length:Int) > 0)) (fun h1=>?_) (fun h1=>?_)))
 refine Jq (Jb (Jy (Jf (Jf (Jd (Jc [0,0] [(8,Pt b_as 0),(9,Sr t)] ?_))))))
 obtain ⟨y1,hy1⟩:=Wf (l:=t) (k:=0) (by omega)
 have hb_y1:=y1.toNat_lt
 refine JaW (ik:=.i64) 10 0 y1 hy1 (Jm 11 (Bo (Yr (y1.toNat:Int))) (Jfo G b_as hz_as (y1.toNat:Int) J8) (Jc [0] [(12,Bo (!(Yr (y1.toNat:Int))))] (Je (Jb (Jl (!(Yr (y1.toNat:Int))) (fun h2=>?_) (fun h2=>?_))))))
 refine KW (JY (Vg rfl (J9 (JT (Jb (Jg [0,0] [(4,Sr t)] (Jn (Jo [0] [Sr t] (Jx (Jh _) (congrArg Sr (?_:(VM s)=t).symm))))))))))
 rw [hn];exact Jl5 hy1 (by simp_all [JaA])
 exact Jq (Jb (Jd (Jc [0] [(13,Sr t)] (JlC (l:=t) 14 (some (I 1)) none 1 0 (.inr ⟨_,rfl⟩) (.inl ⟨rfl,rfl⟩) J8 (Jc [0] [(0,Sr (t.drop 1))] (Je (JN (Qi (t.drop 1) ⟨(by (try dsimp only);(try simp only [Hy,Hg]);omega),(by (try dsimp only);rw [hn];exact JjW hy1 (by simp_all [JaA]))⟩ (by (try dsimp only);(try simp only [Hy,Hg]);omega)))))))))
 refine KW (JY (J9 (JT (Jb (Jg [0,0] [(4,Sr t)] (Jn (Jo [0] [Sr t] (Jx (Jh _) (congrArg Sr (?_:(VM s)=t).symm)))))))))
 rw [hn];exact Jl7 (by omega)
theorem Jmb (G:J4) (s:List UInt8) (hw_s:(s).length≤140737488351232) (b_as:Nat) (hz_as:∀ j v,(JdM:List Value)[j]? = some v→G b_as (0+j)=some v) :Q4 238 #[Sr s,Pt b_as 0] G (Sr (YE s)):=by
 refine JR Tryz.func238 22 [(0,Sr s),(1,Pt b_as 0)] rfl (fun w0 G0=>?_)
 refine Jg [0] [] (Jf (Jy ?_))
 refine Qh (σ:=List UInt8) (fun q_=>(q_.length≤140737488351232)∧(YE s=YE q_)) (fun q_=>[(0,Sr q_),(1,Pt b_as 0)]) (fun q_=>G) (fun q_=>[]) (fun q_=>q_.length) s ⟨hw_s,rfl⟩ (fun q_ hs=>?_)
 revert hs;revert q_;intro t hs
 obtain ⟨ht,hn⟩:=hs
 dsimp only
 refine Jf (Jg [0,0,0] [(7,Bo (decide (((t).length:Int) > 0)))] (Jl (decide (((t).length:Int) > 0)) (fun h1=>?_) (fun h1=>?_)))
 refine Jq (Jb (Jy (Jf (Jf (Jd (Jc [0,0,0,0,0] [(8,Pt b_as 0),(9,Sr t),(12,I (Ha.wrap (((t).length:Int)-1)))] ?_))))))
 have e1:Ha.wrap (((t).length:Int)-1)=((t.length-1:Nat):Int):=(Hh _ (by omega)).trans (show ((t).length:Int)-1=((t.length-1:Nat):Int) by omega)
 refine KU 12 (I ((t.length-1:Nat):Int)) (congrArg I e1) ?_
 clear e1
 obtain ⟨y1,hy1⟩:=Wf (l:=t) (k:=t.length-1) (by omega)
 have hb_y1:=y1.toNat_lt
 refine JaW (ik:=.i64) 13 (t.length-1) y1 hy1 (Jm 14 (Bo (Yr (y1.toNat:Int))) (Jfo G b_as hz_as (y1.toNat:Int) J8) (Jc [0] [(15,Bo (!(Yr (y1.toNat:Int))))] (Je (Jb (Jl (!(Yr (y1.toNat:Int))) (fun h2=>?_) (fun h2=>?_))))))
 refine KW (JY (Vg rfl (J9 (JT (Jb (Jg [0,0] [(4,Sr t)] (Jn (Jo [0] [Sr t] (Jx (Jh _) (congrArg Sr (?_:(YE s)=t).symm))))))))))
 rw [hn];exact Jl6 hy1 (by simp_all [JaA])
 refine Jq (Jb (Jd (Jc [0,0,0,0] [(16,Sr t),(19,I (Ha.wrap (((t).length:Int)-1)))] ?_)))
 have e2:Ha.wrap (((t).length:Int)-1)=((t.length-1:Nat):Int):=(Hh _ (by omega)).trans (show ((t).length:Int)-1=((t.length-1:Nat):Int) by omega)
 refine KU 19 (I ((t.length-1:Nat):Int)) (congrArg I e2) ?_
 clear e2
 exact JdA (l:=t) 20 none (some (I ((t.length-1:Nat):Int))) 0 (t.length-1) (.inl ⟨rfl,rfl⟩) (.inr ⟨_,rfl⟩) (Hr _) J8 (Jc [0] [(0,Sr (t.take (t.length-1)))] (Je (JN (Qi (t.take (t.length-1)) ⟨(by (try dsimp only);(try simp only [Hy,Hg]);omega),(by (try dsimp only);rw [hn];exact JjX hy1 (by simp_all [JaA]))⟩ (by (try dsimp only);(try simp only [Hy,Hg]);omega)))))
 refine KW (JY (J9 (JT (Jb (Jg [0,0] [(4,Sr t)] (Jn (Jo [0] [Sr t] (Jx (Jh _) (congrArg Sr (?_:(YE s)=t).symm)))))))))
 rw [hn];exact Jl8 (by omega)
theorem Jmc (G:J4) (s:List UInt8) (hw_s:(s).length≤140737488351232) :Q4 199 #[Sr s,Sr ([48,49])] G (Sr (Ja1 s)):=by
 refine JR Tryz.func199 43 [(0,Sr s),(1,Sr ([48,49]))] rfl (fun w0 G0=>?_)
 refine Jg [0] [] (Jf (Jf (Jd (Jc [0,0,0] [(9,Bo ((B s).toList == (B ([])).toList))] (KU 9 (Bo (s == [])) (show (Bo ((B s).toList == (B ([])).toList):Value)=Bo (s == []) by simp only [Q3]) (Ks (s == []) [9] [1,1,0] [0,0,0] (fun bb=>[(12,Bo (bb || false))]) (Je (Jb (Jl ((s == []) || false) (fun h1=>?_) (fun h1=>?_))))))))))
 refine Jg [0,0] [(4,Sr s)] (Jn (Jj (Jo [0] [Sr s] (Jx (Jh _) (congrArg Sr (?_:(Ja1 s)=s).symm)))))
 (simp_all;rfl)
 refine Jq (Jb (Jf (Jg [0,0,0,0,1,1,1,0] [(21,Bo false)] (Qq (Jq (Jb (Jf (Jf (Jd (Jc [0] [(30,Sr ([48,49]))] (Jm 31 (.tuple #[.agg JdM.toArray,Bo true]) (JjY G) (Jc [0,0,0] [(32,.agg JdM.toArray),(33,Bo true)] (Jv 5 #[Bo false,Bo false,Bo false,Bo false,Bo false,Bo false,Bo false,Bo false,Bo false,Bo false,Bo false,Bo false,Bo false,Bo false,Bo false,Bo false,Bo false,Bo false,Bo false,Bo false,Bo false,Bo false,Bo false,Bo false,Bo false,Bo false,Bo false,Bo false,Bo false,Bo false,Bo false,Bo false,Bo false,Bo false,Bo false,Bo false,Bo false,Bo false,Bo false,Bo false,Bo false,Bo false,Bo false,Bo false,Bo false,Bo false,Bo false,Bo false,Bo false,Bo false,Bo false,Bo false,Bo false,Bo false,Bo false,Bo false,Bo false,Bo false,Bo false,Bo false,Bo false,Bo false,Bo false,Bo false,Bo false,Bo false,Bo false,Bo false,Bo false,Bo false,Bo false,Bo false,Bo false,Bo false,Bo false,Bo false,Bo false,Bo false,Bo false,Bo false,Bo false,Bo false,Bo false,Bo false,Bo false,Bo false,Bo false,Bo false,Bo false,Bo false,Bo false,Bo false,Bo false,Bo false,Bo false,Bo false,Bo false,Bo false,Bo false,Bo false,Bo false,Bo false,Bo false,Bo false,Bo false,Bo false,Bo false,Bo false,Bo false,Bo false,Bo false,Bo false,Bo false,Bo false,Bo false,Bo false,Bo false,Bo false,Bo false,Bo false,Bo false,Bo false,Bo false,Bo false,Bo false,Bo false,Bo false,Bo false,Bo false,Bo false,Bo false,Bo false,Bo false,Bo false,Bo false,Bo false,Bo false,Bo false,Bo false,Bo false,Bo false,Bo false,Bo false,Bo false,Bo false,Bo false,Bo false,Bo false,Bo false,Bo false,Bo false,Bo false,Bo false,Bo false,Bo false,Bo false,Bo false,Bo false,Bo false,Bo false,Bo false,Bo false,Bo false,Bo false,Bo false,Bo false,Bo false,Bo false,Bo false,Bo false,Bo false,Bo false,Bo false,Bo false,Bo false,Bo false,Bo false,Bo false,Bo false,Bo false,Bo false,Bo false,Bo false,Bo false,Bo false,Bo false,Bo false,Bo false,Bo false,Bo false,Bo false,Bo false,Bo false,Bo false,Bo false,Bo false,Bo false,Bo false,Bo false,Bo false,Bo false,Bo false,Bo false,Bo false,Bo false,Bo false,Bo false,Bo false,Bo false,Bo false,Bo false,Bo false,Bo false,Bo false,Bo false,Bo false,Bo false,Bo false,Bo false,Bo false,Bo false,Bo false,Bo false,Bo false,Bo false,Bo false,Bo false,Bo false,Bo false,Bo false,Bo false,Bo false,Bo false,Bo false,Bo false,Bo false,Bo false,Bo false,Bo false,Bo false,Bo false,Bo false,Bo false,Bo false,Bo false,Bo false,Bo false,Bo false,Bo false,Bo false,Bo false,Bo false,Bo false,Bo false,Bo false,Bo false] 316 (fun b1=>JV [3,0] [(6,Bo true)] [[Sg b1 0 JdM]] (Je (Jb (Jg [0] [(34,Bo true)] (JW ?_))))))))))))))))))
 refine Jf (Jd (Jc [0] [(35,Sr s)] (QZ (b:=b1) (o:=0) (cs:=JdM) 0 (fun G1 hl1 hz1=>Jm 36 (Sr (YE s)) (Jmb G1 s ‹_› b1 hz1) (Jm 37 (Sr (VM (YE s))) (Jma G1 (YE s) (Hm (Jl9 s) hw_s) b1 hz1) (Jc [0] [(4,Sr (VM (YE s)))] (Je (Jb (Jn (Jj (Jo [0] [Sr (VM (YE s))] (Jx hl1 (congrArg Sr (?_:(Ja1 s)=(VM (YE s))).symm)))))))))))))
 rfl
theorem JjZ (G:J4) (s:List UInt8) (q:List UInt8) :Q4 263 #[Sr s,Sr q] G (Bo (decide (q <+: s))):=by
 refine JR Tryz.func263 18 [(0,Sr s),(1,Sr q)] rfl (fun w0 G0=>?_)
 refine Jg [0] [] (Jf (Jd (Jc [0,0,0,0,0,0] [(10,Bo (decide (((s).length:Int) ≥ ((q).length:Int))))] (QY [10] (decide (((s).length:Int) ≥ ((q).length:Int))) (fun h1=>?_) (fun h1=>?_)))))
 refine Jc [0,0,0] [(11,Sr s),(13,I ((q).length:Int))] (JdA (l:=s) 14 none (some (I ((q).length:Int))) 0 ((q).length) (.inl ⟨rfl,rfl⟩) (.inr ⟨_,rfl⟩) (Hr _) J8 (Jc [0,0,0,0] [(4,Bo ((B (s.take ((q).length))).toList == (B q).toList))] (KU 4 (Bo (s.take ((q).length) == q)) (show (Bo ((B (s.take ((q).length))).toList == (B q).toList):Value)=Bo (s.take ((q).length) == q) by simp only [Q3]) (Je (Jb (Jn (Jo [0] [Bo (s.take ((q).length) == q)] (Jx (Jh _) (congrArg Bo (?_:(decide (q <+: s))=(s.take ((q).length) == q)).symm)))))))))
 (rw [HG];simp only [decide_eq_true_eq,beq_iff_eq,List.prefix_iff_eq_take];exact eq_comm)
 refine Jc [1,1,1,1,1,1,0,0] [(4,Bo false)] (Je (Jb (Jn (Jo [0] [Bo false] (Jx (Jh _) (congrArg Bo (?_:(decide (q <+: s))=false).symm))))))
 (rw [decide_eq_false];intro hp_;have q_:=hp_.length_le;omega)
theorem Jf0 (G:J4) (s:List UInt8) (q:List UInt8) :Q4 244 #[Sr s,Sr q] G (Bo (decide (q <+: s))):=by
 refine JR Tryz.func244 8 [(0,Sr s),(1,Sr q)] rfl (fun w0 G0=>?_)
 refine Jg [0] [] (Jf (Jd (Jc [0,0] [(5,Sr s),(6,Sr q)] (Jm 7 (Bo (decide (q <+: s))) (JjZ G s q) (Jc [0] [(4,Bo (decide (q <+: s)))] (Je (Jb (Jn (Jo [0] [Bo (decide (q <+: s))] (Jx (Jh _) (congrArg Bo (?_:(decide (q <+: s))=(decide (q <+: s))).symm)))))))))))
 rfl
theorem isB_bd {b:UInt8} (h:isB b=true):48≤b.toNat∧b.toNat≤49:=by
 unfold isB at h
 simp only [Bool.or_eq_true,beq_iff_eq] at h
 rcases h with rfl | rfl <;> decide
theorem Jj0 (name:List UInt8):∀ b∈YC name,isB b=true:=by
 intro b hb
 unfold YC at hb
 obtain ⟨n,hn,rfl⟩:=List.mem_map.1 hb
 have:n=48∨n=49:=by
  simp only [HC,HU,or_false] at hn
  have key:∀ k,JE (Ji name) k=48∨JE (Ji name) k=49:=fun k=>by unfold JE;omega
  rcases hn with rfl | rfl | rfl | rfl | rfl | rfl | rfl | rfl | rfl | rfl | rfl | rfl | rfl | rfl | rfl | rfl <;> exact key _
 rcases this with rfl | rfl <;> decide
theorem JdN {a:List UInt8} (h:(KI a).2=0):(KI a).1=YC a:=by
 unfold KI at h ⊢;split at h
 · cases h
 · rename_i h1;rw [if_neg h1]
def Jj1 (x:J2):List UInt8:=(Vq [x.name,x.value]).1
def Qc (l:List J2):List UInt8:=if l.length=0 then [0] else [1]++(l.map Jj1).flatten
theorem JnB (x:J2):(Jj1 x).length≤600:=JbZ _
theorem Jiy (l:List J2):((l.map Jj1).flatten).length≤600*l.length:=by
 induction l with
 | nil=>simp
 | cons x l ih=>simp only [List.map_cons,List.flatten_cons,Hd,He];have:=JnB x;omega
theorem Jbg {l:List J2} (h:l.length≤24):(Qc l).length≤14401:=by
 unfold Qc;split
 · simp
 · rw [Hd];have:=Jiy l;simp only [He,Hf];omega
theorem Jmd {l:List J2} {i:Nat} {x:J2} (h:l[i]? = some x):([1]++((l.take i).map Jj1).flatten)++(Vq [x.name,x.value]).1=[1]++((l.take (i+1)).map Jj1).flatten:=by rw [Ht,h];simp [Jj1]
def entZ:J2:=⟨[],[]⟩
def Jj2 (l:List J2):J2:=l[0]?.getD entZ
def JnC (l:List J2):J2:=l[l.length-1]?.getD entZ
theorem Jfp {l:List J2} {x:J2} (h:l[0]? = some x):x=Jj2 l:=by unfold Jj2;rw [h];rfl
theorem JgL {l:List J2} {x:J2} (h:l[l.length-1]? = some x):x=JnC l:=by unfold JnC;rw [h];rfl
def Kf (l:List J2):List UInt8×Int:=if Kk l ≠ 0 then ([],Kk l) else if 0<(l.length:Int)∧¬ way (Jj2 l).name=way (JnC l).name then ([],3) else (Qc l,0)
theorem ZP (l:List J2):(Kf l).1.length≤14401:=by
 unfold Kf;split
 · simp
 split
 · simp
 · rename_i h _;exact Jbg (K3.1 (Hl.1 h)).len
def Jap (x:J2) (w:List UInt8):Bool:=!(way x.name == w)
def Jbh (m:Int):Bool:=decide (m ≥ 2305843009213693951)
def QM (p:Q6):Int:=if KJ p.name=false then 3 else if Kk p.entries ≠ 0 then Kk p.entries else if ((p.entries.any fun x0=>Jap x0 (way p.name))=true∨¬ (p.sides.length:Int)=16)∨(p.sides.any fun x0=>Jbh x0)=true then 3 else 0
def Jiz:List UInt8:=(Kf []).1
def JiA (a b:Int):List UInt8:=if a=Ji Jiz∧b=Ji Jiz then Jiz else Qb 2 a b
def VN (w:List UInt8) (i:Nat) (s:List UInt8) (side:Int):List UInt8:=if w[15-i]? = some 49 then JiA side (Ji s) else JiA (Ji s) side
def Jc3 (w:List UInt8):Nat→List UInt8→List Int→List (List UInt8)
 | _,s,[]=>[s]
 | i,s,q::qs=>s::Jc3 w (i+1) (VN w i s q) qs
theorem Ym (w:List UInt8):∀ (qs:List Int) (i:Nat) (s:List UInt8),(Jc3 w i s qs).length=qs.length+1
 | [],_,_=>rfl
 | q::qs,i,s=>by show (Jc3 w (i+1) _ qs).length+1=_;rw [Ym w qs];rfl
theorem JnD (w:List UInt8) (qs:List Int) (i:Nat) (s:List UInt8):(Jc3 w i s qs)[0]? = some s:=by cases qs <;> rfl
theorem Jj3 (w:List UInt8) (qs:List Int) (i:Nat) (s:List UInt8):[s]=(Jc3 w i s qs).take 1:=by cases qs <;> rfl
theorem JgM (w:List UInt8):∀ (qs:List Int) (i k:Nat) (s a:List UInt8) (q:Int),(Jc3 w i s qs)[k]? = some a→qs[k]? = some q→(Jc3 w i s qs)[k+1]? = some (VN w (i+k) a q)
 | [],_,_,_,_,_,_,h=>by simp at h
 | q::qs,i,0,s,a,q',h1,h2=>by
  have h1:some s=some a:=h1
  have h2:some q=some q':=h2
  rw [← Hp.inj h1,← Hp.inj h2]
  exact JnD w qs (i+1) _
 | q::qs,i,k+1,s,a,q',h1,h2=>by
  have:=JgM w qs (i+1) k (VN w i s q) a q' h1 h2
  rw [show i+(k+1)=i+1+k by omega];exact this
theorem Y9 {w:List UInt8} {qs:List Int} {s0 s:List UInt8} {xo:List (List UInt8)} {i:Nat} {q:Int} (ho:xo=(Jc3 w 0 s0 qs).take (i+1)) (hs:(Jc3 w 0 s0 qs)[i]? = some s) (hq:qs[i]? = some q):xo++[VN w i s q]=(Jc3 w 0 s0 qs).take (i+1+1)∧(Jc3 w 0 s0 qs)[i+1]? = some (VN w i s q):=by
 have:=JgM w qs 0 i s0 s q hs hq
 rw [H3] at this
 refine ⟨?_,this⟩
 rw [ho]
 conv=>rhs;rw [Ht,this]
 rfl
def Qd (p:Q6):List (List UInt8)×Int:=if QM p ≠ 0 then ([],QM p) else (Jc3 (way p.name) 0 (Kf p.entries).1 p.sides,0)
theorem Jaq {name:List UInt8} (h:KJ name=true):(way name).length=16:=by unfold way KI;rw [if_neg (by rw [h];simp)];exact VY name
structure Jo3 (p:Q6):Prop where
 name:KJ p.name=true
 ents:W3 p.entries
 ways:∀ x∈p.entries,way x.name=way p.name
 sides:p.sides.length=16
 marks:∀ m∈p.sides,m<2305843009213693951
theorem Wn {p:Q6}:QM p=0 ↔ Jo3 p:=by
 unfold QM
 constructor
 ·
  intro h
  split at h
  · cases h
  split at h
  · contradiction
  split at h
  · cases h
  ·
   rename_i h1 h2 h3
   refine ⟨by simpa using h1,K3.1 (Hl.1 h2),fun x hx=>?_,?_,fun m hm=>?_⟩
   ·
    apply Classical.byContradiction;intro hc
    exact h3 (.inl (.inl (HB.2 ⟨x,hx,by unfold Jap;simpa using hc⟩)))
   ·
    apply Classical.byContradiction;intro hc
    exact h3 (.inl (.inr (by omega)))
   ·
    apply Classical.byContradiction;intro hc
    exact h3 (.inr (HB.2 ⟨m,hm,by unfold Jbh;simp;omega⟩))
 ·
  rintro ⟨h1,h2,h3,h4,h5⟩
  rw [if_neg (by rw [h1];simp),if_neg (by have:=K3.2 h2;omega),if_neg]
  rintro ((hc | hc) | hc)
  ·
   obtain ⟨x,hx,e⟩:=HB.1 hc
   unfold Jap at e;simp at e
   exact e (h3 x hx)
  · omega
  ·
   obtain ⟨m,hm,e⟩:=HB.1 hc
   have:=h5 m hm
   unfold Jbh at e;simp at e;omega
theorem JeM {a b:Int} (h:(if b > a then b else a)=Ji (Kf []).1∧a=b):JiA a b=(Kf []).1:=by
 unfold JiA Jiz;obtain ⟨h1,rfl⟩:=h;rw [if_pos];split at h1 <;> exact ⟨h1,h1⟩
theorem JeN {a b:Int} (h:¬ (if b > a then b else a)=Ji (Kf []).1∨¬ a=b):JiA a b=Qb 2 a b:=by
 unfold JiA Jiz;rw [if_neg];rintro ⟨rfl,h2⟩
 rcases h with h | h
 · exact h (by split <;> omega)
 · exact h h2.symm
theorem JeO {w s:List UInt8} {i k:Nat} {q:Int} {y:UInt8} (h:15-i=k) (hy:w[k]? = some y) (e:(y.toNat:Int)=49):VN w i s q=JiA q (Ji s):=by
 have:y=49:=JoV.1 e
 unfold VN;rw [h,hy,this,if_pos rfl]
theorem JeP {w s:List UInt8} {i k:Nat} {q:Int} {y:UInt8} (h:15-i=k) (hy:w[k]? = some y) (e:¬ (y.toNat:Int)=49):VN w i s q=JiA (Ji s) q:=by
 unfold VN;rw [h,hy,if_neg]
 intro hc;apply e;rw [Hp.inj hc];rfl
theorem V0 (G:J4) (a_l:Option Addr) (c_l:Nat) (l:List J2) (h_l:RS QD G a_l c_l l) (h24:l.length≤24):Q4 181 #[Sl a_l l.length c_l] G (Sr (Qc l)):=by
 refine JR Tryz.func181 35 [(0,Sl a_l l.length c_l)] rfl (fun w0 G0=>?_)
 refine Jg [0] [] (Jf (Jg [0,0,0] [(10,Bo (decide ((l.length:Int)=0)))] (Jl (decide ((l.length:Int)=0)) (fun h1=>?_) (fun h1=>?_))))
 refine Jf (Jd (Kt 11 1 #[Y 0] 5 (fun b1=>JaX (b:=b1) (off:=0) (len:=1) (cap:=1) (cs:=List.map (Value.int .u8) [0]) 12 0 [0] rfl (V6 (ns:=[0]) rfl) (Jc [0] [(2,Sr (([0]:List Int).map fun n=>HJ n.toNat))] (Je (Jb (Jn (Jj (Jo [0] [Sr (([0]:List Int).map fun n=>HJ n.toNat)] (Jx (Jh _) (congrArg Sr (?_:(Qc l)=(([0]:List Int).map fun n=>HJ n.toNat)).symm)))))))))))
 unfold Qc;(rw [if_pos (by omega)];rfl)
 refine Jq (Jb (Jf (Jd (Kt 13 1 #[Y 1] 5 (fun b2=>JaX (b:=b2) (off:=0) (len:=1) (cap:=1) (cs:=List.map (Value.int .u8) [1]) 14 0 [1] rfl (V6 (ns:=[1]) rfl) (Jc [0] [(3,Sr (([1]:List Int).map fun n=>HJ n.toNat))] (Je (Jb (Jf (Jg [0,0,0] [(15,Sl a_l l.length c_l),(16,I (l.length:Int)),(17,I 0)] (Jy ?_)))))))))))
 have hlm_h_l:l.length≤9223372036854775807:=Hm (h_l).le (h_l).max
 refine Qh (σ:=Nat×List UInt8×J4) (fun q_=>(J4.le G q_.2.2)∧(q_.1≤l.length)∧(q_.2.1=[1]++((l.take q_.1).map Jj1).flatten)) (fun q_=>[(3,Sr q_.2.1),(15,Sl a_l l.length c_l),(16,I (l.length:Int)),(17,I (q_.1:Int))]) (fun q_=>q_.2.2) (fun q_=>[[Sg b2 0 [Y 1]]]) (fun q_=>l.length-q_.1) (0,([1]:List Int).map fun n=>HJ n.toNat,G) ⟨(Jh _),(by (try dsimp only);exact Hr _),(by (try dsimp only);simp)⟩ (fun q_ hs=>?_)
 obtain ⟨i,o,g⟩:=q_
 obtain ⟨hle,hi,ho⟩:=hs
 dsimp only at hle hi ho
 dsimp only
 refine Jg [0] [(18,Bo (decide ((i:Int)<(l.length:Int))))] (Jf (Jl (decide ((i:Int)<(l.length:Int))) (fun h2=>?_) (fun h2=>?_)))
 refine Jq (Jb (Jf (Jy (Jf (Jd ?_)))))
 obtain ⟨b3,o1,rfl⟩:=RS.addr (h_l.mono hle) (k:=i) (by omega)
 obtain ⟨x1,hx1⟩:=Wf (l:=l) (k:=i) (by omega)
 obtain ⟨_,⟨rfl,w1,w2⟩,hc1⟩:=RS.get (h_l.mono hle) hx1
 refine J5 (b:=b3) (off:=o1) (len:=l.length) (cap:=c_l) (ik:=.i64) 19 111 2 i J8 (JZ 20 111 (cs:=[Sr x1.name,Sr x1.value]) 0 (.agg #[Sr x1.name,Sr x1.value]) hc1 (Jv 5 #[Sr ([]),Sr ([])] 111 (fun b4=>JV [3] [] [[Sg b4 0 [Sr x1.name,Sr x1.value]],[Sg b2 0 [Y 1]]] (Je (Jb (Jf (Jd (Jc [0,2,0,2] [(23,Sr x1.name),(25,Sr x1.value)] (Kt 26 2 #[Sr x1.name,Sr x1.value] 9 (fun b5=>QZ (b:=b5) (o:=0) (cs:=[Sr x1.name,Sr x1.value]) 0 (fun G1 hl1 hz1=>?_)))))))))))
 have hs1:RS ES G1 (At b5 0) 2 [x1.name,x1.value]:=RS.lit [[Sr x1.name],[Sr x1.value]] [x1.name,x1.value] ⟨⟨rfl,w1⟩,⟨⟨rfl,w2⟩,trivial⟩⟩ hz1 (Hc rfl) (Hc rfl)
 exact Jm 27 (.tuple #[Sr ((Vq ([x1.name,x1.value])).1),I ((Vq ([x1.name,x1.value])).2)]) (Jij G1 (At b5 0) 2 ([x1.name,x1.value]) hs1) (Jc [0,0,0,0,0] [(6,Sr ((Vq ([x1.name,x1.value])).1))] (Je (Jb (Jd (Jc [0,0] [(30,Sr o),(31,Sr ((Vq ([x1.name,x1.value])).1))] (ZJ 32 o ((Vq ([x1.name,x1.value])).1) (by have q_:=congrArg Hn ho;have q1_:=Jiy (l.take i);have q2_:=JbZ [x1.name,x1.value];rw [Hg] at q1_;simp only [Hd,He,Hf] at q_;omega) (Jc [0] [(3,Sr (o++((Vq ([x1.name,x1.value])).1)))] (Je (JN (Jb (Jd (Jc [0,0] [(17,I (Ha.wrap ((i:Int)+1)))] (Kr 17 ((i:Int)+1) J8 (Je (Qr [[Sg b2 0 [Y 1]]] (Qi (i+1,o++((Vq ([x1.name,x1.value])).1),G1) ⟨(Ja hle hl1),J8,(by (try dsimp only);rw [ho];exact Jmd hx1)⟩ (by (try dsimp only);omega)))))))))))))))))
 refine KW (JY (J9 (JT (Jb (Jg [0,0] [(2,Sr o)] (Jn (Jo [0] [Sr o] (Jx hle (congrArg Sr (?_:(Qc l)=o).symm)))))))))
 unfold Qc;(rw [if_neg (by omega),ho,HA (by omega)])
theorem Jc4 (G:J4) (a_l:Option Addr) (c_l:Nat) (l:List J2) (h_l:RS QD G a_l c_l l) :Q4 126 #[Sl a_l l.length c_l] G (.tuple #[Sr ((Kf l).1),I ((Kf l).2)]):=by
 refine JR Tryz.func126 31 [(0,Sl a_l l.length c_l)] rfl (fun w0 G0=>?_)
 refine Jg [0,0] [] (Jf (Jf (Jd (Jc [0] [(5,Sl a_l l.length c_l)] (Jm 6 (I (Kk l)) (YV G a_l c_l l h_l) (Jc [0] [(4,I (Kk l))] (Je (Jb (Jg [0,0] [(8,Bo (!decide (Kk l=0)))] (Jl (!decide (Kk l=0)) (fun h1=>?_) (fun h1=>?_)))))))))))
 refine Jg [0,0,0] [(2,Sr ([])),(3,I (Kk l))] (Jn (Jj (Jo [0,0] [Sr ([]),I (Kk l)] (Jx (Jh _) ?_))))
 have hf_:(Kf l)=([],(Kk l)):=by
  unfold Kf;(rw [if_pos ‹_›];done)
 · (try rw [hf_]);(simp only [Qx];done)
 refine Jq (Jb (Jf (Jf ?_)))
 rcases Hs (decide ((l.length:Int) > 0)) with h2 | h2
 have h2d:=h2
 try simp only [BB] at h2d
 obtain ⟨b1,o1,rfl⟩:=RS.addr h_l (k:=0) (by omega)
 obtain ⟨x1,hx1⟩:=Wf (l:=l) (k:=0) (by omega)
 obtain ⟨_,⟨rfl,w1,_⟩,hc1⟩:=RS.get h_l hx1
 have e1:Ha.wrap ((l.length:Int)-1)=((l.length-1:Nat):Int):=(Hh _ (by (have q_:=(K3.1 ‹_›).len;omega))).trans (show (l.length:Int)-1=((l.length-1:Nat):Int) by omega)
 obtain ⟨x2,hx2⟩:=Wf (l:=l) (k:=l.length-1) (by omega)
 obtain ⟨_,⟨rfl,w3,_⟩,hc2⟩:=RS.get h_l hx2
 refine Kp [] (Wl [(0,Sl (At b1 o1) l.length c_l),(1,I (l.length:Int)),(2,Bo true),(3,Bo true),(4,Sl (At b1 o1) l.length c_l),(5,Pt b1 (o1+0*2)),(6,Pt b1 (o1+0*2)),(7,Sr x1.name),(8,Sr (way x1.name)),(9,Sl (At b1 o1) l.length c_l),(10,Sl (At b1 o1) l.length c_l),(11,I (l.length:Int)),(12,I ((l.length-1:Nat):Int)),(13,Pt b1 (o1+(l.length-1)*2)),(14,Pt b1 (o1+(l.length-1)*2)),(15,Sr x2.name),(16,Sr (way x2.name)),(17,Bo (!((B (way x1.name)).toList == (B (way x2.name)).toList))),(18,Bo (!((B (way x1.name)).toList == (B (way x2.name)).toList)))] (Km [] [(0,0),(1,0),(3,0),(4,0),(6,0),(9,0),(10,0),(11,0),(14,0),(17,0),(18,0)] [2,5,7,8,12,13,15,16] [(0,Sl (At b1 o1) l.length c_l),(28,Bo (!((B (way x1.name)).toList == (B (way x2.name)).toList)))] (Ki ?_ (Ki ?_ (Ki ?_ (Ki ?_ (Ki ?_ (Ki ?_ (Ki ?_ (Ki ?_ K8)))))))) ?_))
 refine Jt 2 12 (Bo true) [(11,I (l.length:Int))] (fun X=>?_)
 exact KV 12 (Bo (decide ((l.length:Int) > 0))) (Bo true) (by rw [h2]) Jp
 refine Jt 5 15 (Pt b1 (o1+0*2)) [(13,Bo true),(14,Sl (At b1 o1) l.length c_l)] (fun X=>?_)
 exact J5 (b:=b1) (off:=o1) (len:=l.length) (cap:=c_l) (ik:=.i64) 15 111 2 0 J8 Jp
 refine Jt 7 17 (Sr x1.name) [(13,Bo true),(16,Pt b1 (o1+0*2))] (fun X=>?_)
 exact JZ 17 9 (cs:=[Sr x1.name,Sr x1.value]) 0 (Sr x1.name) hc1 Jp
 refine Jt 8 18 (Sr (way x1.name)) [(13,Bo true),(17,Sr x1.name)] (fun X=>?_)
 exact Jm 18 (Sr (way x1.name)) (Jc1 G x1.name w1) Jp
 refine Jt 12 22 (I ((l.length-1:Nat):Int)) [(13,Bo true),(21,I (l.length:Int))] (fun X=>?_)
 exact KV 22 (I (Ha.wrap ((l.length:Int)-1))) (I ((l.length-1:Nat):Int)) (by simp only [e1]) Jp
 refine Jt 13 23 (Pt b1 (o1+(l.length-1)*2)) [(13,Bo true),(19,Sl (At b1 o1) l.length c_l),(22,I ((l.length-1:Nat):Int))] (fun X=>?_)
 exact J5 (b:=b1) (off:=o1) (len:=l.length) (cap:=c_l) (ik:=.i64) 23 111 2 (l.length-1) J8 Jp
 refine Jt 15 25 (Sr x2.name) [(13,Bo true),(24,Pt b1 (o1+(l.length-1)*2))] (fun X=>?_)
 exact JZ 25 9 (cs:=[Sr x2.name,Sr x2.value]) 0 (Sr x2.name) hc2 Jp
 refine Jt 16 26 (Sr (way x2.name)) [(13,Bo true),(25,Sr x2.name)] (fun X=>?_)
 exact Jm 26 (Sr (way x2.name)) (Jc1 G x2.name w3) Jp
 refine Jdt 28 (Bo (!(way x1.name == way x2.name))) (show (Bo (!((B (way x1.name)).toList == (B (way x2.name)).toList)):Value)=Bo (!(way x1.name == way x2.name)) by simp only [Q3]) (Jb (Jl (!(way x1.name == way x2.name)) (fun h3=>?_) (fun h3=>?_)))
 refine Jg [0,0] [(2,Sr ([])),(3,I 3)] (Jn (Jj (Jo [0,0] [Sr ([]),I 3] (Jx (Jh _) ?_))))
 have hf_:(Kf l)=([],3):=by
  unfold Kf;(have hf_:=Jfp hx1;(have hl_:=JgL hx2;subst hf_;subst hl_;rw [if_neg (by omega)];(rw [if_pos (by simp_all)];done)))
 · (try rw [hf_]);(simp only [Qx];done)
 refine Jq (Jb (Jf (Jd (Jc [0] [(29,Sl (At b1 o1) l.length c_l)] (Jm 30 (Sr (Qc l)) (V0 G (At b1 o1) c_l l h_l (by exact (K3.1 ‹_›).len)) (Jc [0,0] [(2,Sr (Qc l)),(3,I 0)] (Je (Jb (Jn (Jo [0,0] [Sr (Qc l),I 0] (Jx (Jh _) ?_)))))))))))
 have hf_:(Kf l)=(Qc l,0):=by
  unfold Kf;(have hf_:=Jfp hx1;(have hl_:=JgL hx2;subst hf_;subst hl_;rw [if_neg (by omega)];(rw [if_neg (by simp_all)];done)))
 · (try rw [hf_]);(simp only [Qx];done)
 have h2d:=h2
 try simp only [BB] at h2d
 refine Kp [] (Wl [(0,Sl a_l l.length c_l),(1,I (l.length:Int)),(2,Bo false),(3,Bo false),(4,undef),(5,undef),(6,undef),(7,undef),(8,undef),(9,undef),(10,undef),(11,undef),(12,undef),(13,undef),(14,undef),(15,undef),(16,undef),(17,undef),(18,Bo false)] (Km [] [(0,0),(1,0),(3,0),(4,1),(5,1),(6,1),(7,1),(8,1),(9,1),(10,1),(11,1),(12,1),(13,1),(14,1),(15,1),(16,1),(17,1),(18,0)] [2] [(0,Sl a_l l.length c_l),(28,Bo false)] (Ki ?_ K8) ?_))
 refine Jt 2 12 (Bo false) [(11,I (l.length:Int))] (fun X=>?_)
 exact KV 12 (Bo (decide ((l.length:Int) > 0))) (Bo false) (by rw [h2]) Jp
 refine Jb (Qq (Jq (Jb (Jf (Jd (Jc [0] [(29,Sl a_l l.length c_l)] (Jm 30 (Sr (Qc l)) (V0 G a_l c_l l h_l (by exact (K3.1 ‹_›).len)) (Jc [0,0] [(2,Sr (Qc l)),(3,I 0)] (Je (Jb (Jn (Jo [0,0] [Sr (Qc l),I 0] (Jx (Jh _) ?_)))))))))))))
 have hf_:(Kf l)=(Qc l,0):=by
  unfold Kf;(rw [if_neg (by omega),if_neg (by intro hc_;omega)];done)
 · (try rw [hf_]);(simp only [Qx];done)
theorem Jc5 (G:J4) (name:List UInt8) (hw_name:(name).length≤140737488351232) :Q4 127 #[Sr name] G (Sr (way name)):=by
 refine JR Tryz.func127 11 [(0,Sr name)] rfl (fun w0 G0=>?_)
 refine Jg [0] [] (Jf (Jd (Jc [0] [(6,Sr name)] (Jm 7 (.tuple #[Sr ((KI name).1),I ((KI name).2)]) (Jcw G name hw_name) (Jc [0,0,0,0,0] [(3,Sr ((KI name).1))] (Je (Jb (Jg [0,0] [(2,Sr ((KI name).1))] (Jn (Jo [0] [Sr ((KI name).1)] (Jx (Jh _) (congrArg Sr (?_:(way name)=((KI name).1)).symm))))))))))))
 rfl
theorem Jj4 (G:J4) (vs_x:List Value) (x:J2) (h_x:QD.R G vs_x x) (vs_w:List Value) (w:(List UInt8)) (h_w:ES.R G vs_w w) (b_w:Nat) (hz_w:∀ j v,(vs_w:List Value)[j]? = some v→G b_w (0+j)=some v) :Q4 178 #[.agg vs_x.toArray,Pt b_w 0] G (Bo (Jap x w)):=by
 obtain ⟨rfl,w1,_⟩:=h_x
 obtain ⟨rfl,_⟩:=h_w
 refine JR Tryz.func178 9 [(0,.agg #[Sr x.name,Sr x.value]),(1,Pt b_w 0)] rfl (fun w0 G0=>?_)
 refine Jf (Jd (Jv 2 #[Sr x.name,Sr x.value] 111 (fun b1=>Jc [0] [] (Je (Jb (Jf (Kp [] (Wl [(0,Pt b1 0),(1,Sr x.name),(2,Sr (way x.name)),(3,Sr w),(4,Bo (!((B (way x.name)).toList == (B w).toList))),(5,Bo (!((B (way x.name)).toList == (B w).toList)))] (Km [] [(0,0),(1,2),(4,0),(5,0)] [2,3] [(3,Bo (!((B (way x.name)).toList == (B w).toList)))] (Ki ?_ (Ki ?_ K8)) ?_)))))))))
 refine Jt 2 6 (Sr (way x.name)) [(5,Sr x.name)] (fun X=>?_)
 exact Jm 6 (Sr (way x.name)) (Jc5 G x.name w1) Jp
 refine Jt 3 7 (Sr w) [(1,Pt b_w 0)] (fun X=>?_)
 exact JZ (o':=0) 7 9 (cs:=[Sr w]) 0 (Sr w) hz_w Jp
 refine Jdt 3 (Bo (!(way x.name == w))) (show (Bo (!((B (way x.name)).toList == (B w).toList)):Value)=Bo (!(way x.name == w)) by simp only [Q3]) (Jb (Jn (Jo [0] [Bo (!(way x.name == w))] (Jx (Jh _) (congrArg Bo (?_:(Jap x w)=(!(way x.name == w))).symm)))))
 rfl
theorem Jj5 (G:J4) (m:Int) :Q4 180 #[U m] G (Bo (Jbh m)):=by
 refine JR Tryz.func180 5 [(0,U m)] rfl (fun w0 G0=>?_)
 refine Jg [0] [] (Jg [0,0,0] [(2,Bo (decide (m ≥ 2305843009213693951)))] (Jn (Jo [0] [Bo (decide (m ≥ 2305843009213693951))] (Jx (Jh _) (congrArg Bo (?_:(Jbh m)=(decide (m ≥ 2305843009213693951))).symm)))))
 rfl
theorem Jfq (G:J4) (vs_p:List Value) (p:Q6) (h_p:Jff.R G vs_p p) :Q4 125 #[.agg vs_p.toArray] G (I (QM p)):=by
 obtain ⟨a1,c1,a2,c2,rfl,w1,hs1,hs2⟩:=h_p
 refine JR Tryz.func125 33 [(0,(VS p a1 c1 a2 c2))] rfl (fun w0 G0=>?_)
 refine Jf (Jd (Jv 1 #[Sr p.name,Sl a1 p.entries.length c1,Sl a2 p.sides.length c2] 47 (fun b1=>Jc [0] [] (Je (Jb (Jf (Jf (Jd (Jc [0,2] [(6,Sr p.name)] (Jm 7 (Bo (KJ p.name)) (ZN G p.name) (Jc [0] [(8,Bo (!(KJ p.name)))] (Je (Jb (Jl (!(KJ p.name)) (fun h1=>?_) (fun h1=>?_)))))))))))))))
 refine Jg [0] [(2,I 3)] (Jn (Jj (Jo [0] [I 3] (Jx (Jh _) (congrArg I (?_:(QM p)=3).symm)))))
 · unfold QM;(rw [if_pos ‹_›];done)
 refine Jq (Jb (Jf (Jf (Jd (Jc [0,2] [(10,Sl a1 p.entries.length c1)] (Jm 11 (I (Kk p.entries)) (YV G a1 c1 p.entries hs1) (Jc [0] [(3,I (Kk p.entries))] (Je (Jb (Jg [0,0] [(13,Bo (!decide (Kk p.entries=0)))] (Jl (!decide (Kk p.entries=0)) (fun h2=>?_) (fun h2=>?_))))))))))))
 refine Jg [0,0] [(2,I (Kk p.entries))] (Jn (Jj (Jo [0] [I (Kk p.entries)] (Jx (Jh _) (congrArg I (?_:(QM p)=(Kk p.entries)).symm)))))
 · unfold QM;(rw [if_neg (by simp_all),if_pos ‹_›];done)
 refine Jq (Jb (Jf (Jd (Jc [0,2] [(16,Sr p.name)] (Jm 17 (Sr (way p.name)) (Jc5 G p.name w1) (Jv 4 #[Sr ([])] 9 (fun b2=>JV [3] [] [[Sg b2 0 [Sr (way p.name)]],[Sg b1 0 (Vw p a1 c1 a2 c2)]] (Je (Jb (Jf (Jf (Jd (Jc [0,4,0] [(19,Sl a1 p.entries.length c1),(20,Fv 178 #[Pt b2 0])] (QZ (b:=b2) (o:=0) (cs:=[Sr (way p.name)]) 0 (fun G1 hl1 hz1=>Jm 21 (Bo (p.entries.any (fun x0=>Jap x0 (way p.name)))) (JlX G1 a1 c1 p.entries (hs1.mono hl1) 178 #[Pt b2 0] (fun x0=>Jap x0 (way p.name)) (fun _ _=>by kernel_rfl) (fun vs0 x0 hx0=>by obtain ⟨rfl,w2,w3⟩:=hx0;exact Jj4 G1 [Sr x0.name,Sr x0.value] x0 (⟨rfl,w2,w3⟩) [Sr (way p.name)] (way p.name) (⟨rfl,(Hm (JoZ p.name) (by decide))⟩) b2 hz1)) (Jc [0] [(22,Bo (p.entries.any (fun x0=>Jap x0 (way p.name))))] (Ks (p.entries.any (fun x0=>Jap x0 (way p.name))) [22] [1,1,1,1,0] [0,4,0,0,0] (fun bb=>[(27,Bo (bb || (!decide ((p.sides.length:Int)=16))))]) (Jc [0] [(28,Bo ((p.entries.any (fun x0=>Jap x0 (way p.name))) || (!decide ((p.sides.length:Int)=16))))] ?_))))))))))))))))))
 refine QY [28] ((p.entries.any (fun x0=>Jap x0 (way p.name))) || (!decide ((p.sides.length:Int)=16))) (fun h3=>?_) (fun h3=>?_)
 refine Jc [1,1,1,0] [(32,Bo true)] (Je (Jb (JW (Jg [0] [(2,I 3)] (Jn (Jj (Jo [0] [I 3] (Jx hl1 (congrArg I (?_:(QM p)=3).symm)))))))))
 · unfold QM;(rw [if_neg (by simp_all),if_neg (by omega)];(rw [if_pos (by simp_all)];done))
 refine Jc [0,4] [(30,Sl a2 p.sides.length c2)] (Jm 31 (Bo (p.sides.any (fun x0=>Jbh x0))) (JoY G1 a2 c2 p.sides (hs2.mono hl1) 180 #[] (fun x0=>Jbh x0) (fun _ _=>by kernel_rfl) (fun x0 hx0=>Jj5 G1 x0)) (Jc [0] [(32,Bo (p.sides.any (fun x0=>Jbh x0)))] (Je (Jb (Jl (p.sides.any (fun x0=>Jbh x0)) (fun h4=>?_) (fun h4=>?_))))))
 refine Jg [0] [(2,I 3)] (Jn (Jj (Jo [0] [I 3] (Jx hl1 (congrArg I (?_:(QM p)=3).symm)))))
 · unfold QM;(rw [if_neg (by simp_all),if_neg (by omega)];(rw [if_pos (by simp_all)];done))
 refine Jq (Jb (Jg [0] [(2,I 0)] (Jn (Jo [0] [I 0] (Jx hl1 (congrArg I (?_:(QM p)=0).symm))))))
 · unfold QM;(rw [if_neg (by simp_all),if_neg (by omega)];(rw [if_neg (by simp_all)];done))
set_option maxRecDepth 20000 in
theorem Jf1 (G:J4) (vs_p:List Value) (p:Q6) (h_p:Jff.R G vs_p p) :Yw 73 #[.agg vs_p.toArray] G [] (fun u G' L'=>∃ (a1:Option Addr) (c2:Nat),u=.tuple #[Sl a1 (((Qd p).1).length) c2,I ((Qd p).2)]∧(RS ES G' a1 c2 ((Qd p).1))∧L'=[]):=by
 obtain ⟨a1,c1,a2,c2,rfl,w1,hs1,hs2⟩:=h_p
 refine JR Tryz.func73 74 [(0,(VS p a1 c1 a2 c2))] rfl (fun w0 G0=>?_)
 refine Jf (Jd (Jv 1 #[Sr p.name,Sl a1 p.entries.length c1,Sl a2 p.sides.length c2] 47 (fun b1=>Jc [0,0] [] (Je (Jb (Jf (Jf (Jd (Jc [2] [(15,(VS p a1 c1 a2 c2))] (Jm 16 (I (QM p)) (Jfq G (Vw p a1 c1 a2 c2) p (⟨a1,c1,a2,c2,rfl,w1,hs1,hs2⟩)) (Jc [0] [(4,I (QM p))] (Je (Jb (Jg [0,0] [(18,Bo (!decide (QM p=0)))] (Jl (!decide (QM p=0)) (fun h1=>?_) (fun h1=>?_))))))))))))))))
 refine Jg [0,0,0] [(2,Sl none 0 0),(3,I (QM p))] (Jn (Jj ?_))
 have hf1:Qd p=([],QM p):=by
  unfold Qd;(simp_all;done)
 refine Jo [0,0] [Sl none 0 0,I (QM p)] (JA [] (Jh _) ?_)
 rw [hf1]
 try dsimp only
 exact ⟨none,0,rfl,(JP ES G),rfl⟩
 refine Jq (Jb (Jf (Jd (Jm 21 (.tuple #[Sr ((Kf ([])).1),I ((Kf ([])).2)]) (Jc4 G none 0 ([]) (JP QD G)) (Jc [0,0,0,0,0] [(5,Sr ((Kf ([])).1))] (Je (Jb (Jf (Jd (Jc [0,2] [(26,Sl a1 p.entries.length c1)] (Jm 27 (.tuple #[Sr ((Kf p.entries).1),I ((Kf p.entries).2)]) (Jc4 G a1 c1 p.entries hs1) (Jc [0,0,0,0,0] [(7,Sr ((Kf p.entries).1))] (Je (Jb (Jf (Jd (Jc [0] [(30,Sr ((Kf p.entries).1))] (Kt 31 1 #[Sr ((Kf p.entries).1)] 9 (fun b2=>Jc [0] [(9,Sl (At b2 0) 1 1)] (Je (Jb (Jf (Jd (Jc [0,4] [(33,Sr p.name)] (Jm 34 (Sr (way p.name)) (Jc5 G p.name w1) ?_)))))))))))))))))))))))))
 refine Jc [0] [(10,Sr (way p.name))] (Je (Jb (Jf (Jg [0,4,0,0] [(36,Sl a2 p.sides.length c2),(37,I (p.sides.length:Int)),(38,I 0)] (Jy ?_)))))
 have hlm_hs2:p.sides.length≤9223372036854775807:=Hm (hs2).le (hs2).max
 refine Qh (σ:=Nat×List UInt8×Option Addr×Nat×List Kh×List (List UInt8)×J4) (fun q_=>(J4.le G q_.2.2.2.2.2.2)∧(q_.1≤p.sides.length)∧(q_.2.1.length≤14401)∧(J1 ES q_.2.2.2.2.2.2 q_.2.2.1 q_.2.2.2.1 q_.2.2.2.2.2.1 q_.2.2.2.2.1)∧(q_.2.2.2.2.2.1=(Jc3 (way p.name) 0 (Kf p.entries).1 p.sides).take (q_.1+1))∧((Jc3 (way p.name) 0 (Kf p.entries).1 p.sides)[q_.1]? = some q_.2.1)) (fun q_=>[(5,Sr ((Kf ([])).1)),(7,Sr q_.2.1),(9,Sl q_.2.2.1 q_.2.2.2.2.2.1.length q_.2.2.2.1),(10,Sr (way p.name)),(36,Sl a2 p.sides.length c2),(37,I (p.sides.length:Int)),(38,I (q_.1:Int))]) (fun q_=>q_.2.2.2.2.2.2) (fun q_=>[q_.2.2.2.2.1,[Sg b1 0 (Vw p a1 c1 a2 c2)]]) (fun q_=>p.sides.length-q_.1) (0,(Kf p.entries).1,At b2 0,1,[Sg b2 0 [Sr ((Kf p.entries).1)]],[(Kf p.entries).1],G) ⟨(Jh _),(by (try dsimp only);exact Hr _),(ZP _),(J1.of_lit [[Sr ((Kf p.entries).1)]] [(Kf p.entries).1] ⟨⟨rfl,(Hm (ZP _) (by decide))⟩,trivial⟩ (by simp)),(Jj3 _ _ _ _),(JnD _ _ _ _)⟩ (fun q_ hs=>?_)
 obtain ⟨i,s,ao,co,ro,xo,g⟩:=q_
 obtain ⟨hle,hi,hs,hro,hxo,hs_⟩:=hs
 dsimp only at hle hi hs hro hxo hs_
 dsimp only
 refine Jg [0] [(39,Bo (decide ((i:Int)<(p.sides.length:Int))))] (Jf (Jl (decide ((i:Int)<(p.sides.length:Int))) (fun h2=>?_) (fun h2=>?_)))
 refine Jq (Jb (Jf (Jy (Jf (Jd (Jc [0] [(40,I (i:Int))] ?_))))))
 obtain ⟨b3,o1,rfl⟩:=RS.addr (hs2.mono hle) (k:=i) (by omega)
 obtain ⟨x1,hx1⟩:=Wf (l:=p.sides) (k:=i) (by omega)
 obtain ⟨_,⟨rfl,_⟩,hc1⟩:=RS.get (hs2.mono hle) hx1
 refine J5 (b:=b3) (off:=o1) (len:=p.sides.length) (cap:=c2) (ik:=.i64) 41 41 1 i J8 (JZ 42 41 (cs:=[U x1]) 0 (U x1) hc1 (Jc [0,0] [(11,I (i:Int)),(12,U x1)] (Je (Jb (Jf (Jd (Jc [0] [(43,Sr s)] (Jm 44 (U (Ji s)) (ZW s (Jcu J8) g) (Jc [0,0,0] [(13,U (Ji s)),(14,U x1)] (Je (Jb (Jf (Jf (Jd (Jc [0,0,0] [(46,Sr (way p.name)),(48,I (Ha.wrap (15-(i:Int))))] (Kr 48 (15-(i:Int)) J8 ?_))))))))))))))))
 obtain ⟨kn1,hkn1⟩:∃ k_:Nat,15-(i:Int)=(k_:Int):=⟨(15-(i:Int)).toNat,by (have q_:=Wn.1 ‹_›;have q1_:=Jaq q_.name;have q2_:=q_.sides;omega)⟩
 have e1:15-(i:Int)=(kn1:Int):=hkn1
 refine KU 48 (I (kn1:Int)) (congrArg I e1) ?_
 obtain ⟨y1,hy1⟩:=Wf (l:=way p.name) (k:=kn1) (by (have q_:=Wn.1 ‹_›;have q1_:=Jaq q_.name;have q2_:=q_.sides;omega))
 have hb_y1:=y1.toNat_lt
 refine JaW (ik:=.i64) 49 kn1 y1 hy1 (Jc [0] [(50,Bo (decide ((y1.toNat:Int)=49)))] (Je (Jb (Jl (decide ((y1.toNat:Int)=49)) (fun h3=>?_) (fun h3=>?_)))))
 refine Jd (Jc [0,0,0,0] [(13,U x1),(14,U (Ji s))] (Je (Jb (Jf (Jg [0,0] [(7,Sr ((Kf ([])).1))] (Jf (Jd (Jc [0,0,0,0] [(56,U (if (Ji s) > x1 then (Ji s) else x1)),(57,Sr ((Kf ([])).1))] (Jm 58 (U (Ji ((Kf ([])).1))) (ZW ((Kf ([])).1) (Jcu (Hm (ZP _) (by decide))) g) (Jc [0,0] [(60,Bo (!decide ((if (Ji s) > x1 then (Ji s) else x1)=Ji ((Kf ([])).1))))] (Ks (!decide ((if (Ji s) > x1 then (Ji s) else x1)=Ji ((Kf ([])).1))) [60] [1,1,1,0] [0,0,0,0] (fun bb=>[(64,Bo (bb || (!decide (x1=Ji s))))]) (Je (Jb (Jl ((!decide ((if (Ji s) > x1 then (Ji s) else x1)=Ji ((Kf ([])).1))) || (!decide (x1=Ji s))) (fun h4=>?_) (fun h4=>?_)))))))))))))))
 refine Jd (Jc [0,0] [(65,U x1),(66,U (Ji s))] (Jm 67 (Sr (Qb 2 x1 (Ji s))) (Jbc 2 x1 (Ji s) g) (Jc [0] [(7,Sr (Qb 2 x1 (Ji s)))] (Je (Jb (Jd (Jc [0,0] [(68,Sl ao xo.length co),(69,Sr (Qb 2 x1 (Ji s)))] (Kt 70 1 #[Sr (Qb 2 x1 (Ji s))] 9 (fun b4=>Qy (b:=b4) (cs:=[Sr (Qb 2 x1 (Ji s))]) 71 9 1 0 (E:=ES) (Qb 2 x1 (Ji s)) hro ⟨rfl,(by rw [ZG];decide)⟩ (by have q_:=Wn.1 ‹_›;have q1_:=Jaq q_.name;have q2_:=q_.sides;have q3_:=congrArg Hn hxo;have q4_:=Ym (way p.name) p.sides 0 (Kf p.entries).1;rw [Hg] at q3_;(try simp only [ES,Hd,He,Hf] at *);omega) (by have q_:=Wn.1 ‹_›;have q1_:=Jaq q_.name;have q2_:=q_.sides;have q3_:=congrArg Hn hxo;have q4_:=Ym (way p.name) p.sides 0 (Kf p.entries).1;rw [Hg] at q3_;(try simp only [ES,Hd,He,Hf] at *);omega) (fun a3 c3 r1 hr1=>Jc [0] [(9,Sl a3 ((xo++[Qb 2 x1 (Ji s)]).length) c3)] (Je (JN (Jb (Jd (Jc [0,0] [(38,I (Ha.wrap ((i:Int)+1)))] (Kr 38 ((i:Int)+1) J8 (Je ?_)))))))))))))))))
 exact Qr [r1,[Sg b1 0 (Vw p a1 c1 (At b3 o1) c2)]] (Qi (i+1,Qb 2 x1 (Ji s),a3,c3,r1,xo++[Qb 2 x1 (Ji s)],g) ⟨(Ja hle (Jh _)),J8,(by have q0_:=ZG;(rw [q0_];decide)),hr1,(by (try dsimp only);have q0_:=Y9 hxo hs_ hx1;have q1_:VN (way p.name) i s x1=Qb 2 x1 (Ji s):=(by (rw [JeO J8 hy1 ‹_›]);exact JeN ‹_›);rw [q1_] at q0_;exact q0_.1),(by (try dsimp only);have q0_:=Y9 hxo hs_ hx1;have q1_:VN (way p.name) i s x1=Qb 2 x1 (Ji s):=(by (rw [JeO J8 hy1 ‹_›]);exact JeN ‹_›);rw [q1_] at q0_;exact q0_.2)⟩ (by (try dsimp only);omega))
 exact Jq (Jb (Jd (Jc [0,0] [(68,Sl ao xo.length co),(69,Sr ((Kf ([])).1))] (Kt 70 1 #[Sr ((Kf ([])).1)] 9 (fun b5=>Qy (b:=b5) (cs:=[Sr ((Kf ([])).1)]) 71 9 1 0 (E:=ES) ((Kf ([])).1) hro ⟨rfl,(Hm (ZP _) (by decide))⟩ (by have q_:=Wn.1 ‹_›;have q1_:=Jaq q_.name;have q2_:=q_.sides;have q3_:=congrArg Hn hxo;have q4_:=Ym (way p.name) p.sides 0 (Kf p.entries).1;rw [Hg] at q3_;(try simp only [ES,Hd,He,Hf] at *);omega) (by have q_:=Wn.1 ‹_›;have q1_:=Jaq q_.name;have q2_:=q_.sides;have q3_:=congrArg Hn hxo;have q4_:=Ym (way p.name) p.sides 0 (Kf p.entries).1;rw [Hg] at q3_;(try simp only [ES,Hd,He,Hf] at *);omega) (fun a4 c4 r2 hr2=>Jc [0] [(9,Sl a4 ((xo++[(Kf ([])).1]).length) c4)] (Je (JN (Jb (Jd (Jc [0,0] [(38,I (Ha.wrap ((i:Int)+1)))] (Kr 38 ((i:Int)+1) J8 (Je (Qr [r2,[Sg b1 0 (Vw p a1 c1 (At b3 o1) c2)]] (Qi (i+1,(Kf ([])).1,a4,c4,r2,xo++[(Kf ([])).1],g) ⟨(Ja hle (Jh _)),J8,(by have q0_:=ZG;exact ZP _),hr2,(by (try dsimp only);have q0_:=Y9 hxo hs_ hx1;have q1_:VN (way p.name) i s x1=(Kf ([])).1:=(by (rw [JeO J8 hy1 ‹_›]);exact JeM ‹_›);rw [q1_] at q0_;exact q0_.1),(by (try dsimp only);have q0_:=Y9 hxo hs_ hx1;have q1_:VN (way p.name) i s x1=(Kf ([])).1:=(by (rw [JeO J8 hy1 ‹_›]);exact JeM ‹_›);rw [q1_] at q0_;exact q0_.2)⟩ (by (try dsimp only);omega))))))))))))))))
 refine Jq (Jb (Jf (Jg [0,0] [(7,Sr ((Kf ([])).1))] (Jf (Jd (Jc [0,0,0,0] [(56,U (if x1 > (Ji s) then x1 else (Ji s))),(57,Sr ((Kf ([])).1))] (Jm 58 (U (Ji ((Kf ([])).1))) (ZW ((Kf ([])).1) (Jcu (Hm (ZP _) (by decide))) g) (Jc [0,0] [(60,Bo (!decide ((if x1 > (Ji s) then x1 else (Ji s))=Ji ((Kf ([])).1))))] (Ks (!decide ((if x1 > (Ji s) then x1 else (Ji s))=Ji ((Kf ([])).1))) [60] [1,1,1,0] [0,0,0,0] (fun bb=>[(64,Bo (bb || (!decide (Ji s=x1))))]) (Je (Jb (Jl ((!decide ((if x1 > (Ji s) then x1 else (Ji s))=Ji ((Kf ([])).1))) || (!decide (Ji s=x1))) (fun h5=>?_) (fun h5=>?_)))))))))))))
 refine Jd (Jc [0,0] [(65,U (Ji s)),(66,U x1)] (Jm 67 (Sr (Qb 2 (Ji s) x1)) (Jbc 2 (Ji s) x1 g) (Jc [0] [(7,Sr (Qb 2 (Ji s) x1))] (Je (Jb (Jd (Jc [0,0] [(68,Sl ao xo.length co),(69,Sr (Qb 2 (Ji s) x1))] (Kt 70 1 #[Sr (Qb 2 (Ji s) x1)] 9 (fun b6=>Qy (b:=b6) (cs:=[Sr (Qb 2 (Ji s) x1)]) 71 9 1 0 (E:=ES) (Qb 2 (Ji s) x1) hro ⟨rfl,(by rw [ZG];decide)⟩ (by have q_:=Wn.1 ‹_›;have q1_:=Jaq q_.name;have q2_:=q_.sides;have q3_:=congrArg Hn hxo;have q4_:=Ym (way p.name) p.sides 0 (Kf p.entries).1;rw [Hg] at q3_;(try simp only [ES,Hd,He,Hf] at *);omega) (by have q_:=Wn.1 ‹_›;have q1_:=Jaq q_.name;have q2_:=q_.sides;have q3_:=congrArg Hn hxo;have q4_:=Ym (way p.name) p.sides 0 (Kf p.entries).1;rw [Hg] at q3_;(try simp only [ES,Hd,He,Hf] at *);omega) (fun a5 c5 r3 hr3=>Jc [0] [(9,Sl a5 ((xo++[Qb 2 (Ji s) x1]).length) c5)] (Je (JN (Jb (Jd (Jc [0,0] [(38,I (Ha.wrap ((i:Int)+1)))] (Kr 38 ((i:Int)+1) J8 (Je ?_)))))))))))))))))
 exact Qr [r3,[Sg b1 0 (Vw p a1 c1 (At b3 o1) c2)]] (Qi (i+1,Qb 2 (Ji s) x1,a5,c5,r3,xo++[Qb 2 (Ji s) x1],g) ⟨(Ja hle (Jh _)),J8,(by have q0_:=ZG;(rw [q0_];decide)),hr3,(by (try dsimp only);have q0_:=Y9 hxo hs_ hx1;have q1_:VN (way p.name) i s x1=Qb 2 (Ji s) x1:=(by (rw [JeP J8 hy1 ‹_›]);exact JeN ‹_›);rw [q1_] at q0_;exact q0_.1),(by (try dsimp only);have q0_:=Y9 hxo hs_ hx1;have q1_:VN (way p.name) i s x1=Qb 2 (Ji s) x1:=(by (rw [JeP J8 hy1 ‹_›]);exact JeN ‹_›);rw [q1_] at q0_;exact q0_.2)⟩ (by (try dsimp only);omega))
 exact Jq (Jb (Jd (Jc [0,0] [(68,Sl ao xo.length co),(69,Sr ((Kf ([])).1))] (Kt 70 1 #[Sr ((Kf ([])).1)] 9 (fun b7=>Qy (b:=b7) (cs:=[Sr ((Kf ([])).1)]) 71 9 1 0 (E:=ES) ((Kf ([])).1) hro ⟨rfl,(Hm (ZP _) (by decide))⟩ (by have q_:=Wn.1 ‹_›;have q1_:=Jaq q_.name;have q2_:=q_.sides;have q3_:=congrArg Hn hxo;have q4_:=Ym (way p.name) p.sides 0 (Kf p.entries).1;rw [Hg] at q3_;(try simp only [ES,Hd,He,Hf] at *);omega) (by have q_:=Wn.1 ‹_›;have q1_:=Jaq q_.name;have q2_:=q_.sides;have q3_:=congrArg Hn hxo;have q4_:=Ym (way p.name) p.sides 0 (Kf p.entries).1;rw [Hg] at q3_;(try simp only [ES,Hd,He,Hf] at *);omega) (fun a6 c6 r4 hr4=>Jc [0] [(9,Sl a6 ((xo++[(Kf ([])).1]).length) c6)] (Je (JN (Jb (Jd (Jc [0,0] [(38,I (Ha.wrap ((i:Int)+1)))] (Kr 38 ((i:Int)+1) J8 (Je (Qr [r4,[Sg b1 0 (Vw p a1 c1 (At b3 o1) c2)]] (Qi (i+1,(Kf ([])).1,a6,c6,r4,xo++[(Kf ([])).1],g) ⟨(Ja hle (Jh _)),J8,(by have q0_:=ZG;exact ZP _),hr4,(by (try dsimp only);have q0_:=Y9 hxo hs_ hx1;have q1_:VN (way p.name) i s x1=(Kf ([])).1:=(by (rw [JeP J8 hy1 ‹_›]);exact JeM ‹_›);rw [q1_] at q0_;exact q0_.1),(by (try dsimp only);have q0_:=Y9 hxo hs_ hx1;have q1_:VN (way p.name) i s x1=(Kf ([])).1:=(by (rw [JeP J8 hy1 ‹_›]);exact JeM ‹_›);rw [q1_] at q0_;exact q0_.2)⟩ (by (try dsimp only);omega))))))))))))))))
 refine KW (JY (J9 (JT (Jb (Jg [0,0,0] [(2,Sl ao xo.length co),(3,I 0)] (Jn (Wp (E:=ES) 0 hro (by have q_:=Wn.1 ‹_›;have q1_:=Jaq q_.name;have q2_:=q_.sides;have q3_:=congrArg Hn hxo;have q4_:=Ym (way p.name) p.sides 0 (Kf p.entries).1;rw [Hg] at q3_;(try simp only [ES,Hd,He,Hf] at *);omega) (fun G1 hl1 hs3=>?_))))))))
 have hf2:Qd p=(xo,0):=by
  unfold Qd;(rw [if_neg (by omega),hxo,HA (by rw [Ym];omega)])
 refine Jo [0,0] [Sl ao xo.length co,I 0] (JA [] (Ja hle hl1) ?_)
 rw [hf2]
 try dsimp only
 exact ⟨ao,co,rfl,hs3,rfl⟩
theorem Jme {l xo:List J2} {p:J2→Bool} {i j:Nat} {x:J2} (h1:xo.take i=(l.take j).filter (fun y=>!p y)) (hx:l[j]? = some x) (hp:p x=true):xo.take i=(l.take (j+1)).filter (fun y=>!p y):=by
 rw [Ht,hx,HQ,← h1];simp [hp]
theorem JnE {l xo:List J2} {p:J2→Bool} {i j:Nat} {x:J2} (h1:xo.take i=(l.take j).filter (fun y=>!p y)) (hx:l[j]? = some x) (hp:p x=false) (hi:i<xo.length):(xo.set i x).take (i+1)=(l.take (j+1)).filter (fun y=>!p y):=by
 have e:l.take (j+1)=l.take j++[x]:=by rw [Ht,hx];rfl
 rw [e,HQ,← h1,Ht,List.getElem?_set_self hi,List.take_set_of_le (Hw _)];simp [hp]
theorem JnF {l xo:List J2} {i j:Nat} {x:J2} (h:xo.drop j=l.drop j) (hij:i<j):(xo.set i x).drop (j+1)=l.drop (j+1):=by
 rw [List.drop_set_of_lt (by omega),← HN,h,HN]
theorem Jmf {l xo:List J2} {j:Nat} (h:xo.drop j=l.drop j):xo.drop (j+1)=l.drop (j+1):=by
 rw [← HN,h,HN]
theorem JiB {l xo:List J2} {j:Nat} {x:J2} (h:xo.drop j=l.drop j) (hx:xo[j]? = some x):l[j]? = some x:=by
 have:=congrArg (fun z=>z[0]?) h
 simp only [HP,Nat.add_zero] at this
 rw [← this];exact hx
theorem Jmg {l:List J2} {p:J2→Bool} {k:Nat} (h:QT p l=(k:Int)):l.take k=(l.take (k+1)).filter (fun y=>!p y):=by
 unfold QT at h
 cases hh:l.findIdx? p with
 | none=>rw [hh] at h;simp at h
 | some m =>
  rw [hh] at h
  have:m=k:=by simp at h;omega
  subst this
  rw [List.findIdx?_eq_some_iff_getElem] at hh
  obtain ⟨h1,h2,h3⟩:=hh
  rw [Ht,Hk h1,HQ]
  have e1:(l.take m).filter (fun y=>!p y)=l.take m:=by
   rw [List.filter_eq_self]
   intro y hy
   obtain ⟨n,hn⟩:=Hu hy
   rw [List.getElem?_take] at hn
   split at hn
   ·
    rename_i hlt
    have:=h3 n hlt
    obtain ⟨hn',e⟩:=Hb.1 hn
    rw [e] at this;simpa using this
   · cases hn
  rw [e1];simp [h2]
theorem JnG {l:List J2} {p:J2→Bool} (h:QT p l=-1):l=l.filter (fun y=>!p y):=by
 unfold QT at h
 cases hh:l.findIdx? p with
 | some m=>rw [hh] at h;simp at h
 | none =>
  rw [List.findIdx?_eq_none_iff] at hh
  symm
  rw [List.filter_eq_self]
  intro y hy;simpa using hh y hy
theorem Jo4 (p:J2→Bool) (l:List J2):-1≤QT p l∧QT p l≤l.length∧(0≤QT p l→QT p l<l.length):=by
 by_cases h:QT p l<0
 ·
  refine ⟨?_,by omega,by omega⟩
  unfold QT;split <;> omega
 ·
  obtain ⟨k,hk⟩:∃ k:Nat,QT p l=k:=⟨_,(HM (by omega)).symm⟩
  obtain ⟨x,hx,_⟩:=Jhk hk
  have:=(Hb.1 hx).1
  omega
def Jcx (x:J2) (q:List UInt8):Bool:=!decide (q <+: way x.name)
def KF (l:List J2) (q:List UInt8):List J2:=l.filter fun x=>!Jcx x q
theorem YN (l:List J2) (q:List UInt8):(KF l q).length≤l.length:=HZ ..
def Jc6:Int:=Ji (Qc [])
def atG:Nat→List J2→List UInt8→Int
 | 0,l,_=>Ji (Qc l)
 | n+1,l,q=>if l.length=0 then Ji (Qc l) else if atG n (KF l (q++[48])) (q++[48])=Jc6∧atG n (KF l (q++[49])) (q++[49])=Jc6 then Jc6 else Ji (Qb 2 (atG n (KF l (q++[48])) (q++[48])) (atG n (KF l (q++[49])) (q++[49])))
def QS (l:List J2) (q:List UInt8):Int:=atG (16-q.length) l q
theorem JiC {l:List J2} {q:List UInt8} (h:(l.length:Int)=0∨(q.length:Int)=16):QS l q=Ji (Qc l):=by
 unfold QS
 rcases h with h | h
 ·
  cases hn:16-q.length with
  | zero=>rfl
  | succ n=>rw [atG,if_pos (by omega)]
 · rw [show 16-q.length=0 by omega];rfl
theorem Jeh {l:List J2} {q:List UInt8} (h1:¬ (l.length:Int)=0) (h2:q.length<16):QS l q=if QS (KF l (q++[48])) (q++[48])=Jc6∧QS (KF l (q++[49])) (q++[49])=Jc6 then Jc6 else Ji (Qb 2 (QS (KF l (q++[48])) (q++[48])) (QS (KF l (q++[49])) (q++[49]))):=by
 have e:16-q.length=(16-(q++[48]).length)+1:=by simp;omega
 have e2:16-(q++[49]).length=16-(q++[48]).length:=by simp
 conv=>lhs;unfold QS;rw [e,atG,if_neg (by omega)]
 unfold QS;rw [e2]
theorem Jmh (l:List J2) (q:List UInt8):0≤QS l q∧QS l q<18446744073709551616:=by
 unfold QS
 generalize 16-q.length=n
 cases n with
 | zero=>exact (by have:=QQ (Qc l);unfold atG;omega)
 | succ n =>
  rw [atG]
  have h1:=QQ (Qc l);have h2:=QQ (Qc []);have h3:=fun a b=>QQ (Qb 2 a b)
  split
  · omega
  split
  · unfold Jc6;omega
  · have:=h3 (atG n (KF l (q++[48])) (q++[48])) (atG n (KF l (q++[49])) (q++[49]));omega
def JX (l:List J2) (q:List UInt8):Int×Int:=if ¬ Kk l=0 then (0,Kk l) else if (q.length:Int) > 16∨¬ Ja1 q=[] then (0,3) else (QS (KF l q) q,0)
theorem Y3 (l:List J2) (q:List UInt8):0≤(JX l q).1∧(JX l q).1<18446744073709551616:=by
 unfold JX;split
 · simp
 split
 · simp
 · exact Jmh _ _
set_option maxRecDepth 4000 in
theorem Jj6 (G:J4) (a:Option Addr) (c:Nat) (l:List J2) (r:List Kh) (hr:J1 QD G a c l r) (hsm:l.length≤1000) (k_f:FuncId) (caps_f:Array Value) (p_f:J2→Bool) (hk_f:JaY Tryz.prog k_f) (h_f:∀ (vs0:List Value) (x0:J2) (hx0:QD.R G vs0 x0),Vp Tryz.prog k_f (#[.agg vs0.toArray]++caps_f) G [] (fun u _ _=>u=Bo (p_f x0))):Jg7 Tryz.prog 242 #[Sl a l.length c,.func (.func k_f) #[] caps_f] G [r] (fun u G' L'=>∃ a' c' r',u=Sl a' (l.filter fun y=>!p_f y).length c'∧J1 QD G' a' c' (l.filter fun y=>!p_f y) r'∧L'=[r']):=by
 intro Lr
 have hlc:=J1.lec hr
 have hcm:=J1.mx hr
 refine JR Tryz.func242 42 [(0,Sl a l.length c),(1,Fv k_f caps_f)] rfl (fun w0 G0=>?_)
 show TC _ _ _ _ _ (r::Lr)
 refine Jg [0] [] (Jf (Jd (Jc [0,0] [(8,Sl a l.length c),(9,Fv k_f caps_f)] (Jh6 (E:=QD) 10 0 hr (by simp only [QD];omega) (I (QT p_f l)) (fun G9 hle9 hs9=>Jfi G9 a c l hs9 k_f caps_f p_f hk_f (fun vs0 x0 hx0=>Vp.up hle9 (h_f vs0 x0 hx0))) (Jc [0] [(5,I (QT p_f l))] (Je (Jb (Jf (Jg [0,0] [(12,Bo (decide (QT p_f l=(-1))))] (Jl (decide (QT p_f l=(-1))) (fun h1=>?_) (fun h1=>?_)))))))))))
 refine Jg [0,0] [(4,Sl a l.length c)] (Jn (Jj ?_))
 have e_:l=(l.filter fun y=>!p_f y):=JnG (by omega)
 have en_:l.length=(l.filter fun y=>!p_f y).length:=congrArg Hn e_
 exact Jo [0] [Sl a l.length c] (KT (Lr:=Lr) [r] (Jh _) (⟨_,_,_,congrArg (fun n=>Sl a n c) en_,(e_ ▸ hr),rfl⟩))
 refine Jq (Jb (Jf ?_))
 have hib_:=Jo4 p_f l
 obtain ⟨kn1,hkn1⟩:∃ k_:Nat,QT p_f l=(k_:Int):=⟨(QT p_f l).toNat,by omega⟩
 have e1:QT p_f l=(kn1:Int):=hkn1
 refine Q2 5 (I (kn1:Int)) (congrArg I e1) ?_
 have hfi_:=Jmg hkn1
 refine Jg [0,0,0] [(6,I (Ha.wrap ((kn1:Int)+1)))] (JkB 6 ((kn1:Int)+1) J8 (Jy ?_))
 refine Qh (σ:=Nat×Nat×Option Addr×Nat×List Kh×List J2) (fun q_=>(q_.1<q_.2.1∧q_.2.1≤l.length)∧(J1 QD G q_.2.2.1 q_.2.2.2.1 q_.2.2.2.2.2 q_.2.2.2.2.1)∧(q_.2.2.2.2.2.length=l.length∧q_.2.2.2.2.2.drop q_.2.1=l.drop q_.2.1∧q_.2.2.2.2.2.take q_.1=(l.take q_.2.1).filter (fun y=>!p_f y))) (fun q_=>[(0,Sl q_.2.2.1 q_.2.2.2.2.2.length q_.2.2.2.1),(1,Fv k_f caps_f),(5,I (q_.1:Int)),(6,I (q_.2.1:Int))]) (fun q_=>G) (fun q_=>(q_.2.2.2.2.1::Lr)) (fun q_=>l.length-q_.2.1) (kn1,(kn1+1),a,c,r,l) ⟨(by (try dsimp only);omega),hr,⟨rfl,rfl,hfi_⟩⟩ (fun q_ hs=>?_)
 obtain ⟨i,j,ao,co,ro,xo⟩:=q_
 obtain ⟨hj,hro,hxo⟩:=hs
 dsimp only at hj hro hxo
 dsimp only
 refine Jf (Jg [0,0,0,0] [(19,Bo (decide ((j:Int)<(xo.length:Int))))] (Jl (decide ((j:Int)<(xo.length:Int))) (fun h2=>?_) (fun h2=>?_)))
 refine Jq (Jb (Jf (Jy (Jf (Jd (Jc [0,0] [(22,Sl ao xo.length co),(23,I (j:Int))] ?_))))))
 obtain ⟨x1,hx1⟩:=Wf (l:=xo) (k:=j) (by omega)
 obtain ⟨b1,o1,_,_,⟨rfl,w1,w2⟩,ha1,hre1,hc1⟩:=J1.ix hro hx1
 refine QK (b:=b1) (off:=o1) (len:=xo.length) (cap:=co) (ik:=.i64) 24 111 2 j ha1 J8 (W7 (off:=o1) (p:=j*2) (cs:=[Sr x1.name,Sr x1.value]) 25 111 0 0 (.agg #[Sr x1.name,Sr x1.value]) hre1 hc1 (Jv 7 #[Sr ([]),Sr ([])] 111 (fun b2=>JV [3] [] ([Sg b2 0 [Sr x1.name,Sr x1.value]]::ro::Lr) (Je (Jb (Jf (Jd (Jc [0,2] [(26,Fv k_f caps_f),(27,.agg #[Sr x1.name,Sr x1.value])] (ZT (k:=k_f) (caps:=caps_f) (args:=#[.agg #[Sr x1.name,Sr x1.value]]) 28 (Bo (p_f x1)) hk_f (h_f [Sr x1.name,Sr x1.value] x1 (⟨rfl,w1,w2⟩)) (Jc [0] [(29,Bo (!(p_f x1)))] (Je (Jb (Jl (!(p_f x1)) (fun h3=>?_) (fun h3=>?_))))))))))))))
 refine Jf (Jd (Jc [0,0,2] [(30,Sl ao xo.length co),(31,I (i:Int)),(32,.agg #[Sr x1.name,Sr x1.value])] ?_))
 obtain ⟨_,hx2⟩:=Wf (l:=xo) (k:=i) (by omega)
 obtain ⟨b3,o2,_,_,⟨rfl,_,_⟩,ha2,_,hc2⟩:=J1.ix hro hx2
 refine QK (b:=b3) (off:=o2) (len:=xo.length) (cap:=co) (ik:=.i64) 33 111 2 i ha2 J8 (YT (b:=b3) (off:=o2) 1 hro i x1 ha2 J8 (.agg #[Sr x1.name,Sr x1.value]) [Sr x1.name,Sr x1.value] ⟨rfl,w1,w2⟩ (fun r1 hr1=>?_))
 have e2:xo.length=(xo.set i x1).length:=(Hx ..).symm
 exact KU 0 (Sl ao ((xo.set i x1).length) co) (congrArg (Sl ao · co) e2) (KU 30 (Sl ao ((xo.set i x1).length) co) (congrArg (Sl ao · co) e2) (Je (Jb (Jd (Jc [0,0,0] [(5,I (Ha.wrap ((i:Int)+1)))] (Kr 5 ((i:Int)+1) J8 (Je (JN (Jb (Jd (Jc [0,0,0] [(6,I (Ha.wrap ((j:Int)+1)))] (Kr 6 ((j:Int)+1) J8 (Je (Qr (r1::Lr) (Qi (i+1,j+1,ao,co,r1,xo.set i x1) ⟨(by (try dsimp only);omega),hr1,(by (try dsimp only);exact ⟨by rw [Hx];exact hxo.1,JnF hxo.2.1 hj.1,JnE hxo.2.2 (JiB hxo.2.1 hx1) ‹_› J8⟩)⟩ (by (try dsimp only);omega))))))))))))))))
 exact Jq (JN (Jb (Jd (Jc [0,0,0] [(6,I (Ha.wrap ((j:Int)+1)))] (Kr 6 ((j:Int)+1) J8 (Je (Qr (ro::Lr) (Qi (i,j+1,ao,co,ro,xo) ⟨(by (try dsimp only);omega),hro,(by (try dsimp only);exact ⟨hxo.1,Jmf hxo.2.1,Jme hxo.2.2 (JiB hxo.2.1 hx1) ‹_›⟩)⟩ (by (try dsimp only);omega)))))))))
 refine KW (JY (J9 (JT (Jb ?_))))
 obtain ⟨b,off,css,spare,rfl,rfl,hc1,hc2,_,hsp,hle9,hmax,hone⟩:=J1.opened hro (by omega)
 refine Jf (Jd (Jc [0,0] [(36,Sl (At b off) xo.length co),(37,I (i:Int))] (Wz (a:=At b off) (a':=At b (off+(xo.take i).length*2)) (len:=xo.length) (cap:=co) (c':=co-(xo.take i).length) (n:=xo.length-(xo.take i).length) 38 2 (some (I (i:Int))) none i xo.length (.inr ⟨_,rfl⟩) (.inl ⟨rfl,rfl⟩) J8 (by rw [if_neg J8,Hg,HE (by omega)];simp [WN]) (by rw [Hg,HE (by omega)]) (by rw [Hg,HE (by omega)]) J8 (Jm3 (b:=b) (off:=off) (m:=xo.length-(xo.take i).length) (c':=co-(xo.take i).length) 0 (J1.tk hro i J8) rfl (by rw [Hg];omega) (by rw [Hg];omega) (fun r8 hr8=>Je (Jb (Jf (Jd (Jc [0,0] [(39,Sl (At b off) xo.length co),(40,I (i:Int))] (Wz (a:=At b off) (a':=At b off) (len:=xo.length) (cap:=co) (c':=co) (n:=(xo.take i).length) 41 2 none (some (I (i:Int))) 0 i (.inl ⟨rfl,rfl⟩) (.inr ⟨_,rfl⟩) (Hr _) (by split <;> simp [WN]) (Nat.sub_zero _).symm (by rw [Hg];omega) J8 (Jc [0] [(4,Sl (At b off) ((xo.take i).length) co)] (Je (Jb (Jn ?_))))))))))))))
 have e_:xo.take i=(l.filter fun y=>!p_f y):=by have q_:=hxo.2.2;rwa [HA (by omega:l.length≤j)] at q_
 have en_:(xo.take i).length=(l.filter fun y=>!p_f y).length:=congrArg Hn e_
 exact Jo [0] [Sl (At b off) ((xo.take i).length) co] (KT (Lr:=Lr) [r8] (Jh _) (⟨_,_,_,congrArg (fun n=>Sl (At b off) n co) en_,(e_ ▸ hr8),rfl⟩))
theorem Jj7 (G:J4) (vs_x:List Value) (x:J2) (h_x:QD.R G vs_x x) (vs_q:List Value) (q:(List UInt8)) (h_q:ES.R G vs_q q) (b_q:Nat) (hz_q:∀ j v,(vs_q:List Value)[j]? = some v→G b_q (0+j)=some v) :Q4 243 #[.agg vs_x.toArray,Pt b_q 0] G (Bo (Jcx x q)):=by
 obtain ⟨rfl,w1,_⟩:=h_x
 obtain ⟨rfl,_⟩:=h_q
 refine JR Tryz.func243 10 [(0,.agg #[Sr x.name,Sr x.value]),(1,Pt b_q 0)] rfl (fun w0 G0=>?_)
 refine Jf (Jd (Jv 2 #[Sr x.name,Sr x.value] 111 (fun b1=>Jc [0] [] (Je (Jb (Jf (Kp [] (Wl [(0,Pt b1 0),(1,Sr x.name),(2,Sr (way x.name)),(3,Sr q),(4,Bo (decide (q <+: way x.name))),(5,Bo (!(decide (q <+: way x.name)))),(6,Bo (!(decide (q <+: way x.name))))] (Km [] [(0,0),(1,2),(5,0),(6,0)] [2,3,4] [(3,Bo (!(decide (q <+: way x.name))))] (Ki ?_ (Ki ?_ (Ki ?_ K8))) ?_)))))))))
 refine Jt 2 6 (Sr (way x.name)) [(5,Sr x.name)] (fun X=>?_)
 exact Jm 6 (Sr (way x.name)) (Jc1 G x.name w1) Jp
 refine Jt 3 7 (Sr q) [(1,Pt b_q 0)] (fun X=>?_)
 exact JZ (o':=0) 7 9 (cs:=[Sr q]) 0 (Sr q) hz_q Jp
 refine Jt 4 8 (Bo (decide (q <+: way x.name))) [(6,Sr (way x.name)),(7,Sr q)] (fun X=>?_)
 exact Jm 8 (Bo (decide (q <+: way x.name))) (Jf0 G (way x.name) q) Jp
 refine Jb (Jn (Jo [0] [Bo (!(decide (q <+: way x.name)))] (Jx (Jh _) (congrArg Bo (?_:(Jcx x q)=(!(decide (q <+: way x.name)))).symm))))
 rfl
theorem JaL (G:J4) (a_l:Option Addr) (c_l:Nat) (l:List J2) (h_l:RS QD G a_l c_l l) (q:List UInt8) (hw_q:(q).length≤140737488351232) (h24:l.length≤24):Yw 201 #[Sl a_l l.length c_l,Sr q] G [] (fun u G' L'=>∃ (a1:Option Addr) (c2:Nat) (r3:List Kh),u=Sl a1 ((KF l q).length) c2∧(J1 QD G' a1 c2 (KF l q) r3)∧L'=[r3]):=by
 refine JR Tryz.func201 9 [(0,Sl a_l l.length c_l),(1,Sr q)] rfl (fun w0 G0=>?_)
 refine Jf (Jd (Jv 3 #[Sr q] 9 (fun b1=>Jc [0] [] (Je (Jb (Jf (Jd (Jc [0] [(5,Sl a_l l.length c_l)] (JI 6 (YA G a_l c_l l h_l) (fun v G1 L1 hl1 hp=>?_))))))))))
 obtain ⟨a1,c1,r1,rfl,hr1,rfl⟩:=hp
 refine Jc [0] [(7,Fv 243 #[Pt b1 0])] (QZ (b:=b1) (o:=0) (cs:=[Sr q]) 1 (fun G2 hl2 hz1=>Jw 0 (Qp (Ls:=[r1]) (Lr:=[[]]) 8 (Jj6 G2 a1 c1 l r1 (hr1.mono hl2) J8 243 #[Pt b1 0] (fun x0=>Jcx x0 q) (fun _ _=>by kernel_rfl) (fun vs0 x0 hx0=>by obtain ⟨rfl,w1,w2⟩:=hx0;exact Jj7 G2 [Sr x0.name,Sr x0.value] x0 (⟨rfl,w1,w2⟩) [Sr q] q (⟨rfl,hw_q⟩) b1 hz1)) (fun v G3 L1 hl3 hp=>?_))))
 obtain ⟨a2,c2,r2,rfl,hr2,rfl⟩:=hp
 refine Jc [0] [(4,Sl a2 ((l.filter fun y=>!((fun x0=>Jcx x0 q) y)).length) c2)] (Je (Jb (Jn (Jk 0 ?_))))
 have hf1:KF l q=l.filter fun y=>!((fun x0=>Jcx x0 q) y):=by
  rfl
 refine Jo [0] [Sl a2 ((l.filter fun y=>!((fun x0=>Jcx x0 q) y)).length) c2] (JA [r2] (Ja (Ja hl1 hl2) hl3) ?_)
 rw [hf1]
 try dsimp only
 exact ⟨a2,c2,r2,rfl,hr2,rfl⟩
theorem Jfr (N:Nat):∀ (G:J4) (a_l:Option Addr) (c_l:Nat) (l:List J2) (h_l:RS QD G a_l c_l l) (q:List UInt8) (hw_q:(q).length≤140737488351232) (h24:l.length≤24) (hq:q.length≤16),16-q.length<N→Q4 200 #[Sl a_l l.length c_l,Sr q] G (U (QS l q)):=by
 induction N with
 | zero=>intros;omega
 | succ N ih =>
  intro G a_l c_l l h_l q hw_q h24 hq hN
  refine JR Tryz.func200 50 [(0,Sl a_l l.length c_l),(1,Sr q)] rfl (fun w0 G0=>?_)
  refine Jg [0] [] (Jf (Jy (Jf (Jd (Jc [0,0,0,0] [(14,Bo (decide ((l.length:Int)=0)))] (Ks (decide ((l.length:Int)=0)) [14] [1,1,1,0] [0,0,0,0] (fun bb=>[(18,Bo (bb || (decide (((q).length:Int)=16))))]) (Jc [0] [(10,Bo ((decide ((l.length:Int)=0)) || (decide (((q).length:Int)=16))))] (Je (Jb (Jl ((decide ((l.length:Int)=0)) || (decide (((q).length:Int)=16))) (fun h1=>?_) (fun h1=>?_)))))))))))
  ·
   refine Jf (Jd (Jc [0] [(19,Sl a_l l.length c_l)] (Jm 20 (Sr (Qc l)) (V0 G a_l c_l l h_l ‹_›) (Jm 21 (U (Ji (Qc l))) (ZW (Qc l) (Jcu (Hm (Jbg ‹_›) (by decide))) G) (Jc [0] [(4,U (Ji (Qc l)))] (Je (Jb (Jn (Js (Jj (Jo [0] [U (Ji (Qc l))] (Jx (Jh _) (congrArg U (?_:(QS l q)=(Ji (Qc l))).symm)))))))))))))
   (rw [JiC (by omega)];done)
  ·
   refine Jq (JN (Jb (Jf (Jd (Jc [0] [(22,Sr q)] (ZJ 23 q ([48]) (by (simp only [Hd,He,Hf];omega)) (Jc [0] [(24,Sr q)] (ZJ 25 q ([49]) (by (simp only [Hd,He,Hf];omega)) (Jc [0,0] [(5,Sr (q++([48]))),(6,Sr (q++([49])))] (Je (Jb (Jf (Jd (Jc [0,0] [(26,Sl a_l l.length c_l),(27,Sr (q++([48])))] (JI 28 (JaL G a_l c_l l h_l (q++([48])) (by (simp;omega)) ‹_›) (fun v G1 L1 hl1 hp=>?_))))))))))))))))
   obtain ⟨a1,c1,_,rfl,hr1,rfl⟩:=hp
   refine Jc [0] [(29,Sr (q++([48])))] (WL (E:=QD) 0 hr1 (by have q_:=YN l (q++([48]));(simp only [QD];omega)) (fun G2 hl2 hs1=>Jm 30 (U (QS (KF l (q++([48]))) (q++([48])))) (ih G2 a1 c1 (KF l (q++([48]))) hs1 (q++([48])) (by (simp;omega)) (by (have q_:=YN l (q++[48]);omega)) (by (simp;omega)) (by simp only [Hd,He,Hf] at *;omega)) (Jc [0,0] [(31,Sl a_l l.length c_l),(32,Sr (q++([49])))] (JI 33 (JaL G2 a_l c_l l (h_l.mono (Ja hl1 hl2)) (q++([49])) (by (simp;omega)) ‹_›) (fun v G3 L1 hl3 hp=>?_)))))
   obtain ⟨a2,c2,_,rfl,hr2,rfl⟩:=hp
   refine Jc [0] [(34,Sr (q++([49])))] (WL (E:=QD) 0 hr2 (by have q_:=YN l (q++([49]));(simp only [QD];omega)) (fun G4 hl4 hs2=>Jm 35 (U (QS (KF l (q++([49]))) (q++([49])))) (ih G4 a2 c2 (KF l (q++([49]))) hs2 (q++([49])) (by (simp;omega)) (by (have q_:=YN l (q++[49]);omega)) (by (simp;omega)) (by simp only [Hd,He,Hf] at *;omega)) (Jc [0,0] [(7,U (QS (KF l (q++([48]))) (q++([48])))),(8,U (QS (KF l (q++([49]))) (q++([49]))))] (Je (Jb (Jf (Jf (Jd (Jm 36 (Sr (Qc ([]))) (V0 G4 none 0 ([]) (JP QD G4) (by (simp;done))) (Jm 37 (U (Ji (Qc ([])))) (ZW (Qc ([])) (Jcu (Hm (Jbg (by simp)) (by decide))) G4) (Jc [0] [(9,U (Ji (Qc ([]))))] (Je (Jb (Jf (Jd (Jc [0,0,0,0] [(41,Bo (decide (QS (KF l (q++([48]))) (q++([48]))=Ji (Qc ([])))))] (Ks (decide (QS (KF l (q++([48]))) (q++([48]))=Ji (Qc ([])))) [41] [0,0,0,0] [1,1,1,0] (fun bb=>[(45,Bo (bb && (decide (QS (KF l (q++([49]))) (q++([49]))=Ji (Qc ([]))))))]) (Je (Jb (Jl ((decide (QS (KF l (q++([48]))) (q++([48]))=Ji (Qc ([])))) && (decide (QS (KF l (q++([49]))) (q++([49]))=Ji (Qc ([]))))) (fun h2=>?_) (fun h2=>?_)))))))))))))))))))))
   ·
    refine Jg [0,0] [(4,U (Ji (Qc ([]))))] (Jn (Jj (Jo [0] [U (Ji (Qc ([])))] (Jx (Ja (Ja (Ja hl1 hl2) hl3) hl4) (congrArg U (?_:(QS l q)=(Ji (Qc ([])))).symm)))))
    (rw [Jeh (by omega) (by omega)];unfold Jc6;(rw [if_pos ‹_›];done))
   ·
    refine Jq (Jb (Jf (Jd (Jc [0,0] [(47,U (QS (KF l (q++([48]))) (q++([48])))),(48,U (QS (KF l (q++([49]))) (q++([49]))))] (Jm 49 (U (Ji (Qb 2 (QS (KF l (q++([48]))) (q++([48]))) (QS (KF l (q++([49]))) (q++([49])))))) (Jif 2 (QS (KF l (q++([48]))) (q++([48]))) (QS (KF l (q++([49]))) (q++([49]))) G4) (Jc [0] [(4,U (Ji (Qb 2 (QS (KF l (q++([48]))) (q++([48]))) (QS (KF l (q++([49]))) (q++([49]))))))] (Je (Jb (Jn (Jo [0] [U (Ji (Qb 2 (QS (KF l (q++([48]))) (q++([48]))) (QS (KF l (q++([49]))) (q++([49])))))] (Jx (Ja (Ja (Ja hl1 hl2) hl3) hl4) (congrArg U (?_:(QS l q)=(Ji (Qb 2 (QS (KF l (q++([48]))) (q++([48]))) (QS (KF l (q++([49]))) (q++([49])))))).symm))))))))))))
    (rw [Jeh (by omega) (by omega)];unfold Jc6;(rw [if_neg (by intro hc_;have q_:=h2 hc_.1;exact q_ hc_.2)];done))
theorem Jj8 (G:J4) (a_l:Option Addr) (c_l:Nat) (l:List J2) (h_l:RS QD G a_l c_l l) (q:List UInt8) (hw_q:(q).length≤140737488351232) (h24:l.length≤24) (hq:q.length≤16):Q4 200 #[Sl a_l l.length c_l,Sr q] G (U (QS l q)):=Jfr (16-q.length+1) G a_l c_l l h_l q hw_q h24 hq (Nat.lt_succ_self _)
theorem Jei (G:J4) (a_l:Option Addr) (c_l:Nat) (l:List J2) (h_l:RS QD G a_l c_l l) (q:List UInt8) (hw_q:(q).length≤140737488351232) :Q4 146 #[Sl a_l l.length c_l,Sr q] G (.tuple #[U ((JX l q).1),I ((JX l q).2)]):=by
 refine JR Tryz.func146 25 [(0,Sl a_l l.length c_l),(1,Sr q)] rfl (fun w0 G0=>?_)
 refine Jg [0,0] [] (Jf (Jf (Jd (Jc [0] [(7,Sl a_l l.length c_l)] (Jm 8 (I (Kk l)) (YV G a_l c_l l h_l) (Jc [0] [(6,I (Kk l))] (Je (Jb (Jg [0,0] [(10,Bo (!decide (Kk l=0)))] (Jl (!decide (Kk l=0)) (fun h1=>?_) (fun h1=>?_)))))))))))
 refine Jg [0,0,0] [(4,U 0),(5,I (Kk l))] (Jn (Jj (Jo [0,0] [U 0,I (Kk l)] (Jx (Jh _) ?_))))
 have hf_:(JX l q)=(0,(Kk l)):=by
  unfold JX;(rw [if_pos ‹_›];done)
 · (try rw [hf_]);(simp only [Qx];done)
 refine Jq (Jb (Jf (Jf (Jd (Jc [0,0,0,0] [(15,Bo (decide (((q).length:Int) > 16)))] (QY [15] (decide (((q).length:Int) > 16)) (fun h2=>?_) (fun h2=>?_)))))))
 refine Jc [1,1,1,0] [(19,Bo true)] (Je (Jb (JW (Jg [0,0] [(4,U 0),(5,I 3)] (Jn (Jj (Jo [0,0] [U 0,I 3] (Jx (Jh _) ?_))))))))
 have hf_:(JX l q)=(0,3):=by
  unfold JX;(rw [if_neg (by omega)];(rw [if_pos (by simp_all)];done))
 · (try rw [hf_]);(simp only [Qx];done)
 refine Jc [0] [(16,Sr q)] (Jm 17 (Sr (Ja1 q)) (Jmc G q hw_q) (Jc [0,0] [(19,Bo (!((B (Ja1 q)).toList == (B ([])).toList)))] (KU 19 (Bo (!(Ja1 q == []))) (show (Bo (!((B (Ja1 q)).toList == (B ([])).toList)):Value)=Bo (!(Ja1 q == [])) by simp only [Q3]) (Je (Jb (Jl (!(Ja1 q == [])) (fun h3=>?_) (fun h3=>?_)))))))
 refine Jg [0,0] [(4,U 0),(5,I 3)] (Jn (Jj (Jo [0,0] [U 0,I 3] (Jx (Jh _) ?_))))
 have hf_:(JX l q)=(0,3):=by
  unfold JX;(rw [if_neg (by omega)];(rw [if_pos (by simp_all)];done))
 · (try rw [hf_]);(simp only [Qx];done)
 refine Jq (Jb (Jf (Jd (Jc [0,0] [(20,Sl a_l l.length c_l),(21,Sr q)] (JI 22 (JaL G a_l c_l l h_l q ‹_› (by exact (K3.1 ‹_›).len)) (fun v G1 L1 hl1 hp=>?_))))))
 obtain ⟨a1,c1,_,rfl,hr1,rfl⟩:=hp
 refine Jc [0] [(23,Sr q)] (WL (E:=QD) 0 hr1 (by have q_:=YN l q;(have q1_:=(K3.1 ‹_›).len;simp only [QD];omega)) (fun G2 hl2 hs1=>Jm 24 (U (QS (KF l q) q)) (Jj8 G2 a1 c1 (KF l q) hs1 q ‹_› (by (have q_:=(K3.1 ‹_›).len;have q1_:=YN l q;omega)) J8) (Jc [0,0] [(4,U (QS (KF l q) q)),(5,I 0)] (Je (Jb (Jn (Jo [0,0] [U (QS (KF l q) q),I 0] (Jx (Ja hl1 hl2) ?_))))))))
 have hf_:(JX l q)=((QS (KF l q) q),0):=by
  unfold JX;(rw [if_neg (by omega)];(rw [if_neg (by simp_all)];done))
 · (try rw [hf_]);(simp only [Qx];done)
theorem Jbi (G:J4) (a_l:Option Addr) (c_l:Nat) (l:List J2) (h_l:RS QD G a_l c_l l) :Q4 95 #[Sl a_l l.length c_l] G (.tuple #[U ((JX l []).1),I ((JX l []).2)]):=by
 refine JR Tryz.func95 8 [(0,Sl a_l l.length c_l)] rfl (fun w0 G0=>?_)
 refine Jg [0,0] [] (Jf (Jd (Jc [0] [(4,Sl a_l l.length c_l)] (Jm 5 (.tuple #[U ((JX l ([])).1),I ((JX l ([])).2)]) (Jei G a_l c_l l h_l ([]) (Hc rfl)) (Jc [0,0,0,0] [(2,U ((JX l ([])).1)),(3,I ((JX l ([])).2))] (Je (Jb (Jn (Jo [0,0] [U ((JX l ([])).1),I ((JX l ([])).2)] (Jx (Jh _) ?_))))))))))
 have hf_:(JX l [])=(((JX l ([])).1),((JX l ([])).2)):=by
  rfl
 · (try rw [hf_]);(simp only [Qx];done)
theorem Jfs {R:J2→J2→Prop} (hi:∀ x,¬ R x x) (ha:∀ x y,R x y→¬ R y x):∀ (l m:List J2),l.Pairwise R→m.Pairwise R→(∀ y,y∈l ↔ y∈m)→l=m
 | [],m,_,_,h=>by
  cases m with
  | nil=>rfl
  | cons y m=>exact absurd ((h y).2 (HH ..)) (HU)
 | x::l,[],_,_,h=>absurd ((h x).1 (HH ..)) (HU)
 | x::l,y::m,h1,h2,h=>by
  rw [List.pairwise_cons] at h1 h2
  have e:x=y:=by
   rcases HC.1 ((h x).1 (HH ..)) with e | e
   · exact e
   rcases HC.1 ((h y).2 (HH ..)) with e' | e'
   · exact e'.symm
   · exact absurd (h1.1 _ e') (ha _ _ (h2.1 _ e))
  subst e
  congr 1
  refine Jfs hi ha l m h1.2 h2.2 fun z=>⟨fun hz=>?_,fun hz=>?_⟩
  ·
   rcases HC.1 ((h z).1 (H1 _ hz)) with e | e
   · subst e;exact absurd (h1.1 _ hz) (hi _)
   · exact e
  ·
   rcases HC.1 ((h z).2 (H1 _ hz)) with e | e
   · subst e;exact absurd (h2.1 _ hz) (hi _)
   · exact e
theorem W3.pair {l:List J2} (h:W3 l):l.Pairwise fun x y=>Ya x.name y.name<0:=by
 rw [List.pairwise_iff_getElem]
 intro i j hi hj hij
 exact h.ord i j _ _ hij (Hk hi) (Hk hj)
theorem W3.ext {l m:List J2} (h1:W3 l) (h2:W3 m) (h:∀ y,y∈l ↔ y∈m):l=m:=by
 refine Jfs (R:=fun x y=>Ya x.name y.name<0) (fun x hx=>?_) (fun x y hx hy=>?_) l m h1.pair h2.pair h
 · have:=ZI.2 (rfl:x.name=x.name);omega
 · have:=Jcv hx hy;have:=ZI.2 (rfl:x.name=x.name);omega
theorem Jcy {l:List J2} {q:List UInt8} (h:(JX l q).2=0):W3 l∧q.length≤16∧(∀ b∈q,isB b=true)∧(JX l q).1=QS (KF l q) q:=by
 unfold JX at h ⊢
 split at h
 · contradiction
 rename_i h1
 split at h
 · cases h
 rename_i h2
 rw [if_neg h1,if_neg h2]
 have h3:Ja1 q=[]:=Hl.1 fun hc=>h2 (.inr hc)
 have h4:¬ (q.length:Int) > 16:=fun hc=>h2 (.inl hc)
 exact ⟨K3.1 (Hl.1 h1),by omega,JgK.1 h3,rfl⟩
theorem Jcz {l:List J2} {q:List UInt8} (h1:W3 l) (h2:q.length≤16) (h3:∀ b∈q,isB b=true):JX l q=(QS (KF l q) q,0):=by
 unfold JX
 rw [if_neg (fun hc=>hc (K3.2 h1)),if_neg]
 rintro (hc | hc)
 · omega
 · exact hc (JgK.2 h3)
def Yn (b:UInt8):UInt8:=HJ (97-(b.toNat:Int)).toNat
theorem JiD {b:UInt8} (h:48≤b.toNat∧b.toNat≤49):Utf8.encode (97-(b.toNat:Int))=B [Yn b]:=Jg9 (by omega) (by omega)
def JnH (l:List J2) (p:List UInt8) (k:Nat):Int:=(JX l (p.take k++[Yn (p[k]?.getD 48)])).1
def JcA (l:List J2) (p:List UInt8) (n:Nat):List Int:=(List.range n).map fun i=>JnH l p (15-i)
theorem JcB (l:List J2) (p:List UInt8) (n:Nat):(JcA l p n).length=n:=by unfold JcA;simp
theorem JiE {l:List J2} {p:List UInt8} {k:Nat} {y:UInt8} (hy:p[k]? = some y) (hk:k≤15):JcA l p (15-k)++[(JX l (p.take k++[Yn y])).1]=JcA l p (15-k+1):=by
 unfold JcA
 rw [List.range_succ,List.map_append]
 congr 1
 simp only [List.map_cons,List.map_nil]
 unfold JnH
 rw [show 15-(15-k)=k by omega,hy];rfl
def JdO:Q6:=⟨[],[],[]⟩
def Jft (l:List J2) (p:List UInt8):List J2:=l.filter fun x=>way x.name == p
theorem Jmi {l:List J2} {i:Nat} {x:J2} {p:List UInt8} (h:l[i]? = some x) (hp:(way x.name == p)=true):Jft (l.take i) p++[x]=Jft (l.take (i+1)) p:=by unfold Jft;rw [Ht,h];simp [hp]
theorem Jmj {l:List J2} {i:Nat} {x:J2} {p:List UInt8} (h:l[i]? = some x) (hp:¬ (way x.name == p)=true):Jft (l.take i) p=Jft (l.take (i+1)) p:=by unfold Jft;rw [Ht,h];simp [hp]
theorem Jhy (l:List J2) (p:List UInt8):(Jft l p).length≤l.length:=HZ ..
def Qf (l:List J2) (name:List UInt8):Q6×Int:=if ¬ Kk l=0 then (JdO,Kk l) else if ¬ (KI name).2=0 then (JdO,(KI name).2) else (⟨name,Jft l (KI name).1,JcA l (KI name).1 16⟩,0)
set_option maxRecDepth 20000 in
theorem Jf2 (G:J4) (a_l:Option Addr) (c_l:Nat) (l:List J2) (h_l:RS QD G a_l c_l l) (name:List UInt8) (hw_name:(name).length≤140737488351232) :Yw 194 #[Sl a_l l.length c_l,Sr name] G [] (fun u G' L'=>∃ (a1:Option Addr) (c2:Nat) (a3:Option Addr) (c4:Nat),u=.tuple #[.agg #[Sr (((Qf l name).1).name),Sl a1 ((((Qf l name).1).entries).length) c2,Sl a3 ((((Qf l name).1).sides).length) c4],I ((Qf l name).2)]∧((((Qf l name).1).name).length≤140737488351232)∧(RS QD G' a1 c2 (((Qf l name).1).entries))∧(RS EU G' a3 c4 (((Qf l name).1).sides))∧L'=[]):=by
 refine JR Tryz.func194 78 [(0,Sl a_l l.length c_l),(1,Sr name)] rfl (fun w0 G0=>?_)
 refine Jf (Jd (Jv 4 #[Sr ([]),Sl none 0 0,Sl none 0 0] 47 (fun b1=>Jc [0] [] (Je (Jb (Jf (Jf (Jd (Jc [0] [(16,Sl a_l l.length c_l)] (Jm 17 (I (Kk l)) (YV G a_l c_l l h_l) (Jc [0] [(6,I (Kk l))] (Je (Jb (Jg [0,0] [(19,Bo (!decide (Kk l=0)))] (Jl (!decide (Kk l=0)) (fun h1=>?_) (fun h1=>?_))))))))))))))))
 refine Jg [0,0,3,0] [(5,I (Kk l))] (Jn (Jj ?_))
 have hf1:Qf l name=((⟨[],[],[]⟩:Q6),Kk l):=by
  unfold Qf JdO;(rw [if_pos ‹_›];done)
 refine Jo [0,0] [.agg #[Sr ([]),Sl none 0 0,Sl none 0 0],I (Kk l)] (JA [] (Jh _) ?_)
 rw [hf1]
 try dsimp only
 exact ⟨none,0,none,0,rfl,(Hc rfl),(JP QD G),(JP EU G),rfl⟩
 refine Jq (Jb (Jf (Jd (Jc [0] [(23,Sr name)] (Jm 24 (.tuple #[Sr ((KI name).1),I ((KI name).2)]) (Jcw G name hw_name) (Jc [0,0,0,0,0] [(7,Sr ((KI name).1)),(8,I ((KI name).2))] (Je (Jb (Jf (Jg [0,0] [(28,Bo (!decide ((KI name).2=0)))] (Jl (!decide ((KI name).2=0)) (fun h2=>?_) (fun h2=>?_))))))))))))
 refine Jg [0,0,3,0] [(5,I ((KI name).2))] (Jn (Jj ?_))
 have hf2:Qf l name=((⟨[],[],[]⟩:Q6),(KI name).2):=by
  unfold Qf JdO;(rw [if_neg (by omega)];(rw [if_pos ‹_›];done))
 refine Jo [0,0] [.agg #[Sr ([]),Sl none 0 0,Sl none 0 0],I ((KI name).2)] (JA [] (Jh _) ?_)
 rw [hf2]
 try dsimp only
 exact ⟨none,0,none,0,rfl,(Hc rfl),(JP QD G),(JP EU G),rfl⟩
 refine Jq (Jb (Jf (Jd (Jc [0,0] [(32,.agg #[Sr name,Sl none 0 0,Sl none 0 0])] (Jv 9 #[Sr ([]),Sl none 0 0,Sl none 0 0] 47 (fun b2=>JV [3] [] [[Sg b2 0 [Sr name,Sl none 0 0,Sl none 0 0]],[Sg b1 0 [Sr ([]),Sl none 0 0,Sl none 0 0]]] (Je (Jb (Jf (Jg [0,0,0] [(33,Sl a_l l.length c_l),(34,I (l.length:Int)),(35,I 0)] (Jy (Yk ?_))))))))))))
 have hlm_h_l:l.length≤9223372036854775807:=Hm (h_l).le (h_l).max
 refine Qh (σ:=Nat×Option Addr×Nat×List Kh×List J2×J4) (fun q_=>(J4.le G q_.2.2.2.2.2)∧(q_.1≤l.length)∧(J1 QD q_.2.2.2.2.2 q_.2.1 q_.2.2.1 q_.2.2.2.2.1 q_.2.2.2.1)∧(q_.2.2.2.2.1=Jft (l.take q_.1) (KI name).1)) (fun q_=>[(0,Sl a_l l.length c_l),(4,Pt b1 0),(7,Sr ((KI name).1)),(9,Pt b2 0),(33,Sl a_l l.length c_l),(34,I (l.length:Int)),(35,I (q_.1:Int))]) (fun q_=>q_.2.2.2.2.2) (fun q_=>[q_.2.2.2.1,[Sg b2 0 [Sr name,Sl q_.2.1 q_.2.2.2.2.1.length q_.2.2.1,Sl none 0 0]],[Sg b1 0 [Sr ([]),Sl none 0 0,Sl none 0 0]]]) (fun q_=>l.length-q_.1) (0,none,0,[],[],G) ⟨(Jh _),(by (try dsimp only);exact Hr _),(J1.none QD _),(by (try dsimp only);simp [Jft])⟩ (fun q_ hs=>?_)
 obtain ⟨i,ao,co,ro,xo,g⟩:=q_
 obtain ⟨hle,hi,hro,hxo⟩:=hs
 dsimp only at hle hi hro hxo
 dsimp only
 refine Jg [0] [(36,Bo (decide ((i:Int)<(l.length:Int))))] (Jf (Jl (decide ((i:Int)<(l.length:Int))) (fun h3=>?_) (fun h3=>?_)))
 refine Jq (Jb (Jf (Jy (Jf (Jd ?_)))))
 obtain ⟨b3,o1,rfl⟩:=RS.addr (h_l.mono hle) (k:=i) (by omega)
 obtain ⟨x1,hx1⟩:=Wf (l:=l) (k:=i) (by omega)
 obtain ⟨_,⟨rfl,w1,_⟩,hc1⟩:=RS.get (h_l.mono hle) hx1
 refine J5 (b:=b3) (off:=o1) (len:=l.length) (cap:=c_l) (ik:=.i64) 37 111 2 i J8 (JZ 38 111 (cs:=[Sr x1.name,Sr x1.value]) 0 (.agg #[Sr x1.name,Sr x1.value]) hc1 (Jv 11 #[Sr ([]),Sr ([])] 111 (fun b4=>JV [3] [] [[Sg b4 0 [Sr x1.name,Sr x1.value]],ro,[Sg b2 0 [Sr name,Sl ao xo.length co,Sl none 0 0]],[Sg b1 0 [Sr ([]),Sl none 0 0,Sl none 0 0]]] (Je (Jb (Jf (Jd (Jc [0,2] [(40,Sr x1.name)] (Jm 41 (Sr (way x1.name)) (Jc5 g x1.name w1) (Jc [0,0] [(43,Bo ((B (way x1.name)).toList == (B ((KI name).1)).toList))] (KU 43 (Bo (way x1.name == (KI name).1)) (show (Bo ((B (way x1.name)).toList == (B ((KI name).1)).toList):Value)=Bo (way x1.name == (KI name).1) by simp only [Q3]) (Je (Jb (Jl (way x1.name == (KI name).1) (fun h4=>?_) (fun h4=>?_)))))))))))))))
 exact Jd (Jc [0,6,2] [(45,Sl ao xo.length co),(46,.agg #[Sr x1.name,Sr x1.value])] (Kt 47 1 #[Sr x1.name,Sr x1.value] 111 (fun b5=>Qy (b:=b5) (cs:=[Sr x1.name,Sr x1.value]) 48 111 2 0 (E:=QD) x1 hro ⟨rfl,‹_›,‹_›⟩ (by have q_:=(K3.1 ‹_›).len;(have q2_:=Jhy (l.take i) (KI name).1;have q3_:=congrArg Hn hxo;rw [Hg] at q2_;(try simp only [QD,EU,Hd,He,Hf] at *);omega)) (by have q_:=(K3.1 ‹_›).len;(have q2_:=Jhy (l.take i) (KI name).1;have q3_:=congrArg Hn hxo;rw [Hg] at q2_;(try simp only [QD,EU,Hd,He,Hf] at *);omega)) (fun a1 c1 r1 hr1=>JV [0,9] [] [[Sg b5 0 [Sr x1.name,Sr x1.value]],[Sg b4 0 [Sr x1.name,Sr x1.value]],r1,[Sg b2 0 [Sr name,Sl a1 ((xo++[x1]).length) c1,Sl none 0 0]],[Sg b1 0 [Sr ([]),Sl none 0 0,Sl none 0 0]]] (Je (JN (Jb (Jd (Jc [0,0] [(35,I (Ha.wrap ((i:Int)+1)))] (Kr 35 ((i:Int)+1) J8 (Je (Qr [r1,[Sg b2 0 [Sr name,Sl a1 ((xo++[x1]).length) c1,Sl none 0 0]],[Sg b1 0 [Sr ([]),Sl none 0 0,Sl none 0 0]]] (Qi (i+1,a1,c1,r1,xo++[x1],g) ⟨(Ja hle (Jh _)),J8,hr1,(by (try dsimp only);rw [hxo];exact Jmi hx1 (by simp_all))⟩ (by (try dsimp only);omega))))))))))))))
 exact Jq (JN (Jb (Jd (Jc [0,0] [(35,I (Ha.wrap ((i:Int)+1)))] (Kr 35 ((i:Int)+1) J8 (Je (Qr [ro,[Sg b2 0 [Sr name,Sl ao xo.length co,Sl none 0 0]],[Sg b1 0 [Sr ([]),Sl none 0 0,Sl none 0 0]]] (Qi (i+1,ao,co,ro,xo,g) ⟨(Ja hle (Jh _)),J8,hro,(by (try dsimp only);rw [hxo];exact Jmj hx1 (by simp_all))⟩ (by (try dsimp only);omega)))))))))
 refine KW (JY (J9 (JT (Jb (Jf (Jg [0] [(12,I 15)] (Jy (Yk ?_))))))))
 have hlm_h_l:l.length≤9223372036854775807:=Hm (h_l).le (h_l).max
 refine Qh (σ:=Int×Option Addr×Nat×List Kh×List J2×Option Addr×Nat×List Kh×List Int×J4) (fun q_=>(J4.le g q_.2.2.2.2.2.2.2.2.2)∧(-1≤q_.1∧q_.1≤15)∧(J1 QD q_.2.2.2.2.2.2.2.2.2 q_.2.1 q_.2.2.1 q_.2.2.2.2.1 q_.2.2.2.1)∧(q_.2.2.2.2.1=Jft l (KI name).1)∧(J1 EU q_.2.2.2.2.2.2.2.2.2 q_.2.2.2.2.2.1 q_.2.2.2.2.2.2.1 q_.2.2.2.2.2.2.2.2.1 q_.2.2.2.2.2.2.2.1)∧(q_.2.2.2.2.2.2.2.2.1=JcA l (KI name).1 (15-q_.1).toNat)) (fun q_=>[(0,Sl a_l l.length c_l),(4,Pt b1 0),(7,Sr ((KI name).1)),(9,Pt b2 0),(12,I q_.1)]) (fun q_=>q_.2.2.2.2.2.2.2.2.2) (fun q_=>[q_.2.2.2.2.2.2.2.1,q_.2.2.2.1,[Sg b2 0 [Sr name,Sl q_.2.1 q_.2.2.2.2.1.length q_.2.2.1,Sl q_.2.2.2.2.2.1 q_.2.2.2.2.2.2.2.2.1.length q_.2.2.2.2.2.2.1]],[Sg b1 0 [Sr ([]),Sl none 0 0,Sl none 0 0]]]) (fun q_=>(q_.1+1).toNat) (15,ao,co,ro,xo,none,0,[],[],g) ⟨(Jh _),(by (try dsimp only);omega),hro,(by (try dsimp only);rw [hxo,HA (by omega)]),(J1.none EU _),rfl⟩ (fun q_ hs=>?_)
 obtain ⟨k,ao,co,ro,xo,am,cm,rm,xm,g1_⟩:=q_
 obtain ⟨hle1_,hk,hro,hxo,hrm,hxm⟩:=hs
 dsimp only at hle1_ hk hro hxo hrm hxm
 dsimp only
 refine Jf (Jg [0,0] [(52,Bo (decide (k ≥ 0)))] (Jl (decide (k ≥ 0)) (fun h5=>?_) (fun h5=>?_)))
 refine Jq (Jb (Jf (Jy ?_)))
 obtain ⟨kn1,hkn1⟩:∃ k_:Nat,k=(k_:Int):=⟨(k).toNat,by omega⟩
 have e1:k=(kn1:Int):=hkn1
 refine Q2 12 (I (kn1:Int)) (congrArg I e1) (Jf ?_)
 obtain ⟨y1,hy1⟩:=Wf (l:=(KI name).1) (k:=kn1) (by (have q_:=JdN (a:=name) ‹_›;have q1_:=congrArg Hn q_;rw [VY] at q1_;omega))
 have hb_y1:=y1.toNat_lt
 have e2:H0.wrap (y1.toNat:Int)=(y1.toNat:Int):=by (rw [IntKind.wrap_i32];omega)
 have e3:H0.wrap (97-(y1.toNat:Int))=97-(y1.toNat:Int):=by (rw [IntKind.wrap_i32];omega)
 refine Kp [] (Wl [(0,Sr ((KI name).1)),(1,I (kn1:Int)),(2,Sr (((KI name).1).take kn1)),(3,Sr ((KI name).1)),(4,I (kn1:Int)),(5,Y (y1.toNat:Int)),(6,.int .i32 (y1.toNat:Int)),(7,.int .i32 (97-(y1.toNat:Int))),(8,Sr ([Yn y1])),(9,Sr ((((KI name).1).take kn1)++([Yn y1]))),(10,Sr ((((KI name).1).take kn1)++([Yn y1])))] (Km [] [(0,0),(1,0),(3,0),(4,0),(10,0)] [2,5,6,7,8,9] [(0,Sl a_l l.length c_l),(4,Pt b1 0),(7,Sr ((KI name).1)),(9,Pt b2 0),(12,I (kn1:Int)),(13,Sr ((((KI name).1).take kn1)++([Yn y1])))] (Ki ?_ (Ki ?_ (Ki ?_ (Ki ?_ (Ki ?_ (Ki ?_ K8)))))) ?_))
 refine Jt 2 57 (Sr (((KI name).1).take kn1)) [(55,Sr ((KI name).1)),(56,I (kn1:Int))] (fun X=>?_)
 exact JdA (l:=(KI name).1) 57 none (some (I (kn1:Int))) 0 kn1 (.inl ⟨rfl,rfl⟩) (.inr ⟨_,rfl⟩) (Hr _) (by (have q_:=JdN (a:=name) ‹_›;have q1_:=congrArg Hn q_;rw [VY] at q1_;omega)) Jp
 refine Jt 5 60 (Y (y1.toNat:Int)) [(58,Sr ((KI name).1)),(59,I (kn1:Int))] (fun X=>?_)
 exact JaW (ik:=.i64) 60 kn1 y1 hy1 Jp
 refine Jt 6 61 (.int .i32 (y1.toNat:Int)) [(60,Y (y1.toNat:Int))] (fun X=>?_)
 exact KV 61 (.int .i32 (H0.wrap (y1.toNat:Int))) (.int .i32 (y1.toNat:Int)) (by simp only [e2]) Jp
 refine Jt 7 62 (.int .i32 (97-(y1.toNat:Int))) [(61,.int .i32 (y1.toNat:Int))] (fun X=>?_)
 exact KV 62 (.int .i32 (H0.wrap (97-(y1.toNat:Int)))) (.int .i32 (97-(y1.toNat:Int))) (by simp only [e3]) Jp
 refine Jt 8 63 (Sr ([Yn y1])) [(62,.int .i32 (97-(y1.toNat:Int)))] (fun X=>?_)
 exact Jm4 63 (97-(y1.toNat:Int)) [Yn y1] (JiD (isB_bd (Jj0 name _ (Ho (by rw [← JdN ‹_›];exact hy1))))) Jp
 refine Jt 9 64 (Sr ((((KI name).1).take kn1)++([Yn y1]))) [(57,Sr (((KI name).1).take kn1)),(63,Sr ([Yn y1]))] (fun X=>?_)
 exact ZJ 64 (((KI name).1).take kn1) ([Yn y1]) (by (try simp only [Hd,Hg,He,Hf]);omega) Jp
 refine Jb (Jf (Jd (Jc [0,0] [(66,Sl a_l l.length c_l),(67,Sr ((((KI name).1).take kn1)++([Yn y1])))] (Jm 68 (.tuple #[U ((JX l ((((KI name).1).take kn1)++([Yn y1]))).1),I ((JX l ((((KI name).1).take kn1)++([Yn y1]))).2)]) (Jei g1_ a_l c_l l (h_l.mono (Ja hle hle1_)) ((((KI name).1).take kn1)++([Yn y1])) (by (simp;omega))) (Jc [0,0,0,0,0] [(14,U ((JX l ((((KI name).1).take kn1)++([Yn y1]))).1))] (Je (Jb (Jd (Jc [0,6,0] [(72,Sl am xm.length cm),(73,U ((JX l ((((KI name).1).take kn1)++([Yn y1]))).1))] (Kt 74 1 #[U ((JX l ((((KI name).1).take kn1)++([Yn y1]))).1)] 41 (fun b6=>Qy (b:=b6) (cs:=[U ((JX l ((((KI name).1).take kn1)++([Yn y1]))).1)]) 75 41 1 0 (E:=EU) ((JX l ((((KI name).1).take kn1)++([Yn y1]))).1) hrm ⟨rfl,(Y3 _ _)⟩ (by have q_:=(K3.1 ‹_›).len;(have q3_:=congrArg Hn hxm;rw [JcB] at q3_;(try simp only [QD,EU,Hd,He,Hf] at *);omega)) (by have q_:=(K3.1 ‹_›).len;(have q3_:=congrArg Hn hxm;rw [JcB] at q3_;(try simp only [QD,EU,Hd,He,Hf] at *);omega)) (fun a2 c2 r2 hr2=>JV [0,9] [] [[Sg b6 0 [U ((JX l ((((KI name).1).take kn1)++([Yn y1]))).1)]],r2,ro,[Sg b2 0 [Sr name,Sl ao xo.length co,Sl a2 ((xm++[(JX l ((((KI name).1).take kn1)++([Yn y1]))).1]).length) c2]],[Sg b1 0 [Sr ([]),Sl none 0 0,Sl none 0 0]]] (Je (JN (Jb (Jd (Jc [0,0,0] [(12,I (Ha.wrap ((kn1:Int)-1)))] (Kr 12 ((kn1:Int)-1) J8 (Je ?_)))))))))))))))))))
 exact Qr [r2,ro,[Sg b2 0 [Sr name,Sl ao xo.length co,Sl a2 ((xm++[(JX l ((((KI name).1).take kn1)++([Yn y1]))).1]).length) c2]],[Sg b1 0 [Sr ([]),Sl none 0 0,Sl none 0 0]]] (Qi ((kn1:Int)-1,ao,co,ro,xo,a2,c2,r2,xm++[(JX l ((((KI name).1).take kn1)++([Yn y1]))).1],g1_) ⟨(Ja hle1_ (Jh _)),(by (try dsimp only);omega),hro,hxo,hr2,(by (try dsimp only);rw [hxm,show (15-((kn1:Int)-1)).toNat=15-kn1+1 by omega,show (15-k).toNat=15-kn1 by omega];exact JiE hy1 J8)⟩ (by (try dsimp only);omega))
 refine KW (JY (J9 (JT (Jb (QA [6,9,0] [(5,I 0)] [rm,ro,[Sg b2 0 [Sr name,Sl ao xo.length co,Sl am xm.length cm]],[Sg b1 0 [Sr name,Sl ao xo.length co,Sl am xm.length cm]]] (Jn (Wp (E:=QD) 1 hro (by have q_:=(K3.1 ‹_›).len;(have q3_:=congrArg Hn hxo;have q2_:=Jhy l (KI name).1;(try simp only [QD,EU,Hd,He,Hf] at *);omega)) (fun G1 hl1 hs1=>Wp (E:=EU) 0 (hrm.mono hl1) (by have q_:=(K3.1 ‹_›).len;(have q3_:=congrArg Hn hxm;rw [JcB] at q3_;(try simp only [QD,EU,Hd,He,Hf] at *);omega)) (fun G2 hl2 hs2=>?_)))))))))
 have hf3:Qf l name=((⟨name,xo,xm⟩:Q6),0):=by
  unfold Qf JdO;(rw [if_neg (by omega)];(rw [if_neg (by omega),hxo,hxm,show (15-k).toNat=16 by omega];done))
 refine Jo [3,0] [.agg #[Sr name,Sl ao xo.length co,Sl am xm.length cm],I 0] (JA [] (Ja (Ja (Ja hle hle1_) hl1) hl2) ?_)
 rw [hf3]
 try dsimp only
 exact ⟨ao,co,am,cm,rfl,hw_name,(hs1.mono hl2),hs2,rfl⟩
def JnI (a:List (List UInt8)):List UInt8:=a[a.length-1]?.getD []
theorem Jmk {a:List (List UInt8)} {k:Nat} {x:List UInt8} (hk:k=a.length-1) (h:a[k]? = some x):x=JnI a:=by unfold JnI;rw [← hk,h];rfl
def JaB (x y:JU):Bool:=decide (Jz x y.root y.at_=(y,0))
theorem JdP {x y:JU}:JaB x y=true ↔ (Jz x y.root y.at_).2=0∧(Jz x y.root y.at_).1.epoch=y.epoch∧(Jz x y.root y.at_).1.root=y.root∧(Jz x y.root y.at_).1.prev=y.prev∧(Jz x y.root y.at_).1.at_=y.at_:=by
 unfold JaB
 rw [decide_eq_true_eq]
 constructor
 · intro h;rw [h];simp
 ·
  rintro ⟨h1,h2⟩
  exact Prod.ext (JbD.2 h2) h1
def lnk:List JU→Nat→Int
 | x::y::r,i=>if JaB x y then lnk (y::r) (i+1) else (i:Int)
 | _,_=>-1
def Wm (l:List JU):Int:=lnk l 1
theorem Jo5 {l:List JU} {i:Nat} (h:l.length≤1):lnk l i=-1:=by
 match l,h with
 | [],_=>rfl
 | [_],_=>rfl
theorem JnJ {l:List JU} {i:Nat} {x y:JU} (hi:1≤i) (hx:l[i-1]? = some x) (hy:l[i]? = some y) (h:JaB x y=true):lnk (l.drop (i-1)) i=lnk (l.drop (i+1-1)) (i+1):=by
 obtain ⟨h1,rfl⟩:=Hb.1 hx
 obtain ⟨h2,rfl⟩:=Hb.1 hy
 rw [Hj h1,show i-1+1=i by omega,show i+1-1=i by omega,Hj h2]
 show (if JaB _ _=true then _ else _)=_
 rw [if_pos h]
theorem JnK {l:List JU} {i:Nat} {x y:JU} (hi:1≤i) (hx:l[i-1]? = some x) (hy:l[i]? = some y) (h:¬ JaB x y=true):lnk (l.drop (i-1)) i=(i:Int):=by
 obtain ⟨h1,rfl⟩:=Hb.1 hx
 obtain ⟨h2,rfl⟩:=Hb.1 hy
 rw [Hj h1,show i-1+1=i by omega,Hj h2]
 show (if JaB _ _=true then _ else _)=_
 rw [if_neg h]
theorem Jk4:∀ (l:List JU) (i:Nat),lnk l i<0 ↔ ∀ (k:Nat) x y,l[k]? = some x→l[k+1]? = some y→JaB x y=true
 | [],i=>by simp [lnk]
 | [a],i=>by simp [lnk]
 | a::b::r,i=>by
  have ih:=Jk4 (b::r) (i+1)
  unfold lnk
  split
  ·
   rename_i h
   rw [ih]
   constructor
   ·
    intro hh k x y hx hy
    cases k with
    | zero=>simp at hx hy;subst hx hy;exact h
    | succ k=>exact hh k x y hx hy
   ·
    intro hh k x y hx hy
    exact hh (k+1) x y hx hy
  ·
   rename_i h
   constructor
   · intro hh;omega
   · intro hh;exact absurd (hh 0 a b rfl rfl) h
def Y4:List JU→Nat→Int×Int
 | [],_=>(0,0)
 | h::l,i=>if JL h=0 then Y4 l (i+1) else (JL h,(i:Int))
theorem JiF {l:List JU} {i:Nat} {x:JU} (hx:l[i]? = some x) (h:JL x=0):Y4 (l.drop i) i=Y4 (l.drop (i+1)) (i+1):=by
 obtain ⟨h1,rfl⟩:=Hb.1 hx
 rw [Hj h1]
 show (if JL _=0 then _ else _)=_
 rw [if_pos h]
theorem Jml {l:List JU} {i:Nat} {x:JU} (hx:l[i]? = some x) (h:¬ JL x=0):Y4 (l.drop i) i=(JL x,(i:Int)):=by
 obtain ⟨h1,rfl⟩:=Hb.1 hx
 rw [Hj h1]
 show (if JL _=0 then _ else _)=_
 rw [if_neg h]
theorem Jfu:∀ (l:List JU) (i:Nat),(Y4 l i).1=0 ↔ ∀ h∈l,JL h=0
 | [],i=>by simp [Y4]
 | h::l,i=>by
  have ih:=Jfu l (i+1)
  unfold Y4
  split
  · rename_i e;rw [ih];simp [e]
  · rename_i e;simp [e]
def Kd (l:List JU):Int×Int:=if l.length=0 then (5,0) else if 40<l.length then (2,0) else if (Y4 l 0).1 ≠ 0 then Y4 l 0 else if 0≤Wm l then (8,Wm l) else (0,0)
structure Zf (l:List JU):Prop where
 len1:1≤l.length
 len:l.length≤40
 ok:∀ h∈l,JL h=0
 lnk:∀ (k:Nat) x y,l[k]? = some x→l[k+1]? = some y→JaB x y=true
theorem Qe {l:List JU}:(Kd l).1=0 ↔ Zf l:=by
 unfold Kd
 have e1:=Jfu l 0
 have e2:=Jk4 l 1
 constructor
 ·
  intro h
  split at h
  · cases h
  split at h
  · cases h
  split at h
  · contradiction
  split at h
  · cases h
  ·
   rename_i h1 h2 h3 h4
   exact ⟨by omega,by omega,e1.1 (Hl.1 h3),e2.1 (by unfold Wm at h4;omega)⟩
 ·
  rintro ⟨h1,h2,h3,h4⟩
  rw [if_neg (by omega),if_neg (by omega),if_neg (by have:=e1.2 h3;omega),if_neg (by have:=e2.2 h4;unfold Wm;omega)]
def K4:List (List JU)→Int
 | []=>0
 | l::r=>if (Kd l).1=0 then K4 r else (Kd l).1
theorem Jf3 {l:List (List JU)} {i:Nat} {x:List JU} (hx:l[i]? = some x) (h:(Kd x).1=0):K4 (l.drop i)=K4 (l.drop (i+1)):=by
 obtain ⟨h1,rfl⟩:=Hb.1 hx
 rw [Hj h1]
 show (if (Kd _).1=0 then _ else _)=_
 rw [if_pos h]
theorem JiG {l:List (List JU)} {i:Nat} {x:List JU} (hx:l[i]? = some x) (h:¬ (Kd x).1=0):K4 (l.drop i)=(Kd x).1:=by
 obtain ⟨h1,rfl⟩:=Hb.1 hx
 rw [Hj h1]
 show (if (Kd _).1=0 then _ else _)=_
 rw [if_neg h]
theorem Jc7:∀ (l:List (List JU)),K4 l=0 ↔ ∀ x∈l,Zf x
 | []=>by simp [K4]
 | a::l=>by
  have ih:=Jc7 l
  unfold K4
  split
  · rename_i e;rw [ih];simp [Qe.1 e]
  ·
   rename_i e;constructor
   · intro h;exact absurd h e
   · intro h;exact absurd (Qe.2 (h a (by simp))) e
theorem QE {l:List JU}:K4 [l]=0 ↔ Zf l:=by rw [Jc7];simp
def WW (l:List JU):JU:=l[l.length-1]?.getD Zr
def WS (l:List JU):JU:=l[0]?.getD Zr
theorem WD {l:List JU} {k:Nat} {x:JU} (hk:k=l.length-1) (h:l[k]? = some x):x=WW l:=by unfold WW;rw [← hk,h];rfl
theorem WT {l:List JU} {x:JU} (h:l[0]? = some x):x=WS l:=by unfold WS;rw [h];rfl
def ZX (l:List JU) (root at_:Int):Int:=if K4 [l] ≠ 0 then K4 [l] else if (l.length:Int)=40 then 7 else (Jz (WW l) root at_).2
def Qu (l:List JU) (root at_:Int):List JU×Int:=if ZX l root at_ ≠ 0 then ([],ZX l root at_) else (l++[(Jz (WW l) root at_).1],0)
def cut (l:List JU) (a b:Int):List JU:=(l.take (b-(WS l).epoch+1).toNat).drop (a-(WS l).epoch).toNat
def W0 (l:List JU) (a b:Int):List JU×Int:=if K4 [l] ≠ 0 then ([],K4 [l]) else if b<a∨a<(WS l).epoch∨(WW l).epoch<b then ([],4) else (cut l a b,0)
def QX (h:JU) (l:List JU):Bool×Int:=if K4 [l] ≠ 0 then (false,K4 [l]) else if JL h ≠ 0 then (false,JL h) else (decide (Wm [h,WS l]<0),0)
theorem Zf.first {l:List JU} (h:Zf l):l[0]? = some (WS l):=by
 have:=h.len1
 have e:l[0]? = some (l[0]'(by omega)):=Hk (by omega)
 rw [e];unfold WS;rw [e];rfl
theorem Zf.last {l:List JU} (h:Zf l):l[l.length-1]? = some (WW l):=by
 have:=h.len1
 have e:l[l.length-1]? = some (l[l.length-1]'(by omega)):=Hk (by omega)
 rw [e];unfold WW;rw [e];rfl
theorem JiH {x y:JU} (h:JaB x y=true):y.epoch=x.epoch+1:=by
 unfold JaB at h
 rw [decide_eq_true_eq] at h
 have h0:(Jz x y.root y.at_).2=0:=by rw [h]
 have:=(VL h0).2.2.2.1
 rw [h] at this
 have:=congrArg (fun p=>p.1.epoch) this
 simpa using this
theorem Zf.epoch {l:List JU} (h:Zf l):∀ (k:Nat) x,l[k]? = some x→x.epoch=(WS l).epoch+k
 | 0,x,hx=>by rw [h.first] at hx;rw [← Hp.inj hx];simp
 | k+1,x,hx=>by
  have hk:=(Hb.1 hx).1
  have e:l[k]? = some (l[k]'(by omega)):=Hk (by omega)
  have:=h.epoch k _ e
  have:=JiH (h.lnk k _ _ e hx)
  omega
theorem Zf.lastE {l:List JU} (h:Zf l):(WW l).epoch=(WS l).epoch+l.length-1:=by
 have:=h.epoch _ _ h.last
 have:=h.len1
 omega
theorem Zf.fb {l:List JU} (h:Zf l):0≤(WS l).epoch∧(WS l).epoch≤1000000:=by
 have:=Ze (h.ok _ (Ho h.first));omega
theorem Zf.lb {l:List JU} (h:Zf l):0≤(WW l).epoch∧(WW l).epoch≤1000000:=by
 have:=Ze (h.ok _ (Ho h.last));omega
theorem Jc8 {l:List JU} {r t:Int} (h:(Qu l r t).2=0):Zf l∧l.length<40∧(Jz (WW l) r t).2=0∧Qu l r t=(l++[(Jz (WW l) r t).1],0):=by
 unfold Qu at h ⊢
 split at h
 · contradiction
 ·
  rename_i h1
  rw [if_neg h1]
  unfold ZX at h1
  by_cases e1:K4 [l]=0
  ·
   rw [if_neg (by omega)] at h1
   have hc:=QE.1 e1
   by_cases e2:(l.length:Int)=40
   · rw [if_pos e2] at h1;omega
   ·
    rw [if_neg e2] at h1
    exact ⟨hc,by have:=hc.len;omega,Hl.1 h1,rfl⟩
  · rw [if_pos e1] at h1;omega
theorem Jf4 {l:List JU} {r t:Int} (h:¬ (Qu l r t).2=0):(Qu l r t).1=[]:=by
 revert h;unfold Qu;split <;> simp
theorem Zf.snoc {l:List JU} (h:Zf l) (hl:l.length<40) {n:JU} (hn:JL n=0) (hk:JaB (WW l) n=true):Zf (l++[n]):=by
 refine ⟨by simp,by simp;omega,fun x hx=>?_,fun k x y hx hy=>?_⟩
 ·
  rcases HF.1 hx with hx | hx
  · exact h.ok x hx
  · rw [Hz.1 hx];exact hn
 ·
  by_cases e:k+1<l.length
  ·
   rw [HD (by omega)] at hx hy
   exact h.lnk k x y hx hy
  ·
   have hy1:=(Hb.1 hy).1
   simp at hy1
   have e2:k=l.length-1:=by have:=h.len1;omega
   have:=h.len1
   rw [HD (by omega),e2,h.last] at hx
   rw [HR (by omega),show k+1-l.length=0 by omega] at hy
   simp at hy
   rw [← Hp.inj hx,← hy];exact hk
theorem Jj9 {x:JU} {r t:Int} (h:(Jz x r t).2=0):JaB x (Jz x r t).1=true∧JL (Jz x r t).1=0:=by
 obtain ⟨h1,h2,h3,h4,h5⟩:=VL h
 have e1:(Jz x r t).1.root=r:=by rw [h4]
 have e2:(Jz x r t).1.at_=t:=by rw [h4]
 refine ⟨?_,by rw [h4];exact h5⟩
 unfold JaB
 rw [decide_eq_true_eq,e1,e2]
 exact Prod.ext rfl h
theorem Ye {x:JU} {r t:Int} (hr:0≤r) (h:(Jz x r t).2=0):(0≤(Jz x r t).1.epoch∧(Jz x r t).1.epoch≤1000000)∧(0≤(Jz x r t).1.root∧(Jz x r t).1.root<2305843009213693951)∧(0≤(Jz x r t).1.prev∧(Jz x r t).1.prev<2305843009213693951)∧0≤(Jz x r t).1.at_∧(Jz x r t).1.at_≤1000000000:=by
 obtain ⟨h1,h2,h3,h4,h5⟩:=VL h
 have:=Ze h5
 have:=QQ (VJ x)
 rw [h4]
 simp only at *
 omega
theorem JbH (G:J4) (a_l:Option Addr) (c_l:Nat) (l:List JU) (h_l:RS KA G a_l c_l l) :Q4 174 #[Sl a_l l.length c_l] G (I (Wm l)):=by
 refine JR Tryz.func174 42 [(0,Sl a_l l.length c_l)] rfl (fun w0 G0=>?_)
 refine Jg [0] [] (Jf (Jg [0] [(3,I 1)] (Jy ?_)))
 have hlm_h_l:l.length≤9223372036854775807:=Hm (h_l).le (h_l).max
 refine Qh (σ:=Nat) (fun q_=>(1≤q_∧(q_≤l.length∨q_=1))∧(Wm l=lnk (l.drop (q_-1)) q_)) (fun q_=>[(0,Sl a_l l.length c_l),(3,I (q_:Int))]) (fun q_=>G) (fun q_=>[]) (fun q_=>l.length-q_) 1 ⟨⟨Hw _,.inr rfl⟩,rfl⟩ (fun q_ hs=>?_)
 revert hs;revert q_;intro i hs
 obtain ⟨hi,hn⟩:=hs
 dsimp only
 refine Jf (Jg [0,0,0,0] [(9,Bo (decide ((i:Int)<(l.length:Int))))] (Jl (decide ((i:Int)<(l.length:Int))) (fun h1=>?_) (fun h1=>?_)))
 refine Jq (Jb (Jf (Jy (Jf ?_))))
 have e1:Ha.wrap ((i:Int)-1)=((i-1:Nat):Int):=(Hh _ (by omega)).trans (show (i:Int)-1=((i-1:Nat):Int) by omega)
 obtain ⟨b1,o1,rfl⟩:=RS.addr h_l (k:=i-1) (by omega)
 obtain ⟨x1,hx1⟩:=Wf (l:=l) (k:=i-1) (by omega)
 obtain ⟨_,⟨rfl,w1,w2,w3,w4⟩,hc1⟩:=RS.get h_l hx1
 obtain ⟨x2,hx2⟩:=Wf (l:=l) (k:=i) (by omega)
 obtain ⟨_,⟨rfl,_,w6,_,w8⟩,hc2⟩:=RS.get h_l hx2
 refine Kp [19,20] (Wl [(0,Sl (At b1 o1) l.length c_l),(1,I (i:Int)),(2,I ((i-1:Nat):Int)),(3,Pt b1 (o1+(i-1)*4)),(4,.agg #[I x1.epoch,U x1.root,U x1.prev,I x1.at_]),(5,Sl (At b1 o1) l.length c_l),(6,I (i:Int)),(7,Pt b1 (o1+i*4)),(8,Pt b1 (o1+i*4+1)),(9,U x2.root),(10,Sl (At b1 o1) l.length c_l),(11,I (i:Int)),(12,Pt b1 (o1+i*4)),(13,Pt b1 (o1+i*4+3)),(14,I x2.at_),(15,.tuple #[(Vs (Jz x1 x2.root x2.at_).1),I ((Jz x1 x2.root x2.at_).2)]),(16,.tuple #[(Vs (Jz x1 x2.root x2.at_).1),I ((Jz x1 x2.root x2.at_).2)]),(17,(Vs (Jz x1 x2.root x2.at_).1)),(18,I ((Jz x1 x2.root x2.at_).2))] (JK [] [(0,0),(1,0),(5,0),(6,0),(8,0),(10,0),(11,0),(13,0),(16,0),(17,0),(18,0)] [2,3,4,7,9,12,14,15] [19] (Ki ?_ (Ki ?_ (Ki ?_ (Ki ?_ (Ki ?_ (Ki ?_ (Ki ?_ (Ki ?_ K8)))))))) (Ki ?_ K8)))
 refine Jt 2 15 (I ((i-1:Nat):Int)) [(14,I (i:Int))] (fun X=>?_)
 exact KV 15 (I (Ha.wrap ((i:Int)-1))) (I ((i-1:Nat):Int)) (by simp only [e1]) Jp
 refine Jt 3 16 (Pt b1 (o1+(i-1)*4)) [(13,Sl (At b1 o1) l.length c_l),(15,I ((i-1:Nat):Int))] (fun X=>?_)
 exact J5 (b:=b1) (off:=o1) (len:=l.length) (cap:=c_l) (ik:=.i64) 16 43 4 (i-1) J8 Jp
 refine Jt 4 17 (.agg #[I x1.epoch,U x1.root,U x1.prev,I x1.at_]) [(16,Pt b1 (o1+(i-1)*4))] (fun X=>?_)
 exact JZ 17 43 (cs:=[I x1.epoch,U x1.root,U x1.prev,I x1.at_]) 0 (.agg #[I x1.epoch,U x1.root,U x1.prev,I x1.at_]) hc1 Jp
 refine Jt 7 20 (Pt b1 (o1+i*4)) [(18,Sl (At b1 o1) l.length c_l),(19,I (i:Int))] (fun X=>?_)
 exact J5 (b:=b1) (off:=o1) (len:=l.length) (cap:=c_l) (ik:=.i64) 20 43 4 i J8 Jp
 refine Jt 9 22 (U x2.root) [(21,Pt b1 (o1+i*4+1))] (fun X=>?_)
 exact JZ 22 41 (cs:=[I x2.epoch,U x2.root,U x2.prev,I x2.at_]) 1 (U x2.root) hc2 Jp
 refine Jt 12 25 (Pt b1 (o1+i*4)) [(23,Sl (At b1 o1) l.length c_l),(24,I (i:Int))] (fun X=>?_)
 exact J5 (b:=b1) (off:=o1) (len:=l.length) (cap:=c_l) (ik:=.i64) 25 43 4 i J8 Jp
 refine Jt 14 27 (I x2.at_) [(26,Pt b1 (o1+i*4+3))] (fun X=>?_)
 exact JZ 27 2 (cs:=[I x2.epoch,U x2.root,U x2.prev,I x2.at_]) 3 (I x2.at_) hc2 Jp
 refine Jt 15 28 (.tuple #[(Vs (Jz x1 x2.root x2.at_).1),I ((Jz x1 x2.root x2.at_).2)]) [(17,.agg #[I x1.epoch,U x1.root,U x1.prev,I x1.at_]),(22,U x2.root),(27,I x2.at_)] (fun X=>?_)
 exact Jm 28 (.tuple #[(Vs (Jz x1 x2.root x2.at_).1),I ((Jz x1 x2.root x2.at_).2)]) (Jbe G [I x1.epoch,U x1.root,U x1.prev,I x1.at_] x1 (⟨rfl,w1,w2,w3,w4⟩) x2.root w6 x2.at_ w8) Jp
 refine JC 19 [] (fun X=>?_)
 refine Jv 4 #[I 0,U 0,U 0,I 0] 43 (fun b2=>?_)
 have e2:Ha.wrap ((i:Int)-1)=((i-1:Nat):Int):=(Hh _ (by omega)).trans (show (i:Int)-1=((i-1:Nat):Int) by omega)
 refine JD [(19,Pt b2 0)] (JK [] [(0,0),(1,0),(5,0),(6,0),(8,0),(10,0),(11,0),(13,0),(16,0),(17,0),(18,0)] [2,3,4,7,9,12,14,15] [20] (Ki ?_ (Ki ?_ (Ki ?_ (Ki ?_ (Ki ?_ (Ki ?_ (Ki ?_ (Ki ?_ K8)))))))) (Ki ?_ K8))
 refine Jt 2 15 (I ((i-1:Nat):Int)) [(14,I (i:Int))] (fun X=>?_)
 exact KV 15 (I (Ha.wrap ((i:Int)-1))) (I ((i-1:Nat):Int)) (by simp only [e2]) Jp
 refine Jt 3 16 (Pt b1 (o1+(i-1)*4)) [(13,Sl (At b1 o1) l.length c_l),(15,I ((i-1:Nat):Int))] (fun X=>?_)
 exact J5 (b:=b1) (off:=o1) (len:=l.length) (cap:=c_l) (ik:=.i64) 16 43 4 (i-1) J8 Jp
 refine Jt 4 17 (.agg #[I x1.epoch,U x1.root,U x1.prev,I x1.at_]) [(16,Pt b1 (o1+(i-1)*4))] (fun X=>?_)
 exact JZ 17 43 (cs:=[I x1.epoch,U x1.root,U x1.prev,I x1.at_]) 0 (.agg #[I x1.epoch,U x1.root,U x1.prev,I x1.at_]) hc1 Jp
 refine Jt 7 20 (Pt b1 (o1+i*4)) [(18,Sl (At b1 o1) l.length c_l),(19,I (i:Int))] (fun X=>?_)
 exact J5 (b:=b1) (off:=o1) (len:=l.length) (cap:=c_l) (ik:=.i64) 20 43 4 i J8 Jp
 refine Jt 9 22 (U x2.root) [(21,Pt b1 (o1+i*4+1))] (fun X=>?_)
 exact JZ 22 41 (cs:=[I x2.epoch,U x2.root,U x2.prev,I x2.at_]) 1 (U x2.root) hc2 Jp
 refine Jt 12 25 (Pt b1 (o1+i*4)) [(23,Sl (At b1 o1) l.length c_l),(24,I (i:Int))] (fun X=>?_)
 exact J5 (b:=b1) (off:=o1) (len:=l.length) (cap:=c_l) (ik:=.i64) 25 43 4 i J8 Jp
 refine Jt 14 27 (I x2.at_) [(26,Pt b1 (o1+i*4+3))] (fun X=>?_)
 exact JZ 27 2 (cs:=[I x2.epoch,U x2.root,U x2.prev,I x2.at_]) 3 (I x2.at_) hc2 Jp
 refine Jt 15 28 (.tuple #[(Vs (Jz x1 x2.root x2.at_).1),I ((Jz x1 x2.root x2.at_).2)]) [(17,.agg #[I x1.epoch,U x1.root,U x1.prev,I x1.at_]),(22,U x2.root),(27,I x2.at_)] (fun X=>?_)
 exact Jm 28 (.tuple #[(Vs (Jz x1 x2.root x2.at_).1),I ((Jz x1 x2.root x2.at_).2)]) (Jbe G [I x1.epoch,U x1.root,U x1.prev,I x1.at_] x1 (⟨rfl,w1,w2,w3,w4⟩) x2.root w6 x2.at_ w8) Jp
 refine JC 20 [(4,Pt b2 0),(29,(Vs (Jz x1 x2.root x2.at_).1))] (fun X=>?_)
 refine KN 0 [[Sg b2 0 (JcW (Jz x1 x2.root x2.at_).1)]] (Ka [(21,I ((Jz x1 x2.root x2.at_).2))] (Km [0,1,2,3,4,5,6,7,8,9,10,11,12,13,14,15,16,17] [(18,0),(21,0)] [] [(0,Sl (At b1 o1) l.length c_l),(3,I (i:Int)),(4,Pt b2 0),(5,I ((Jz x1 x2.root x2.at_).2))] (Hi _) (Jb (Jf ?_))))
 rcases Hs (!decide ((Jz x1 x2.root x2.at_).2=0)) with h2 | h2
 have h2d:=h2
 try simp only [BB] at h2d
 refine Kp [] (Wl [(0,I ((Jz x1 x2.root x2.at_).2)),(1,Bo true),(2,Bo true),(3,undef),(4,undef),(5,undef),(6,undef),(7,undef),(8,undef),(9,Bo true)] (Km [] [(0,0),(2,0),(3,1),(4,1),(5,1),(6,1),(7,1),(8,1),(9,0)] [1] [(0,Sl (At b1 o1) l.length c_l),(3,I (i:Int)),(40,Bo true)] (Ki ?_ K8) ?_))
 refine Jt 1 32 (Bo true) [(31,I ((Jz x1 x2.root x2.at_).2))] (fun X=>?_)
 exact KV 32 (Bo (!decide ((Jz x1 x2.root x2.at_).2=0))) (Bo true) (by rw [h2]) Jp
 refine Jb (JW (Jg [0,0] [(2,I (i:Int))] (Jn (Js (Jj (Qj (Js (Jj (Jo [0] [I (i:Int)] (Jx (Jh _) (congrArg I (?_:(Wm l)=(i:Int)).symm)))))))))))
 rw [hn];exact JnK (by omega) hx1 hx2 (by rw [JdP];simp_all)
 have h2d:=h2
 try simp only [BB] at h2d
 refine Kp [] (Wl [(0,I ((Jz x1 x2.root x2.at_).2)),(1,Bo false),(2,Bo false),(3,(Vs (Jz x1 x2.root x2.at_).1)),(4,Sl (At b1 o1) l.length c_l),(5,I (i:Int)),(6,Pt b1 (o1+i*4)),(7,.agg #[I x2.epoch,U x2.root,U x2.prev,I x2.at_]),(8,Bo (!(decide (((Jz x1 x2.root x2.at_).1).epoch=x2.epoch) && decide (((Jz x1 x2.root x2.at_).1).root=x2.root) && decide (((Jz x1 x2.root x2.at_).1).prev=x2.prev) && decide (((Jz x1 x2.root x2.at_).1).at_=x2.at_)))),(9,Bo (!(decide (((Jz x1 x2.root x2.at_).1).epoch=x2.epoch) && decide (((Jz x1 x2.root x2.at_).1).root=x2.root) && decide (((Jz x1 x2.root x2.at_).1).prev=x2.prev) && decide (((Jz x1 x2.root x2.at_).1).at_=x2.at_))))] (Km [] [(0,0),(2,0),(3,2),(4,0),(5,0),(9,0)] [1,6,7,8] [(0,Sl (At b1 o1) l.length c_l),(3,I (i:Int)),(40,Bo (!(decide (((Jz x1 x2.root x2.at_).1).epoch=x2.epoch) && decide (((Jz x1 x2.root x2.at_).1).root=x2.root) && decide (((Jz x1 x2.root x2.at_).1).prev=x2.prev) && decide (((Jz x1 x2.root x2.at_).1).at_=x2.at_))))] (Ki ?_ (Ki ?_ (Ki ?_ (Ki ?_ K8)))) ?_))
 refine Jt 1 32 (Bo false) [(31,I ((Jz x1 x2.root x2.at_).2))] (fun X=>?_)
 exact KV 32 (Bo (!decide ((Jz x1 x2.root x2.at_).2=0))) (Bo false) (by rw [h2]) Jp
 refine Jt 6 37 (Pt b1 (o1+i*4)) [(33,Bo false),(35,Sl (At b1 o1) l.length c_l),(36,I (i:Int))] (fun X=>?_)
 exact J5 (b:=b1) (off:=o1) (len:=l.length) (cap:=c_l) (ik:=.i64) 37 43 4 i J8 Jp
 refine Jt 7 38 (.agg #[I x2.epoch,U x2.root,U x2.prev,I x2.at_]) [(33,Bo false),(37,Pt b1 (o1+i*4))] (fun X=>?_)
 exact JZ 38 43 (cs:=[I x2.epoch,U x2.root,U x2.prev,I x2.at_]) 0 (.agg #[I x2.epoch,U x2.root,U x2.prev,I x2.at_]) hc2 Jp
 refine Jt 8 39 (Bo (!(decide (((Jz x1 x2.root x2.at_).1).epoch=x2.epoch) && decide (((Jz x1 x2.root x2.at_).1).root=x2.root) && decide (((Jz x1 x2.root x2.at_).1).prev=x2.prev) && decide (((Jz x1 x2.root x2.at_).1).at_=x2.at_)))) [(33,Bo false),(34,(Vs (Jz x1 x2.root x2.at_).1)),(38,.agg #[I x2.epoch,U x2.root,U x2.prev,I x2.at_])] (fun X=>?_)
 exact JcO 39 (Bo (!(decide (((Jz x1 x2.root x2.at_).1).epoch=x2.epoch) && (decide (((Jz x1 x2.root x2.at_).1).root=x2.root) && (decide (((Jz x1 x2.root x2.at_).1).prev=x2.prev) && (decide (((Jz x1 x2.root x2.at_).1).at_=x2.at_) && true)))))) (Bo (!(decide (((Jz x1 x2.root x2.at_).1).epoch=x2.epoch) && decide (((Jz x1 x2.root x2.at_).1).root=x2.root) && decide (((Jz x1 x2.root x2.at_).1).prev=x2.prev) && decide (((Jz x1 x2.root x2.at_).1).at_=x2.at_)))) (by simp [Q3,HO]) Jp
 refine Jb (Jl (!(decide (((Jz x1 x2.root x2.at_).1).epoch=x2.epoch) && decide (((Jz x1 x2.root x2.at_).1).root=x2.root) && decide (((Jz x1 x2.root x2.at_).1).prev=x2.prev) && decide (((Jz x1 x2.root x2.at_).1).at_=x2.at_))) (fun h3=>?_) (fun h3=>?_))
 refine Jg [0,0] [(2,I (i:Int))] (Jn (Js (Jj (Qj (Js (Jj (Jo [0] [I (i:Int)] (Jx (Jh _) (congrArg I (?_:(Wm l)=(i:Int)).symm)))))))))
 rw [hn];exact JnK (by omega) hx1 hx2 (by rw [JdP];simp_all)
 exact Jq (JN (Jb (Jd (Jc [0,0,0] [(3,I (Ha.wrap ((i:Int)+1)))] (Kr 3 ((i:Int)+1) J8 (Je (Qr [] (Qi (i+1) ⟨⟨by (try dsimp only);omega,.inl (by (try dsimp only);omega)⟩,(by rw [hn];exact JnJ J8 hx1 hx2 (JdP.2 (by simp_all)))⟩ (by (try dsimp only);omega)))))))))
 refine KW (JY (J9 (JT (Jb (Jg [0] [(2,I (-1))] (Jn (Jo [0] [I (-1)] (Jx (Jh _) (congrArg I (?_:(Wm l)=(-1)).symm)))))))))
 rw [hn];exact Jo5 (by simp;omega)
theorem Jar (G:J4) (a_l:Option Addr) (c_l:Nat) (l:List JU) (h_l:RS KA G a_l c_l l) :Q4 120 #[Sl a_l l.length c_l] G (.tuple #[I ((Kd l).1),I ((Kd l).2)]):=by
 refine JR Tryz.func120 35 [(0,Sl a_l l.length c_l)] rfl (fun w0 G0=>?_)
 refine Jg [0,0] [] (Jf (Jy (Jg [0,0,0,0] [(8,Bo (decide ((l.length:Int)=0)))] (Jl (decide ((l.length:Int)=0)) (fun h1=>?_) (fun h1=>?_)))))
 refine Jg [0,0] [(2,I 5),(3,I 0)] (Jn (Js (Jj (Jo [0,0] [I 5,I 0] (Jx (Jh _) ?_)))))
 have hf_:(Kd l)=(5,0):=by
  unfold Kd;(rw [if_pos (by omega)];done)
 · (try rw [hf_]);(simp only [Qx];done)
 refine Jg [0,0,0,0] [(12,Bo (decide ((l.length:Int) > 40)))] (Jl (decide ((l.length:Int) > 40)) (fun h2=>?_) (fun h2=>?_))
 refine Jg [0,0] [(2,I 2),(3,I 0)] (Jn (Js (Jj (Jo [0,0] [I 2,I 0] (Jx (Jh _) ?_)))))
 have hf_:(Kd l)=(2,0):=by
  unfold Kd;(rw [if_neg (by omega),if_pos (by omega)];done)
 · (try rw [hf_]);(simp only [Qx];done)
 refine Jq (JN (Jb (Jf (Jg [0,0,0] [(16,Sl a_l l.length c_l),(17,I (l.length:Int)),(18,I 0)] (Jy ?_)))))
 have hlm_h_l:l.length≤9223372036854775807:=Hm (h_l).le (h_l).max
 refine Qh (σ:=Nat) (fun q_=>(q_≤l.length)∧(Y4 l 0=Y4 (l.drop q_) q_)) (fun q_=>[(0,Sl a_l l.length c_l),(16,Sl a_l l.length c_l),(17,I (l.length:Int)),(18,I (q_:Int))]) (fun q_=>G) (fun q_=>[]) (fun q_=>l.length-q_) 0 ⟨(by (try dsimp only);exact Hr _),rfl⟩ (fun q_ hs=>?_)
 revert hs;revert q_;intro i hs
 obtain ⟨hi,hn⟩:=hs
 dsimp only
 refine Jg [0] [(19,Bo (decide ((i:Int)<(l.length:Int))))] (Jf (Jl (decide ((i:Int)<(l.length:Int))) (fun h3=>?_) (fun h3=>?_)))
 refine Jq (Jb (Jf (Jy (Jf (Jd (Jc [0] [(20,I (i:Int))] ?_))))))
 obtain ⟨b1,o1,rfl⟩:=RS.addr h_l (k:=i) (by omega)
 obtain ⟨x1,hx1⟩:=Wf (l:=l) (k:=i) (by omega)
 obtain ⟨_,⟨rfl,_,_,_,_⟩,hc1⟩:=RS.get h_l hx1
 refine J5 (b:=b1) (off:=o1) (len:=l.length) (cap:=c_l) (ik:=.i64) 21 43 4 i J8 (JZ 22 43 (cs:=[I x1.epoch,U x1.root,U x1.prev,I x1.at_]) 0 (.agg #[I x1.epoch,U x1.root,U x1.prev,I x1.at_]) hc1 (Jv 5 #[I 0,U 0,U 0,I 0] 43 (fun b2=>JV [0,3] [(4,I (i:Int))] [[Sg b2 0 [I x1.epoch,U x1.root,U x1.prev,I x1.at_]]] (Je (Jb (Jf (Jd (Jc [2] [(23,.agg #[I x1.epoch,U x1.root,U x1.prev,I x1.at_])] (Jm 24 (I (JL x1)) (ZV x1 G) (Jc [0] [(6,I (JL x1))] (Je (Jb (Jg [0,0] [(26,Bo (!decide (JL x1=0)))] (Jl (!decide (JL x1=0)) (fun h4=>?_) (fun h4=>?_)))))))))))))))
 refine Jg [0,0,0,0] [(2,I (JL x1)),(3,I (i:Int))] (Jn (Js (Jj (Qj (Js (Jj (Jo [0,0] [I (JL x1),I (i:Int)] (Jx (Jh _) ?_))))))))
 have hf_:(Kd l)=((JL x1),(i:Int)):=by
  unfold Kd;(rw [if_neg (by omega),if_neg (by omega)];(have e_:=Jml hx1 ‹_›;rw [← hn] at e_;rw [if_pos (by rw [e_];assumption),e_];done))
 · (try rw [hf_]);(simp only [Qx];done)
 exact Jq (JN (Jb (Jd (Jc [0,0] [(18,I (Ha.wrap ((i:Int)+1)))] (Kr 18 ((i:Int)+1) J8 (Je (Qr [] (Qi (i+1) ⟨J8,(by rw [hn];exact JiF hx1 ‹_›)⟩ (by (try dsimp only);omega)))))))))
 refine KW (JY (J9 (JT (Jb (Jf (Jf (Jd (Jc [0] [(30,Sl a_l l.length c_l)] (Jm 31 (I (Wm l)) (JbH G a_l c_l l h_l) (Jc [0] [(7,I (Wm l))] (Je (Jb (Jg [0,0] [(33,Bo (decide (Wm l ≥ 0)))] (Jl (decide (Wm l ≥ 0)) (fun h5=>?_) (fun h5=>?_)))))))))))))))
 refine Jg [0,0,0] [(2,I 8),(3,I (Wm l))] (Jn (Jj (Jo [0,0] [I 8,I (Wm l)] (Jx (Jh _) ?_))))
 have hf_:(Kd l)=(8,(Wm l)):=by
  unfold Kd;(rw [if_neg (by omega),if_neg (by omega)];(have e_:Y4 l 0=(0,0):=(by rw [hn,Hq (by omega)];rfl);rw [if_neg (by rw [e_];simp)];(rw [if_pos (by omega)];done)))
 · (try rw [hf_]);(simp only [Qx];done)
 refine Jq (Jb (Jg [0,0] [(2,I 0),(3,I 0)] (Jn (Jo [0,0] [I 0,I 0] (Jx (Jh _) ?_)))))
 have hf_:(Kd l)=(0,0):=by
  unfold Kd;(rw [if_neg (by omega),if_neg (by omega)];(have e_:Y4 l 0=(0,0):=(by rw [hn,Hq (by omega)];rfl);rw [if_neg (by rw [e_];simp)];(rw [if_neg (by omega)];done)))
 · (try rw [hf_]);(simp only [Qx];done)
theorem Jbj (G:J4) (a_l:Option Addr) (c_l:Nat) (l:List (List JU)) (h_l:RS JeK G a_l c_l l) :Q4 175 #[Sl a_l l.length c_l] G (I (K4 l)):=by
 refine JR Tryz.func175 22 [(0,Sl a_l l.length c_l)] rfl (fun w0 G0=>?_)
 refine Jg [0] [] (Jf (Jg [0,0,0] [(7,Sl a_l l.length c_l),(8,I (l.length:Int)),(9,I 0)] (Jy ?_)))
 have hlm_h_l:l.length≤9223372036854775807:=Hm (h_l).le (h_l).max
 refine Qh (σ:=Nat) (fun q_=>(q_≤l.length)∧(K4 l=K4 (l.drop q_))) (fun q_=>[(7,Sl a_l l.length c_l),(8,I (l.length:Int)),(9,I (q_:Int))]) (fun q_=>G) (fun q_=>[]) (fun q_=>l.length-q_) 0 ⟨(by (try dsimp only);exact Hr _),rfl⟩ (fun q_ hs=>?_)
 revert hs;revert q_;intro i hs
 obtain ⟨hi,hn⟩:=hs
 dsimp only
 refine Jg [0] [(10,Bo (decide ((i:Int)<(l.length:Int))))] (Jf (Jl (decide ((i:Int)<(l.length:Int))) (fun h1=>?_) (fun h1=>?_)))
 refine Jq (Jb (Jf (Jy (Jf (Jd ?_)))))
 obtain ⟨b1,o1,rfl⟩:=RS.addr h_l (k:=i) (by omega)
 obtain ⟨x1,hx1⟩:=Wf (l:=l) (k:=i) (by omega)
 obtain ⟨_,⟨a1,c1,rfl,hs1⟩,hc1⟩:=RS.get h_l hx1
 refine J5 (b:=b1) (off:=o1) (len:=l.length) (cap:=c_l) (ik:=.i64) 11 40 1 i J8 (JZ 12 40 (cs:=[Sl a1 x1.length c1]) 0 (Sl a1 x1.length c1) hc1 (Jc [0] [(4,Sl a1 x1.length c1)] (Je (Jb (Jf (Jd (Jc [0] [(14,Sl a1 x1.length c1)] (Jm 15 (.tuple #[I ((Kd x1).1),I ((Kd x1).2)]) (Jar G a1 c1 x1 hs1) (Jc [0,0,0,0,0] [(5,I ((Kd x1).1))] (Je (Jb (Jg [0,0] [(19,Bo (!decide ((Kd x1).1=0)))] (Jl (!decide ((Kd x1).1=0)) (fun h2=>?_) (fun h2=>?_))))))))))))))
 refine Jg [0,0] [(2,I ((Kd x1).1))] (Jn (Js (Jj (Qj (Js (Jj (Jo [0] [I ((Kd x1).1)] (Jx (Jh _) (congrArg I (?_:(K4 l)=((Kd x1).1)).symm)))))))))
 rw [hn];exact JiG hx1 ‹_›
 exact Jq (JN (Jb (Jd (Jc [0,0] [(9,I (Ha.wrap ((i:Int)+1)))] (Kr 9 ((i:Int)+1) J8 (Je (Qi (i+1) ⟨J8,(by rw [hn];exact Jf3 hx1 ‹_›)⟩ (by (try dsimp only);omega))))))))
 refine KW (JY (J9 (JT (Jb (Jg [0] [(2,I 0)] (Jn (Jo [0] [I 0] (Jx (Jh _) (congrArg I (?_:(K4 l)=0).symm)))))))))
 rw [hn];(rw [Hq (by omega)];rfl)
theorem Jf5 (G:J4) (a_l:Option Addr) (c_l:Nat) (l:List JU) (h_l:RS KA G a_l c_l l) (root:Int) (hw_root:rU root) (a:Int) (hw_a:rI a) :Yw 166 #[Sl a_l l.length c_l,U root,I a] G [] (fun u G' L'=>∃ (a1:Option Addr) (c2:Nat) (r3:List Kh),u=.tuple #[Sl a1 (((Qu l root a).1).length) c2,I ((Qu l root a).2)]∧(J1 KA G' a1 c2 ((Qu l root a).1) r3)∧L'=[r3]):=by
 refine JR Tryz.func166 41 [(0,Sl a_l l.length c_l),(1,U root),(2,I a)] rfl (fun w0 G0=>?_)
 refine Jg [0,0] [] (Jf (Jd (Jc [0] [(10,Sl a_l l.length c_l)] (Kt 11 1 #[Sl a_l l.length c_l] 40 (fun b1=>QZ (b:=b1) (o:=0) (cs:=[Sl a_l l.length c_l]) 0 (fun G1 hl1 hz1=>?_))))))
 have hs1:RS JeK G1 (At b1 0) 1 [l]:=RS.lit [[Sl a_l l.length c_l]] [l] ⟨⟨a_l,c_l,rfl,(h_l.mono hl1)⟩,trivial⟩ hz1 (Hc rfl) (Hc rfl)
 refine Jm 12 (I (K4 ([l]))) (Jbj G1 (At b1 0) 1 ([l]) hs1) (Jc [0] [(8,I (K4 ([l])))] (Je (Jb (Jf (Jy (Jg [0,0,0] [(13,Bo (!decide (K4 ([l])=0)))] (Jl (!decide (K4 ([l])=0)) (fun h1=>?_) (fun h1=>?_))))))))
 refine Jg [0,0,0] [(6,Sl none 0 0),(7,I (K4 ([l])))] (Jn (Js (Jj (Zy (Jk 0 ?_)))))
 have hf1:Qu l root a=([],K4 ([l])):=by
  unfold Qu ZX;(simp_all;done)
 refine Jo [0,0] [Sl none 0 0,I (K4 ([l]))] (JA [[]] hl1 ?_)
 rw [hf1]
 try dsimp only
 exact ⟨none,0,([]),rfl,(J1.none KA _),rfl⟩
 refine Jg [0,0,0,0] [(17,Bo (decide ((l.length:Int)=40)))] (Jl (decide ((l.length:Int)=40)) (fun h2=>?_) (fun h2=>?_))
 refine Jg [0,0] [(6,Sl none 0 0),(7,I 7)] (Jn (Js (Jj (Zy (Jk 0 ?_)))))
 have hf2:Qu l root a=([],7):=by
  unfold Qu ZX;(simp_all;done)
 refine Jo [0,0] [Sl none 0 0,I 7] (JA [[]] hl1 ?_)
 rw [hf2]
 try dsimp only
 exact ⟨none,0,([]),rfl,(J1.none KA _),rfl⟩
 refine Jq (JN (Jb (Jf (Jd (Jc [0,0,0,0] [(22,Sl a_l l.length c_l),(25,I (Ha.wrap ((l.length:Int)-1)))] ?_)))))
 have e1:Ha.wrap ((l.length:Int)-1)=((l.length-1:Nat):Int):=(Hh _ (by (have q_:=QE.1 ‹_›;have q1_:=q_.len1;have q2_:=q_.len;have q3_:=q_.lastE;have q4_:=q_.fb;have q5_:=q_.lb;omega))).trans (show (l.length:Int)-1=((l.length-1:Nat):Int) by (have q_:=QE.1 ‹_›;have q1_:=q_.len1;have q2_:=q_.len;have q3_:=q_.lastE;have q4_:=q_.fb;have q5_:=q_.lb;omega))
 refine KU 25 (I ((l.length-1:Nat):Int)) (congrArg I e1) ?_
 clear e1
 obtain ⟨b2,o1,rfl⟩:=RS.addr (h_l.mono hl1) (k:=l.length-1) (by (have q_:=QE.1 ‹_›;have q1_:=q_.len1;have q2_:=q_.len;have q3_:=q_.lastE;have q4_:=q_.fb;have q5_:=q_.lb;omega))
 obtain ⟨x1,hx1⟩:=Wf (l:=l) (k:=l.length-1) (by (have q_:=QE.1 ‹_›;have q1_:=q_.len1;have q2_:=q_.len;have q3_:=q_.lastE;have q4_:=q_.fb;have q5_:=q_.lb;omega))
 obtain ⟨_,⟨rfl,w1,w2,w3,w4⟩,hc1⟩:=RS.get (h_l.mono hl1) hx1
 refine J5 (b:=b2) (off:=o1) (len:=l.length) (cap:=c_l) (ik:=.i64) 26 43 4 (l.length-1) (by (have q_:=QE.1 ‹_›;have q1_:=q_.len1;have q2_:=q_.len;have q3_:=q_.lastE;have q4_:=q_.fb;have q5_:=q_.lb;omega)) (JZ 27 43 (cs:=[I x1.epoch,U x1.root,U x1.prev,I x1.at_]) 0 (.agg #[I x1.epoch,U x1.root,U x1.prev,I x1.at_]) hc1 (Jc [0,0] [(28,U root),(29,I a)] (Jm 30 (.tuple #[(Vs (Jz x1 root a).1),I ((Jz x1 root a).2)]) (Jbe G1 [I x1.epoch,U x1.root,U x1.prev,I x1.at_] x1 (⟨rfl,w1,w2,w3,w4⟩) root ‹_› a ‹_›) (Jc [0,0,0] [(31,(Vs (Jz x1 root a).1)),(32,I ((Jz x1 root a).2))] (Jv 9 #[I 0,U 0,U 0,I 0] 43 (fun b3=>JV [3,0] [(8,I ((Jz x1 root a).2))] [[Sg b3 0 (JcW (Jz x1 root a).1)],[]] (Je (Jb (Jf (Jg [0,0] [(34,Bo (!decide ((Jz x1 root a).2=0)))] (Jl (!decide ((Jz x1 root a).2=0)) (fun h3=>?_) (fun h3=>?_))))))))))))
 refine Jg [0,0,0] [(6,Sl none 0 0),(7,I ((Jz x1 root a).2))] (Jn (Jj (Zy (Jk 0 ?_))))
 have hf3:Qu l root a=([],(Jz x1 root a).2):=by
  unfold Qu ZX;(have hl_:=WD (l:=l) (k:=l.length-1) rfl ‹_›;subst hl_;(simp_all;done))
 refine Jo [0,0] [Sl none 0 0,I ((Jz x1 root a).2)] (JA [[]] hl1 ?_)
 rw [hf3]
 try dsimp only
 exact ⟨none,0,([]),rfl,(J1.none KA _),rfl⟩
 refine Jq (Jb (Jf (Kp [1,3,4] (Wl [(0,Sl (At b2 o1) l.length c_l),(2,(Vs (Jz x1 root a).1))] (JK [] [(0,0),(2,2)] [] [1,3] (Hi _) (Ki ?_ (Ki ?_ K8)))))))
 refine JC 1 [(36,Sl (At b2 o1) l.length c_l)] (fun X=>?_)
 refine JI 37 (Vj G1 (At b2 o1) c_l l (h_l.mono hl1)) (fun v G2 L1 hl2 hp=>?_)
 obtain ⟨a1,c1,_,rfl,hr1,rfl⟩:=hp
 refine JD [(1,Sl a1 l.length c1)] (JK [0] [(2,4)] [] [3] (Hi _) (Ki ?_ K8))
 refine JC 3 [(38,(Vs (Jz x1 root a).1))] (fun X=>?_)
 refine Kt 39 1 #[I (((Jz x1 root a).1).epoch),U (((Jz x1 root a).1).root),U (((Jz x1 root a).1).prev),I (((Jz x1 root a).1).at_)] 43 (fun b4=>JD [(3,Sl (At b4 0) 1 1)] (JK [0,2] [] [] [4] (Hi _) (Ki ?_ K8)))
 refine JC 4 [(37,Sl a1 l.length c1),(39,Sl (At b4 0) 1 1)] (fun X=>?_)
 refine Qy (b:=b4) (cs:=(JcW (Jz x1 root a).1)) 40 43 1 0 (E:=KA) ((Jz x1 root a).1) hr1 ⟨rfl,(by have q_:=Ye (x:=x1) (r:=root) (t:=a) J8 ‹_›;omega),(by have q_:=Ye (x:=x1) (r:=root) (t:=a) J8 ‹_›;omega),(by have q_:=Ye (x:=x1) (r:=root) (t:=a) J8 ‹_›;omega),(by have q_:=Ye (x:=x1) (r:=root) (t:=a) J8 ‹_›;omega)⟩ (by have q_:=QE.1 ‹_›;have q1_:=q_.len1;have q2_:=q_.len;have q3_:=q_.lastE;have q4_:=q_.fb;have q5_:=q_.lb;(try simp only [KA,Hd,He,Hf]);omega) (by have q_:=QE.1 ‹_›;have q1_:=q_.len1;have q2_:=q_.len;have q3_:=q_.lastE;have q4_:=q_.fb;have q5_:=q_.lb;(try simp only [KA,Hd,He,Hf]);omega) (fun a2 c2 r2 hr2=>JD [(4,Sl a2 ((l++[((Jz x1 root a).1)]).length) c2),(5,Sl a2 ((l++[((Jz x1 root a).1)]).length) c2),(6,I 0)] (Km [0,2] [(5,0),(6,0)] [] [(6,Sl a2 ((l++[((Jz x1 root a).1)]).length) c2),(7,I 0)] (Hi _) (Jb (Jn (Jk 1 ?_)))))
 have hf4:Qu l root a=(l++[((Jz x1 root a).1)],0):=by
  unfold Qu ZX;(have hl_:=WD (l:=l) (k:=l.length-1) rfl ‹_›;subst hl_;(simp_all;done))
 refine Jo [0,0] [Sl a2 ((l++[((Jz x1 root a).1)]).length) c2,I 0] (JA [r2] (Ja hl1 hl2) ?_)
 rw [hf4]
 try dsimp only
 exact ⟨a2,c2,r2,rfl,hr2,rfl⟩
 refine JC 3 [(38,(Vs (Jz x1 root a).1))] (fun X=>?_)
 refine Kt 39 1 #[I (((Jz x1 root a).1).epoch),U (((Jz x1 root a).1).root),U (((Jz x1 root a).1).prev),I (((Jz x1 root a).1).at_)] 43 (fun b5=>JD [(3,Sl (At b5 0) 1 1)] (JK [2] [(0,0)] [] [1] (Hi _) (Ki ?_ K8)))
 refine JC 1 [(36,Sl (At b2 o1) l.length c_l)] (fun X=>?_)
 refine JI 37 (Vj G1 (At b2 o1) c_l l (h_l.mono hl1)) (fun v G3 L1 hl3 hp=>?_)
 obtain ⟨a3,c3,r3,rfl,hr3,rfl⟩:=hp
 refine JD [(1,Sl a3 l.length c3)] (JK [0,2] [] [] [4] (Hi _) (Ki ?_ K8))
 refine JC 4 [(37,Sl a3 l.length c3),(39,Sl (At b5 0) 1 1)] (fun X=>?_)
 refine Qy (b:=b5) (cs:=(JcW (Jz x1 root a).1)) 40 43 0 1 (E:=KA) ((Jz x1 root a).1) hr3 ⟨rfl,(by have q_:=Ye (x:=x1) (r:=root) (t:=a) J8 ‹_›;omega),(by have q_:=Ye (x:=x1) (r:=root) (t:=a) J8 ‹_›;omega),(by have q_:=Ye (x:=x1) (r:=root) (t:=a) J8 ‹_›;omega),(by have q_:=Ye (x:=x1) (r:=root) (t:=a) J8 ‹_›;omega)⟩ (by have q_:=QE.1 ‹_›;have q1_:=q_.len1;have q2_:=q_.len;have q3_:=q_.lastE;have q4_:=q_.fb;have q5_:=q_.lb;(try simp only [KA,Hd,He,Hf]);omega) (by have q_:=QE.1 ‹_›;have q1_:=q_.len1;have q2_:=q_.len;have q3_:=q_.lastE;have q4_:=q_.fb;have q5_:=q_.lb;(try simp only [KA,Hd,He,Hf]);omega) (fun a4 c4 r4 hr4=>JD [(4,Sl a4 ((l++[((Jz x1 root a).1)]).length) c4),(5,Sl a4 ((l++[((Jz x1 root a).1)]).length) c4),(6,I 0)] (Km [0,2] [(5,0),(6,0)] [] [(6,Sl a4 ((l++[((Jz x1 root a).1)]).length) c4),(7,I 0)] (Hi _) (Jb (Jn (Jk 0 ?_)))))
 have hf5:Qu l root a=(l++[((Jz x1 root a).1)],0):=by
  unfold Qu ZX;(have hl_:=WD (l:=l) (k:=l.length-1) rfl ‹_›;subst hl_;(simp_all;done))
 refine Jo [0,0] [Sl a4 ((l++[((Jz x1 root a).1)]).length) c4,I 0] (JA [r4] (Ja hl1 hl3) ?_)
 rw [hf5]
 try dsimp only
 exact ⟨a4,c4,r4,rfl,hr4,rfl⟩
theorem Jf6 (G:J4) (a_l:Option Addr) (c_l:Nat) (l:List JU) (h_l:RS KA G a_l c_l l) (a:Int) (hw_a:rI a) (b:Int) (hw_b:rI b) :Yw 214 #[Sl a_l l.length c_l,I a,I b] G [] (fun u G' L'=>∃ (a1:Option Addr) (c2:Nat),u=.tuple #[Sl a1 (((W0 l a b).1).length) c2,I ((W0 l a b).2)]∧(RS KA G' a1 c2 ((W0 l a b).1))∧L'=[]):=by
 refine JR Tryz.func214 51 [(0,Sl a_l l.length c_l),(1,I a),(2,I b)] rfl (fun w0 G0=>?_)
 refine Jg [0,0] [] (Jf (Jf (Jd (Jc [0] [(11,Sl a_l l.length c_l)] (Kt 12 1 #[Sl a_l l.length c_l] 40 (fun b1=>QZ (b:=b1) (o:=0) (cs:=[Sl a_l l.length c_l]) 0 (fun G1 hl1 hz1=>?_)))))))
 have hs1:RS JeK G1 (At b1 0) 1 [l]:=RS.lit [[Sl a_l l.length c_l]] [l] ⟨⟨a_l,c_l,rfl,(h_l.mono hl1)⟩,trivial⟩ hz1 (Hc rfl) (Hc rfl)
 refine Jm 13 (I (K4 ([l]))) (Jbj G1 (At b1 0) 1 ([l]) hs1) (Jc [0] [(8,I (K4 ([l])))] (Je (Jb (Jg [0,0] [(15,Bo (!decide (K4 ([l])=0)))] (Jl (!decide (K4 ([l])=0)) (fun h1=>?_) (fun h1=>?_))))))
 refine Jg [0,0,0] [(6,Sl none 0 0),(7,I (K4 ([l])))] (Jn (Jj ?_))
 have hf1:W0 l a b=([],K4 ([l])):=by
  unfold W0;(simp_all;done)
 refine Jo [0,0] [Sl none 0 0,I (K4 ([l]))] (JA [] hl1 ?_)
 rw [hf1]
 try dsimp only
 exact ⟨none,0,rfl,(JP KA G1),rfl⟩
 refine Jq (Jb (Jf ?_))
 obtain ⟨b2,o1,rfl⟩:=RS.addr (h_l.mono hl1) (k:=0) (by (have q_:=QE.1 ‹_›;have q1_:=q_.len1;have q2_:=q_.len;have q3_:=q_.lastE;have q4_:=q_.fb;have q5_:=q_.lb;omega))
 obtain ⟨x1,hx1⟩:=Wf (l:=l) (k:=0) (by (have q_:=QE.1 ‹_›;have q1_:=q_.len1;have q2_:=q_.len;have q3_:=q_.lastE;have q4_:=q_.fb;have q5_:=q_.lb;omega))
 obtain ⟨_,⟨rfl,_,_,_,_⟩,hc1⟩:=RS.get (h_l.mono hl1) hx1
 have e1:Ha.wrap ((l.length:Int)-1)=((l.length-1:Nat):Int):=(Hh _ (by (have q_:=QE.1 ‹_›;have q1_:=q_.len1;have q2_:=q_.len;have q3_:=q_.lastE;have q4_:=q_.fb;have q5_:=q_.lb;omega))).trans (show (l.length:Int)-1=((l.length-1:Nat):Int) by (have q_:=QE.1 ‹_›;have q1_:=q_.len1;have q2_:=q_.len;have q3_:=q_.lastE;have q4_:=q_.fb;have q5_:=q_.lb;omega))
 obtain ⟨x2,hx2⟩:=Wf (l:=l) (k:=l.length-1) (by (have q_:=QE.1 ‹_›;have q1_:=q_.len1;have q2_:=q_.len;have q3_:=q_.lastE;have q4_:=q_.fb;have q5_:=q_.lb;omega))
 obtain ⟨_,⟨rfl,_,_,_,_⟩,hc2⟩:=RS.get (h_l.mono hl1) hx2
 refine Kp [] (Wl [(0,Sl (At b2 o1) l.length c_l),(1,Pt b2 (o1+0*4)),(2,Pt b2 (o1+0*4)),(3,I x1.epoch),(4,Sl (At b2 o1) l.length c_l),(5,Sl (At b2 o1) l.length c_l),(6,I (l.length:Int)),(7,I ((l.length-1:Nat):Int)),(8,Pt b2 (o1+(l.length-1)*4)),(9,Pt b2 (o1+(l.length-1)*4)),(10,I x2.epoch),(11,I x1.epoch),(12,I x2.epoch)] (Km [] [(0,0),(2,0),(4,0),(5,0),(6,0),(9,0),(11,0),(12,0)] [1,3,7,8,10] [(0,Sl (At b2 o1) l.length c_l),(1,I a),(2,I b),(9,I x1.epoch),(10,I x2.epoch)] (Ki ?_ (Ki ?_ (Ki ?_ (Ki ?_ (Ki ?_ K8))))) ?_))
 refine Jt 1 18 (Pt b2 (o1+0*4)) [(17,Sl (At b2 o1) l.length c_l)] (fun X=>?_)
 exact J5 (b:=b2) (off:=o1) (len:=l.length) (cap:=c_l) (ik:=.i64) 18 43 4 0 (by (have hl_:=WD (l:=l) (k:=l.length-1) rfl hx2;have hf_:=WT hx1;subst hl_;subst hf_;have q_:=QE.1 ‹_›;have q1_:=q_.len1;have q2_:=q_.len;have q3_:=q_.lastE;have q4_:=q_.fb;have q5_:=q_.lb;omega)) Jp
 refine Jt 3 20 (I x1.epoch) [(19,Pt b2 (o1+0*4))] (fun X=>?_)
 exact JZ 20 2 (cs:=[I x1.epoch,U x1.root,U x1.prev,I x1.at_]) 0 (I x1.epoch) hc1 Jp
 refine Jt 7 24 (I ((l.length-1:Nat):Int)) [(23,I (l.length:Int))] (fun X=>?_)
 exact KV 24 (I (Ha.wrap ((l.length:Int)-1))) (I ((l.length-1:Nat):Int)) (by simp only [e1]) Jp
 refine Jt 8 25 (Pt b2 (o1+(l.length-1)*4)) [(21,Sl (At b2 o1) l.length c_l),(24,I ((l.length-1:Nat):Int))] (fun X=>?_)
 exact J5 (b:=b2) (off:=o1) (len:=l.length) (cap:=c_l) (ik:=.i64) 25 43 4 (l.length-1) (by (have hl_:=WD (l:=l) (k:=l.length-1) rfl hx2;have hf_:=WT hx1;subst hl_;subst hf_;have q_:=QE.1 ‹_›;have q1_:=q_.len1;have q2_:=q_.len;have q3_:=q_.lastE;have q4_:=q_.fb;have q5_:=q_.lb;omega)) Jp
 refine Jt 10 27 (I x2.epoch) [(26,Pt b2 (o1+(l.length-1)*4))] (fun X=>?_)
 exact JZ 27 2 (cs:=[I x2.epoch,U x2.root,U x2.prev,I x2.at_]) 0 (I x2.epoch) hc2 Jp
 refine Jb (Jf (Jf (Jd (Jc [0,0,0,0] [(31,Bo (decide (a > b)))] (Ks (decide (a > b)) [31] [1,1,1,0] [0,0,0,0] (fun bb=>[(35,Bo (bb || (decide (a<x1.epoch))))]) (Jc [0] [(36,Bo ((decide (a > b)) || (decide (a<x1.epoch))))] (Ks ((decide (a > b)) || (decide (a<x1.epoch))) [36] [1,1,1,0] [0,0,0,0] (fun bb=>[(40,Bo (bb || (decide (b > x2.epoch))))]) (Je (Jb (Jl (((decide (a > b)) || (decide (a<x1.epoch))) || (decide (b > x2.epoch))) (fun h2=>?_) (fun h2=>?_)))))))))))
 refine Jg [0,0] [(6,Sl none 0 0),(7,I 4)] (Jn (Jj ?_))
 have hf2:W0 l a b=([],4):=by
  unfold W0;(have hl_:=WD (l:=l) (k:=l.length-1) rfl hx2;have hf_:=WT hx1;subst hl_;subst hf_;rw [if_neg (by omega)];(rw [if_pos (by omega)];done))
 refine Jo [0,0] [Sl none 0 0,I 4] (JA [] hl1 ?_)
 rw [hf2]
 try dsimp only
 exact ⟨none,0,rfl,(JP KA G1),rfl⟩
 refine Jq (Jb (Jf (Jd (Jc [0,0,0,0,0,0,0,0] [(41,Sl (At b2 o1) l.length c_l),(44,I (Ha.wrap (a-x1.epoch))),(48,I (Ha.wrap ((Ha.wrap (b-x1.epoch))+1)))] ?_))))
 have e2:Ha.wrap (a-x1.epoch)=a-x1.epoch:=Hh _ (by (have hl_:=WD (l:=l) (k:=l.length-1) rfl hx2;have hf_:=WT hx1;subst hl_;subst hf_;have q_:=QE.1 ‹_›;have q1_:=q_.len1;have q2_:=q_.len;have q3_:=q_.lastE;have q4_:=q_.fb;have q5_:=q_.lb;omega))
 have e3:Ha.wrap (b-x1.epoch)=b-x1.epoch:=Hh _ (by (have hl_:=WD (l:=l) (k:=l.length-1) rfl hx2;have hf_:=WT hx1;subst hl_;subst hf_;have q_:=QE.1 ‹_›;have q1_:=q_.len1;have q2_:=q_.len;have q3_:=q_.lastE;have q4_:=q_.fb;have q5_:=q_.lb;omega))
 have e4:Ha.wrap ((b-x1.epoch)+1)=(b-x1.epoch)+1:=Hh _ (by (have hl_:=WD (l:=l) (k:=l.length-1) rfl hx2;have hf_:=WT hx1;subst hl_;subst hf_;have q_:=QE.1 ‹_›;have q1_:=q_.len1;have q2_:=q_.len;have q3_:=q_.lastE;have q4_:=q_.fb;have q5_:=q_.lb;omega))
 refine KU 44 (I (a-x1.epoch)) (congrArg I e2) (KU 48 (I ((b-x1.epoch)+1)) (show (I (Ha.wrap ((Ha.wrap (b-x1.epoch))+1)):Value)=I ((b-x1.epoch)+1) by simp only [e2,e3,e4]) ?_)
 clear e4 e3 e2
 obtain ⟨kn1,hkn1⟩:∃ k_:Nat,a-x1.epoch=(k_:Int):=⟨(a-x1.epoch).toNat,by omega⟩
 have e5:a-x1.epoch=(kn1:Int):=hkn1
 refine KU 44 (I (kn1:Int)) (congrArg I e5) ?_
 obtain ⟨kn2,hkn2⟩:∃ k_:Nat,(b-x1.epoch)+1=(k_:Int):=⟨((b-x1.epoch)+1).toNat,by omega⟩
 have e6:(b-x1.epoch)+1=(kn2:Int):=hkn2
 refine KU 48 (I (kn2:Int)) (congrArg I e6) ?_
 obtain ⟨a1,c1,ea1,ec1,en1,eh1,hs2⟩:=RS.reslX (h_l.mono hl1) kn1 kn2 J8 (by (have hl_:=WD (l:=l) (k:=l.length-1) rfl hx2;have hf_:=WT hx1;subst hl_;subst hf_;have q_:=QE.1 ‹_›;have q1_:=q_.len1;have q2_:=q_.len;have q3_:=q_.lastE;have q4_:=q_.fb;have q5_:=q_.lb;omega))
 refine Wz (a:=At b2 o1) (len:=l.length) (cap:=c_l) 49 4 (some (I (kn1:Int))) (some (I (kn2:Int))) kn1 kn2 (.inr ⟨_,rfl⟩) (.inr ⟨_,rfl⟩) J8 ea1 ec1 en1 eh1 (JI 50 (Vj G1 a1 c1 ((l.take kn2).drop kn1) hs2) (fun v G2 L1 hl2 hp=>?_))
 obtain ⟨a2,c2,_,rfl,hr1,rfl⟩:=hp
 refine Jc [0,0] [(6,Sl a2 (((l.take kn2).drop kn1).length) c2),(7,I 0)] (Je (Jb (Jn (Wp (E:=KA) 0 hr1 (by exact (hs2).fit) (fun G3 hl3 hs3=>?_)))))
 have hf3:W0 l a b=((l.take kn2).drop kn1,0):=by
  unfold W0;(have hl_:=WD (l:=l) (k:=l.length-1) rfl hx2;have hf_:=WT hx1;subst hl_;subst hf_;rw [if_neg (by omega)];(rw [if_neg (by omega)];unfold cut;rw [show (a-(WS l).epoch).toNat=kn1 by omega,show (b-(WS l).epoch+1).toNat=kn2 by omega];done))
 refine Jo [0,0] [Sl a2 (((l.take kn2).drop kn1).length) c2,I 0] (JA [] (Ja (Ja hl1 hl2) hl3) ?_)
 rw [hf3]
 try dsimp only
 exact ⟨a2,c2,rfl,hs3,rfl⟩
theorem JdQ (G:J4) (vs_h:List Value) (h:JU) (h_h:KA.R G vs_h h) (a_l:Option Addr) (c_l:Nat) (l:List JU) (h_l:RS KA G a_l c_l l) :Q4 121 #[.agg vs_h.toArray,Sl a_l l.length c_l] G (.tuple #[Bo ((QX h l).1),I ((QX h l).2)]):=by
 obtain ⟨rfl,w1,w2,w3,w4⟩:=h_h
 refine JR Tryz.func121 24 [(0,.agg #[I h.epoch,U h.root,U h.prev,I h.at_]),(1,Sl a_l l.length c_l)] rfl (fun w0 G0=>?_)
 refine Jf (Jd (Jv 2 #[I h.epoch,U h.root,U h.prev,I h.at_] 43 (fun b1=>Jc [0,0] [] (Je (Jb (Jf (Jd (Jc [0] [(7,Sl a_l l.length c_l)] (Kt 8 1 #[Sl a_l l.length c_l] 40 (fun b2=>QZ (b:=b2) (o:=0) (cs:=[Sl a_l l.length c_l]) 0 (fun G1 hl1 hz1=>?_)))))))))))
 have hs1:RS JeK G1 (At b2 0) 1 [l]:=RS.lit [[Sl a_l l.length c_l]] [l] ⟨⟨a_l,c_l,rfl,(h_l.mono hl1)⟩,trivial⟩ hz1 (Hc rfl) (Hc rfl)
 refine Jm 9 (I (K4 ([l]))) (Jbj G1 (At b2 0) 1 ([l]) hs1) (Jc [0] [(6,I (K4 ([l])))] (Je (Jb (Jf (Jg [0,0] [(11,Bo (decide (K4 ([l])=0)))] (Jl (decide (K4 ([l])=0)) (fun h1=>?_) (fun h1=>?_)))))))
 refine Jd (Jc [4] [(12,.agg #[I h.epoch,U h.root,U h.prev,I h.at_])] (Jm 13 (I (JL h)) (ZV h G1) (Jc [0] [(6,I (JL h))] (Je (Jb (Jf (Jg [0,0] [(15,Bo (!decide (JL h=0)))] (Jl (!decide (JL h=0)) (fun h2=>?_) (fun h2=>?_)))))))))
 refine Jg [0,0,0] [(4,Bo false),(5,I (JL h))] (Jn (Jj (Jo [0,0] [Bo false,I (JL h)] (Jx hl1 ?_))))
 have hf_:(QX h l)=(false,(JL h)):=by
  unfold QX;(simp_all;done)
 · (try rw [hf_]);(simp only [Qx];done)
 refine Jq (Jb (Jf ?_))
 obtain ⟨b3,o1,rfl⟩:=RS.addr (h_l.mono hl1) (k:=0) (by (have q_:=QE.1 ‹_›;have q1_:=q_.len1;have q2_:=q_.len;have q3_:=q_.lastE;have q4_:=q_.fb;have q5_:=q_.lb;omega))
 obtain ⟨x1,hx1⟩:=Wf (l:=l) (k:=0) (by (have q_:=QE.1 ‹_›;have q1_:=q_.len1;have q2_:=q_.len;have q3_:=q_.lastE;have q4_:=q_.fb;have q5_:=q_.lb;omega))
 obtain ⟨_,⟨rfl,w5,w6,w7,w8⟩,hc1⟩:=RS.get (h_l.mono hl1) hx1
 refine Kp [4,5] (Wl [(0,.agg #[I h.epoch,U h.root,U h.prev,I h.at_]),(1,Sl (At b3 o1) l.length c_l),(2,Pt b3 (o1+0*4)),(3,.agg #[I x1.epoch,U x1.root,U x1.prev,I x1.at_])] (JK [] [(0,4),(1,0)] [2,3] [4] (Ki ?_ (Ki ?_ K8)) (Ki ?_ K8)))
 refine Jt 2 19 (Pt b3 (o1+0*4)) [(18,Sl (At b3 o1) l.length c_l)] (fun X=>?_)
 exact J5 (b:=b3) (off:=o1) (len:=l.length) (cap:=c_l) (ik:=.i64) 19 43 4 0 (by (have q_:=QE.1 ‹_›;have q1_:=q_.len1;have q2_:=q_.len;have q3_:=q_.lastE;have q4_:=q_.fb;have q5_:=q_.lb;omega)) Jp
 refine Jt 3 20 (.agg #[I x1.epoch,U x1.root,U x1.prev,I x1.at_]) [(19,Pt b3 (o1+0*4))] (fun X=>?_)
 exact JZ 20 43 (cs:=[I x1.epoch,U x1.root,U x1.prev,I x1.at_]) 0 (.agg #[I x1.epoch,U x1.root,U x1.prev,I x1.at_]) hc1 Jp
 refine JC 4 [(17,.agg #[I h.epoch,U h.root,U h.prev,I h.at_]),(20,.agg #[I x1.epoch,U x1.root,U x1.prev,I x1.at_])] (fun X=>?_)
 refine Kt 21 2 #[I h.epoch,U h.root,U h.prev,I h.at_,I x1.epoch,U x1.root,U x1.prev,I x1.at_] 43 (fun b4=>JD [(4,Sl (At b4 0) 2 2)] (JK [0,1,2,3] [] [] [5] (Hi _) (Ki ?_ K8)))
 refine JC 5 [(21,Sl (At b4 0) 2 2)] (fun X=>?_)
 refine QZ (b:=b4) (o:=0) (cs:=[I h.epoch,U h.root,U h.prev,I h.at_,I x1.epoch,U x1.root,U x1.prev,I x1.at_]) 0 (fun G2 hl2 hz2=>?_)
 have hs2:RS KA G2 (At b4 0) 2 [h,x1]:=RS.lit [[I h.epoch,U h.root,U h.prev,I h.at_],[I x1.epoch,U x1.root,U x1.prev,I x1.at_]] [h,x1] ⟨⟨rfl,w1,w2,w3,w4⟩,⟨⟨rfl,w5,w6,w7,w8⟩,trivial⟩⟩ hz2 (Hc rfl) (Hc rfl)
 refine Jm 22 (I (Wm ([h,x1]))) (JbH G2 (At b4 0) 2 ([h,x1]) hs2) (JD [(5,I (Wm ([h,x1]))),(6,Bo (decide (Wm ([h,x1])<0))),(7,Bo (decide (Wm ([h,x1])<0))),(8,I 0)] (Km [0,1,2,3] [(6,0),(7,0),(8,0)] [] [(4,Bo (decide (Wm ([h,x1])<0))),(5,I 0)] (Hi _) (Jb (Jn (Jo [0,0] [Bo (decide (Wm ([h,x1])<0)),I 0] (Jx (Ja hl1 hl2) ?_))))))
 have hf_:(QX h l)=((decide (Wm ([h,x1])<0)),0):=by
  unfold QX;(have hf_:=WT hx1;subst hf_;simp_all;done)
 · (try rw [hf_]);(simp only [Qx];done)
 refine Jq (Jb (Jf (Jg [0,0] [(15,Bo (!decide (K4 ([l])=0)))] (Jl (!decide (K4 ([l])=0)) (fun h3=>?_) (fun h3=>?_)))))
 refine Jg [0,0,0] [(4,Bo false),(5,I (K4 ([l])))] (Jn (Jj (Jo [0,0] [Bo false,I (K4 ([l]))] (Jx hl1 ?_))))
 have hf_:(QX h l)=(false,(K4 ([l]))):=by
  unfold QX;(simp_all;done)
 · (try rw [hf_]);(simp only [Qx];done)
 refine Jq (Jb (Jf ?_))
 obtain ⟨b5,o2,rfl⟩:=RS.addr (h_l.mono hl1) (k:=0) (by omega)
 obtain ⟨x2,hx2⟩:=Wf (l:=l) (k:=0) (by omega)
 obtain ⟨_,⟨rfl,w9,w10,w11,w12⟩,hc2⟩:=RS.get (h_l.mono hl1) hx2
 refine Kp [4,5] (Wl [(0,.agg #[I h.epoch,U h.root,U h.prev,I h.at_]),(1,Sl (At b5 o2) l.length c_l),(2,Pt b5 (o2+0*4)),(3,.agg #[I x2.epoch,U x2.root,U x2.prev,I x2.at_])] (JK [] [(0,4),(1,0)] [2,3] [4] (Ki ?_ (Ki ?_ K8)) (Ki ?_ K8)))
 refine Jt 2 19 (Pt b5 (o2+0*4)) [(18,Sl (At b5 o2) l.length c_l)] (fun X=>?_)
 exact J5 (b:=b5) (off:=o2) (len:=l.length) (cap:=c_l) (ik:=.i64) 19 43 4 0 J8 Jp
 refine Jt 3 20 (.agg #[I x2.epoch,U x2.root,U x2.prev,I x2.at_]) [(19,Pt b5 (o2+0*4))] (fun X=>?_)
 exact JZ 20 43 (cs:=[I x2.epoch,U x2.root,U x2.prev,I x2.at_]) 0 (.agg #[I x2.epoch,U x2.root,U x2.prev,I x2.at_]) hc2 Jp
 refine JC 4 [(17,.agg #[I h.epoch,U h.root,U h.prev,I h.at_]),(20,.agg #[I x2.epoch,U x2.root,U x2.prev,I x2.at_])] (fun X=>?_)
 refine Kt 21 2 #[I h.epoch,U h.root,U h.prev,I h.at_,I x2.epoch,U x2.root,U x2.prev,I x2.at_] 43 (fun b6=>JD [(4,Sl (At b6 0) 2 2)] (JK [0,1,2,3] [] [] [5] (Hi _) (Ki ?_ K8)))
 refine JC 5 [(21,Sl (At b6 0) 2 2)] (fun X=>?_)
 refine QZ (b:=b6) (o:=0) (cs:=[I h.epoch,U h.root,U h.prev,I h.at_,I x2.epoch,U x2.root,U x2.prev,I x2.at_]) 0 (fun G3 hl3 hz3=>?_)
 have hs3:RS KA G3 (At b6 0) 2 [h,x2]:=RS.lit [[I h.epoch,U h.root,U h.prev,I h.at_],[I x2.epoch,U x2.root,U x2.prev,I x2.at_]] [h,x2] ⟨⟨rfl,w1,w2,w3,w4⟩,⟨⟨rfl,w9,w10,w11,w12⟩,trivial⟩⟩ hz3 (Hc rfl) (Hc rfl)
 refine Jm 22 (I (Wm ([h,x2]))) (JbH G3 (At b6 0) 2 ([h,x2]) hs3) (JD [(5,I (Wm ([h,x2]))),(6,Bo (decide (Wm ([h,x2])<0))),(7,Bo (decide (Wm ([h,x2])<0))),(8,I 0)] (Km [0,1,2,3] [(6,0),(7,0),(8,0)] [] [(4,Bo (decide (Wm ([h,x2])<0))),(5,I 0)] (Hi _) (Jb (Jn (Jo [0,0] [Bo (decide (Wm ([h,x2])<0)),I 0] (Jx (Ja hl1 hl3) ?_))))))
 have hf_:(QX h l)=((decide (Wm ([h,x2])<0)),0):=by
  unfold QX;(simp_all;done)
 · (try rw [hf_]);(simp only [Qx];done)
def Vx:K9:=⟨[],0,Zr,[],0⟩
def WM (s:List UInt8):Bool:=decide (s.length > 20)
def Kb (o:K9):Int:=if KJ o.name=false then 3 else if JL o.head ≠ 0 then JL o.head else if 30<(o.wanted.length:Int)∨(o.wanted.any fun x0=>WM x0)=true then 2 else if o.had<0∨(o.wanted.length:Int)<o.had then 4 else 0
def Kg (name:List UInt8) (key:Int) (h:JU):K9×Int:=if Kb ⟨name,key,h,[],0⟩ ≠ 0 then (Vx,Kb ⟨name,key,h,[],0⟩) else (⟨name,key,h,[],0⟩,0)
def Yi (o:K9) (v:List UInt8):Int:=if Kb o ≠ 0 then Kb o else if WM v=true then 2 else if (o.wanted.length:Int)=30 then 7 else 0
def JO (o:K9) (v:List UInt8):K9×W8×Int:=if Yi o v ≠ 0 then (Vx,Jio,Yi o v) else (⟨o.name,o.key,o.head,o.wanted++[v],o.had⟩,(Zb o.key o.name v o.wanted.length).1,0)
theorem K5 {o:K9}:Kb o=0 ↔ KJ o.name=true∧JL o.head=0∧o.wanted.length≤30∧(∀ s∈o.wanted,s.length≤20)∧0≤o.had∧o.had≤o.wanted.length:=by
 unfold Kb
 have e:(o.wanted.any fun x0=>WM x0)=true ↔ ¬ ∀ s∈o.wanted,s.length≤20:=by
  rw [HB]
  unfold WM
  constructor
  ·
   rintro ⟨x,hx,h⟩ hc
   have:=hc x hx
   simp at h;omega
  ·
   intro h
   apply Classical.byContradiction
   intro hc
   refine h fun s hs=>?_
   apply Classical.byContradiction
   intro h2
   exact hc ⟨s,hs,by simp;omega⟩
 cases hn:KJ o.name with
 | false=>simp
 | true =>
  rw [if_neg (by simp)]
  by_cases h1:JL o.head=0
  ·
   rw [if_neg (by omega)]
   by_cases h2:30<(o.wanted.length:Int)∨(o.wanted.any fun x0=>WM x0)=true
   ·
    rw [if_pos h2]
    constructor
    · intro h;cases h
    ·
     rintro ⟨_,_,h3,h4,_⟩
     rcases h2 with h2 | h2
     · omega
     · exact absurd h4 (e.1 h2)
   ·
    rw [if_neg h2]
    have h3:o.wanted.length≤30:=Nat.le_of_not_lt fun h=>h2 (.inl (by omega))
    have h4:∀ s∈o.wanted,s.length≤20:=Hl.1 fun h=>h2 (.inr (e.2 h))
    split
    ·
     constructor
     · intro h;cases h
     · rintro ⟨_,_,_,_,_,_⟩;omega
    · exact ⟨fun _=>⟨rfl,h1,h3,h4,by omega,by omega⟩,fun _=>rfl⟩
  ·
   rw [if_pos h1]
   exact ⟨fun h=>absurd h h1,fun h=>absurd h.2.1 h1⟩
theorem Jc9 {o:K9} {v:List UInt8} (h:(JO o v).2.2=0):Kb o=0∧v.length≤20∧o.wanted.length<30∧JO o v=(⟨o.name,o.key,o.head,o.wanted++[v],o.had⟩,⟨o.name,v,o.wanted.length,Vl o.key (Ww o.name v o.wanted.length)⟩,0)∧Kb (JO o v).1=0∧Z6 o.key (JO o v).2.1=true∧(JO o v).1.key=o.key∧(JO o v).2.1.n=o.wanted.length∧(JO o v).1.wanted.length=o.wanted.length+1:=by
 have key:Kb o=0∧WM v=false∧¬ (o.wanted.length:Int)=30:=by
  unfold JO at h
  split at h
  · contradiction
  ·
   rename_i h1
   unfold Yi at h1
   by_cases e1:Kb o=0
   ·
    rw [if_neg (by omega)] at h1
    by_cases e2:WM v=true
    · rw [if_pos e2] at h1;omega
    ·
     rw [if_neg e2] at h1
     by_cases e3:(o.wanted.length:Int)=30
     · rw [if_pos e3] at h1;omega
     · exact ⟨e1,by simpa using e2,e3⟩
   · rw [if_pos e1] at h1;omega
 obtain ⟨e1,e2,e3⟩:=key
 have hi:=K5.1 e1
 have hv:v.length≤20:=by unfold WM at e2;simp at e2;omega
 have hE:Yi o v=0:=by unfold Yi;rw [if_neg (by omega),if_neg (by rw [e2];simp),if_neg e3]
 have hr:Qz o.name v=0:=by unfold Qz;rw [if_neg (by rw [hi.1];simp),if_neg (by omega)]
 have ht:Zb o.key o.name v o.wanted.length=(⟨o.name,v,o.wanted.length,Vl o.key (Ww o.name v o.wanted.length)⟩,0):=by unfold Zb;rw [if_neg (by omega)]
 have hw:JO o v=(⟨o.name,o.key,o.head,o.wanted++[v],o.had⟩,⟨o.name,v,o.wanted.length,Vl o.key (Ww o.name v o.wanted.length)⟩,0):=by
  unfold JO;rw [if_neg (by omega),ht]
 refine ⟨e1,hv,by omega,hw,?_,?_,?_,?_,?_⟩ <;> rw [hw] <;> simp only
 ·
  rw [K5]
  refine ⟨hi.1,hi.2.1,by simp;omega,fun s hs=>?_,hi.2.2.2.2.1,by simp;omega⟩
  rcases HF.1 hs with hs | hs
  · exact hi.2.2.2.1 s hs
  · rw [Hz.1 hs];exact hv
 · unfold Z6;simp [hr]
 · simp
theorem Jcf (G:J4) (s:List UInt8) :Q4 70 #[Sr s] G (Bo (WM s)):=by
 refine JR Tryz.func70 6 [(0,Sr s)] rfl (fun w0 G0=>?_)
 refine Jg [0] [] (Jg [0,0,0,0] [(2,Bo (decide (((s).length:Int) > 20)))] (Jn (Jo [0] [Bo (decide (((s).length:Int) > 20))] (Jx (Jh _) (congrArg Bo (?_:(WM s)=(decide (((s).length:Int) > 20))).symm)))))
 unfold WM;rw [HG];simp;omega
theorem Jas (G:J4) (vs_o:List Value) (o:K9) (h_o:QB.R G vs_o o) :Q4 38 #[.agg vs_o.toArray] G (I (Kb o)):=by
 obtain ⟨a1,c1,rfl,_,_,_,_,_,_,hs1,_⟩:=h_o
 refine JR Tryz.func38 36 [(0,(Ky o a1 c1))] rfl (fun w0 G0=>?_)
 refine Jf (Jd (Jv 1 #[Sr o.name,U o.key,I o.head.epoch,U o.head.root,U o.head.prev,I o.head.at_,Sl a1 o.wanted.length c1,I o.had] 76 (fun b1=>Jc [0] [] (Je (Jb (Jf (Jf (Jd (Jc [0,2] [(5,Sr o.name)] (Jm 6 (Bo (KJ o.name)) (ZN G o.name) (Jc [0] [(7,Bo (!(KJ o.name)))] (Je (Jb (Jl (!(KJ o.name)) (fun h1=>?_) (fun h1=>?_)))))))))))))))
 refine Jg [0] [(2,I 3)] (Jn (Jj (Jo [0] [I 3] (Jx (Jh _) (congrArg I (?_:(Kb o)=3).symm)))))
 · unfold Kb;(rw [if_pos (by simp_all)];done)
 refine Jq (Jb (Jf (Jf (Jd (Jc [0,2] [(9,.agg #[I o.head.epoch,U o.head.root,U o.head.prev,I o.head.at_])] (Jm 10 (I (JL o.head)) (ZV o.head G) (Jc [0] [(3,I (JL o.head))] (Je (Jb (Jg [0,0] [(12,Bo (!decide (JL o.head=0)))] (Jl (!decide (JL o.head=0)) (fun h2=>?_) (fun h2=>?_))))))))))))
 refine Jg [0,0] [(2,I (JL o.head))] (Jn (Jj (Jo [0] [I (JL o.head)] (Jx (Jh _) (congrArg I (?_:(Kb o)=(JL o.head)).symm)))))
 · unfold Kb;(rw [if_neg (by simp_all),if_pos (by omega)];done)
 refine Jq (Jb (Jf (Jy (Jf (Jd (Jc [0,2,0,0,0] [(19,Bo (decide ((o.wanted.length:Int) > 30)))] (QY [19] (decide ((o.wanted.length:Int) > 30)) (fun h3=>?_) (fun h3=>?_))))))))
 refine Jc [1,1,1,0,0] [(14,Bo true)] (Je (Jb (JW (Jg [0] [(2,I 2)] (Jn (Js (Jj (Jo [0] [I 2] (Jx (Jh _) (congrArg I (?_:(Kb o)=2).symm))))))))))
 · unfold Kb;(rw [if_neg (by simp_all),if_neg (by omega)];(rw [if_pos (by simp_all)];done))
 refine Jc [0,2] [(21,Sl a1 o.wanted.length c1)] (Jm 22 (Bo (o.wanted.any (fun x0=>WM x0))) (JoW G a1 c1 o.wanted hs1 70 #[] (fun x0=>WM x0) (fun _ _=>by kernel_rfl) (fun x0 hx0=>Jcf G x0)) (Jc [0,0] [(14,Bo (o.wanted.any (fun x0=>WM x0)))] (Je (Jb (Jl (o.wanted.any (fun x0=>WM x0)) (fun h4=>?_) (fun h4=>?_))))))
 refine Jg [0] [(2,I 2)] (Jn (Js (Jj (Jo [0] [I 2] (Jx (Jh _) (congrArg I (?_:(Kb o)=2).symm))))))
 · unfold Kb;(rw [if_neg (by simp_all),if_neg (by omega)];(rw [if_pos (by simp_all)];done))
 refine Jf (Jd (Jc [0,2,0,0] [(28,Bo (decide (o.had<0)))] (Ks (decide (o.had<0)) [28] [1,1,1,1,1,1,0] [0,2,0,2,0,0,0] (fun bb=>[(35,Bo (bb || (decide (o.had > (o.wanted.length:Int)))))]) (Jc [0] [(24,Bo ((decide (o.had<0)) || (decide (o.had > (o.wanted.length:Int)))))] (Je (Jb (Jl ((decide (o.had<0)) || (decide (o.had > (o.wanted.length:Int)))) (fun h5=>?_) (fun h5=>?_))))))))
 refine Jg [0] [(2,I 4)] (Jn (Js (Jj (Jo [0] [I 4] (Jx (Jh _) (congrArg I (?_:(Kb o)=4).symm))))))
 · unfold Kb;(rw [if_neg (by simp_all),if_neg (by omega)];(rw [if_neg (by simp_all),if_pos (by omega)];done))
 refine Jq (JN (Jb (Jg [0] [(2,I 0)] (Jn (Jo [0] [I 0] (Jx (Jh _) (congrArg I (?_:(Kb o)=0).symm)))))))
 · unfold Kb;(rw [if_neg (by simp_all),if_neg (by omega)];(rw [if_neg (by simp_all),if_neg (by omega)];done))
theorem Jda (G:J4) (name:List UInt8) (hw_name:(name).length≤140737488351232) (key:Int) (hw_key:rU key) (vs_h:List Value) (h:JU) (h_h:KA.R G vs_h h) :Yw 57 #[Sr name,U key,.agg vs_h.toArray] G [] (fun u G' L'=>∃ (a1:Option Addr) (c2:Nat),u=.tuple #[.agg #[Sr (((Kg name key h).1).name),U (((Kg name key h).1).key),I (((Kg name key h).1).head.epoch),U (((Kg name key h).1).head.root),U (((Kg name key h).1).head.prev),I (((Kg name key h).1).head.at_),Sl a1 ((((Kg name key h).1).wanted).length) c2,I (((Kg name key h).1).had)],I ((Kg name key h).2)]∧((((Kg name key h).1).name).length≤140737488351232)∧(rU (((Kg name key h).1).key))∧(rI (((Kg name key h).1).head.epoch))∧(rU (((Kg name key h).1).head.root))∧(rU (((Kg name key h).1).head.prev))∧(rI (((Kg name key h).1).head.at_))∧(RS ES G' a1 c2 (((Kg name key h).1).wanted))∧(rI (((Kg name key h).1).had))∧L'=[]):=by
 obtain ⟨rfl,w1,w2,w3,w4⟩:=h_h
 refine JR Tryz.func57 21 [(0,Sr name),(1,U key),(2,.agg #[I h.epoch,U h.root,U h.prev,I h.at_])] rfl (fun w0 G0=>?_)
 refine Jf (Jd (Jv 5 #[I h.epoch,U h.root,U h.prev,I h.at_] 43 (fun b1=>Jv 6 #[Sr ([]),U 0,I 0,U 0,U 0,I 0,Sl none 0 0,I 0] 76 (fun b2=>Jc [0] [] (Je (Jb (Jf (Jd (Jc [0,0,4,0] [(13,.agg #[Sr name,U key,I h.epoch,U h.root,U h.prev,I h.at_,Sl none 0 0,I 0])] (Jv 8 #[Sr ([]),U 0,I 0,U 0,U 0,I 0,Sl none 0 0,I 0] 76 (fun b3=>JV [3] [] [[Sg b3 0 [Sr name,U key,I h.epoch,U h.root,U h.prev,I h.at_,Sl none 0 0,I 0]],[Sg b2 0 [Sr ([]),U 0,I 0,U 0,U 0,I 0,Sl none 0 0,I 0]],[Sg b1 0 [I h.epoch,U h.root,U h.prev,I h.at_]]] (Je (Jb (Jf (Jf (Jd (Jc [2] [(14,.agg #[Sr name,U key,I h.epoch,U h.root,U h.prev,I h.at_,Sl none 0 0,I 0])] (Jm 15 (I (Kb (⟨name,key,h,[],0⟩:K9))) (Jas G [Sr name,U key,I h.epoch,U h.root,U h.prev,I h.at_,Sl none 0 0,I 0] (⟨name,key,h,[],0⟩:K9) (⟨none,0,rfl,hw_name,hw_key,w1,w2,w3,w4,(JP ES G),(by (simp;done))⟩)) (Jc [0] [(9,I (Kb (⟨name,key,h,[],0⟩:K9)))] (Je (Jb (Jg [0,0] [(17,Bo (!decide (Kb (⟨name,key,h,[],0⟩:K9)=0)))] ?_))))))))))))))))))))))
 refine Jl (!decide (Kb (⟨name,key,h,[],0⟩:K9)=0)) (fun h1=>?_) (fun h1=>?_)
 refine Jg [0,0,5,0] [(7,I (Kb (⟨name,key,h,[],0⟩:K9)))] (Jn (Jj ?_))
 have hf1:Kg name key h=((⟨[],0,(⟨0,0,0,0⟩:JU),[],0⟩:K9),Kb (⟨name,key,h,[],0⟩:K9)):=by
  unfold Kg Vx Zr;simp_all
 refine Jo [1,0] [.agg #[Sr ([]),U 0,I 0,U 0,U 0,I 0,Sl none 0 0,I 0],I (Kb (⟨name,key,h,[],0⟩:K9))] (JA [] (Jh _) ?_)
 rw [hf1]
 try dsimp only
 exact ⟨none,0,rfl,(Hc rfl),J8,J8,J8,J8,J8,(JP ES G),J8,rfl⟩
 refine Jq (Jb (QA [2,5,0] [(7,I 0)] [[Sg b3 0 [Sr name,U key,I h.epoch,U h.root,U h.prev,I h.at_,Sl none 0 0,I 0]],[Sg b2 0 [Sr name,U key,I h.epoch,U h.root,U h.prev,I h.at_,Sl none 0 0,I 0]],[Sg b1 0 [I h.epoch,U h.root,U h.prev,I h.at_]]] (Jn ?_)))
 have hf2:Kg name key h=((⟨name,key,h,[],0⟩:K9),0):=by
  unfold Kg Vx Zr;simp_all
 refine Jo [1,0] [.agg #[Sr name,U key,I h.epoch,U h.root,U h.prev,I h.at_,Sl none 0 0,I 0],I 0] (JA [] (Jh _) ?_)
 rw [hf2]
 try dsimp only
 exact ⟨none,0,rfl,hw_name,hw_key,w1,w2,w3,w4,(JP ES G),J8,rfl⟩
theorem YW (G:J4) (vs_o:List Value) (o:K9) (h_o:QB.R G vs_o o) (v:List UInt8) (hw_v:(v).length≤140737488351232) :Yw 101 #[.agg vs_o.toArray,Sr v] G [] (fun u G' L'=>∃ (a1:Option Addr) (c2:Nat),u=.tuple #[.agg #[Sr (((JO o v).1).name),U (((JO o v).1).key),I (((JO o v).1).head.epoch),U (((JO o v).1).head.root),U (((JO o v).1).head.prev),I (((JO o v).1).head.at_),Sl a1 ((((JO o v).1).wanted).length) c2,I (((JO o v).1).had)],.agg #[Sr (((JO o v).2.1).name),Sr (((JO o v).2.1).value),U (((JO o v).2.1).n),U (((JO o v).2.1).tag)],I ((JO o v).2.2)]∧((((JO o v).1).name).length≤140737488351232)∧(rU (((JO o v).1).key))∧(rI (((JO o v).1).head.epoch))∧(rU (((JO o v).1).head.root))∧(rU (((JO o v).1).head.prev))∧(rI (((JO o v).1).head.at_))∧(RS ES G' a1 c2 (((JO o v).1).wanted))∧(rI (((JO o v).1).had))∧((((JO o v).2.1).name).length≤140737488351232)∧((((JO o v).2.1).value).length≤140737488351232)∧(rU (((JO o v).2.1).n))∧(rU (((JO o v).2.1).tag))∧L'=[]):=by
 obtain ⟨a1,c1,rfl,w1,w2,w3,w4,w5,w6,hs1,w7⟩:=h_o
 refine JR Tryz.func101 52 [(0,(Ky o a1 c1)),(1,Sr v)] rfl (fun w0 G0=>?_)
 refine Jf (Jd (Jv 2 #[Sr o.name,U o.key,I o.head.epoch,U o.head.root,U o.head.prev,I o.head.at_,Sl a1 o.wanted.length c1,I o.had] 76 (fun b1=>Jv 4 #[Sr ([]),U 0,I 0,U 0,U 0,I 0,Sl none 0 0,I 0] 76 (fun b2=>Jv 5 #[Sr ([]),Sr ([]),U 0,U 0] 182 (fun b3=>Jc [0] [] (Je (Jb (Jf (Jd (Jc [6] [(10,(Ky o a1 c1))] (Jm 11 (I (Kb o)) (Jas G (KH o a1 c1) o (⟨a1,c1,rfl,w1,w2,w3,w4,w5,w6,hs1,w7⟩)) (Jc [0] [(7,I (Kb o))] (Je (Jb (Jf (Jy (Jg [0,0,0] [(12,Bo (!decide (Kb o=0)))] (Jl (!decide (Kb o=0)) (fun h1=>?_) (fun h1=>?_)))))))))))))))))))
 refine Jg [0,0,0,5,3,0] [(6,I (Kb o))] (Jn (Js (Jj ?_)))
 have hf1:JO o v=((⟨[],0,(⟨0,0,0,0⟩:JU),[],0⟩:K9),(⟨[],[],0,0⟩:W8),Kb o):=by
  unfold JO Yi Vx Jio Zr;simp_all
 refine Jo [1,0,0] [.agg #[Sr ([]),U 0,I 0,U 0,U 0,I 0,Sl none 0 0,I 0],.agg #[Sr ([]),Sr ([]),U 0,U 0],I (Kb o)] (JA [] (Jh _) ?_)
 rw [hf1]
 try dsimp only
 exact ⟨none,0,rfl,(Hc rfl),J8,J8,J8,J8,J8,(JP ES G),J8,(Hc rfl),(Hc rfl),J8,J8,rfl⟩
 refine Jf (Jd (Jc [0] [(19,Sr v)] (Jm 20 (Bo (WM v)) (Jcf G v) (Jc [0] [(18,Bo (WM v))] (Je (Jb (Jl (WM v) (fun h2=>?_) (fun h2=>?_))))))))
 refine Jg [0,0,5,3,0] [(6,I 2)] (Jn (Js (Jj ?_)))
 have hf2:JO o v=((⟨[],0,(⟨0,0,0,0⟩:JU),[],0⟩:K9),(⟨[],[],0,0⟩:W8),2):=by
  unfold JO Yi Vx Jio Zr;simp_all
 refine Jo [1,0,0] [.agg #[Sr ([]),U 0,I 0,U 0,U 0,I 0,Sl none 0 0,I 0],.agg #[Sr ([]),Sr ([]),U 0,U 0],I 2] (JA [] (Jh _) ?_)
 rw [hf2]
 try dsimp only
 exact ⟨none,0,rfl,(Hc rfl),J8,J8,J8,J8,J8,(JP ES G),J8,(Hc rfl),(Hc rfl),J8,J8,rfl⟩
 refine Jg [0,6,0,0,0] [(23,Bo (decide ((o.wanted.length:Int)=30)))] (Jl (decide ((o.wanted.length:Int)=30)) (fun h3=>?_) (fun h3=>?_))
 refine Jg [0,0,5,3,0] [(6,I 7)] (Jn (Js (Jj ?_)))
 have hf3:JO o v=((⟨[],0,(⟨0,0,0,0⟩:JU),[],0⟩:K9),(⟨[],[],0,0⟩:W8),7):=by
  unfold JO Yi Vx Jio Zr;simp_all
 refine Jo [1,0,0] [.agg #[Sr ([]),U 0,I 0,U 0,U 0,I 0,Sl none 0 0,I 0],.agg #[Sr ([]),Sr ([]),U 0,U 0],I 7] (JA [] (Jh _) ?_)
 rw [hf3]
 try dsimp only
 exact ⟨none,0,rfl,(Hc rfl),J8,J8,J8,J8,J8,(JP ES G),J8,(Hc rfl),(Hc rfl),J8,J8,rfl⟩
 refine Jq (JN (Jb (Jf (Jd (Jc [0,6,0,6,0,0,6,0,0] [(32,U o.key),(34,Sr o.name),(35,Sr v),(39,U (HW.wrap (o.wanted.length:Int)))] (JaU 39 (o.wanted.length:Int) (by (have q_:=K5.1 ‹_›;omega)) (JI 40 (JjR G o.key o.name ‹_› v ‹_› (o.wanted.length:Int) (by (have q_:=K5.1 ‹_›;omega))) (fun v G1 L1 hl1 hp=>?_))))))))
 obtain ⟨rfl,w8,w9,w10,w11,rfl⟩:=hp
 refine Jc [0,0,0] [(41,(JjI (Zb o.key o.name v (o.wanted.length:Int)).1)),(42,I ((Zb o.key o.name v (o.wanted.length:Int)).2))] (Jv 8 #[Sr ([]),Sr ([]),U 0,U 0] 182 (fun b4=>JV [3,0] [] [[Sg b4 0 (Jic (Zb o.key o.name v (o.wanted.length:Int)).1)],[Sg b3 0 [Sr ([]),Sr ([]),U 0,U 0]],[Sg b2 0 [Sr ([]),U 0,I 0,U 0,U 0,I 0,Sl none 0 0,I 0]],[Sg b1 0 (KH o a1 c1)]] (Je (Jb (Jf (Jd (Jc [0,8] [(44,Sl a1 o.wanted.length c1)] (JI 45 (JbY G1 a1 c1 o.wanted (hs1.mono hl1)) (fun v G2 L1 hl2 hp=>?_)))))))))
 obtain ⟨_,c2,_,rfl,hr1,rfl⟩:=hp
 refine Jc [0] [(46,Sr v)] (Kt 47 1 #[Sr v] 9 (fun b5=>Qy (b:=b5) (cs:=[Sr v]) 48 9 1 0 (E:=ES) v hr1 ⟨rfl,‹_›⟩ (by have q_:=K5.1 ‹_›;(try simp only [ES,Hd,He,Hf]);omega) (by have q_:=K5.1 ‹_›;(try simp only [ES,Hd,He,Hf]);omega) (fun a3 c3 r2 hr2=>JV [0,13] [] [[Sg b5 0 [Sr v]],r2,[Sg b4 0 (Jic (Zb o.key o.name v (o.wanted.length:Int)).1)],[Sg b3 0 [Sr ([]),Sr ([]),U 0,U 0]],[Sg b2 0 [Sr ([]),U 0,I 0,U 0,U 0,I 0,Sl none 0 0,I 0]],[Sg b1 0 (KH (⟨o.name,o.key,o.head,(o.wanted++[v]),o.had⟩:K9) a3 c3)]] (Je (Jb (Jf (Kp [2,3] (Wl [(0,(Ky (⟨o.name,o.key,o.head,(o.wanted++[v]),o.had⟩:K9) a3 c3)),(1,(JjI (Zb o.key o.name v (o.wanted.length:Int)).1))] (JK [] [(0,12),(1,6)] [] [2] (Hi _) (Ki ?_ K8))))))))))
 refine JC 2 [(4,Pt b2 0),(50,(Ky (⟨o.name,o.key,o.head,(o.wanted++[v]),o.had⟩:K9) a3 c3))] (fun X=>?_)
 refine KN 4 [[Sg b5 0 [Sr v]],r2,[Sg b4 0 (Jic (Zb o.key o.name v (o.wanted.length:Int)).1)],[Sg b3 0 [Sr ([]),Sr ([]),U 0,U 0]],[Sg b2 0 (KH (⟨o.name,o.key,o.head,(o.wanted++[v]),o.had⟩:K9) a3 c3)],[Sg b1 0 (KH (⟨o.name,o.key,o.head,(o.wanted++[v]),o.had⟩:K9) a3 c3)]] (Ka [] (JK [0] [(1,6)] [] [3] (Hi _) (Ki ?_ K8)))
 refine JC 3 [(5,Pt b3 0),(51,(JjI (Zb o.key o.name v (o.wanted.length:Int)).1))] (fun X=>?_)
 refine KN 3 [[Sg b5 0 [Sr v]],r2,[Sg b4 0 (Jic (Zb o.key o.name v (o.wanted.length:Int)).1)],[Sg b3 0 (Jic (Zb o.key o.name v (o.wanted.length:Int)).1)],[Sg b2 0 (KH (⟨o.name,o.key,o.head,(o.wanted++[v]),o.had⟩:K9) a3 c3)],[Sg b1 0 (KH (⟨o.name,o.key,o.head,(o.wanted++[v]),o.had⟩:K9) a3 c3)]] (Ka [(4,I 0)] (Km [0,1] [(4,0)] [] [(4,Pt b2 0),(5,Pt b3 0),(6,I 0)] (Hi _) (Jb (Jn (Wp (E:=ES) 1 hr2 (by have q_:=K5.1 ‹_›;(try simp only [ES,Hd,He,Hf]);omega) (fun G3 hl3 hs2=>?_))))))
 have hf4:JO o v=((⟨o.name,o.key,o.head,o.wanted++[v],o.had⟩:K9),((Zb o.key o.name v (o.wanted.length:Int)).1),0):=by
  unfold JO Yi Vx Jio Zr;simp_all
 refine Jo [4,3,0] [(Ky (⟨o.name,o.key,o.head,(o.wanted++[v]),o.had⟩:K9) a3 c3),(JjI (Zb o.key o.name v (o.wanted.length:Int)).1),I 0] (JA [] (Ja (Ja hl1 hl2) hl3) ?_)
 rw [hf4]
 try dsimp only
 exact ⟨a3,c3,rfl,‹_›,‹_›,‹_›,‹_›,‹_›,‹_›,hs2,‹_›,w8,w9,w10,w11,rfl⟩
def Wh (p:Q6):Int×Int:=if (Qd p).2 ≠ 0 then (0,(Qd p).2) else (Ji (JnI (Qd p).1),0)
def W1 (root:Int) (p:Q6):Int:=if (Wh p).2=0∧¬ (Wh p).1=root then 8 else (Wh p).2
def Wq (root:Int) (p:Q6):List UInt8×Bool×Int:=if ¬ W1 root p=0 then ([],false,W1 root p) else KX p.entries p.name
def JG (r:Wa):List UInt8×Bool×Int:=if ¬ JL r.head=0 then ([],false,JL r.head) else Wq r.head.root r.proof
theorem YX {p:Q6} (h:(Qd p).2=0):(Qd p).1.length=17:=by
 unfold Qd at h ⊢
 split at h
 · contradiction
 ·
  rename_i h1
  rw [if_neg h1]
  simp only
  rw [Ym,(Wn.1 (Hl.1 h1)).sides]
def Z7 (x h:JU):Bool:=decide (x.epoch=h.epoch) && !decide (x=h)
def Qa (h:JU) (l:List JU):Int:=if ¬ (Kd l).1=0∨(WS l).epoch > h.epoch+1 then 2 else if (WS l).epoch=h.epoch+1∧(QX h l).1=false then 2 else if (l.any fun x0=>Z7 x0 h)=true then 3 else if (WW l).epoch≤h.epoch then 1 else 0
def VE (o:K9):Int:=if 0 > o.had-1 then 0 else o.had-1
def Jat (o:K9) (w:List UInt8):Int:=QT (fun x=>decide (w=x)) (o.wanted.drop (VE o).toNat)
def J0 (o:K9) (l:List JU) (r:Wa):Int×Int:=if ¬ Qa o.head l=0 then (Qa o.head l,0) else if (¬ (JG r).2.2=0∨¬ r.head=WW l)∨¬ r.proof.name=o.name then (4,0) else if (JG r).2.1=false∧o.had > 0 then (5,0) else if (JG r).2.1=false then (0,0) else if Jat o (JG r).1<0 then (6,0) else (0,VE o+Jat o (JG r).1+1)
def JB (o:K9) (l:List JU) (r:Wa):K9×Int×Int:=if ¬ Kb o=0 then (Vx,0,Kb o) else if (J0 o l r).1=0 then (⟨o.name,o.key,r.head,o.wanted,(J0 o l r).2⟩,0,0) else (o,(J0 o l r).1,0)
theorem YF {h:JU} {l:List JU} (e:Qa h l=0):Zf l∧h.epoch<(WW l).epoch:=by
 unfold Qa at e
 split at e
 · cases e
 split at e
 · cases e
 split at e
 · cases e
 split at e
 · cases e
 ·
  rename_i h1 _ _ h4
  exact ⟨Qe.1 (Hl.1 fun hc=>h1 (.inl hc)),by omega⟩
theorem JiI {h:JU} {l:List JU} {x:JU} (h1:¬ (Kd l).1=0∨(l[0]? = some x∧x.epoch > h.epoch+1)):Qa h l=2:=by
 unfold Qa
 rw [if_pos]
 rcases h1 with h1 | ⟨h1,h2⟩
 · exact .inl h1
 · rw [← WT h1];exact .inr h2
theorem JnL {h:JU} {l:List JU} {x:JU} (h0:(Kd l).1=0) (h1:l[0]? = some x) (h2:x.epoch≤h.epoch+1) (h3:x.epoch=h.epoch+1) (h4:(QX h l).1=false):Qa h l=2:=by
 unfold Qa
 rw [← WT h1,if_neg (by omega),if_pos ⟨h3,h4⟩]
theorem Ja2 {h:JU} {l:List JU} {x:JU} (h0:(Kd l).1=0) (h1:l[0]? = some x) (h2:x.epoch≤h.epoch+1) (h3:¬ x.epoch=h.epoch+1∨(QX h l).1=true):Qa h l=if (l.any fun x0=>Z7 x0 h)=true then 3 else if (WW l).epoch≤h.epoch then 1 else 0:=by
 unfold Qa
 rw [← WT h1,if_neg (by omega),if_neg]
 rintro ⟨a,b⟩
 rcases h3 with h3 | h3
 · exact h3 a
 · rw [h3] at b;cases b
theorem Jk5 {α:Type} (p:α→Bool) (l:List α):-1≤QT p l∧QT p l<l.length+1:=by
 by_cases h:QT p l<0
 ·
  refine ⟨?_,by omega⟩
  unfold QT;split <;> omega
 ·
  obtain ⟨k,hk⟩:∃ k:Nat,QT p l=k:=⟨_,(HM (by omega)).symm⟩
  obtain ⟨x,hx,_⟩:=Jhk hk
  have:=(Hb.1 hx).1
  omega
theorem JeQ {o:K9} {l:List JU} {r:Wa} {x:JU} (h0:Qa o.head l=0) (h1:(JG r).2.2=0) (h2:l[l.length-1]? = some x) (h3:((r.head.epoch=x.epoch∧r.head.root=x.root)∧r.head.prev=x.prev)∧r.head.at_=x.at_) (h4:r.proof.name=o.name) :
  J0 o l r=if (JG r).2.1=false∧o.had > 0 then (5,0) else if (JG r).2.1=false then (0,0) else if Jat o (JG r).1<0 then (6,0) else (0,VE o+Jat o (JG r).1+1):=by
 unfold J0
 have e:=WD rfl h2
 have e2:r.head=WW l:=by rw [← e,JbD];exact ⟨h3.1.1.1,h3.1.1.2,h3.1.2,h3.2⟩
 rw [if_neg (by omega),if_neg]
 rintro ((a | a) | a)
 · exact a h1
 · exact a e2
 · exact a h4
theorem Jhz {o:K9} {l:List JU} {r:Wa} (h0:Qa o.head l=0) (h1:(¬ (JG r).2.2=0∨∃ x,l[l.length-1]? = some x∧(((r.head.epoch=x.epoch∧r.head.root=x.root)∧r.head.prev=x.prev)→¬ r.head.at_=x.at_))∨¬ r.proof.name=o.name):J0 o l r=(4,0):=by
 unfold J0
 rw [if_neg (by omega),if_pos]
 rcases h1 with (h1 | ⟨x,h1,h2⟩) | h1
 · exact .inl (.inl h1)
 ·
  refine .inl (.inr ?_)
  rw [← WD rfl h1,JbD]
  rintro ⟨a,b,c,d⟩
  exact h2 ⟨⟨a,b⟩,c⟩ d
 · exact .inr h1
theorem JiJ {o:K9} {k:Nat} (w:List UInt8) (h:(if 0 > o.had-1 then 0 else o.had-1)=(k:Int)):VE o=k∧Jat o w=QT (fun x=>decide (w=x)) (o.wanted.drop k):=by
 have e:VE o=k:=h
 refine ⟨e,?_⟩
 unfold Jat;rw [e];rfl
theorem JiK {o:K9} {w:List UInt8} (h:¬ Jat o w<0):∃ k:Nat,Jat o w=k∧o.wanted[(VE o).toNat+k]? = some w:=by
 obtain ⟨k,hk⟩:∃ k:Nat,Jat o w=k:=⟨_,(HM (by omega)).symm⟩
 refine ⟨k,hk,?_⟩
 unfold Jat at hk
 obtain ⟨x,hx,hp⟩:=Jhk hk
 rw [HP] at hx
 rw [hx,of_decide_eq_true hp]
theorem Jdb {o:K9} {l:List JU} {r:Wa} (hc:Kb o=0) (h:(J0 o l r).1=0) :
  (JG r).2.2=0∧o.head.epoch<r.head.epoch∧JL r.head=0∧o.had≤(J0 o l r).2∧0≤(J0 o l r).2∧(J0 o l r).2≤o.wanted.length ∧
  ((JG r).2.1=false→(J0 o l r).2=0∧o.had=0)∧((JG r).2.1=true→1≤(J0 o l r).2∧∃ k:Nat,(J0 o l r).2-1=k∧o.wanted[k]? = some (JG r).1):=by
 have ho:=K5.1 hc
 unfold J0 at h ⊢
 by_cases h1:Qa o.head l=0
 ·
  rw [if_neg (by omega)] at h ⊢
  obtain ⟨c1,c2⟩:=YF h1
  by_cases h2:(¬ (JG r).2.2=0∨¬ r.head=WW l)∨¬ r.proof.name=o.name
  · rw [if_pos h2] at h;cases h
  ·
   rw [if_neg h2] at h ⊢
   have e1:(JG r).2.2=0:=Hl.1 fun hc=>h2 (.inl (.inl hc))
   have e2:r.head=WW l:=Hl.1 fun hc=>h2 (.inl (.inr hc))
   have e3:JL r.head=0:=by rw [e2];exact c1.ok _ (Ho c1.last)
   by_cases h3:(JG r).2.1=false∧o.had > 0
   · rw [if_pos h3] at h;cases h
   ·
    rw [if_neg h3] at h ⊢
    by_cases h4:(JG r).2.1=false
    ·
     rw [if_pos h4] at h ⊢
     have:¬ o.had > 0:=fun hc=>h3 ⟨h4,hc⟩
     exact ⟨e1,by rw [e2];exact c2,e3,by simp only;omega,by simp,by simp,fun _=>⟨rfl,by omega⟩,fun hc=>by rw [h4] at hc;cases hc⟩
    ·
     rw [if_neg h4] at h ⊢
     by_cases h5:Jat o (JG r).1<0
     · rw [if_pos h5] at h;cases h
     ·
      rw [if_neg h5]
      obtain ⟨k,hk,hw⟩:=JiK h5
      have hlt:=(Hb.1 hw).1
      have hf:0≤VE o∧o.had-1≤VE o:=by unfold VE;split <;> omega
      simp only
      refine ⟨e1,by rw [e2];exact c2,e3,by omega,by omega,by omega,fun hc=>absurd hc h4,fun _=>⟨by omega,(VE o).toNat+k,by omega,hw⟩⟩
 · rw [if_pos h1] at h;exact absurd h h1
theorem see_ok {o:K9} {l:List JU} {r:Wa} (h:(JB o l r).2.2=0):Kb o=0∧(JB o l r).2.1=(J0 o l r).1∧((J0 o l r).1=0→(JB o l r).1=⟨o.name,o.key,r.head,o.wanted,(J0 o l r).2⟩)∧(¬ (J0 o l r).1=0→(JB o l r).1=o):=by
 unfold JB at h ⊢
 by_cases h1:Kb o=0
 ·
  rw [if_neg (by omega)] at h ⊢
  by_cases h2:(J0 o l r).1=0
  · rw [if_pos h2];exact ⟨h1,h2.symm,fun _=>rfl,fun hc=>absurd h2 hc⟩
  · rw [if_neg h2];exact ⟨h1,rfl,fun hc=>absurd hc h2,fun _=>rfl⟩
 · rw [if_pos h1] at h;exact absurd h h1
theorem JnM {o:K9} {l:List JU} {r:Wa} (h:(JB o l r).2.2=0) (hv:(JB o l r).2.1=0):(JG r).2.2=0∧(JB o l r).1.head=r.head∧o.head.epoch<(JB o l r).1.head.epoch∧o.had≤(JB o l r).1.had∧Kb (JB o l r).1=0∧((JG r).2.1=false→(JB o l r).1.had=0∧o.had=0)∧((JG r).2.1=true→1≤(JB o l r).1.had∧(JB o l r).1.had≤o.wanted.length∧∃ k:Nat,(JB o l r).1.had-1=k∧o.wanted[k]? = some (JG r).1):=by
 obtain ⟨h1,h2,h3,_⟩:=see_ok h
 have hv0:(J0 o l r).1=0:=by rw [← h2];exact hv
 have hx:=h3 hv0
 have ho:=K5.1 h1
 obtain ⟨a1,a2,a3,a4,a5,a6,a7,a8⟩:=Jdb h1 hv0
 rw [hx]
 refine ⟨a1,rfl,a2,a4,K5.2 ⟨ho.1,a3,ho.2.2.1,ho.2.2.2.1,a5,a6⟩,a7,fun hi=>⟨(a8 hi).1,a6,(a8 hi).2⟩⟩
theorem Jf7 (G:J4) (vs_p:List Value) (p:Q6) (h_p:Jff.R G vs_p p) :Q4 124 #[.agg vs_p.toArray] G (.tuple #[U ((Wh p).1),I ((Wh p).2)]):=by
 obtain ⟨a1,c1,a2,c2,rfl,w1,hs1,hs2⟩:=h_p
 refine JR Tryz.func124 21 [(0,(VS p a1 c1 a2 c2))] rfl (fun w0 G0=>?_)
 refine Jf (Jd (Jv 1 #[Sr p.name,Sl a1 p.entries.length c1,Sl a2 p.sides.length c2] 47 (fun b1=>Jc [0,0] [] (Je (Jb (Jf (Jd (Jc [2] [(7,(VS p a1 c1 a2 c2))] (JI 8 (Jf1 G (Vw p a1 c1 a2 c2) p (⟨a1,c1,a2,c2,rfl,w1,hs1,hs2⟩)) (fun v G1 L1 hl1 hp=>?_))))))))))
 obtain ⟨a3,c3,rfl,hs3,rfl⟩:=hp
 refine Jc [0,0,0,0,0] [(4,Sl a3 (((Qd p).1).length) c3),(5,I ((Qd p).2))] (Je (Jb (Jf (Jg [0,0] [(12,Bo (!decide ((Qd p).2=0)))] (Jl (!decide ((Qd p).2=0)) (fun h1=>?_) (fun h1=>?_))))))
 refine Jg [0,0,0] [(2,U 0),(3,I ((Qd p).2))] (Jn (Jj (Jo [0,0] [U 0,I ((Qd p).2)] (Jx hl1 ?_))))
 have hf_:(Wh p)=(0,((Qd p).2)):=by
  unfold Wh;(rw [if_pos ‹_›];done)
 · (try rw [hf_]);(simp only [Qx];done)
 refine Jq (Jb (Jf (Jd (Jc [0,0,0,0] [(14,Sl a3 (((Qd p).1).length) c3),(17,I (Ha.wrap ((((Qd p).1).length:Int)-1)))] ?_))))
 have e1:Ha.wrap ((((Qd p).1).length:Int)-1)=((((Qd p).1).length-1:Nat):Int):=(Hh _ (by (have q_:=YX (p:=p) ‹_›;omega))).trans (show (((Qd p).1).length:Int)-1=((((Qd p).1).length-1:Nat):Int) by (have q_:=YX (p:=p) ‹_›;omega))
 refine KU 17 (I ((((Qd p).1).length-1:Nat):Int)) (congrArg I e1) ?_
 clear e1
 obtain ⟨b2,o1,rfl⟩:=RS.addr hs3 (k:=((Qd p).1).length-1) (by (have q_:=YX (p:=p) ‹_›;omega))
 obtain ⟨x1,hx1⟩:=Wf (l:=(Qd p).1) (k:=((Qd p).1).length-1) (by (have q_:=YX (p:=p) ‹_›;omega))
 obtain ⟨_,⟨rfl,w2⟩,hc1⟩:=RS.get hs3 hx1
 refine J5 (b:=b2) (off:=o1) (len:=((Qd p).1).length) (cap:=c3) (ik:=.i64) 18 9 1 (((Qd p).1).length-1) (by (have q_:=YX (p:=p) ‹_›;omega)) (JZ 19 9 (cs:=[Sr x1]) 0 (Sr x1) hc1 (Jm 20 (U (Ji x1)) (ZW x1 (Jcu w2) G1) (Jc [0,0] [(2,U (Ji x1)),(3,I 0)] (Je (Jb (Jn (Jo [0,0] [U (Ji x1),I 0] (Jx hl1 ?_))))))))
 have hf_:(Wh p)=((Ji x1),0):=by
  unfold Wh;(rw [if_neg (by omega)];have hl_:=Jmk (a:=(Qd p).1) rfl hx1;rw [← hl_];done)
 · (try rw [hf_]);(simp only [Qx];done)
theorem Jf8 (G:J4) (root:Int) (vs_p:List Value) (p:Q6) (h_p:Jff.R G vs_p p) :Q4 72 #[U root,.agg vs_p.toArray] G (I (W1 root p)):=by
 obtain ⟨a1,c1,a2,c2,rfl,w1,hs1,hs2⟩:=h_p
 refine JR Tryz.func72 20 [(0,U root),(1,(VS p a1 c1 a2 c2))] rfl (fun w0 G0=>?_)
 refine Jf (Jd (Jv 3 #[Sr p.name,Sl a1 p.entries.length c1,Sl a2 p.sides.length c2] 47 (fun b1=>Jc [0] [] (Je (Jb (Jf (Jd (Jc [2] [(8,(VS p a1 c1 a2 c2))] (Jm 9 (.tuple #[U ((Wh p).1),I ((Wh p).2)]) (Jf7 G (Vw p a1 c1 a2 c2) p (⟨a1,c1,a2,c2,rfl,w1,hs1,hs2⟩)) (Jc [0,0,0,0,0] [(5,U ((Wh p).1)),(6,I ((Wh p).2))] (Je (Jb (Jf (Jf (Jd (Jc [0,0,0] [(14,Bo (decide ((Wh p).2=0)))] (Ks (decide ((Wh p).2=0)) [14] [0,0,0,0] [1,1,1,0] (fun bb=>[(18,Bo (bb && (!decide ((Wh p).1=root))))]) (Je (Jb (Jl ((decide ((Wh p).2=0)) && (!decide ((Wh p).1=root))) (fun h1=>?_) (fun h1=>?_)))))))))))))))))))))
 refine Jd (Jc [0] [(6,I 8)] (Je (Jb (Jg [0,0] [(4,I 8)] (Jn (Jo [0] [I 8] (Jx (Jh _) (congrArg I (?_:(W1 root p)=8).symm))))))))
 · unfold W1;(rw [if_pos (by simp_all)];done)
 refine Jq (Jb (Jg [0,0] [(4,I ((Wh p).2))] (Jn (Jo [0] [I ((Wh p).2)] (Jx (Jh _) (congrArg I (?_:(W1 root p)=((Wh p).2)).symm))))))
 · unfold W1;(rw [if_neg (by simp_all)];done)
theorem Jf9 (G:J4) (root:Int) (vs_p:List Value) (p:Q6) (h_p:Jff.R G vs_p p) :Yw 42 #[U root,.agg vs_p.toArray] G [] (fun u G' L'=>u=.tuple #[Sr ((Wq root p).1),Bo ((Wq root p).2.1),I ((Wq root p).2.2)]∧(((Wq root p).1).length≤140737488351232)∧L'=[]):=by
 obtain ⟨a1,c1,a2,c2,rfl,w1,hs1,hs2⟩:=h_p
 refine JR Tryz.func42 22 [(0,U root),(1,(VS p a1 c1 a2 c2))] rfl (fun w0 G0=>?_)
 refine Jf (Jd (Jv 3 #[Sr p.name,Sl a1 p.entries.length c1,Sl a2 p.sides.length c2] 47 (fun b1=>Jc [0,0,0] [] (Je (Jb (Jf (Jf (Jd (Jc [0,2] [(8,U root),(9,(VS p a1 c1 a2 c2))] (Jm 10 (I (W1 root p)) (Jf8 G root (Vw p a1 c1 a2 c2) p (⟨a1,c1,a2,c2,rfl,w1,hs1,hs2⟩)) (Jc [0] [(7,I (W1 root p))] (Je (Jb (Jg [0,0] [(12,Bo (!decide (W1 root p=0)))] (Jl (!decide (W1 root p=0)) (fun h1=>?_) (fun h1=>?_))))))))))))))))
 refine Jg [0,0,0,0] [(4,Sr ([])),(5,Bo false),(6,I (W1 root p))] (Jn (Jj ?_))
 have hf1:Wq root p=([],false,W1 root p):=by
  unfold Wq;(rw [if_pos ‹_›];done)
 refine Jo [0,0,0] [Sr ([]),Bo false,I (W1 root p)] (JA [] (Jh _) ?_)
 rw [hf1]
 try dsimp only
 exact ⟨rfl,(Hc rfl),rfl⟩
 refine Jq (Jb (Jf (Jd (Jc [0,2,0,2] [(15,Sl a1 p.entries.length c1),(17,Sr p.name)] (JI 18 (Jef G a1 c1 p.entries hs1 p.name w1) (fun v G1 L1 hl1 hp=>?_))))))
 obtain ⟨rfl,w2,rfl⟩:=hp
 refine Jc [0,0,0,0,0,0] [(4,Sr ((KX p.entries p.name).1)),(5,Bo ((KX p.entries p.name).2.1)),(6,I ((KX p.entries p.name).2.2))] (Je (Jb (Jn ?_)))
 have hf2:Wq root p=((KX p.entries p.name).1,(KX p.entries p.name).2.1,(KX p.entries p.name).2.2):=by
  unfold Wq;(rw [if_neg (by simp_all)];done)
 refine Jo [0,0,0] [Sr ((KX p.entries p.name).1),Bo ((KX p.entries p.name).2.1),I ((KX p.entries p.name).2.2)] (JA [] hl1 ?_)
 rw [hf2]
 try dsimp only
 exact ⟨rfl,w2,rfl⟩
theorem Jcg (G:J4) (vs_r:List Value) (r:Wa) (h_r:JjG.R G vs_r r) :Yw 24 #[.agg vs_r.toArray] G [] (fun u G' L'=>u=.tuple #[Sr ((JG r).1),Bo ((JG r).2.1),I ((JG r).2.2)]∧(((JG r).1).length≤140737488351232)∧L'=[]):=by
 obtain ⟨a1,c1,a2,c2,rfl,_,_,_,_,w5,hs1,hs2⟩:=h_r
 refine JR Tryz.func24 21 [(0,(WP r a1 c1 a2 c2))] rfl (fun w0 G0=>?_)
 refine Jf (Jd (Jv 1 #[I r.head.epoch,U r.head.root,U r.head.prev,I r.head.at_,Sr r.proof.name,Sl a1 r.proof.entries.length c1,Sl a2 r.proof.sides.length c2] 49 (fun b1=>Jc [0,0,0] [] (Je (Jb (Jf (Jf (Jd (Jc [0,2] [(7,.agg #[I r.head.epoch,U r.head.root,U r.head.prev,I r.head.at_])] (Jm 8 (I (JL r.head)) (ZV r.head G) (Jc [0] [(5,I (JL r.head))] (Je (Jb (Jg [0,0] [(10,Bo (!decide (JL r.head=0)))] (Jl (!decide (JL r.head=0)) (fun h1=>?_) (fun h1=>?_))))))))))))))))
 refine Jg [0,0,0,0] [(2,Sr ([])),(3,Bo false),(4,I (JL r.head))] (Jn (Jj ?_))
 have hf1:JG r=([],false,JL r.head):=by
  unfold JG;(rw [if_pos ‹_›];done)
 refine Jo [0,0,0] [Sr ([]),Bo false,I (JL r.head)] (JA [] (Jh _) ?_)
 rw [hf1]
 try dsimp only
 exact ⟨rfl,(Hc rfl),rfl⟩
 refine Jq (Jb (Jf (Jd (Jc [0,0,2,0,2] [(14,U r.head.root),(16,(VS r.proof a1 c1 a2 c2))] (JI 17 (Jf9 G r.head.root (Vw r.proof a1 c1 a2 c2) r.proof (⟨a1,c1,a2,c2,rfl,w5,hs1,hs2⟩)) (fun v G1 L1 hl1 hp=>?_))))))
 obtain ⟨rfl,w6,rfl⟩:=hp
 refine Jc [0,0,0,0,0,0] [(2,Sr ((Wq r.head.root r.proof).1)),(3,Bo ((Wq r.head.root r.proof).2.1)),(4,I ((Wq r.head.root r.proof).2.2))] (Je (Jb (Jn ?_)))
 have hf2:JG r=((Wq r.head.root r.proof).1,(Wq r.head.root r.proof).2.1,(Wq r.head.root r.proof).2.2):=by
  unfold JG;(rw [if_neg (by simp_all)];done)
 refine Jo [0,0,0] [Sr ((Wq r.head.root r.proof).1),Bo ((Wq r.head.root r.proof).2.1),I ((Wq r.head.root r.proof).2.2)] (JA [] hl1 ?_)
 rw [hf2]
 try dsimp only
 exact ⟨rfl,w6,rfl⟩
theorem Jdc (G:J4) (vs_x:List Value) (x:JU) (h_x:KA.R G vs_x x) (vs_h:List Value) (h:JU) (h_h:KA.R G vs_h h) (b_h:Nat) (hz_h:∀ j v,(vs_h:List Value)[j]? = some v→G b_h (0+j)=some v) :Q4 123 #[.agg vs_x.toArray,Pt b_h 0] G (Bo (Z7 x h)):=by
 obtain ⟨rfl,_,_,_,_⟩:=h_x
 obtain ⟨rfl,_,_,_,_⟩:=h_h
 refine JR Tryz.func123 14 [(0,.agg #[I x.epoch,U x.root,U x.prev,I x.at_]),(1,Pt b_h 0)] rfl (fun w0 G0=>?_)
 refine Jf (Jd (Jv 2 #[I x.epoch,U x.root,U x.prev,I x.at_] 43 (fun b1=>Jc [0] [] (Je (Jb (Jf (Jd (Jc [0,2,0] [(5,I x.epoch),(6,Pt b_h 0)] (JZ (o':=0) 7 2 (cs:=[I h.epoch,U h.root,U h.prev,I h.at_]) 0 (I h.epoch) hz_h (Jc [0,0] [(9,Bo (decide (x.epoch=h.epoch)))] (QY [9] (decide (x.epoch=h.epoch)) (fun h1=>?_) (fun h1=>?_))))))))))))
 refine Jc [2] [(10,.agg #[I x.epoch,U x.root,U x.prev,I x.at_])] (JZ (o':=0) 11 43 (cs:=[I h.epoch,U h.root,U h.prev,I h.at_]) 0 (.agg #[I h.epoch,U h.root,U h.prev,I h.at_]) hz_h (JcO 12 (Bo (!(decide (x.epoch=h.epoch) && (decide (x.root=h.root) && (decide (x.prev=h.prev) && (decide (x.at_=h.at_) && true)))))) (Bo (!(decide (x.epoch=h.epoch) && decide (x.root=h.root) && decide (x.prev=h.prev) && decide (x.at_=h.at_)))) (by simp [Q3,HO]) (Jc [0,0] [(3,Bo (!(decide (x.epoch=h.epoch) && decide (x.root=h.root) && decide (x.prev=h.prev) && decide (x.at_=h.at_))))] (Je (Jb (Jn (Jo [0] [Bo (!(decide (x.epoch=h.epoch) && decide (x.root=h.root) && decide (x.prev=h.prev) && decide (x.at_=h.at_)))] (Jx (Jh _) (congrArg Bo (?_:(Z7 x h)=(!(decide (x.epoch=h.epoch) && decide (x.root=h.root) && decide (x.prev=h.prev) && decide (x.at_=h.at_)))).symm)))))))))
 unfold Z7;rw [HG];simp [JbD];grind
 refine Jc [1,1,1,0,0] [(3,Bo false)] (Je (Jb (Jn (Jo [0] [Bo false] (Jx (Jh _) (congrArg Bo (?_:(Z7 x h)=false).symm))))))
 unfold Z7;rw [HG];simp [JbD];grind
set_option maxRecDepth 20000 in
theorem Jfv (G:J4) (vs_h:List Value) (h:JU) (h_h:KA.R G vs_h h) (a_l:Option Addr) (c_l:Nat) (l:List JU) (h_l:RS KA G a_l c_l l) (hh:JL h=0):Q4 71 #[.agg vs_h.toArray,Sl a_l l.length c_l] G (I (Qa h l)):=by
 obtain ⟨rfl,w1,w2,w3,w4⟩:=h_h
 refine JR Tryz.func71 55 [(0,.agg #[I h.epoch,U h.root,U h.prev,I h.at_]),(1,Sl a_l l.length c_l)] rfl (fun w0 G0=>?_)
 refine Jf (Jd (Jv 2 #[I h.epoch,U h.root,U h.prev,I h.at_] 43 (fun b1=>Jc [0] [] (Je (Jb (Jf (Jf (Jd (Jc [0] [(10,Sl a_l l.length c_l)] (Jm 11 (.tuple #[I ((Kd l).1),I ((Kd l).2)]) (Jar G a_l c_l l h_l) (Jc [0,0,0,0,0] [(5,I ((Kd l).1))] (Je (Jb (Jf ?_))))))))))))))
 rcases Hs (!decide ((Kd l).1=0)) with h1 | h1
 have h1d:=h1
 try simp only [BB] at h1d
 refine Kp [] (Wl [(0,I ((Kd l).1)),(1,Bo true),(2,Bo true),(3,undef),(4,undef),(5,undef),(6,undef),(7,undef),(8,undef),(9,undef),(10,undef),(11,Bo true)] (Km [] [(0,0),(2,0),(3,1),(4,1),(5,1),(6,1),(7,1),(8,1),(9,1),(10,1),(11,0)] [1] [(1,Sl a_l l.length c_l),(2,Pt b1 0),(25,Bo true)] (Ki ?_ K8) ?_))
 refine Jt 1 15 (Bo true) [(14,I ((Kd l).1))] (fun X=>?_)
 exact KV 15 (Bo (!decide ((Kd l).1=0))) (Bo true) (by rw [h1]) Jp
 refine Jb (JW (Jg [0] [(4,I 2)] (Jn (Jj (Jo [0] [I 2] (Jx (Jh _) (congrArg I (?_:(Qa h l)=2).symm)))))))
 exact JiI (x:=Zr) (.inl ‹_›)
 have h1d:=h1
 try simp only [BB] at h1d
 obtain ⟨b2,o1,rfl⟩:=RS.addr h_l (k:=0) (by (have q_:=(Qe.1 ‹_›);have q1_:=q_.len1;have q2_:=q_.len;omega))
 obtain ⟨x1,hx1⟩:=Wf (l:=l) (k:=0) (by (have q_:=(Qe.1 ‹_›);have q1_:=q_.len1;have q2_:=q_.len;omega))
 obtain ⟨_,⟨rfl,_,_,_,_⟩,hc1⟩:=RS.get h_l hx1
 have e1:Ha.wrap (h.epoch+1)=h.epoch+1:=Hh _ (by (have q0_:=Ze hh;omega))
 refine Kp [] (Wl [(0,I ((Kd l).1)),(1,Bo false),(2,Bo false),(3,Sl (At b2 o1) l.length c_l),(4,Pt b2 (o1+0*4)),(5,Pt b2 (o1+0*4)),(6,I x1.epoch),(7,Pt b1 0),(8,I h.epoch),(9,I (h.epoch+1)),(10,Bo (decide (x1.epoch > h.epoch+1))),(11,Bo (decide (x1.epoch > h.epoch+1)))] (Km [] [(0,0),(2,0),(3,0),(5,0),(7,0),(8,2),(10,0),(11,0)] [1,4,6,9] [(1,Sl (At b2 o1) l.length c_l),(2,Pt b1 0),(25,Bo (decide (x1.epoch > h.epoch+1)))] (Ki ?_ (Ki ?_ (Ki ?_ (Ki ?_ K8)))) ?_))
 refine Jt 1 15 (Bo false) [(14,I ((Kd l).1))] (fun X=>?_)
 exact KV 15 (Bo (!decide ((Kd l).1=0))) (Bo false) (by rw [h1]) Jp
 refine Jt 4 18 (Pt b2 (o1+0*4)) [(16,Bo false),(17,Sl (At b2 o1) l.length c_l)] (fun X=>?_)
 exact J5 (b:=b2) (off:=o1) (len:=l.length) (cap:=c_l) (ik:=.i64) 18 43 4 0 (by (have q_:=(Qe.1 ‹_›);have q1_:=q_.len1;have q2_:=q_.len;omega)) Jp
 refine Jt 6 20 (I x1.epoch) [(16,Bo false),(19,Pt b2 (o1+0*4))] (fun X=>?_)
 exact JZ 20 2 (cs:=[I x1.epoch,U x1.root,U x1.prev,I x1.at_]) 0 (I x1.epoch) hc1 Jp
 refine Jt 9 23 (I (h.epoch+1)) [(16,Bo false),(22,I h.epoch)] (fun X=>?_)
 exact KV 23 (I (Ha.wrap (h.epoch+1))) (I (h.epoch+1)) (by simp only [e1]) Jp
 refine Jb (Jl (decide (x1.epoch > h.epoch+1)) (fun h2=>?_) (fun h2=>?_))
 refine Jg [0] [(4,I 2)] (Jn (Jj (Jo [0] [I 2] (Jx (Jh _) (congrArg I (?_:(Qa h l)=2).symm)))))
 exact JiI (.inr ⟨hx1,by assumption⟩)
 refine Jq (Jb (Jf (Jf ?_)))
 have e2:Ha.wrap (h.epoch+1)=h.epoch+1:=Hh _ (by (have q0_:=Ze hh;omega))
 refine Kp [] (Wl [(0,Sl (At b2 o1) l.length c_l),(1,Pt b2 (o1+0*4)),(2,Pt b2 (o1+0*4)),(3,I x1.epoch),(4,Pt b1 0),(5,I h.epoch),(6,I (h.epoch+1)),(7,Bo (decide (x1.epoch=h.epoch+1)))] (Km [] [(0,0),(2,0),(4,0),(5,2),(7,0)] [1,3,6] [(1,Sl (At b2 o1) l.length c_l),(2,Pt b1 0),(33,Bo (decide (x1.epoch=h.epoch+1)))] (Ki ?_ (Ki ?_ (Ki ?_ K8))) ?_))
 refine Jt 1 27 (Pt b2 (o1+0*4)) [(26,Sl (At b2 o1) l.length c_l)] (fun X=>?_)
 exact J5 (b:=b2) (off:=o1) (len:=l.length) (cap:=c_l) (ik:=.i64) 27 43 4 0 (by (have q_:=(Qe.1 ‹_›);have q1_:=q_.len1;have q2_:=q_.len;omega)) Jp
 refine Jt 3 29 (I x1.epoch) [(28,Pt b2 (o1+0*4))] (fun X=>?_)
 exact JZ 29 2 (cs:=[I x1.epoch,U x1.root,U x1.prev,I x1.at_]) 0 (I x1.epoch) hc1 Jp
 refine Jt 6 32 (I (h.epoch+1)) [(31,I h.epoch)] (fun X=>?_)
 exact KV 32 (I (Ha.wrap (h.epoch+1))) (I (h.epoch+1)) (by simp only [e2]) Jp
 refine Jb (Jl (decide (x1.epoch=h.epoch+1)) (fun h3=>?_) (fun h3=>?_))
 refine Jf (Jd (Jc [2,0] [(35,.agg #[I h.epoch,U h.root,U h.prev,I h.at_]),(36,Sl (At b2 o1) l.length c_l)] (Jm 37 (.tuple #[Bo ((QX h l).1),I ((QX h l).2)]) (JdQ G [I h.epoch,U h.root,U h.prev,I h.at_] h (⟨rfl,w1,w2,w3,w4⟩) (At b2 o1) c_l l h_l) (Jc [0,0,0,0,0] [(7,Bo ((QX h l).1))] (Je (Jb (Jg [0,0] [(41,Bo (!((QX h l).1)))] (Jl (!((QX h l).1)) (fun h4=>?_) (fun h4=>?_)))))))))
 refine Jg [0] [(4,I 2)] (Jn (Jj (Jo [0] [I 2] (Jx (Jh _) (congrArg I (?_:(Qa h l)=2).symm)))))
 exact JnL ‹_› hx1 ‹_› ‹_› ‹_›
 refine Jq (Jb (Jf (Jf (Jd (Jc [0,0] [(42,Sl (At b2 o1) l.length c_l),(43,Fv 123 #[Pt b1 0])] (QZ (b:=b1) (o:=0) (cs:=[I h.epoch,U h.root,U h.prev,I h.at_]) 0 (fun G1 hl1 hz1=>Jm 44 (Bo (l.any (fun x0=>Z7 x0 h))) (Jfh G1 (At b2 o1) c_l l (h_l.mono hl1) 123 #[Pt b1 0] (fun x0=>Z7 x0 h) (fun _ _=>by kernel_rfl) (fun vs0 x0 hx0=>by obtain ⟨rfl,w9,w10,w11,w12⟩:=hx0;exact Jdc G1 [I x0.epoch,U x0.root,U x0.prev,I x0.at_] x0 (⟨rfl,w9,w10,w11,w12⟩) [I h.epoch,U h.root,U h.prev,I h.at_] h (⟨rfl,w1,w2,w3,w4⟩) b1 hz1)) (Je (Jb (Jl (l.any (fun x0=>Z7 x0 h)) (fun h5=>?_) (fun h5=>?_)))))))))))
 refine Jg [0] [(4,I 3)] (Jn (Jj (Jo [0] [I 3] (Jx hl1 (congrArg I (?_:(Qa h l)=3).symm)))))
 · (rw [Ja2 ‹_› hx1 ‹_› (by exact .inr ‹_›)];(rw [if_pos ‹_›];done))
 refine Jq (Jb (Jf (Jf ?_)))
 have e3:Ha.wrap ((l.length:Int)-1)=((l.length-1:Nat):Int):=(Hh _ (by (have q_:=(Qe.1 ‹_›);have q1_:=q_.len1;have q2_:=q_.len;omega))).trans (show (l.length:Int)-1=((l.length-1:Nat):Int) by (have q_:=(Qe.1 ‹_›);have q1_:=q_.len1;have q2_:=q_.len;omega))
 obtain ⟨x2,hx2⟩:=Wf (l:=l) (k:=l.length-1) (by (have q_:=(Qe.1 ‹_›);have q1_:=q_.len1;have q2_:=q_.len;omega))
 obtain ⟨_,⟨rfl,_,_,_,_⟩,hc2⟩:=RS.get (h_l.mono hl1) hx2
 refine Kp [] (Wl [(0,Sl (At b2 o1) l.length c_l),(1,Sl (At b2 o1) l.length c_l),(2,I (l.length:Int)),(3,I ((l.length-1:Nat):Int)),(4,Pt b2 (o1+(l.length-1)*4)),(5,Pt b2 (o1+(l.length-1)*4)),(6,I x2.epoch),(7,Pt b1 0),(8,I h.epoch),(9,Bo (decide (x2.epoch≤h.epoch)))] (Km [] [(0,0),(1,0),(2,0),(5,0),(7,0),(9,0)] [3,4,6,8] [(54,Bo (decide (x2.epoch≤h.epoch)))] (Ki ?_ (Ki ?_ (Ki ?_ (Ki ?_ K8)))) ?_))
 refine Jt 3 48 (I ((l.length-1:Nat):Int)) [(47,I (l.length:Int))] (fun X=>?_)
 exact KV 48 (I (Ha.wrap ((l.length:Int)-1))) (I ((l.length-1:Nat):Int)) (by simp only [e3]) Jp
 refine Jt 4 49 (Pt b2 (o1+(l.length-1)*4)) [(45,Sl (At b2 o1) l.length c_l),(48,I ((l.length-1:Nat):Int))] (fun X=>?_)
 exact J5 (b:=b2) (off:=o1) (len:=l.length) (cap:=c_l) (ik:=.i64) 49 43 4 (l.length-1) (by (have q_:=(Qe.1 ‹_›);have q1_:=q_.len1;have q2_:=q_.len;omega)) Jp
 refine Jt 6 51 (I x2.epoch) [(50,Pt b2 (o1+(l.length-1)*4))] (fun X=>?_)
 exact JZ 51 2 (cs:=[I x2.epoch,U x2.root,U x2.prev,I x2.at_]) 0 (I x2.epoch) hc2 Jp
 refine Jt 8 53 (I h.epoch) [(52,Pt b1 0)] (fun X=>?_)
 exact JZ (o':=0) 53 2 (cs:=[I h.epoch,U h.root,U h.prev,I h.at_]) 0 (I h.epoch) hz1 Jp
 refine Jb (Jl (decide (x2.epoch≤h.epoch)) (fun h6=>?_) (fun h6=>?_))
 refine Jg [0] [(4,I 1)] (Jn (Jj (Jo [0] [I 1] (Jx hl1 (congrArg I (?_:(Qa h l)=1).symm)))))
 · (rw [Ja2 ‹_› hx1 ‹_› (by exact .inr ‹_›)];(have el_:=WD (l:=l) (k:=l.length-1) rfl ‹_›;subst el_;rw [if_neg (by simp_all)];(rw [if_pos ‹_›];done)))
 refine Jq (Jb (Jg [0] [(4,I 0)] (Jn (Jo [0] [I 0] (Jx hl1 (congrArg I (?_:(Qa h l)=0).symm))))))
 · (rw [Ja2 ‹_› hx1 ‹_› (by exact .inr ‹_›)];(have el_:=WD (l:=l) (k:=l.length-1) rfl ‹_›;subst el_;rw [if_neg (by simp_all)];(rw [if_neg (by omega)];done)))
 refine Jq (Jb (Jf (Jf (Jd (Jc [0,0] [(42,Sl (At b2 o1) l.length c_l),(43,Fv 123 #[Pt b1 0])] (QZ (b:=b1) (o:=0) (cs:=[I h.epoch,U h.root,U h.prev,I h.at_]) 0 (fun G2 hl2 hz2=>Jm 44 (Bo (l.any (fun x0=>Z7 x0 h))) (Jfh G2 (At b2 o1) c_l l (h_l.mono hl2) 123 #[Pt b1 0] (fun x0=>Z7 x0 h) (fun _ _=>by kernel_rfl) (fun vs0 x0 hx0=>by obtain ⟨rfl,w17,w18,w19,w20⟩:=hx0;exact Jdc G2 [I x0.epoch,U x0.root,U x0.prev,I x0.at_] x0 (⟨rfl,w17,w18,w19,w20⟩) [I h.epoch,U h.root,U h.prev,I h.at_] h (⟨rfl,w1,w2,w3,w4⟩) b1 hz2)) (Je (Jb (Jl (l.any (fun x0=>Z7 x0 h)) (fun h7=>?_) (fun h7=>?_)))))))))))
 refine Jg [0] [(4,I 3)] (Jn (Jj (Jo [0] [I 3] (Jx hl2 (congrArg I (?_:(Qa h l)=3).symm)))))
 · (rw [Ja2 ‹_› hx1 ‹_› (by exact .inl ‹_›)];(rw [if_pos ‹_›];done))
 refine Jq (Jb (Jf (Jf ?_)))
 have e4:Ha.wrap ((l.length:Int)-1)=((l.length-1:Nat):Int):=(Hh _ (by (have q_:=(Qe.1 ‹_›);have q1_:=q_.len1;have q2_:=q_.len;omega))).trans (show (l.length:Int)-1=((l.length-1:Nat):Int) by (have q_:=(Qe.1 ‹_›);have q1_:=q_.len1;have q2_:=q_.len;omega))
 obtain ⟨x3,hx3⟩:=Wf (l:=l) (k:=l.length-1) (by (have q_:=(Qe.1 ‹_›);have q1_:=q_.len1;have q2_:=q_.len;omega))
 obtain ⟨_,⟨rfl,_,_,_,_⟩,hc3⟩:=RS.get (h_l.mono hl2) hx3
 refine Kp [] (Wl [(0,Sl (At b2 o1) l.length c_l),(1,Sl (At b2 o1) l.length c_l),(2,I (l.length:Int)),(3,I ((l.length-1:Nat):Int)),(4,Pt b2 (o1+(l.length-1)*4)),(5,Pt b2 (o1+(l.length-1)*4)),(6,I x3.epoch),(7,Pt b1 0),(8,I h.epoch),(9,Bo (decide (x3.epoch≤h.epoch)))] (Km [] [(0,0),(1,0),(2,0),(5,0),(7,0),(9,0)] [3,4,6,8] [(54,Bo (decide (x3.epoch≤h.epoch)))] (Ki ?_ (Ki ?_ (Ki ?_ (Ki ?_ K8)))) ?_))
 refine Jt 3 48 (I ((l.length-1:Nat):Int)) [(47,I (l.length:Int))] (fun X=>?_)
 exact KV 48 (I (Ha.wrap ((l.length:Int)-1))) (I ((l.length-1:Nat):Int)) (by simp only [e4]) Jp
 refine Jt 4 49 (Pt b2 (o1+(l.length-1)*4)) [(45,Sl (At b2 o1) l.length c_l),(48,I ((l.length-1:Nat):Int))] (fun X=>?_)
 exact J5 (b:=b2) (off:=o1) (len:=l.length) (cap:=c_l) (ik:=.i64) 49 43 4 (l.length-1) (by (have q_:=(Qe.1 ‹_›);have q1_:=q_.len1;have q2_:=q_.len;omega)) Jp
 refine Jt 6 51 (I x3.epoch) [(50,Pt b2 (o1+(l.length-1)*4))] (fun X=>?_)
 exact JZ 51 2 (cs:=[I x3.epoch,U x3.root,U x3.prev,I x3.at_]) 0 (I x3.epoch) hc3 Jp
 refine Jt 8 53 (I h.epoch) [(52,Pt b1 0)] (fun X=>?_)
 exact JZ (o':=0) 53 2 (cs:=[I h.epoch,U h.root,U h.prev,I h.at_]) 0 (I h.epoch) hz2 Jp
 refine Jb (Jl (decide (x3.epoch≤h.epoch)) (fun h8=>?_) (fun h8=>?_))
 refine Jg [0] [(4,I 1)] (Jn (Jj (Jo [0] [I 1] (Jx hl2 (congrArg I (?_:(Qa h l)=1).symm)))))
 · (rw [Ja2 ‹_› hx1 ‹_› (by exact .inl ‹_›)];(have el_:=WD (l:=l) (k:=l.length-1) rfl ‹_›;subst el_;rw [if_neg (by simp_all)];(rw [if_pos ‹_›];done)))
 refine Jq (Jb (Jg [0] [(4,I 0)] (Jn (Jo [0] [I 0] (Jx hl2 (congrArg I (?_:(Qa h l)=0).symm))))))
 · (rw [Ja2 ‹_› hx1 ‹_› (by exact .inl ‹_›)];(have el_:=WD (l:=l) (k:=l.length-1) rfl ‹_›;subst el_;rw [if_neg (by simp_all)];(rw [if_neg (by omega)];done)))
theorem JiL (G:J4) (vs_o:List Value) (o:K9) (h_o:QB.R G vs_o o) :Yw 39 #[.agg vs_o.toArray] G [] (fun u G' L'=>∃ (a1:Option Addr) (c2:Nat),u=.agg #[Sr o.name,U o.key,I o.head.epoch,U o.head.root,U o.head.prev,I o.head.at_,Sl a1 o.wanted.length c2,I o.had]∧((o.name).length≤140737488351232)∧(rU o.key)∧(rI o.head.epoch)∧(rU o.head.root)∧(rU o.head.prev)∧(rI o.head.at_)∧(RS ES G' a1 c2 o.wanted)∧(rI o.had)∧L'=[]):=by
 obtain ⟨a1,c1,rfl,w1,w2,w3,w4,w5,w6,hs1,w7⟩:=h_o
 refine JR Tryz.func39 8 [(0,(Ky o a1 c1))] rfl (fun w0 G0=>?_)
 refine Jf (Jd (Jv 1 #[Sr o.name,U o.key,I o.head.epoch,U o.head.root,U o.head.prev,I o.head.at_,Sl a1 o.wanted.length c1,I o.had] 76 (fun b1=>Jv 2 #[Sr ([]),U 0,I 0,U 0,U 0,I 0,Sl none 0 0,I 0] 76 (fun b2=>Je (Jb (Jf (Jd (Jc [0,4] [(4,Sl a1 o.wanted.length c1)] (JI 5 (JbY G a1 c1 o.wanted hs1) (fun v G1 L1 hl1 hp=>?_))))))))))
 obtain ⟨a2,c2,r1,rfl,hr1,rfl⟩:=hp
 refine JV [0,7] [] [r1,[Sg b2 0 [Sr ([]),U 0,I 0,U 0,U 0,I 0,Sl none 0 0,I 0]],[Sg b1 0 (KH o a2 c2)]] (Je (Jb (QA [6,5] [] [r1,[Sg b2 0 (KH o a2 c2)],[Sg b1 0 (KH o a2 c2)]] (Jn (Wp (E:=ES) 0 hr1 (by exact (hs1).fit) (fun G2 hl2 hs2=>?_))))))
 have hf1:o=o:=by
  rfl
 refine Jo [1] [(Ky o a2 c2)] (JA [] (Ja hl1 hl2) ?_)
 rw [hf1]
 try dsimp only
 exact ⟨a2,c2,rfl,w1,w2,w3,w4,w5,w6,hs2,w7,rfl⟩
set_option maxRecDepth 20000 in
theorem JdR (G:J4) (vs_o:List Value) (o:K9) (h_o:QB.R G vs_o o) (a_l:Option Addr) (c_l:Nat) (l:List JU) (h_l:RS KA G a_l c_l l) (vs_r:List Value) (r:Wa) (h_r:JjG.R G vs_r r) (ho:Kb o=0):Q4 40 #[.agg vs_o.toArray,Sl a_l l.length c_l,.agg vs_r.toArray] G (.tuple #[I ((J0 o l r).1),I ((J0 o l r).2)]):=by
 obtain ⟨a1,c1,rfl,_,_,w3,w4,w5,w6,hs1,_⟩:=h_o
 obtain ⟨a2,c2,a3,c3,rfl,w8,w9,w10,w11,w12,hs2,hs3⟩:=h_r
 refine JR Tryz.func40 76 [(0,(Ky o a1 c1)),(1,Sl a_l l.length c_l),(2,(WP r a2 c2 a3 c3))] rfl (fun w0 G0=>?_)
 refine Jf (Jd (Jv 3 #[Sr o.name,U o.key,I o.head.epoch,U o.head.root,U o.head.prev,I o.head.at_,Sl a1 o.wanted.length c1,I o.had] 76 (fun b1=>Jv 5 #[I r.head.epoch,U r.head.root,U r.head.prev,I r.head.at_,Sr r.proof.name,Sl a2 r.proof.entries.length c2,Sl a3 r.proof.sides.length c3] 49 (fun b2=>Jc [0,0] [] (Je (Jb (Jf (Jf (Jd (Jc [0,4,0] [(15,.agg #[I o.head.epoch,U o.head.root,U o.head.prev,I o.head.at_]),(16,Sl a_l l.length c_l)] (Jm 17 (I (Qa o.head l)) (Jfv G [I o.head.epoch,U o.head.root,U o.head.prev,I o.head.at_] o.head (⟨rfl,w3,w4,w5,w6⟩) a_l c_l l h_l (K5.1 ho).2.1) (Jc [0] [(8,I (Qa o.head l))] (Je (Jb (Jg [0,0] [(19,Bo (!decide (Qa o.head l=0)))] (Jl (!decide (Qa o.head l=0)) (fun h1=>?_) (fun h1=>?_)))))))))))))))))
 refine Jg [0,0,0] [(6,I (Qa o.head l)),(7,I 0)] (Jn (Jj (Jo [0,0] [I (Qa o.head l),I 0] (Jx (Jh _) ?_))))
 have hf_:(J0 o l r)=((Qa o.head l),0):=by
  (unfold J0;rw [if_pos ‹_›];done)
 · (try rw [hf_]);(simp only [Qx];done)
 refine Jq (Jb (Jf (Jd (Jc [2] [(22,(WP r a2 c2 a3 c3))] (JI 23 (Jcg G (Zz r a2 c2 a3 c3) r (⟨a2,c2,a3,c3,rfl,w8,w9,w10,w11,w12,hs2,hs3⟩)) (fun v G1 L1 hl1 hp=>?_))))))
 obtain ⟨rfl,_,rfl⟩:=hp
 refine Jc [0,0,0,0,0,0,0] [(9,Sr ((JG r).1)),(10,Bo ((JG r).2.1)),(11,I ((JG r).2.2))] (Je (Jb (Jf (Jy (Jf ?_)))))
 rcases Hs (!decide ((JG r).2.2=0)) with h2 | h2
 have h2d:=h2
 try simp only [BB] at h2d
 refine Kp [] (Wl [(0,I ((JG r).2.2)),(1,Bo true),(2,Bo true),(3,undef),(4,undef),(5,undef),(6,undef),(7,undef),(8,undef),(9,undef),(10,undef),(11,undef),(12,Bo true),(13,Bo true),(14,undef),(15,undef),(16,undef),(17,undef),(18,undef),(19,undef),(20,Bo true),(21,Bo true)] (Km [] [(0,0),(2,0),(3,1),(4,1),(5,1),(6,1),(7,1),(8,1),(9,1),(10,1),(11,1),(12,0),(13,0),(14,1),(15,1),(16,1),(17,1),(18,1),(19,1),(20,0),(21,0)] [1] [(3,Pt b1 0),(9,Sr ((JG r).1)),(10,Bo ((JG r).2.1)),(27,Bo true)] (Ki ?_ K8) ?_))
 refine Jt 1 29 (Bo true) [(28,I ((JG r).2.2))] (fun X=>?_)
 exact KV 29 (Bo (!decide ((JG r).2.2=0))) (Bo true) (by rw [h2]) Jp
 refine Jb (JW (Jg [0,0] [(6,I 4),(7,I 0)] (Jn (Js (Jj (Jo [0,0] [I 4,I 0] (Jx hl1 ?_)))))))
 have hf_:(J0 o l r)=(4,0):=by
  exact Jhz ‹_› (.inl (.inl ‹_›))
 · (try rw [hf_]);(simp only [Qx];done)
 have h2d:=h2
 try simp only [BB] at h2d
 have e1:Ha.wrap ((l.length:Int)-1)=((l.length-1:Nat):Int):=(Hh _ (by (have q_:=(YF ‹_›).1;have q1_:=q_.len1;have q2_:=q_.len;omega))).trans (show (l.length:Int)-1=((l.length-1:Nat):Int) by (have q_:=(YF ‹_›).1;have q1_:=q_.len1;have q2_:=q_.len;omega))
 obtain ⟨b3,o1,rfl⟩:=RS.addr (h_l.mono hl1) (k:=l.length-1) (by (have q_:=(YF ‹_›).1;have q1_:=q_.len1;have q2_:=q_.len;omega))
 obtain ⟨x1,hx1⟩:=Wf (l:=l) (k:=l.length-1) (by (have q_:=(YF ‹_›).1;have q1_:=q_.len1;have q2_:=q_.len;omega))
 obtain ⟨_,⟨rfl,_,_,_,_⟩,hc1⟩:=RS.get (h_l.mono hl1) hx1
 rcases Hs (!(decide (r.head.epoch=x1.epoch) && decide (r.head.root=x1.root) && decide (r.head.prev=x1.prev) && decide (r.head.at_=x1.at_))) with h3 | h3
 have h3d:=h3
 try simp only [BB] at h3d
 have e2:Ha.wrap ((l.length:Int)-1)=((l.length-1:Nat):Int):=(Hh _ (by (have q_:=(YF ‹_›).1;have q1_:=q_.len1;have q2_:=q_.len;omega))).trans (show (l.length:Int)-1=((l.length-1:Nat):Int) by (have q_:=(YF ‹_›).1;have q1_:=q_.len1;have q2_:=q_.len;omega))
 refine Kp [] (Wl [(0,I ((JG r).2.2)),(1,Bo false),(2,Bo false),(3,Pt b2 0),(4,.agg #[I r.head.epoch,U r.head.root,U r.head.prev,I r.head.at_]),(5,Sl (At b3 o1) l.length c_l),(6,Sl (At b3 o1) l.length c_l),(7,I (l.length:Int)),(8,I ((l.length-1:Nat):Int)),(9,Pt b3 (o1+(l.length-1)*4)),(10,.agg #[I x1.epoch,U x1.root,U x1.prev,I x1.at_]),(11,Bo (!(decide (r.head.epoch=x1.epoch) && decide (r.head.root=x1.root) && decide (r.head.prev=x1.prev) && decide (r.head.at_=x1.at_)))),(12,Bo true),(13,Bo true),(14,undef),(15,undef),(16,undef),(17,undef),(18,undef),(19,undef),(20,Bo true),(21,Bo true)] (Km [] [(0,0),(2,0),(3,0),(4,2),(5,0),(6,0),(7,0),(13,0),(14,1),(15,1),(16,1),(17,1),(18,1),(19,1),(20,0),(21,0)] [1,8,9,10,11,12] [(3,Pt b1 0),(9,Sr ((JG r).1)),(10,Bo ((JG r).2.1)),(27,Bo true)] (Ki ?_ (Ki ?_ (Ki ?_ (Ki ?_ (Ki ?_ (Ki ?_ K8)))))) ?_))
 refine Jt 1 29 (Bo false) [(28,I ((JG r).2.2))] (fun X=>?_)
 exact KV 29 (Bo (!decide ((JG r).2.2=0))) (Bo false) (by rw [h2]) Jp
 refine Jt 8 36 (I ((l.length-1:Nat):Int)) [(30,Bo false),(35,I (l.length:Int))] (fun X=>?_)
 exact KV 36 (I (Ha.wrap ((l.length:Int)-1))) (I ((l.length-1:Nat):Int)) (by simp only [e2]) Jp
 refine Jt 9 37 (Pt b3 (o1+(l.length-1)*4)) [(30,Bo false),(33,Sl (At b3 o1) l.length c_l),(36,I ((l.length-1:Nat):Int))] (fun X=>?_)
 exact J5 (b:=b3) (off:=o1) (len:=l.length) (cap:=c_l) (ik:=.i64) 37 43 4 (l.length-1) (by (have q_:=(YF ‹_›).1;have q1_:=q_.len1;have q2_:=q_.len;omega)) Jp
 refine Jt 10 38 (.agg #[I x1.epoch,U x1.root,U x1.prev,I x1.at_]) [(30,Bo false),(37,Pt b3 (o1+(l.length-1)*4))] (fun X=>?_)
 exact JZ 38 43 (cs:=[I x1.epoch,U x1.root,U x1.prev,I x1.at_]) 0 (.agg #[I x1.epoch,U x1.root,U x1.prev,I x1.at_]) hc1 Jp
 refine Jt 11 39 (Bo (!(decide (r.head.epoch=x1.epoch) && decide (r.head.root=x1.root) && decide (r.head.prev=x1.prev) && decide (r.head.at_=x1.at_)))) [(30,Bo false),(32,.agg #[I r.head.epoch,U r.head.root,U r.head.prev,I r.head.at_]),(38,.agg #[I x1.epoch,U x1.root,U x1.prev,I x1.at_])] (fun X=>?_)
 exact JcO 39 (Bo (!(decide (r.head.epoch=x1.epoch) && (decide (r.head.root=x1.root) && (decide (r.head.prev=x1.prev) && (decide (r.head.at_=x1.at_) && true)))))) (Bo (!(decide (r.head.epoch=x1.epoch) && decide (r.head.root=x1.root) && decide (r.head.prev=x1.prev) && decide (r.head.at_=x1.at_)))) (by simp [Q3,HO]) Jp
 refine Jt 12 40 (Bo true) [(30,Bo false),(39,Bo (!(decide (r.head.epoch=x1.epoch) && decide (r.head.root=x1.root) && decide (r.head.prev=x1.prev) && decide (r.head.at_=x1.at_))))] (fun X=>?_)
 exact KV 40 (Bo (!(decide (r.head.epoch=x1.epoch) && decide (r.head.root=x1.root) && decide (r.head.prev=x1.prev) && decide (r.head.at_=x1.at_)))) (Bo true) (by rw [h3]) Jp
 refine Jb (JW (Jg [0,0] [(6,I 4),(7,I 0)] (Jn (Js (Jj (Jo [0,0] [I 4,I 0] (Jx hl1 ?_)))))))
 have hf_:(J0 o l r)=(4,0):=by
  exact Jhz ‹_› (.inl (.inr ⟨_,hx1,by assumption⟩))
 · (try rw [hf_]);(simp only [Qx];done)
 have h3d:=h3
 try simp only [BB] at h3d
 have e3:Ha.wrap ((l.length:Int)-1)=((l.length-1:Nat):Int):=(Hh _ (by (have q_:=(YF ‹_›).1;have q1_:=q_.len1;have q2_:=q_.len;omega))).trans (show (l.length:Int)-1=((l.length-1:Nat):Int) by (have q_:=(YF ‹_›).1;have q1_:=q_.len1;have q2_:=q_.len;omega))
 refine Kp [] (Wl [(0,I ((JG r).2.2)),(1,Bo false),(2,Bo false),(3,Pt b2 0),(4,.agg #[I r.head.epoch,U r.head.root,U r.head.prev,I r.head.at_]),(5,Sl (At b3 o1) l.length c_l),(6,Sl (At b3 o1) l.length c_l),(7,I (l.length:Int)),(8,I ((l.length-1:Nat):Int)),(9,Pt b3 (o1+(l.length-1)*4)),(10,.agg #[I x1.epoch,U x1.root,U x1.prev,I x1.at_]),(11,Bo (!(decide (r.head.epoch=x1.epoch) && decide (r.head.root=x1.root) && decide (r.head.prev=x1.prev) && decide (r.head.at_=x1.at_)))),(12,Bo false),(13,Bo false),(14,Pt b2 4),(15,Pt b2 4),(16,Sr r.proof.name),(17,Pt b1 0),(18,Sr o.name),(19,Bo (!((B r.proof.name).toList == (B o.name).toList))),(20,Bo (!((B r.proof.name).toList == (B o.name).toList))),(21,Bo (!((B r.proof.name).toList == (B o.name).toList)))] (Km [] [(0,0),(2,0),(3,0),(4,2),(5,0),(6,0),(7,0),(13,0),(14,0),(15,0),(16,2),(17,0),(18,4),(19,0),(20,0),(21,0)] [1,8,9,10,11,12] [(3,Pt b1 0),(9,Sr ((JG r).1)),(10,Bo ((JG r).2.1)),(27,Bo (!((B r.proof.name).toList == (B o.name).toList)))] (Ki ?_ (Ki ?_ (Ki ?_ (Ki ?_ (Ki ?_ (Ki ?_ K8)))))) ?_))
 refine Jt 1 29 (Bo false) [(28,I ((JG r).2.2))] (fun X=>?_)
 exact KV 29 (Bo (!decide ((JG r).2.2=0))) (Bo false) (by rw [h2]) Jp
 refine Jt 8 36 (I ((l.length-1:Nat):Int)) [(30,Bo false),(35,I (l.length:Int))] (fun X=>?_)
 exact KV 36 (I (Ha.wrap ((l.length:Int)-1))) (I ((l.length-1:Nat):Int)) (by simp only [e3]) Jp
 refine Jt 9 37 (Pt b3 (o1+(l.length-1)*4)) [(30,Bo false),(33,Sl (At b3 o1) l.length c_l),(36,I ((l.length-1:Nat):Int))] (fun X=>?_)
 exact J5 (b:=b3) (off:=o1) (len:=l.length) (cap:=c_l) (ik:=.i64) 37 43 4 (l.length-1) (by (have q_:=(YF ‹_›).1;have q1_:=q_.len1;have q2_:=q_.len;omega)) Jp
 refine Jt 10 38 (.agg #[I x1.epoch,U x1.root,U x1.prev,I x1.at_]) [(30,Bo false),(37,Pt b3 (o1+(l.length-1)*4))] (fun X=>?_)
 exact JZ 38 43 (cs:=[I x1.epoch,U x1.root,U x1.prev,I x1.at_]) 0 (.agg #[I x1.epoch,U x1.root,U x1.prev,I x1.at_]) hc1 Jp
 refine Jt 11 39 (Bo (!(decide (r.head.epoch=x1.epoch) && decide (r.head.root=x1.root) && decide (r.head.prev=x1.prev) && decide (r.head.at_=x1.at_)))) [(30,Bo false),(32,.agg #[I r.head.epoch,U r.head.root,U r.head.prev,I r.head.at_]),(38,.agg #[I x1.epoch,U x1.root,U x1.prev,I x1.at_])] (fun X=>?_)
 exact JcO 39 (Bo (!(decide (r.head.epoch=x1.epoch) && (decide (r.head.root=x1.root) && (decide (r.head.prev=x1.prev) && (decide (r.head.at_=x1.at_) && true)))))) (Bo (!(decide (r.head.epoch=x1.epoch) && decide (r.head.root=x1.root) && decide (r.head.prev=x1.prev) && decide (r.head.at_=x1.at_)))) (by simp [Q3,HO]) Jp
 refine Jt 12 40 (Bo false) [(30,Bo false),(39,Bo (!(decide (r.head.epoch=x1.epoch) && decide (r.head.root=x1.root) && decide (r.head.prev=x1.prev) && decide (r.head.at_=x1.at_))))] (fun X=>?_)
 exact KV 40 (Bo (!(decide (r.head.epoch=x1.epoch) && decide (r.head.root=x1.root) && decide (r.head.prev=x1.prev) && decide (r.head.at_=x1.at_)))) (Bo false) (by rw [h3]) Jp
 refine Jdt 27 (Bo (!(r.proof.name == o.name))) (show (Bo (!((B r.proof.name).toList == (B o.name).toList)):Value)=Bo (!(r.proof.name == o.name)) by simp only [Q3]) (Jb (Jl (!(r.proof.name == o.name)) (fun h4=>?_) (fun h4=>?_)))
 refine Jg [0,0] [(6,I 4),(7,I 0)] (Jn (Js (Jj (Jo [0,0] [I 4,I 0] (Jx hl1 ?_)))))
 have hf_:(J0 o l r)=(4,0):=by
  exact Jhz ‹_› (.inr ‹_›)
 · (try rw [hf_]);(simp only [Qx];done)
 refine Jf (Jd (Jc [0,0,0] [(52,Bo (!((JG r).2.1)))] (Ks (!((JG r).2.1)) [52] [0,4,0,0] [1,1,1,0] (fun bb=>[(56,Bo (bb && (decide (o.had > 0))))]) (Jc [0] [(49,Bo ((!((JG r).2.1)) && (decide (o.had > 0))))] (Je (Jb (Jl ((!((JG r).2.1)) && (decide (o.had > 0))) (fun h5=>?_) (fun h5=>?_))))))))
 refine Jg [0,0] [(6,I 5),(7,I 0)] (Jn (Js (Jj (Jo [0,0] [I 5,I 0] (Jx hl1 ?_)))))
 have hf_:(J0 o l r)=(5,0):=by
  (rw [JeQ ‹_› ‹_› hx1 ‹_› ‹_›];(rw [if_pos ‹_›];done))
 · (try rw [hf_]);(simp only [Qx];done)
 refine Jg [0,0,0] [(57,Bo (!((JG r).2.1)))] (Jl (!((JG r).2.1)) (fun h6=>?_) (fun h6=>?_))
 refine Jg [0,0] [(6,I 0),(7,I 0)] (Jn (Js (Jj (Jo [0,0] [I 0,I 0] (Jx hl1 ?_)))))
 have hf_:(J0 o l r)=(0,0):=by
  (rw [JeQ ‹_› ‹_› hx1 ‹_› ‹_›];(rw [if_neg (by simp_all)];(rw [if_pos ‹_›];done)))
 · (try rw [hf_]);(simp only [Qx];done)
 refine Jq (JN (Jb (Jg [0,4,0,0,0] [(12,I (if 0 > (Ha.wrap (o.had-1)) then 0 else (Ha.wrap (o.had-1))))] ?_)))
 have e4:Ha.wrap (o.had-1)=o.had-1:=Hh _ (by (have q_:=K5.1 ho;omega))
 refine Q2 12 (I (if 0 > (o.had-1) then 0 else (o.had-1))) (show (I (if 0 > (Ha.wrap (o.had-1)) then 0 else (Ha.wrap (o.had-1))):Value)=I (if 0 > (o.had-1) then 0 else (o.had-1)) by simp only [e4]) ?_
 clear e4
 refine Jf (Jd (Jc [0,4,0] [(65,Sl a1 o.wanted.length c1),(66,I (if 0 > (o.had-1) then 0 else (o.had-1)))] ?_))
 obtain ⟨kn1,hkn1⟩:∃ k_:Nat,(if 0 > (o.had-1) then 0 else (o.had-1))=(k_:Int):=⟨(if 0 > (o.had-1) then 0 else (o.had-1)).toNat,by omega⟩
 have e5:(if 0 > (o.had-1) then 0 else (o.had-1))=(kn1:Int):=hkn1
 refine KU 12 (I (kn1:Int)) (congrArg I e5) (KU 66 (I (kn1:Int)) (congrArg I e5) ?_)
 obtain ⟨a4,c4,ea1,ec1,en1,eh1,hs4⟩:=RS.reslXD (hs1.mono hl1) kn1 (by (have q_:=K5.1 ho;omega))
 refine Wz (a:=a1) (len:=o.wanted.length) (cap:=c1) 67 1 (some (I (kn1:Int))) none kn1 o.wanted.length (.inr ⟨_,rfl⟩) (.inl ⟨rfl,rfl⟩) (by (have q_:=K5.1 ho;omega)) ea1 ec1 en1 eh1 (Jc [0] [(68,Sr ((JG r).1))] (Jm 69 (I (QT (fun x=>decide ((JG r).1=x)) (o.wanted.drop kn1))) (JkW G1 a4 c4 (o.wanted.drop kn1) hs4 ((JG r).1)) (Jc [0] [(13,I (QT (fun x=>decide ((JG r).1=x)) (o.wanted.drop kn1)))] (Je (Jb (Jf (Jg [0,0] [(71,Bo (decide (QT (fun x=>decide ((JG r).1=x)) (o.wanted.drop kn1)<0)))] (Jl (decide (QT (fun x=>decide ((JG r).1=x)) (o.wanted.drop kn1)<0)) (fun h7=>?_) (fun h7=>?_)))))))))
 refine Jg [0,0] [(6,I 6),(7,I 0)] (Jn (Jj (Jo [0,0] [I 6,I 0] (Jx hl1 ?_))))
 have hf_:(J0 o l r)=(6,0):=by
  (rw [JeQ ‹_› ‹_› hx1 ‹_› ‹_›];(rw [if_neg (by simp_all)];(rw [if_neg (by simp_all)];obtain ⟨q1_,q2_⟩:=JiJ (JG r).1 hkn1;rw [q1_,q2_];(rw [if_pos ‹_›];done))))
 · (try rw [hf_]);(simp only [Qx];done)
 refine Jq (Jb (Jg [0,0,0,0,0,0] [(6,I 0),(7,I (Ha.wrap ((Ha.wrap ((kn1:Int)+(QT (fun x=>decide ((JG r).1=x)) (o.wanted.drop kn1))))+1)))] ?_))
 have e6:Ha.wrap ((kn1:Int)+(QT (fun x=>decide ((JG r).1=x)) (o.wanted.drop kn1)))=(kn1:Int)+(QT (fun x=>decide ((JG r).1=x)) (o.wanted.drop kn1)):=Hh _ (by (have q_:=K5.1 ho;have q1_:=Jk5 (fun x=>decide ((JG r).1=x)) (o.wanted.drop kn1);rw [Hy] at q1_;omega))
 have e7:Ha.wrap (((kn1:Int)+(QT (fun x=>decide ((JG r).1=x)) (o.wanted.drop kn1)))+1)=((kn1:Int)+(QT (fun x=>decide ((JG r).1=x)) (o.wanted.drop kn1)))+1:=Hh _ (by (have q_:=K5.1 ho;have q1_:=Jk5 (fun x=>decide ((JG r).1=x)) (o.wanted.drop kn1);rw [Hy] at q1_;omega))
 refine Q2 7 (I (((kn1:Int)+(QT (fun x=>decide ((JG r).1=x)) (o.wanted.drop kn1)))+1)) (show (I (Ha.wrap ((Ha.wrap ((kn1:Int)+(QT (fun x=>decide ((JG r).1=x)) (o.wanted.drop kn1))))+1)):Value)=I (((kn1:Int)+(QT (fun x=>decide ((JG r).1=x)) (o.wanted.drop kn1)))+1) by simp only [e6,e7]) ?_
 clear e7 e6
 refine Jn (Jo [0,0] [I 0,I (((kn1:Int)+(QT (fun x=>decide ((JG r).1=x)) (o.wanted.drop kn1)))+1)] (Jx hl1 ?_))
 have hf_:(J0 o l r)=(0,(((kn1:Int)+(QT (fun x=>decide ((JG r).1=x)) (o.wanted.drop kn1)))+1)):=by
  (rw [JeQ ‹_› ‹_› hx1 ‹_› ‹_›];(rw [if_neg (by simp_all)];(rw [if_neg (by simp_all)];obtain ⟨q1_,q2_⟩:=JiJ (JG r).1 hkn1;rw [q1_,q2_];(rw [if_neg (by omega)];done))))
 · (try rw [hf_]);(simp only [Qx];done)
theorem Jdd (G:J4) (vs_o:List Value) (o:K9) (h_o:QB.R G vs_o o) (a_l:Option Addr) (c_l:Nat) (l:List JU) (h_l:RS KA G a_l c_l l) (vs_r:List Value) (r:Wa) (h_r:JjG.R G vs_r r) :Yw 23 #[.agg vs_o.toArray,Sl a_l l.length c_l,.agg vs_r.toArray] G [] (fun u G' L'=>∃ (a1:Option Addr) (c2:Nat),u=.tuple #[.agg #[Sr (((JB o l r).1).name),U (((JB o l r).1).key),I (((JB o l r).1).head.epoch),U (((JB o l r).1).head.root),U (((JB o l r).1).head.prev),I (((JB o l r).1).head.at_),Sl a1 ((((JB o l r).1).wanted).length) c2,I (((JB o l r).1).had)],I ((JB o l r).2.1),I ((JB o l r).2.2)]∧((((JB o l r).1).name).length≤140737488351232)∧(rU (((JB o l r).1).key))∧(rI (((JB o l r).1).head.epoch))∧(rU (((JB o l r).1).head.root))∧(rU (((JB o l r).1).head.prev))∧(rI (((JB o l r).1).head.at_))∧(RS ES G' a1 c2 (((JB o l r).1).wanted))∧(rI (((JB o l r).1).had))∧L'=[]):=by
 obtain ⟨a1,c1,rfl,w1,w2,w3,w4,w5,w6,hs1,w7⟩:=h_o
 obtain ⟨a2,c2,a3,c3,rfl,w8,w9,w10,w11,w12,hs2,hs3⟩:=h_r
 refine JR Tryz.func23 36 [(0,(Ky o a1 c1)),(1,Sl a_l l.length c_l),(2,(WP r a2 c2 a3 c3))] rfl (fun w0 G0=>?_)
 refine Jf (Jd (Jv 3 #[Sr o.name,U o.key,I o.head.epoch,U o.head.root,U o.head.prev,I o.head.at_,Sl a1 o.wanted.length c1,I o.had] 76 (fun b1=>Jv 5 #[I r.head.epoch,U r.head.root,U r.head.prev,I r.head.at_,Sr r.proof.name,Sl a2 r.proof.entries.length c2,Sl a3 r.proof.sides.length c3] 49 (fun b2=>Jv 6 #[Sr ([]),U 0,I 0,U 0,U 0,I 0,Sl none 0 0,I 0] 76 (fun b3=>Jc [0,0] [] (Je (Jb (Jf (Jf (Jd (Jc [6] [(12,(Ky o a1 c1))] (Jm 13 (I (Kb o)) (Jas G (KH o a1 c1) o (⟨a1,c1,rfl,w1,w2,w3,w4,w5,w6,hs1,w7⟩)) (Jc [0] [(9,I (Kb o))] (Je (Jb (Jg [0,0] [(15,Bo (!decide (Kb o=0)))] (Jl (!decide (Kb o=0)) (fun h1=>?_) (fun h1=>?_))))))))))))))))))
 refine Jg [0,0,3,0,0] [(7,I 0),(8,I (Kb o))] (Jn (Jj ?_))
 have hf1:JB o l r=((⟨[],0,(⟨0,0,0,0⟩:JU),[],0⟩:K9),0,Kb o):=by
  unfold JB Vx Zr;simp_all
 refine Jo [0,0,0] [.agg #[Sr ([]),U 0,I 0,U 0,U 0,I 0,Sl none 0 0,I 0],I 0,I (Kb o)] (JA [] (Jh _) ?_)
 rw [hf1]
 try dsimp only
 exact ⟨none,0,rfl,(Hc rfl),J8,J8,J8,J8,J8,(JP ES G),J8,rfl⟩
 refine Jq (Jb (Jf (Jd (Jc [6] [(18,(Ky o a1 c1))] (JI 19 (JiL G (KH o a1 c1) o (⟨a1,c1,rfl,w1,w2,w3,w4,w5,w6,hs1,w7⟩)) (fun v G1 L1 hl1 hp=>?_))))))
 obtain ⟨a4,c4,rfl,w13,w14,w15,w16,w17,w18,hs4,w19,rfl⟩:=hp
 refine JV [7] [] [[Sg b3 0 [Sr ([]),U 0,I 0,U 0,U 0,I 0,Sl none 0 0,I 0]],[Sg b2 0 (Zz r a2 c2 a3 c3)],[Sg b1 0 (KH o a4 c4)]] (Je (Jb (Jf (Jd (Jc [6,0,4] [(21,(Ky o a4 c4)),(22,Sl a_l l.length c_l),(23,(WP r a2 c2 a3 c3))] (Jm 24 (.tuple #[I ((J0 o l r).1),I ((J0 o l r).2)]) (JdR G1 (KH o a4 c4) o (⟨a4,c4,rfl,w13,w14,w15,w16,w17,w18,hs4,w19⟩) a_l c_l l (h_l.mono hl1) (Zz r a2 c2 a3 c3) r (⟨a2,c2,a3,c3,rfl,w8,w9,w10,w11,w12,(hs2.mono hl1),(hs3.mono hl1)⟩) ‹_›) (Jc [0,0,0,0,0] [(10,I ((J0 o l r).1)),(11,I ((J0 o l r).2))] (Je (Jb (Jf (Jg [0,0] [(28,Bo (decide ((J0 o l r).1=0)))] (Jl (decide ((J0 o l r).1=0)) (fun h2=>?_) (fun h2=>?_)))))))))))))
 refine Jd (JV [0,4,0,0,7,0,7] [] [[Sg b3 0 [Sr ([]),U 0,I 0,U 0,U 0,I 0,Sl none 0 0,I 0]],[Sg b2 0 (Zz r a2 c2 a3 c3)],[Sg b1 0 [Sr o.name,U o.key,I r.head.epoch,U r.head.root,U r.head.prev,I r.head.at_,Sl a4 o.wanted.length c4,I ((J0 o l r).2)]]] (Je (Jb (QA [6,0,3,0,0] [(7,I ((J0 o l r).1)),(8,I 0)] [[Sg b3 0 [Sr o.name,U o.key,I r.head.epoch,U r.head.root,U r.head.prev,I r.head.at_,Sl a4 o.wanted.length c4,I ((J0 o l r).2)]],[Sg b2 0 (Zz r a2 c2 a3 c3)],[Sg b1 0 [Sr o.name,U o.key,I r.head.epoch,U r.head.root,U r.head.prev,I r.head.at_,Sl a4 o.wanted.length c4,I ((J0 o l r).2)]]] (Jn ?_)))))
 have hf2:JB o l r=((⟨o.name,o.key,r.head,o.wanted,(J0 o l r).2⟩:K9),(J0 o l r).1,0):=by
  unfold JB Vx Zr;simp_all
 refine Jo [0,0,0] [.agg #[Sr o.name,U o.key,I r.head.epoch,U r.head.root,U r.head.prev,I r.head.at_,Sl a4 o.wanted.length c4,I ((J0 o l r).2)],I ((J0 o l r).1),I 0] (JA [] hl1 ?_)
 rw [hf2]
 try dsimp only
 exact ⟨a4,c4,rfl,w13,w14,w8,w9,w10,w11,hs4,(by (have q_:=Jdb ‹_› ‹_›;have q1_:=K5.1 ‹_›;omega)),rfl⟩
 refine Jq (Jb (QA [6,0,3,0,0] [(7,I ((J0 o l r).1)),(8,I 0)] [[Sg b3 0 (KH o a4 c4)],[Sg b2 0 (Zz r a2 c2 a3 c3)],[Sg b1 0 (KH o a4 c4)]] (Jn ?_)))
 have hf3:JB o l r=(o,(J0 o l r).1,0):=by
  unfold JB Vx Zr;simp_all
 refine Jo [0,0,0] [(Ky o a4 c4),I ((J0 o l r).1),I 0] (JA [] hl1 ?_)
 rw [hf3]
 try dsimp only
 exact ⟨a4,c4,rfl,w13,w14,w15,w16,w17,w18,hs4,w19,rfl⟩
theorem JiM {n v:List UInt8} (h:KE n v=0):n.length≤12∧v.length≤20∧KJ n=true:=by
 unfold KE at h
 split at h
 · cases h
 rename_i h1
 split at h
 · cases h
 have h2:KJ n=true:=by simpa using h1
 have:=(Jhi.1 h2).2.1
 exact ⟨this,by omega,h2⟩
theorem JbI (l:List J2) (q:List UInt8):0≤QS l q∧QS l q<2305843009213693951:=by
 unfold QS
 generalize 16-q.length=n
 cases n with
 | zero=>exact QQ _
 | succ n =>
  rw [atG]
  split
  · exact QQ _
  split
  · exact QQ _
  · exact QQ _
end Go.Proofs.YteaampgpgokjmaaGreatDoor
