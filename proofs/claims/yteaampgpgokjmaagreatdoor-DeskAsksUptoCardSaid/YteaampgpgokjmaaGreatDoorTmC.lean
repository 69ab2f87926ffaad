import Derived.Test.YteaampgpgokjmaaGreatDoorTmB
import Derived.Maps.Own
import Derived.CallsIn
import Derived.Shelf.SlIter.Collect
set_option linter.unusedVariables false
set_option linter.unusedSimpArgs false
namespace Go.Proofs.YteaampgpgokjmaaGreatDoor
open Go.Tx
open IntKind renaming i64 → Ha, u64 → HV, i32 → HZ
open _root_.Nat renaming le_of_ble_eq_true → Hb, le_trans → Hm, zero_le → Hr, le_refl → Hv, min_eq_left → HE, min_def → HX, min → H1, zero_add → H2
open _root_.List renaming getElem?_eq_some_iff → Hc, length_append → Hd, length_cons → He, length_nil → Hf, length_take → Hg, forall_mem_nil → Hi, drop_eq_getElem_cons → Hj, getElem?_eq_getElem → Hk, length → Hn, mem_of_getElem? → Ho, drop_eq_nil_of_le → Hq, take_add_one → Ht, dropWhile_cons → Hu, length_set → Hw, getElem?_of_mem → Hx, length_drop → Hy, mem_singleton → Hz, take_of_length_le → HA, any_eq_true → HB, mem_cons → HC, getElem?_append_left → HD, mem_append → HF, mem_cons_self → HH, getElem?_set → HI, mem_of_mem_take → HK, mem_of_mem_drop → HL, drop_drop → HN, getElem?_drop → HP, filter_append → HQ, getElem?_append_right → HR, mem_reverse → HS, not_mem_nil → HT, dropWhile_sublist → HU, take_append_drop → HW, length_filter_le → HY, mem_cons_of_mem → H0
open IntWalk renaming i64_in → Hh
open _root_.Decidable renaming not_not → Hl
open _root_.Option renaming some → Hp
open _root_.Bool renaming eq_false_or_eq_true → Hs, eq_iff_iff → HG, and_assoc → HO
open _root_.UInt8 renaming ofNat → HJ
open _root_.Int renaming toNat_of_nonneg → HM
def KJ (name value:Bb):Int:=if KS name=false then 3 else if 20<value.length then 2 else 0
def JaJ (l:List Kc):Nat→List Kc→Int
 | _,[]=>0
 | i,x::r=>if KJ x.name x.value ≠ 0 then KJ x.name x.value else if 0<i∧0≤Yq ((l[i-1]?.getD x).name) x.name then 3 else JaJ l (i+1) r
def Kq (l:List Kc):Int:=if 24<l.length then 2 else JaJ l 0 l
theorem Jb6 {l:List Kc} {i:Nat} {x:Kc} (hx:l[i]? = some x) (h:KJ x.name x.value=0) (h2:¬ (0<i∧0≤Yq ((l[i-1]?.getD x).name) x.name)):JaJ l i (l.drop i)=JaJ l (i+1) (l.drop (i+1)):=by
 obtain ⟨h1,rfl⟩:=Hc.1 hx
 rw [Hj h1]
 show (if _ then _ else if _ then _ else _)=_
 rw [if_neg (by omega),if_neg h2]
theorem Ji8 {l:List Kc} {i:Nat} {x:Kc} (hx:l[i]? = some x) (h:¬ KJ x.name x.value=0):JaJ l i (l.drop i)=KJ x.name x.value:=by
 obtain ⟨h1,rfl⟩:=Hc.1 hx
 rw [Hj h1]
 show (if _ then _ else if _ then _ else _)=_
 rw [if_pos h]
theorem Ji9 {l:List Kc} {i:Nat} {x y:Kc} (hx:l[i]? = some x) (h:KJ x.name x.value=0) (hi:0<i) (hy:l[i-1]? = some y) (h2:0≤Yq y.name x.name):JaJ l i (l.drop i)=3:=by
 obtain ⟨h1,rfl⟩:=Hc.1 hx
 rw [Hj h1]
 show (if _ then _ else if _ then _ else _)=_
 rw [if_neg (by omega),if_pos ⟨hi,by rw [hy];exact h2⟩]
structure ZY (l:List Kc):Prop where
 len:l.length≤24
 ok:∀ x∈l,KJ x.name x.value=0
 ord:∀ (i j:Nat) x y,i<j→l[i]? = some x→l[j]? = some y→Yq x.name y.name<0
theorem JfY {l:List Kc}:∀ (n i:Nat),l.length≤i+n→(JaJ l i (l.drop i)=0 ↔ (∀ j x,i≤j→l[j]? = some x→KJ x.name x.value=0)∧∀ j x y,i≤j+1→l[j]? = some x→l[j+1]? = some y→Yq x.name y.name<0)
 | 0,i,h=>by
  rw [Hq (by omega)]
  refine ⟨fun _=>⟨fun j x hj hx=>?_,fun j x y hj hx hy=>?_⟩,fun _=>rfl⟩
  · have:=(Hc.1 hx).1;omega
  · have:=(Hc.1 hy).1;omega
 | n+1,i,h=>by
  by_cases hi:i<l.length
  ·
   have hx:l[i]? = some l[i]:=Hk hi
   by_cases h1:KJ l[i].name l[i].value=0
   ·
    by_cases h2:0<i∧0≤Yq ((l[i-1]?.getD l[i]).name) l[i].name
    ·
     have hy:l[i-1]? = some (l[i-1]'(by omega)):=Hk (by omega)
     have h3:=h2.2
     rw [hy] at h3
     rw [Ji9 hx h1 h2.1 hy h3]
     constructor
     · intro hc;cases hc
     ·
      rintro ⟨_,h4⟩
      have:=h4 (i-1) _ _ (by omega) hy (by rw [show i-1+1=i by omega];exact hx)
      simp at h3;omega
    ·
     rw [Jb6 hx h1 h2,JfY n (i+1) (by omega)]
     constructor
     ·
      rintro ⟨a,b⟩
      refine ⟨fun j x hj hjx=>?_,fun j x y hj hjx hjy=>?_⟩
      ·
       by_cases e:j=i
       · subst e;rw [hx] at hjx;rw [← Hp.inj hjx];exact h1
       · exact a j x (by omega) hjx
      ·
       by_cases e:j+1=i
       ·
        have:0<i:=by omega
        have hy:l[i-1]? = some x:=by rw [← e];exact hjx
        rw [hy] at h2
        rw [e,hx] at hjy
        rw [← Hp.inj hjy]
        have:=fun hc=>h2 ⟨by omega,hc⟩
        simp at this;omega
       · exact b j x y (by omega) hjx hjy
     ·
      rintro ⟨a,b⟩
      exact ⟨fun j x hj=>a j x (by omega),fun j x y hj=>b j x y (by omega)⟩
   ·
    rw [Ji8 hx h1]
    exact ⟨fun hc=>absurd hc h1,fun hc=>absurd (hc.1 i _ (Hv _) hx) h1⟩
  ·
   rw [Hq (by omega)]
   refine ⟨fun _=>⟨fun j x hj hx=>?_,fun j x y hj hx hy=>?_⟩,fun _=>rfl⟩
   · have:=(Hc.1 hx).1;omega
   · have:=(Hc.1 hy).1;omega
theorem JlC {l:List Kc} (h:∀ j x y,l[j]? = some x→l[j+1]? = some y→Yq x.name y.name<0):∀ (d i:Nat) x y,l[i]? = some x→l[i+d+1]? = some y→Yq x.name y.name<0
 | 0,i,x,y,hx,hy=>h i x y hx hy
 | d+1,i,x,y,hx,hy=>by
  have hj:=(Hc.1 hy).1
  have hz:l[i+d+1]? = some (l[i+d+1]'(by omega)):=Hk (by omega)
  exact Jc2 (JlC h d i x _ hx hz) (h _ _ _ hz hy)
theorem Qg {l:List Kc}:Kq l=0 ↔ ZY l:=by
 unfold Kq
 have e:=JfY (l:=l) l.length 0 (by omega)
 rw [List.drop_zero] at e
 constructor
 ·
  intro h
  split at h
  · cases h
  ·
   have h2:=e.1 h
   refine ⟨by omega,fun x hx=>?_,fun i j x y hij hx hy=>?_⟩
   ·
    obtain ⟨k,hk⟩:=Hx hx
    exact h2.1 k x (Hr _) hk
   ·
    obtain ⟨d,rfl⟩:∃ d,j=i+d+1:=⟨j-i-1,by omega⟩
    exact JlC (fun j x y hx hy=>h2.2 j x y (by omega) hx hy) d i x y hx hy
 ·
  rintro ⟨h1,h2,h3⟩
  rw [if_neg (by omega)]
  exact e.2 ⟨fun j x _ hx=>h2 x (Ho hx),fun j x y _ hx hy=>h3 j (j+1) x y (by omega) hx hy⟩
def Jao (c:Kc→Int) (l:List Kc):Nat→Nat→Nat→Nat
 | 0,i,_=>i
 | f+1,i,j=>if i<j then match l[(i+j) / 2]? with
   | some x=>if c x<0 then Jao c l f ((i+j) / 2+1) j else Jao c l f i ((i+j) / 2)
   | none=>i
  else i
theorem Jct (c:Kc→Int) (l:List Kc):∀ (f g i j:Nat),j≤i+f→j≤i+g→Jao c l f i j=Jao c l g i j
 | 0,0,_,_,_,_=>rfl
 | 0,g+1,i,j,h,_=>by unfold Jao;rw [if_neg (by omega)]
 | f+1,0,i,j,_,h=>by unfold Jao;rw [if_neg (by omega)]
 | f+1,g+1,i,j,h1,h2=>by
  unfold Jao
  split
  ·
   split
   ·
    split
    · exact Jct c l f g _ _ (by omega) (by omega)
    · exact Jct c l f g _ _ (by omega) (by omega)
   · rfl
  · rfl
def bsI (c:Kc→Int) (l:List Kc):Nat:=Jao c l l.length 0 l.length
theorem bs_lt {c:Kc→Int} {l:List Kc} {i j:Nat} {x:Kc} (h:i<j) (hj:j≤l.length) (hx:l[(i+j) / 2]? = some x) (hc:c x<0):Jao c l l.length i j=Jao c l l.length ((i+j) / 2+1) j:=by
 rw [Jct c l l.length (l.length+1) i j (by omega) (by omega)]
 conv=>lhs;unfold Jao
 rw [if_pos h,hx]
 simp only
 rw [if_pos hc]
theorem bs_ge {c:Kc→Int} {l:List Kc} {i j:Nat} {x:Kc} (h:i<j) (hj:j≤l.length) (hx:l[(i+j) / 2]? = some x) (hc:¬ c x<0):Jao c l l.length i j=Jao c l l.length i ((i+j) / 2):=by
 rw [Jct c l l.length (l.length+1) i j (by omega) (by omega)]
 conv=>lhs;unfold Jao
 rw [if_pos h,hx]
 simp only
 rw [if_neg hc]
theorem Jog {c:Kc→Int} {l:List Kc} {i j n:Nat} (h:¬ i<j):Jao c l n i j=i:=by
 cases n with
 | zero=>rfl
 | succ n=>unfold Jao;rw [if_neg h]
theorem Jej (c:Kc→Int) (l:List Kc) (hm:∀ (p q:Nat) x y,p<q→l[p]? = some x→l[q]? = some y→c y<0→c x<0):∀ (f i j:Nat),j≤i+f→i≤j→j≤l.length→(∀ p x,p<i→l[p]? = some x→c x<0)→(∀ p x,j≤p→l[p]? = some x→¬ c x<0) →
  i≤Jao c l f i j∧Jao c l f i j≤j∧(∀ p x,p<Jao c l f i j→l[p]? = some x→c x<0)∧(∀ p x,Jao c l f i j≤p→l[p]? = some x→¬ c x<0)
 | 0,i,j,h1,h2,h3,h4,h5=>by
  have:i=j:=by omega
  subst this
  exact ⟨Hv _,Hv _,h4,h5⟩
 | f+1,i,j,h1,h2,h3,h4,h5=>by
  unfold Jao
  by_cases h:i<j
  ·
   rw [if_pos h]
   have hx:l[(i+j) / 2]? = some (l[(i+j) / 2]'(by omega)):=Hk (by omega)
   rw [hx]
   simp only
   split
   ·
    rename_i hc
    have:=Jej c l hm f ((i+j) / 2+1) j (by omega) (by omega) h3 (fun p x hp hpx=>by
     by_cases e:p=(i+j) / 2
     · subst e;rw [hx] at hpx;rw [← Hp.inj hpx];exact hc
     · exact hm p ((i+j) / 2) x _ (by omega) hpx hx hc) h5
    exact ⟨by omega,this.2.1,this.2.2⟩
   ·
    rename_i hc
    have:=Jej c l hm f i ((i+j) / 2) (by omega) (by omega) (by omega) h4 (fun p x hp hpx hcx=>by
     by_cases e:p=(i+j) / 2
     · subst e;rw [hx] at hpx;rw [← Hp.inj hpx] at hcx;exact hc hcx
     · exact hc (hm ((i+j) / 2) p _ x (by omega) hx hpx hcx))
    exact ⟨this.1,by omega,this.2.2⟩
  ·
   rw [if_neg h]
   have:i=j:=by omega
   subst this
   exact ⟨Hv _,Hv _,h4,h5⟩
def bsF (l:List Kc) (t:Bb) (c:Kc→Bb→Int):Int×Bool:=(((bsI (fun x=>c x t) l:Nat):Int),match l[bsI (fun x=>c x t) l]? with
 | some x=>decide (c x t=0)
 | none=>false)
def Wi (x:Kc) (name:Bb):Int:=Yq x.name name
def JH (l:List Kc) (name:Bb):Int×Bool×Int:=if Kq l ≠ 0 then (0,false,Kq l) else if KS name=false then (0,false,3) else ((bsF l name Wi).1,(bsF l name Wi).2,0)
theorem Joh (c:Kc→Int) (l:List Kc):bsI c l≤l.length:=by
 have:∀ (f i j:Nat),i≤j→Jao c l f i j≤j:=by
  intro f
  induction f with
  | zero=>intro i j h;exact h
  | succ f ih =>
   intro i j h
   unfold Jao
   split
   ·
    split
    ·
     split
     · exact ih _ _ (by omega)
     · exact Hm (ih _ _ (by omega)) (by omega)
    · exact h
   · exact h
 exact this _ _ _ (Hr _)
theorem JfZ {l:List Kc} (h:ZY l) (name:Bb):(∀ p x,p<bsI (fun x=>Wi x name) l→l[p]? = some x→Yq x.name name<0)∧(∀ p x,bsI (fun x=>Wi x name) l≤p→l[p]? = some x→¬ Yq x.name name<0):=by
 have:=Jej (fun x=>Wi x name) l (fun p q x y hpq hx hy hc=>Jc2 (h.ord p q x y hpq hx hy) hc) l.length 0 l.length (by omega) (Hr _) (Hv _) (fun p x hp=>absurd hp (Nat.not_lt_zero _)) (fun p x hp hx=>by have:=(Hc.1 hx).1;omega)
 exact this.2.2
theorem Joi {l:List Kc} (h:ZY l) (name:Bb):(bsF l name Wi).2=true ↔ ∃ x∈l,x.name=name:=by
 have hs:=JfZ h name
 unfold bsF
 simp only
 constructor
 ·
  intro e
  cases hx:l[bsI (fun x=>Wi x name) l]? with
  | none=>rw [hx] at e;cases e
  | some x =>
   rw [hx] at e
   exact ⟨x,Ho hx,YI.1 (of_decide_eq_true e)⟩
 ·
  rintro ⟨x,hx,rfl⟩
  obtain ⟨k,hk⟩:=Hx hx
  have h1:¬ Yq x.name x.name<0:=by have:Yq x.name x.name=0:=YI.2 rfl;omega
  have h2:bsI (fun y=>Wi y x.name) l≤k:=by
   apply Nat.le_of_not_lt;intro hc;exact h1 (hs.1 k x hc hk)
  have h3:bsI (fun y=>Wi y x.name) l=k:=by
   apply Classical.byContradiction;intro hne
   have hl:=(Hc.1 hk).1
   have hy:l[bsI (fun y=>Wi y x.name) l]? = some (l[bsI (fun y=>Wi y x.name) l]'(by omega)):=Hk (by omega)
   exact hs.2 _ _ (Hv _) hy (h.ord _ k _ x (by omega) hy hk)
  rw [h3,hk]
  simp only [decide_eq_true_eq]
  exact YI.2 rfl
theorem Joj {l:List Kc} {name:Bb} (e:(bsF l name Wi).2=true):∃ x,l[bsI (fun x=>Wi x name) l]? = some x∧x.name=name:=by
 unfold bsF at e
 simp only at e
 cases hx:l[bsI (fun x=>Wi x name) l]? with
 | none=>rw [hx] at e;cases e
 | some x=>rw [hx] at e;exact ⟨x,rfl,YI.1 (of_decide_eq_true e)⟩
def YP (l:List Kc) (name:Bb):Bb×Bool×Int:=if (JH l name).2.1=false then ([],false,(JH l name).2.2) else ((l[(JH l name).1.toNat]?.map (·.value)).getD [],true,(JH l name).2.2)
theorem Jja {l:List Kc} {name:Bb} (h:(JH l name).2.1=true):ZY l∧KS name=true∧JH l name=((bsF l name Wi).1,true,0)∧(bsF l name Wi).2=true:=by
 unfold JH at h ⊢
 split at h
 · cases h
 split at h
 · cases h
 ·
  rename_i h1 h2
  rw [if_neg h1,if_neg h2]
  have h3:(bsF l name Wi).2=true:=h
  exact ⟨Qg.1 (Hl.1 h1),by simpa using h2,by rw [h3],h3⟩
theorem YY {l:List Kc} {name:Bb} (h:(JH l name).2.1=true):0≤(JH l name).1∧(JH l name).1<l.length:=by
 obtain ⟨h1,h2,h3,h4⟩:=Jja h
 obtain ⟨x,hx,_⟩:=Joj h4
 have:=(Hc.1 hx).1
 rw [h3];unfold bsF;simp only;omega
theorem JcJ (G:J5) (name:Bb) (value:Bb) :QZ 115 #[Sr name,Sr value] G (I (KJ name value)):=by
 refine JP Tryz.func115 13 [(0,Sr name),(1,Sr value)] rfl (fun w0 G0=>?_)
 refine Jg [0] [] (Jf (Jy (Jf (Jd (Jb [0] [(6,Sr name)] (Jm 7 (Bo (KS name)) (Z4 G name) (Jb [0,0] [(5,Bo (!(KS name)))] (Je (Jc (Jl (!(KS name)) (fun h1=>?_) (fun h1=>?_)))))))))))
 refine Jg [0] [(4,I 3)] (Jn (Ju (Jj (Jo [0] [I 3] (Jx (Jh _) (congrArg I (?_:(KJ name value)=3).symm))))))
 unfold KJ;simp_all;try omega
 refine Jg [0,0,0,0] [(9,Bo (decide (((value).length:Int) > 20)))] (Jl (decide (((value).length:Int) > 20)) (fun h2=>?_) (fun h2=>?_))
 refine Jg [0] [(4,I 2)] (Jn (Ju (Jj (Jo [0] [I 2] (Jx (Jh _) (congrArg I (?_:(KJ name value)=2).symm))))))
 unfold KJ;simp_all;try omega
 refine Jq (JM (Jc (Jg [0] [(4,I 0)] (Jn (Jo [0] [I 0] (Jx (Jh _) (congrArg I (?_:(KJ name value)=0).symm)))))))
 unfold KJ;simp_all;try omega
theorem Vj (G:J5) (a_l:Ba) (c_l:Nat) (l:List Kc) (h_l:RS QK G a_l c_l l) :QZ 65 #[Sl a_l l.length c_l] G (I (Kq l)):=by
 refine JP Tryz.func65 39 [(0,Sl a_l l.length c_l)] rfl (fun w0 G0=>?_)
 refine Jg [0] [] (Jf (Jg [0,0,0] [(8,Bo (decide ((l.length:Int) > 24)))] (Jl (decide ((l.length:Int) > 24)) (fun h1=>?_) (fun h1=>?_))))
 refine Jg [0] [(2,I 2)] (Jn (Jj (Jo [0] [I 2] (Jx (Jh _) (congrArg I (?_:(Kq l)=2).symm)))))
 · unfold Kq;(rw [if_pos (by omega)];done)
 refine Jq (Jc (Jf (Jg [0,0,0] [(9,Sl a_l l.length c_l),(10,I (l.length:Int)),(11,I 0)] (Jy ?_))))
 have hlm_h_l:l.length≤9223372036854775807:=Hm (h_l).le (h_l).max
 refine Qc (σ:=Nat) (fun q_=>(q_≤l.length)∧(JaJ l 0 l=JaJ l q_ (l.drop q_))) (fun q_=>[(0,Sl a_l l.length c_l),(9,Sl a_l l.length c_l),(10,I (l.length:Int)),(11,I (q_:Int))]) (fun q_=>G) (fun q_=>[]) (fun q_=>l.length-q_) 0 ⟨(by (try dsimp only);exact Hr _),rfl⟩ (fun q_ hs=>?_)
 revert hs;revert q_;intro i hs
 obtain ⟨hi,hn⟩:=hs
 dsimp only
 refine Jg [0] [(12,Bo (decide ((i:Int)<(l.length:Int))))] (Jf (Jl (decide ((i:Int)<(l.length:Int))) (fun h2=>?_) (fun h2=>?_)))
 refine Jq (Jc (Jf (Jy (Jf (Jd (Jb [0] [(13,I (i:Int))] ?_))))))
 obtain ⟨b1,o1,rfl⟩:=RS.addr h_l (k:=i) (by omega)
 obtain ⟨x1,hx1⟩:=QS (l:=l) (k:=i) (by omega)
 obtain ⟨_,⟨rfl,w1,_⟩,hc1⟩:=RS.get h_l hx1
 refine JV (b:=b1) (off:=o1) (len:=l.length) (cap:=c_l) (ik:=.i64) 14 111 2 i J4 (JO 15 111 (cs:=[Sr x1.name,Sr x1.value]) 0 (.agg #[Sr x1.name,Sr x1.value]) hc1 (Jv 4 #[Sr ([]),Sr ([])] 111 (fun b2=>JW [0,3] [(3,I (i:Int))] [[Sg b2 0 [Sr x1.name,Sr x1.value]]] (Je (Jc (Jf (Jf (Jd (Jb [0,2,0,2] [(17,Sr x1.name),(19,Sr x1.value)] (Jm 20 (I (KJ x1.name x1.value)) (JcJ G x1.name x1.value) (Jb [0] [(5,I (KJ x1.name x1.value))] (Je (Jc (Jg [0,0] [(22,Bo (!decide (KJ x1.name x1.value=0)))] (Jl (!decide (KJ x1.name x1.value=0)) (fun h3=>?_) (fun h3=>?_))))))))))))))))
 refine Jg [0,0] [(2,I (KJ x1.name x1.value))] (Jn (Jj (Ju (Jj (QV (Ju (Jj (Jo [0] [I (KJ x1.name x1.value)] (Jx (Jh _) (congrArg I (?_:(Kq l)=(KJ x1.name x1.value)).symm))))))))))
 unfold Kq;(rw [if_neg (by omega),hn];exact Ji8 hx1 ‹_›)
 refine Jq (Jc (Jf ?_))
 rcases Hs (decide ((i:Int) > 0)) with h4 | h4
 have h4d:=h4
 try simp only [BB] at h4d
 have e1:Ha.wrap ((i:Int)-1)=((i-1:Nat):Int):=(Hh _ (by omega)).trans (show (i:Int)-1=((i-1:Nat):Int) by omega)
 obtain ⟨x2,hx2⟩:=QS (l:=l) (k:=i-1) (by omega)
 obtain ⟨_,⟨rfl,w3,_⟩,hc2⟩:=RS.get h_l hx2
 refine Kt [] (Wm [(0,I (i:Int)),(1,Bo true),(2,Bo true),(3,Sl (At b1 o1) l.length c_l),(4,I (i:Int)),(5,I ((i-1:Nat):Int)),(6,Pt b1 (o1+(i-1)*2)),(7,Pt b1 (o1+(i-1)*2)),(8,Sr x2.name),(9,Pt b2 0),(10,Sr x1.name),(11,I (Yq x2.name x1.name)),(12,Bo (decide (Yq x2.name x1.name ≥ 0))),(13,Bo (decide (Yq x2.name x1.name ≥ 0)))] (Kl [] [(0,0),(2,0),(3,0),(4,0),(7,0),(9,0),(10,2),(12,0),(13,0)] [1,5,6,8,11] [(0,Sl (At b1 o1) l.length c_l),(9,Sl (At b1 o1) l.length c_l),(10,I (l.length:Int)),(11,I (i:Int)),(37,Bo (decide (Yq x2.name x1.name ≥ 0)))] (Kf ?_ (Kf ?_ (Kf ?_ (Kf ?_ (Kf ?_ KY))))) ?_))
 refine Jr 1 25 (Bo true) [(24,I (i:Int))] (fun X=>?_)
 exact K5 25 (Bo (decide ((i:Int) > 0))) (Bo true) (by rw [h4]) Jp
 refine Jr 5 29 (I ((i-1:Nat):Int)) [(26,Bo true),(28,I (i:Int))] (fun X=>?_)
 exact K5 29 (I (Ha.wrap ((i:Int)-1))) (I ((i-1:Nat):Int)) (by simp only [e1]) Jp
 refine Jr 6 30 (Pt b1 (o1+(i-1)*2)) [(26,Bo true),(27,Sl (At b1 o1) l.length c_l),(29,I ((i-1:Nat):Int))] (fun X=>?_)
 exact JV (b:=b1) (off:=o1) (len:=l.length) (cap:=c_l) (ik:=.i64) 30 111 2 (i-1) J4 Jp
 refine Jr 8 32 (Sr x2.name) [(26,Bo true),(31,Pt b1 (o1+(i-1)*2))] (fun X=>?_)
 exact JO 32 9 (cs:=[Sr x2.name,Sr x2.value]) 0 (Sr x2.name) hc2 Jp
 refine Jr 11 35 (I (Yq x2.name x1.name)) [(26,Bo true),(32,Sr x2.name),(34,Sr x1.name)] (fun X=>?_)
 exact Jm 35 (I (Yq x2.name x1.name)) (Ji7 G x2.name w3 x1.name w1) Jp
 refine Jc (Jl (decide (Yq x2.name x1.name ≥ 0)) (fun h5=>?_) (fun h5=>?_))
 refine Jg [0] [(2,I 3)] (Jn (Ju (Jj (QV (Ju (Jj (Jo [0] [I 3] (Jx (Jh _) (congrArg I (?_:(Kq l)=3).symm)))))))))
 unfold Kq;(rw [if_neg (by omega),hn];exact Ji9 hx1 ‹_› (by omega) ‹_› (by omega))
 exact Jq (JM (Jc (Jd (Jb [0,0] [(11,I (Ha.wrap ((i:Int)+1)))] (Kp 11 ((i:Int)+1) J4 (Je (Qy [] (Qh (i+1) ⟨J4,(by rw [hn];exact Jb6 hx1 ‹_› (by (intro hc_;simp_all;omega)))⟩ (by (try dsimp only);omega)))))))))
 have h4d:=h4
 try simp only [BB] at h4d
 refine Kt [] (Wm [(0,I (i:Int)),(1,Bo false),(2,Bo false),(3,undef),(4,undef),(5,undef),(6,undef),(7,undef),(8,undef),(9,undef),(10,undef),(11,undef),(12,undef),(13,Bo false)] (Kl [] [(0,0),(2,0),(3,1),(4,1),(5,1),(6,1),(7,1),(8,1),(9,1),(10,1),(11,1),(12,1),(13,0)] [1] [(0,Sl (At b1 o1) l.length c_l),(9,Sl (At b1 o1) l.length c_l),(10,I (l.length:Int)),(11,I (i:Int)),(37,Bo false)] (Kf ?_ KY) ?_))
 refine Jr 1 25 (Bo false) [(24,I (i:Int))] (fun X=>?_)
 exact K5 25 (Bo (decide ((i:Int) > 0))) (Bo false) (by rw [h4]) Jp
 exact Jc (Qr (Jq (JM (Jc (Jd (Jb [0,0] [(11,I (Ha.wrap ((i:Int)+1)))] (Kp 11 ((i:Int)+1) J4 (Je (Qy [] (Qh (i+1) ⟨J4,(by rw [hn];exact Jb6 hx1 ‹_› (by (intro hc_;omega)))⟩ (by (try dsimp only);omega)))))))))))
 refine KX (J1 (Kd (JS (Jc (Jg [0] [(2,I 0)] (Jn (Jo [0] [I 0] (Jx (Jh _) (congrArg I (?_:(Kq l)=0).symm)))))))))
 unfold Kq;(rw [if_neg (by omega),hn];(rw [Hq (by omega)];rfl))
theorem Jkw (G:J5) (vs_x:Bv) (x:Kc) (h_x:QK.R G vs_x x) (name:Bb) (hw_name:(name).length≤140737488351232) :QZ 67 #[.agg vs_x.toArray,Sr name] G (I (Wi x name)):=by
 obtain ⟨rfl,w1,_⟩:=h_x
 refine JP Tryz.func67 9 [(0,.agg #[Sr x.name,Sr x.value]),(1,Sr name)] rfl (fun w0 G0=>?_)
 refine Jf (Jd (Jv 2 #[Sr x.name,Sr x.value] 111 (fun b1=>Jb [0] [] (Je (Jc (Jf (Jd (Jb [0,2,0] [(6,Sr x.name),(7,Sr name)] (Jm 8 (I (Yq x.name name)) (Ji7 G x.name w1 name hw_name) (Jb [0] [(4,I (Yq x.name name))] (Je (Jc (Jn (Jo [0] [I (Yq x.name name)] (Jx (Jh _) (congrArg I (?_:(Wi x name)=(Yq x.name name)).symm))))))))))))))))
 rfl
theorem JpV (G:J5) (a_l:Ba) (c_l:Nat) (l:List Kc) (h_l:RS QK G a_l c_l l) (target:Bb) (hw_target:(target).length≤140737488351232) (k_cmp:FuncId) (caps_cmp:Array Value) (p_cmp:Kc→Bb→Int) (hk_cmp:JaV Tryz.prog k_cmp) (h_cmp:∀ (vs0:Bv) (x0:Kc) (hx0:QK.R G vs0 x0) (x1:Bb) (hx1:(x1).length≤140737488351232),VC Tryz.prog k_cmp (#[.agg vs0.toArray,Sr x1]++caps_cmp) G [] (fun u _ _=>u=I (p_cmp x0 x1))) :QZ 66 #[Sl a_l l.length c_l,Sr target,Fv k_cmp caps_cmp] G (.tuple #[I ((bsF l target p_cmp).1),Bo ((bsF l target p_cmp).2)]):=by
 refine JP Tryz.func66 49 [(0,Sl a_l l.length c_l),(1,Sr target),(2,Fv k_cmp caps_cmp)] rfl (fun w0 G0=>?_)
 refine Jg [0,0] [] (Jg [0,0,0] [(8,I (l.length:Int))] (Jg [0,0,0] [(9,I 0),(10,I (l.length:Int))] (Jf (Jy ?_))))
 have hlm_h_l:l.length≤9223372036854775807:=Hm (h_l).le (h_l).max
 refine Qc (σ:=Nat×Nat) (fun q_=>(q_.1≤q_.2∧q_.2≤l.length)∧(bsI (fun x=>p_cmp x target) l=Jao (fun x=>p_cmp x target) l l.length q_.1 q_.2)) (fun q_=>[(0,Sl a_l l.length c_l),(1,Sr target),(2,Fv k_cmp caps_cmp),(8,I (l.length:Int)),(9,I (q_.1:Int)),(10,I (q_.2:Int))]) (fun q_=>G) (fun q_=>[]) (fun q_=>q_.2-q_.1) (0,l.length) ⟨⟨Hr _,Hv _⟩,rfl⟩ (fun q_ hs=>?_)
 obtain ⟨i,j⟩:=q_
 obtain ⟨hj,hn⟩:=hs
 dsimp only at hj hn
 dsimp only
 refine Jf (Jg [0,0,0] [(17,Bo (decide ((i:Int)<(j:Int))))] (Jl (decide ((i:Int)<(j:Int))) (fun h1=>?_) (fun h1=>?_)))
 refine Jq (Jc (Jy (Jg [0,0,0,0,0,0,0] [(11,I (Ha.wrap ((HV.wrap (Ha.wrap ((i:Int)+(j:Int)))).fdiv (2 ^ 1))))] ?_)))
 have e1:Ha.wrap ((i:Int)+(j:Int))=(i:Int)+(j:Int):=Hh _ (by (have hf_:=h_l.fit;simp only [QK] at hf_;omega))
 have e2:HV.wrap ((i:Int)+(j:Int))=(i:Int)+(j:Int):=IntWalk.u64_in _ (by omega)
 have e3:((i:Int)+(j:Int)).fdiv (2 ^ 1)=(((i+j) / 2:Nat):Int):=by rw [Int.fdiv_eq_ediv_of_nonneg _ (by decide)];omega
 have e4:Ha.wrap (((i+j) / 2:Nat):Int)=(((i+j) / 2:Nat):Int):=Hh _ (by omega)
 refine QU 11 (I (((i+j) / 2:Nat):Int)) (show (I (Ha.wrap ((HV.wrap (Ha.wrap ((i:Int)+(j:Int)))).fdiv (2 ^ 1))):Value)=I (((i+j) / 2:Nat):Int) by simp only [e1,e2,e3,e4]) ?_
 clear e4 e3 e2 e1
 refine Jf (Jd (Jb [0,0,0] [(24,Fv k_cmp caps_cmp),(25,Sl a_l l.length c_l),(26,I (((i+j) / 2:Nat):Int))] ?_))
 obtain ⟨b1,o1,rfl⟩:=RS.addr h_l (k:=(i+j) / 2) (by omega)
 obtain ⟨x1,hx1⟩:=QS (l:=l) (k:=(i+j) / 2) (by omega)
 obtain ⟨_,⟨rfl,w1,w2⟩,hc1⟩:=RS.get h_l hx1
 refine JV (b:=b1) (off:=o1) (len:=l.length) (cap:=c_l) (ik:=.i64) 27 111 2 ((i+j) / 2) J4 (JO 28 111 (cs:=[Sr x1.name,Sr x1.value]) 0 (.agg #[Sr x1.name,Sr x1.value]) hc1 (Jb [0] [(29,Sr target)] (ZP (k:=k_cmp) (caps:=caps_cmp) (args:=#[.agg #[Sr x1.name,Sr x1.value],Sr target]) 30 (I (p_cmp x1 target)) hk_cmp (h_cmp [Sr x1.name,Sr x1.value] x1 (⟨rfl,w1,w2⟩) target ‹_›) (Jb [0] [(31,Bo (decide (p_cmp x1 target<0)))] (Je (Jc (Jl (decide (p_cmp x1 target<0)) (fun h2=>?_) (fun h2=>?_))))))))
 exact Jd (Jb [0,0,0] [(9,I (Ha.wrap ((((i+j) / 2:Nat):Int)+1)))] (Kp 9 ((((i+j) / 2:Nat):Int)+1) J4 (Je (JM (Qh ((i+j) / 2+1,j) ⟨(by (try dsimp only);omega),(by (try dsimp only);rw [hn];exact bs_lt J4 hj.2 hx1 ‹_›)⟩ (by (try dsimp only);omega))))))
 exact Jd (Jb [0,0] [(10,I (((i+j) / 2:Nat):Int))] (Je (JM (Qh (i,(i+j) / 2) ⟨(by (try dsimp only);omega),(by (try dsimp only);rw [hn];exact bs_ge J4 hj.2 hx1 J4)⟩ (by (try dsimp only);omega)))))
 refine KX (J1 (Kd (JS (Jc (Jf (Jd (Jb [0,0,0,0,0] [(35,I (i:Int)),(39,Bo (decide ((i:Int)<(l.length:Int))))] (QR [39] (decide ((i:Int)<(l.length:Int))) (fun h3=>?_) (fun h3=>?_)))))))))
 refine Jb [0,0,0] [(40,Fv k_cmp caps_cmp),(41,Sl a_l l.length c_l),(42,I (i:Int))] ?_
 obtain ⟨b2,o2,rfl⟩:=RS.addr h_l (k:=i) (by omega)
 obtain ⟨x2,hx2⟩:=QS (l:=l) (k:=i) (by omega)
 obtain ⟨_,⟨rfl,w3,w4⟩,hc2⟩:=RS.get h_l hx2
 refine JV (b:=b2) (off:=o2) (len:=l.length) (cap:=c_l) (ik:=.i64) 43 111 2 i J4 (JO 44 111 (cs:=[Sr x2.name,Sr x2.value]) 0 (.agg #[Sr x2.name,Sr x2.value]) hc2 (Jb [0] [(45,Sr target)] (ZP (k:=k_cmp) (caps:=caps_cmp) (args:=#[.agg #[Sr x2.name,Sr x2.value],Sr target]) 46 (I (p_cmp x2 target)) hk_cmp (h_cmp [Sr x2.name,Sr x2.value] x2 (⟨rfl,w3,w4⟩) target hw_target) (Jb [0,0,0,0] [(6,I (i:Int)),(7,Bo (decide (p_cmp x2 target=0)))] (Je (Jc (Jn (Jo [0,0] [I (i:Int),Bo (decide (p_cmp x2 target=0))] (Jx (Jh _) ?_)))))))))
 have hf_:(bsF l target p_cmp)=((i:Int),(decide (p_cmp x2 target=0))):=by
  unfold bsF;rw [hn,Jog (by omega)];(simp_all;done)
 · (try rw [hf_]);(simp only [QC];done)
 refine Jb [1,1,1,1,1,1,1,1,0,0,0] [(6,I (i:Int)),(7,Bo false)] (Je (Jc (Jn (Jo [0,0] [I (i:Int),Bo false] (Jx (Jh _) ?_)))))
 have hf_:(bsF l target p_cmp)=((i:Int),false):=by
  unfold bsF;rw [hn,Jog (by omega)];(simp_all;done)
 · (try rw [hf_]);(simp only [QC];done)
theorem JdA (G:J5) (a_l:Ba) (c_l:Nat) (l:List Kc) (h_l:RS QK G a_l c_l l) (name:Bb) (hw_name:(name).length≤140737488351232) :QZ 36 #[Sl a_l l.length c_l,Sr name] G (.tuple #[I ((JH l name).1),Bo ((JH l name).2.1),I ((JH l name).2.2)]):=by
 refine JP Tryz.func36 26 [(0,Sl a_l l.length c_l),(1,Sr name)] rfl (fun w0 G0=>?_)
 refine Jg [0,0,0] [] (Jf (Jf (Jd (Jb [0] [(10,Sl a_l l.length c_l)] (Jm 11 (I (Kq l)) (Vj G a_l c_l l h_l) (Jb [0] [(7,I (Kq l))] (Je (Jc (Jg [0,0] [(13,Bo (!decide (Kq l=0)))] (Jl (!decide (Kq l=0)) (fun h1=>?_) (fun h1=>?_)))))))))))
 refine Jg [0,0,0,0] [(4,I 0),(5,Bo false),(6,I (Kq l))] (Jn (Jj (Jo [0,0,0] [I 0,Bo false,I (Kq l)] (Jx (Jh _) ?_))))
 have hf_:(JH l name)=(0,false,(Kq l)):=by
  unfold JH;simp_all
 · (try rw [hf_]);(simp only [QC];done)
 refine Jq (Jc (Jf (Jf (Jd (Jb [0] [(15,Sr name)] (Jm 16 (Bo (KS name)) (Z4 G name) (Jb [0] [(17,Bo (!(KS name)))] (Je (Jc (Jl (!(KS name)) (fun h2=>?_) (fun h2=>?_)))))))))))
 refine Jg [0,0,0] [(4,I 0),(5,Bo false),(6,I 3)] (Jn (Jj (Jo [0,0,0] [I 0,Bo false,I 3] (Jx (Jh _) ?_))))
 have hf_:(JH l name)=(0,false,3):=by
  unfold JH;simp_all
 · (try rw [hf_]);(simp only [QC];done)
 refine Jq (Jc (Jf (Jd (Jb [0,0] [(19,Sl a_l l.length c_l),(20,Sr name)] (Jm 21 (.tuple #[I ((bsF l name (fun x0 x1=>Wi x0 x1)).1),Bo ((bsF l name (fun x0 x1=>Wi x0 x1)).2)]) (JpV G a_l c_l l h_l name hw_name 67 #[] (fun x0 x1=>Wi x0 x1) (fun _ _=>by kernel_rfl) (fun vs0 x0 hx0 x1 hx1=>by obtain ⟨rfl,w1,w2⟩:=hx0;exact Jkw G [Sr x0.name,Sr x0.value] x0 (⟨rfl,w1,w2⟩) x1 hx1)) (Jb [0,0,0,0,0] [(8,I ((bsF l name (fun x0 x1=>Wi x0 x1)).1)),(9,Bo ((bsF l name (fun x0 x1=>Wi x0 x1)).2))] (Je (Jc (Jg [0,0,0,0,0] [(4,I ((bsF l name (fun x0 x1=>Wi x0 x1)).1)),(5,Bo ((bsF l name (fun x0 x1=>Wi x0 x1)).2)),(6,I 0)] (Jn (Jo [0,0,0] [I ((bsF l name (fun x0 x1=>Wi x0 x1)).1),Bo ((bsF l name (fun x0 x1=>Wi x0 x1)).2),I 0] (Jx (Jh _) ?_))))))))))))
 have hf_:(JH l name)=(((bsF l name (fun x0 x1=>Wi x0 x1)).1),((bsF l name (fun x0 x1=>Wi x0 x1)).2),0):=by
  unfold JH;simp_all
 · (try rw [hf_]);(simp only [QC];done)
theorem Jjb (G:J5) (a_l:Ba) (c_l:Nat) (l:List Kc) (h_l:RS QK G a_l c_l l) (name:Bb) (hw_name:(name).length≤140737488351232) :YS 21 #[Sl a_l l.length c_l,Sr name] G [] (fun u G' L'=>u=.tuple #[Sr ((YP l name).1),Bo ((YP l name).2.1),I ((YP l name).2.2)]∧(((YP l name).1).length≤140737488351232)∧L'=[]):=by
 refine JP Tryz.func21 26 [(0,Sl a_l l.length c_l),(1,Sr name)] rfl (fun w0 G0=>?_)
 refine Jg [0,0,0] [] (Jf (Jd (Jb [0,0] [(11,Sl a_l l.length c_l),(12,Sr name)] (Jm 13 (.tuple #[I ((JH l name).1),Bo ((JH l name).2.1),I ((JH l name).2.2)]) (JdA G a_l c_l l h_l name hw_name) (Jb [0,0,0,0,0,0,0] [(7,I ((JH l name).1)),(8,Bo ((JH l name).2.1)),(9,I ((JH l name).2.2))] (Je (Jc (Jf (Jg [0,0] [(18,Bo (!((JH l name).2.1)))] (Jl (!((JH l name).2.1)) (fun h1=>?_) (fun h1=>?_)))))))))))
 refine Jg [0,0,0,0] [(4,Sr ([])),(5,Bo false),(6,I ((JH l name).2.2))] (Jn (Jj ?_))
 have hf1:YP l name=([],false,(JH l name).2.2):=by
  unfold YP;(simp_all;done)
 refine Jo [0,0,0] [Sr ([]),Bo false,I ((JH l name).2.2)] (JD [] (Jh _) ?_)
 rw [hf1]
 try dsimp only
 exact ⟨rfl,(Hb rfl),rfl⟩
 refine Jq (Jc (Jf (Jd (Jb [0,0] [(20,Sl a_l l.length c_l),(21,I ((JH l name).1))] ?_))))
 obtain ⟨kn1,hkn1⟩:∃ k_:Nat,(JH l name).1=(k_:Int):=⟨((JH l name).1).toNat,by (have q_:=YY (l:=l) (name:=name) ‹_›;omega)⟩
 have e1:(JH l name).1=(kn1:Int):=hkn1
 refine Kv 21 (I (kn1:Int)) (congrArg I e1) ?_
 obtain ⟨b1,o1,rfl⟩:=RS.addr h_l (k:=kn1) (by (have q_:=YY (l:=l) (name:=name) ‹_›;omega))
 obtain ⟨x1,hx1⟩:=QS (l:=l) (k:=kn1) (by (have q_:=YY (l:=l) (name:=name) ‹_›;omega))
 obtain ⟨_,⟨rfl,_,w2⟩,hc1⟩:=RS.get h_l hx1
 refine JV (b:=b1) (off:=o1) (len:=l.length) (cap:=c_l) (ik:=.i64) 22 111 2 kn1 (by (have q_:=YY (l:=l) (name:=name) ‹_›;omega)) (Jb [0] [(23,Pt b1 (o1+kn1*2+1))] (JO 24 9 (cs:=[Sr x1.name,Sr x1.value]) 1 (Sr x1.value) hc1 (Jb [0,0,0,0] [(4,Sr x1.value),(5,Bo true),(6,I ((JH l name).2.2))] (Je (Jc (Jn ?_))))))
 have hf2:YP l name=(x1.value,true,(JH l name).2.2):=by
  unfold YP;(simp_all;done)
 refine Jo [0,0,0] [Sr x1.value,Bo true,I ((JH l name).2.2)] (JD [] (Jh _) ?_)
 rw [hf2]
 try dsimp only
 exact ⟨rfl,w2,rfl⟩
def Jap (l:List Kc) (i:Nat) (x:Kc):List Kc:=l.take i++[x]++l.drop i
theorem JaK {l:List Kc} {i:Nat} {x:Kc} (h:i≤l.length):(Jap l i x).length=l.length+1:=by unfold Jap;simp;omega
theorem Jok {l:List Kc} {i:Nat} {x:Kc} (h:i=l.length):l++[x]=Jap l i x:=by subst h;simp [Jap]
theorem one2 {a b:Value} (ha:a.oneCell'=true) (hb:b.oneCell'=true):∀ u∈[a,b],u.oneCell'=true:=by
 intro u hu
 rcases HC.1 hu with rfl | hu
 · exact ha
 · rw [Hz.1 hu];exact hb
def Zo (l:List Kc) (name value:Bb):Int:=if (JH l name).2.2 ≠ 0 then (JH l name).2.2 else if KJ name value ≠ 0 then KJ name value else if (JH l name).2.1=false∧(l.length:Int)=24 then 7 else 0
def Qv (l:List Kc) (name value:Bb):List Kc×Int:=if Zo l name value ≠ 0 then ([],Zo l name value) else (if (JH l name).2.1=true then l.set (JH l name).1.toNat ⟨name,value⟩ else (Jap l (JH l name).1.toNat ⟨[],[]⟩).set (JH l name).1.toNat ⟨name,value⟩,0)
theorem Jol {l:List Kc} {i:Nat} {x y:Kc} (h:i≤l.length):(Jap l i x).set i y=Jap l i y:=by
 unfold Jap
 rw [List.append_assoc,List.set_append_right _ _ (by rw [Hg];omega),Hg,HE h,Nat.sub_self]
 simp
theorem Jom {l:List Kc} {i:Nat} {x:Kc} (h:i≤l.length) (p:Nat):(Jap l i x)[p]? = if p<i then l[p]? else if p=i then some x else l[p-1]?:=by
 unfold Jap
 rw [List.append_assoc]
 by_cases h1:p<i
 · rw [if_pos h1,HD (by rw [Hg];omega),List.getElem?_take,if_pos h1]
 ·
  rw [if_neg h1,HR (by rw [Hg];omega),Hg,HE h]
  by_cases h2:p=i
  · rw [if_pos h2,h2,Nat.sub_self];rfl
  ·
   rw [if_neg h2]
   obtain ⟨m,hm⟩:∃ m,p-i=m+1:=⟨p-i-1,by omega⟩
   rw [hm]
   show (l.drop i)[m]? = _
   rw [HP];congr 1;omega
theorem JeQ {l:List Kc} {name:Bb} (h:(JH l name).2.2=0):ZY l∧KS name=true∧JH l name=((bsF l name Wi).1,(bsF l name Wi).2,0):=by
 unfold JH at h ⊢
 split at h
 · contradiction
 split at h
 · cases h
 ·
  rename_i h1 h2
  rw [if_neg h1,if_neg h2]
  exact ⟨Qg.1 (Hl.1 h1),by simpa using h2,rfl⟩
theorem Zp {l:List Kc} {name:Bb} (h:(JH l name).2.2=0):0≤(JH l name).1∧(JH l name).1≤l.length∧l.length≤24:=by
 obtain ⟨h1,_,h3⟩:=JeQ h
 have:=Joh (fun x=>Wi x name) l
 have:=h1.len
 rw [h3];unfold bsF;simp only;omega
theorem JmB {l:List Kc} {name value:Bb} (h:(Qv l name value).2=0):(JH l name).2.2=0∧KJ name value=0∧((JH l name).2.1=true∨l.length<24):=by
 have h1:Zo l name value=0:=by
  unfold Qv at h;split at h
  · contradiction
  · rename_i h1;exact Hl.1 h1
 unfold Zo at h1
 by_cases e1:(JH l name).2.2=0
 ·
  rw [if_neg (by omega)] at h1
  by_cases e2:KJ name value=0
  ·
   rw [if_neg (by omega)] at h1
   refine ⟨e1,e2,?_⟩
   by_cases e3:(JH l name).2.1=false∧(l.length:Int)=24
   · rw [if_pos e3] at h1;cases h1
   ·
    cases hb:(JH l name).2.1 with
    | true=>exact .inl rfl
    | false =>
     refine .inr ?_
     have:=(Zp e1).2.2
     have:¬ (l.length:Int)=24:=fun hc=>e3 ⟨hb,hc⟩
     omega
  · rw [if_pos e2] at h1;exact absurd h1 e2
 · rw [if_pos e1] at h1;exact absurd h1 e1
theorem Jjc {l:List Kc} {name value:Bb} (h:¬ (Qv l name value).2=0):(Qv l name value).1=[]:=by
 revert h;unfold Qv;split <;> simp
theorem Jc4 {l:List Kc} {name value:Bb} (h:(Qv l name value).2=0):ZY l∧KS name=true∧ZY (Qv l name value).1∧(∀ y,y∈(Qv l name value).1 ↔ y=⟨name,value⟩∨(y∈l∧y.name ≠ name)):=by
 obtain ⟨e1,e2,e3⟩:=JmB h
 obtain ⟨hok,hp,hf⟩:=JeQ e1
 have hs:=JfZ hok name
 have hbd:=Joh (fun x=>Wi x name) l
 have hi:(JH l name).1.toNat=bsI (fun x=>Wi x name) l:=by rw [hf];unfold bsF;simp
 have hE:Zo l name value=0:=by
  unfold Qv at h;split at h
  · contradiction
  · rename_i h1;exact Hl.1 h1
 have hval:Qv l name value=(if (JH l name).2.1=true then l.set (JH l name).1.toNat ⟨name,value⟩ else (Jap l (JH l name).1.toNat ⟨[],[]⟩).set (JH l name).1.toNat ⟨name,value⟩,0):=by
  unfold Qv;rw [if_neg (by omega)]
 rw [hval,hi]
 generalize hk:bsI (fun x=>Wi x name) l=k at *
 refine ⟨hok,hp,?_⟩
 cases hb:(JH l name).2.1 with
 | true =>
  rw [if_pos rfl]
  have hb2:(bsF l name Wi).2=true:=by rw [hf] at hb;exact hb
  obtain ⟨x,hx,hxn⟩:=Joj hb2
  rw [hk] at hx
  have hkl:=(Hc.1 hx).1
  have huni:∀ p y,l[p]? = some y→y.name=name→p=k:=by
   intro p y hy hyn
   rcases Nat.lt_trichotomy p k with hc | hc | hc
   · have:=hok.ord p k y x hc hy hx;rw [hyn,← hxn,YI.2 rfl] at this;omega
   · exact hc
   · have:=hok.ord k p x y hc hx hy;rw [hyn,hxn,YI.2 rfl] at this;omega
  refine ⟨⟨by rw [Hw];exact hok.len,fun y hy=>?_,fun p q y z hpq hy hz=>?_⟩,fun y=>?_⟩
  ·
   rcases List.mem_or_eq_of_mem_set hy with hy | rfl
   · exact hok.ok y hy
   · exact e2
  ·
   rw [HI] at hy hz
   have gy:∃ y',l[p]? = some y'∧y'.name=y.name:=by
    split at hy
    ·
     rename_i e;subst e
     (try rw [if_pos hkl] at hy)
     exact ⟨x,hx,by rw [← Hp.inj hy];exact hxn⟩
    · exact ⟨y,hy,rfl⟩
   have gz:∃ z',l[q]? = some z'∧z'.name=z.name:=by
    split at hz
    ·
     rename_i e;subst e
     (try rw [if_pos hkl] at hz)
     exact ⟨x,hx,by rw [← Hp.inj hz];exact hxn⟩
    · exact ⟨z,hz,rfl⟩
   obtain ⟨y',gy1,gy2⟩:=gy
   obtain ⟨z',gz1,gz2⟩:=gz
   rw [← gy2,← gz2];exact hok.ord p q y' z' hpq gy1 gz1
  ·
   constructor
   ·
    intro hy
    obtain ⟨p,hp2⟩:=Hx hy
    rw [HI] at hp2
    split at hp2
    · rename_i e;subst e;(try rw [if_pos hkl] at hp2);exact .inl (Hp.inj hp2).symm
    ·
     rename_i e
     exact .inr ⟨Ho hp2,fun hc=>e (huni p y hp2 hc).symm⟩
   ·
    rintro (rfl | ⟨hy,hne⟩)
    · exact Ho (i:=k) (by rw [HI,if_pos rfl,if_pos hkl])
    ·
     obtain ⟨p,hp2⟩:=Hx hy
     exact Ho (i:=p) (by rw [HI,if_neg (fun e=>hne (by subst e;rw [hx] at hp2;rw [← Hp.inj hp2];exact hxn))];exact hp2)
 | false =>
  rw [if_neg (by simp),Jol hbd]
  have hb3:(bsF l name Wi).2=false:=by rw [hf] at hb;exact hb
  have hb2:¬ (bsF l name Wi).2=true:=by rw [hb3];simp
  have hno:∀ y∈l,y.name ≠ name:=fun y hy hc=>hb2 ((Joi hok name).2 ⟨y,hy,hc⟩)
  have hlt:∀ p y,p<k→l[p]? = some y→Yq y.name name<0:=hs.1
  have hgt:∀ p y,k≤p→l[p]? = some y→Yq name y.name<0:=by
   intro p y hp2 hy
   have h1:=hs.2 p y hp2 hy
   have h2:Yq y.name name ≠ 0:=fun hc=>hno y (Ho hy) (YI.1 hc)
   exact JpT.1 (by omega)
  have hl24:l.length<24:=by rcases e3 with e3 | e3;rw [e3] at hb;cases hb;exact e3
  refine ⟨⟨by rw [JaK hbd];omega,fun y hy=>?_,fun p q y z hpq hy hz=>?_⟩,fun y=>?_⟩
  ·
   unfold Jap at hy
   simp only [HF,Hz] at hy
   rcases hy with (hy | rfl) | hy
   · exact hok.ok y (HK hy)
   · exact e2
   · exact hok.ok y (HL hy)
  ·
   rw [Jom hbd] at hy hz
   by_cases p1:p<k
   ·
    rw [if_pos p1] at hy
    by_cases q1:q<k
    · rw [if_pos q1] at hz;exact hok.ord p q y z hpq hy hz
    ·
     rw [if_neg q1] at hz
     by_cases q2:q=k
     · rw [if_pos q2] at hz;rw [← Hp.inj hz];exact hlt p y p1 hy
     · rw [if_neg q2] at hz;exact hok.ord p (q-1) y z (by omega) hy hz
   ·
    rw [if_neg p1] at hy
    rw [if_neg (by omega),if_neg (by omega)] at hz
    by_cases p2:p=k
    · rw [if_pos p2] at hy;rw [← Hp.inj hy];exact hgt (q-1) z (by omega) hz
    · rw [if_neg p2] at hy;exact hok.ord (p-1) (q-1) y z (by omega) hy hz
  ·
   unfold Jap
   simp only [HF,Hz]
   constructor
   ·
    rintro ((hy | rfl) | hy)
    · exact .inr ⟨HK hy,hno y (HK hy)⟩
    · exact .inl rfl
    · exact .inr ⟨HL hy,hno y (HL hy)⟩
   ·
    rintro (rfl | ⟨hy,_⟩)
    · exact .inl (.inr rfl)
    ·
     rw [← HW k l] at hy
     rcases HF.1 hy with hy | hy
     · exact .inl (.inl hy)
     · exact .inr hy
theorem Jjd (l:List Kc) (name value:Bb):(Qv l name value).1.length≤24:=by
 by_cases h:(Qv l name value).2=0
 · exact (Jc4 h).2.2.1.len
 · rw [Jjc h];simp
theorem JmC {l:List Kc} {name value:Bb} (h:¬ (JH l name).2.2=0):Qv l name value=([],(JH l name).2.2):=by
 have:Zo l name value=(JH l name).2.2:=by unfold Zo;rw [if_pos h]
 unfold Qv;rw [if_pos (by omega),this]
theorem JmD {l:List Kc} {name value:Bb} (h0:(JH l name).2.2=0) (h:¬ KJ name value=0):Qv l name value=([],KJ name value):=by
 have:Zo l name value=KJ name value:=by unfold Zo;rw [if_neg (by omega),if_pos h]
 unfold Qv;rw [if_pos (by omega),this]
theorem JmE {l:List Kc} {name value:Bb} (h0:(JH l name).2.2=0) (h1:KJ name value=0) (h:(JH l name).2.1=false∧(l.length:Int)=24):Qv l name value=([],7):=by
 have:Zo l name value=7:=by unfold Zo;rw [if_neg (by omega),if_neg (by omega),if_pos h]
 unfold Qv;rw [if_pos (by omega),this]
theorem JmF {l:List Kc} {name value:Bb} {k:Nat} (h0:(JH l name).2.2=0) (h1:KJ name value=0) (h:(JH l name).2.1=true) (hk:(JH l name).1=(k:Int)):Qv l name value=(l.set k ⟨name,value⟩,0):=by
 have:Zo l name value=0:=by unfold Zo;rw [if_neg (by omega),if_neg (by omega),if_neg (by rw [h];simp)]
 unfold Qv;rw [if_neg (by omega),if_pos h,hk,Int.toNat_natCast]
theorem JmG {l:List Kc} {name value:Bb} {k:Nat} (h0:(JH l name).2.2=0) (h1:KJ name value=0) (h:(JH l name).2.1=false) (h2:(JH l name).2.1=false→¬ (l.length:Int)=24) (hk:(JH l name).1=(k:Int)):Qv l name value=((Jap l k ⟨[],[]⟩).set k ⟨name,value⟩,0):=by
 have:Zo l name value=0:=by unfold Zo;rw [if_neg (by omega),if_neg (by omega),if_neg (fun hc=>h2 hc.1 hc.2)]
 unfold Qv;rw [if_neg (by omega),if_neg (by rw [h];simp),hk,Int.toNat_natCast]
set_option maxRecDepth 4000 in
theorem Jhp (G:J5) (a:Ba) (c:Nat) (l:List Kc) (r:Bg) (hr:JR QK G a c l r) (bv:Nat) (x:Kc) (hx0:(x.name).length≤140737488351232) (hx1:(x.value).length≤140737488351232) (i:Nat) (hi:i≤l.length) (hsm:l.length≤1000):JfI Tryz.prog 212 #[Sl a l.length c,I (i:Int),Sl (At bv 0) 1 1] G [r,[Vm 111 bv 0 [Sr x.name,Sr x.value]]] (fun u G' L'=>∃ a' c' r',u=Sl a' (Jap l i x).length c'∧JR QK G' a' c' (Jap l i x) r'∧L'=[r']):=by
 intro Lr
 have hlc:=JR.lec hr
 have hcm:=JR.mx hr
 refine JP Tryz.func212 95 [(0,Sl a l.length c),(1,I (i:Int)),(2,Sl (At bv 0) 1 1)] rfl (fun w0 G0=>?_)
 show TC _ _ _ _ _ (r::[Vm 111 bv 0 [Sr x.name,Sr x.value]]::Lr)
 refine Jg [0] [] (Jf (Jd (Jb [0,0] [(10,Sl a l.length c),(11,I (i:Int))] (JiK (a:=a) (len:=l.length) (cap:=c) 12 2 (some (I (i:Int))) none i l.length (.inr ⟨_,rfl⟩) (.inl ⟨rfl,rfl⟩) hi hlc (fun a9=>Je (Jc (Jg [0,0,0] [(7,I (1:Int))] (Jf (Jg [0,0] [(16,Bo (decide ((1:Int)=0)))] (Jl (decide ((1:Int)=0)) (fun h1=>?_) (fun h1=>?_)))))))))))
 exfalso;omega
 refine Jq (Jc (Jg [0,0,0] [(8,I (l.length:Int))] (Jf (Jg [0,0,0] [(22,Bo (decide ((i:Int)=(l.length:Int))))] (Jl (decide ((i:Int)=(l.length:Int))) (fun h2=>?_) (fun h2=>?_))))))
 refine Jax 1 (Jf (Jd (Jb [0,0] [(23,Sl a l.length c),(24,Sl (At bv 0) 1 1)] (Qd (b:=bv) (cs:=[Sr x.name,Sr x.value]) 25 111 0 1 (E:=QK) x hr ⟨rfl,‹_›,‹_›⟩ J4 (by simp only [QK];omega) (fun a1 c1 r1 hr1=>Jb [0] [(6,Sl a1 ((l++[x]).length) c1)] (Je (Jc (Jn (Jj ?_)))))))))
 have e_:l++[x]=Jap l i x:=Jok (by omega)
 have en_:(l++[x]).length=(Jap l i x).length:=by (rw [JaK hi];(try simp only [Hd,He,Hf]) <;> omega)
 exact Jo [0] [Sl a1 ((l++[x]).length) c1] (KB (Lr:=Lr) [r1] (Jh _) (⟨_,_,_,congrArg (fun n=>Sl a1 n c1) en_,(by rw [← e_];exact hr1),rfl⟩))
 refine Jq (Jc (Jf ?_))
 obtain ⟨b,off,css,spare,rfl,rfl,hc1,hc2,hc3,hsp,_,hmax,hone⟩:=JR.opened hr (by omega)
 refine Jg [0,0,0,0,0,0] [(31,Bo (decide (Ha.wrap ((l.length:Int)+(1:Int)) > (c:Int))))] ?_
 have e1:Ha.wrap ((l.length:Int)+(1:Int))=(l.length:Int)+(1:Int):=Hh _ (by omega)
 refine QU 31 (Bo (decide ((l.length:Int)+(1:Int) > (c:Int)))) (show (Bo (decide (Ha.wrap ((l.length:Int)+(1:Int)) > (c:Int))):Value)=Bo (decide ((l.length:Int)+(1:Int) > (c:Int))) by simp only [e1]) ?_
 clear e1
 refine Jl (decide ((l.length:Int)+(1:Int) > (c:Int))) (fun h3=>?_) (fun h3=>?_)
 refine Jax 1 (Jf (Jd (Jb [0,0] [(32,Sl (At b off) l.length c),(33,I (i:Int))] (Jaw (b:=b) (off:=off) (len:=l.length) (cap:=c) 34 2 (some (I (i:Int))) i (.inr ⟨_,rfl⟩) J4 (Jb [0,0,0,0,0] [(39,I (Ha.wrap ((Ha.wrap ((l.length:Int)+(1:Int)))-(i:Int))))] ?_)))))
 have e2:Ha.wrap ((l.length:Int)+(1:Int))=(l.length:Int)+(1:Int):=Hh _ (by omega)
 have e3:Ha.wrap (((l.length:Int)+(1:Int))-(i:Int))=((l.length+1-i:Nat):Int):=(Hh _ (by omega)).trans (show ((l.length:Int)+(1:Int))-(i:Int)=((l.length+1-i:Nat):Int) by omega)
 refine Kv 39 (I ((l.length+1-i:Nat):Int)) (show (I (Ha.wrap ((Ha.wrap ((l.length:Int)+(1:Int)))-(i:Int))):Value)=I ((l.length+1-i:Nat):Int) by simp only [e2,e3]) ?_
 clear e3 e2
 refine JfJ (b:=b) (off:=off) (cap:=c) (F:=(css.flatten++spare)) 40 0 111 2 32 (l.length+1-i) i J4 J4 J4 (by rw [Hd,K3 hc3,hc1];simp only [QK];omega) J4 (fun b9 c9 zs hz1 hz2 hz3=>Jb [0] [(9,Sl (At b9 0) (i+(l.length+1-i)) c9)] (Je (Jc (Jf (Jd (Jb [0,0] [(41,Sl (At b9 0) (i+(l.length+1-i)) c9),(42,I (i:Int))] (ZC (b:=b9) (off:=0) (len:=(i+(l.length+1-i))) (cap:=c9) 43 2 (some (I (i:Int))) none i (i+(l.length+1-i)) (.inr ⟨_,rfl⟩) (.inl ⟨rfl,rfl⟩) J4 J4 J4 (Jb [0] [(44,Sl (At bv 0) 1 1)] (YB (b:=b9) (off:=0) (p:=(i*2)) (nd:=(i+(l.length+1-i)-i)) (cd:=(c9-i)) (bs:=bv) (os:=0) (ns:=1) (cs:=1) (F:=((css.flatten++spare).take (i*2)++zs)) 45 0 2 [Sr x.name,Sr x.value] (by rw [show H1 1 (i+(l.length+1-i)-i)=1 from by simp only [HX];split <;> omega];rfl) (by rw [hz3];simp only [He,Hf];omega) (one2 rfl rfl) (.inr ⟨2,0,[Sr x.name,Sr x.value],0,rfl,rfl,fun j v hv=>by rw [H2];exact hv⟩) (Je (Jc (Jf ?_))))))))))))
 have e4:Ha.wrap ((i:Int)+(1:Int))=((i+1:Nat):Int):=(Hh _ (by omega)).trans (show (i:Int)+(1:Int)=((i+1:Nat):Int) by omega)
 refine Kt [8] (Wm [(0,Sl (At b9 0) (i+(l.length+1-i)) c9),(1,I (i:Int)),(2,I (1:Int)),(3,I ((i+1:Nat):Int)),(4,Sl (At b9 (0+(i+1)*2)) ((i+(l.length+1-i))-(i+1)) (c9-(i+1))),(5,Sl (At b off) l.length c),(6,I (i:Int)),(7,Sl (At b (off+i*2)) (l.length-i) (c-i))] (JF [] [(0,0),(1,0),(2,0),(5,0),(6,0)] [3,4,7] [8] (Kf ?_ (Kf ?_ (Kf ?_ KY))) (Kf ?_ KY)))
 refine Jr 3 49 (I ((i+1:Nat):Int)) [(47,I (i:Int)),(48,I (1:Int))] (fun X=>?_)
 exact K5 49 (I (Ha.wrap ((i:Int)+(1:Int)))) (I ((i+1:Nat):Int)) (by simp only [e4]) Jp
 refine Jr 4 50 (Sl (At b9 (0+(i+1)*2)) ((i+(l.length+1-i))-(i+1)) (c9-(i+1))) [(46,Sl (At b9 0) (i+(l.length+1-i)) c9),(49,I ((i+1:Nat):Int))] (fun X=>?_)
 exact ZC (b:=b9) (off:=0) (len:=(i+(l.length+1-i))) (cap:=c9) 50 2 (some (I ((i+1:Nat):Int))) none (i+1) (i+(l.length+1-i)) (.inr ⟨_,rfl⟩) (.inl ⟨rfl,rfl⟩) J4 J4 J4 Jp
 refine Jr 7 53 (Sl (At b (off+i*2)) (l.length-i) (c-i)) [(51,Sl (At b off) l.length c),(52,I (i:Int))] (fun X=>?_)
 exact ZC (b:=b) (off:=off) (len:=l.length) (cap:=c) 53 2 (some (I (i:Int))) none i l.length (.inr ⟨_,rfl⟩) (.inl ⟨rfl,rfl⟩) J4 J4 J4 Jp
 refine Jz 8 [(50,Sl (At b9 (0+(i+1)*2)) ((i+(l.length+1-i))-(i+1)) (c9-(i+1))),(53,Sl (At b (off+i*2)) (l.length-i) (c-i))] (fun X=>?_)
 refine YB (b:=b9) (off:=0) (p:=((i+1)*2)) (nd:=(i+(l.length+1-i)-(i+1))) (cd:=(c9-(i+1))) (bs:=b) (os:=(off+i*2)) (ns:=(l.length-i)) (cs:=(c-i)) (F:=(Qz ((css.flatten++spare).take (i*2)++zs) (i*2) [Sr x.name,Sr x.value])) 54 0 2 (css.drop i).flatten (by rw [WL hc3,hc1,show H1 (l.length-i) (i+(l.length+1-i)-(i+1))=l.length-i from by simp only [HX];split <;> omega];rfl) (by rw [Zk (by rw [hz3];simp only [He,Hf];omega),hz3,WL hc3,hc1];simp only [QK];omega) (Jfi i hone) (.inr ⟨1,off,(css.flatten++spare),i*2,rfl,rfl,Jdp (sz:=2) hc3 J4⟩) (JA [(8,I ((H1 (l.length-i) (i+(l.length+1-i)-(i+1)):Nat):Int))] (Kl [0,1,2,3,4,5,6,7] [] [] [(9,Sl (At b9 0) (i+(l.length+1-i)) c9)] (Hi _) (Jc (Jg [0,0] [(6,Sl (At b9 0) (i+(l.length+1-i)) c9)] (Jn (Jj ?_))))))
 have en_:i+(l.length+1-i)=(Jap l i x).length:=by (rw [JaK hi];(try simp only [Hd,He,Hf]) <;> omega)
 exact Jo [0] [Sl (At b9 0) (i+(l.length+1-i)) c9] (KB (Lr:=Lr) [[Sg b9 0 (Qz (Qz ((css.flatten++spare).take (i*2)++zs) (i*2) [Sr x.name,Sr x.value]) ((i+1)*2) (css.drop i).flatten)]] (Jh _) (⟨_,_,_,congrArg (fun n=>Sl (At b9 0) n c9) en_,(JR.insG (spare:=spare) i hi hc1 hc2 ⟨rfl,hx0,hx1⟩ hz3 J4 hz2),rfl⟩))
 refine Jq (Jc (Jf (Jd (Jb [0,0,0,0] [(56,Sl (At b off) l.length c),(59,I (Ha.wrap ((l.length:Int)+(1:Int))))] ?_))))
 have e5:Ha.wrap ((l.length:Int)+(1:Int))=((l.length+1:Nat):Int):=(Hh _ (by omega)).trans (show (l.length:Int)+(1:Int)=((l.length+1:Nat):Int) by omega)
 refine Kv 59 (I ((l.length+1:Nat):Int)) (congrArg I e5) ?_
 clear e5
 refine Jaw (b:=b) (off:=off) (len:=l.length) (cap:=c) 60 2 (some (I ((l.length+1:Nat):Int))) (l.length+1) (.inr ⟨_,rfl⟩) J4 (Jb [0] [(0,Sl (At b off) (l.length+1) c)] (Je (Jc (Jf (Jf (Jd (Jb [0,0,0,0,0] [(61,Sl (At bv 0) 1 1),(62,Sl (At b off) (l.length+1) c),(65,I (Ha.wrap ((i:Int)+(1:Int))))] ?_)))))))
 have e6:Ha.wrap ((i:Int)+(1:Int))=((i+1:Nat):Int):=(Hh _ (by omega)).trans (show (i:Int)+(1:Int)=((i+1:Nat):Int) by omega)
 refine Kv 65 (I ((i+1:Nat):Int)) (congrArg I e6) ?_
 clear e6
 refine ZC (b:=b) (off:=off) (len:=(l.length+1)) (cap:=c) 66 2 (some (I ((i+1:Nat):Int))) none (i+1) (l.length+1) (.inr ⟨_,rfl⟩) (.inl ⟨rfl,rfl⟩) J4 J4 J4 ?_
 refine Jhf (f:=249) (args:=#[Sl (At bv 0) 1 1,Sl (At b (off+(i+1)*2)) ((l.length+1)-(i+1)) (c-(i+1))]) 67 (Bo false) (fun w hw=>?_) ?_
 rw [run_callFunc_extern (e:=Extern.SlicesOverlaps.overlaps #[44,44] #[4]) Tryz.func249 (by kernel_rfl) (by kernel_rfl) (by kernel_rfl) (by kernel_rfl),Jhg hw (i:=1) (j:=0) rfl (by simp) rfl (by rw [Hd,K3 hc3,hc1,hsp];simp only [QK];omega) (by decide) 44 4 111 2 (by kernel_rfl) (fun w=>by kernel_rfl)]
 rfl
 refine Jb [0] [(68,Bo true)] (Je (Jc (J0 (Jax 1 (Jf ?_)))))
 have e7:Ha.wrap ((i:Int)+(1:Int))=((i+1:Nat):Int):=(Hh _ (by omega)).trans (show (i:Int)+(1:Int)=((i+1:Nat):Int) by omega)
 refine Kt [8] (Wm [(0,Sl (At b off) (l.length+1) c),(1,I (i:Int)),(2,I (1:Int)),(3,I ((i+1:Nat):Int)),(4,Sl (At b (off+(i+1)*2)) ((l.length+1)-(i+1)) (c-(i+1))),(5,Sl (At b off) (l.length+1) c),(6,I (i:Int)),(7,Sl (At b (off+i*2)) ((l.length+1)-i) (c-i))] (JF [] [(0,0),(1,0),(2,0),(5,0),(6,0)] [3,4,7] [8] (Kf ?_ (Kf ?_ (Kf ?_ KY))) (Kf ?_ KY)))
 refine Jr 3 72 (I ((i+1:Nat):Int)) [(70,I (i:Int)),(71,I (1:Int))] (fun X=>?_)
 exact K5 72 (I (Ha.wrap ((i:Int)+(1:Int)))) (I ((i+1:Nat):Int)) (by simp only [e7]) Jp
 refine Jr 4 73 (Sl (At b (off+(i+1)*2)) ((l.length+1)-(i+1)) (c-(i+1))) [(69,Sl (At b off) (l.length+1) c),(72,I ((i+1:Nat):Int))] (fun X=>?_)
 exact ZC (b:=b) (off:=off) (len:=(l.length+1)) (cap:=c) 73 2 (some (I ((i+1:Nat):Int))) none (i+1) (l.length+1) (.inr ⟨_,rfl⟩) (.inl ⟨rfl,rfl⟩) J4 J4 J4 Jp
 refine Jr 7 76 (Sl (At b (off+i*2)) ((l.length+1)-i) (c-i)) [(74,Sl (At b off) (l.length+1) c),(75,I (i:Int))] (fun X=>?_)
 exact ZC (b:=b) (off:=off) (len:=(l.length+1)) (cap:=c) 76 2 (some (I (i:Int))) none i (l.length+1) (.inr ⟨_,rfl⟩) (.inl ⟨rfl,rfl⟩) J4 J4 J4 Jp
 refine Jz 8 [(73,Sl (At b (off+(i+1)*2)) ((l.length+1)-(i+1)) (c-(i+1))),(76,Sl (At b (off+i*2)) ((l.length+1)-i) (c-i))] (fun X=>?_)
 refine YB (b:=b) (off:=off) (p:=((i+1)*2)) (nd:=(l.length+1-(i+1))) (cd:=(c-(i+1))) (bs:=b) (os:=(off+i*2)) (ns:=(l.length+1-i)) (cs:=(c-i)) (F:=(css.flatten++spare)) 77 0 2 (css.drop i).flatten (by rw [WL hc3,hc1,show H1 (l.length+1-i) (l.length+1-(i+1))=l.length-i from by simp only [HX];split <;> omega];rfl) (by rw [Hd,K3 hc3,hc1,hsp];simp only [QK];rw [WL hc3,hc1];simp only [QK];omega) (Jfi i hone) (.inr ⟨0,off,(css.flatten++spare),i*2,rfl,rfl,Jdp (sz:=2) hc3 J4⟩) (JA [(8,I ((H1 (l.length+1-i) (l.length+1-(i+1)):Nat):Int))] (Kl [0,1,2,3,4,5,6,7] [] [] [(0,Sl (At b off) (l.length+1) c),(1,I (i:Int)),(2,Sl (At bv 0) 1 1)] (Hi _) (Jc (Jf (Jd (Jb [0,0] [(78,Sl (At b off) (l.length+1) c),(79,I (i:Int))] (ZC (b:=b) (off:=off) (len:=(l.length+1)) (cap:=c) 80 2 (some (I (i:Int))) none i (l.length+1) (.inr ⟨_,rfl⟩) (.inl ⟨rfl,rfl⟩) J4 J4 J4 (Jb [0] [(81,Sl (At bv 0) 1 1)] (YB (b:=b) (off:=off) (p:=(i*2)) (nd:=(l.length+1-i)) (cd:=(c-i)) (bs:=bv) (os:=0) (ns:=1) (cs:=1) (F:=(Qz (css.flatten++spare) ((i+1)*2) (css.drop i).flatten)) 82 0 2 [Sr x.name,Sr x.value] (by rw [show H1 1 (l.length+1-i)=1 from by simp only [HX];split <;> omega];rfl) (by rw [Zk (by rw [Hd,K3 hc3,hc1,hsp];simp only [QK];rw [WL hc3,hc1];simp only [QK];omega)];rw [Hd,K3 hc3,hc1,hsp];simp only [QK];simp only [He,Hf];omega) (one2 rfl rfl) (.inr ⟨1,0,[Sr x.name,Sr x.value],0,rfl,rfl,fun j v hv=>by rw [H2];exact hv⟩) (Je (Jc (Jg [0,0] [(6,Sl (At b off) (l.length+1) c)] (Jn (Jj ?_))))))))))))))
 have en_:l.length+1=(Jap l i x).length:=by (rw [JaK hi];done)
 exact Jo [0] [Sl (At b off) (l.length+1) c] (KB (Lr:=Lr) [[Sg b off (Qz (Qz (css.flatten++spare) ((i+1)*2) (css.drop i).flatten) (i*2) [Sr x.name,Sr x.value])]] (Jh _) (⟨_,_,_,congrArg (fun n=>Sl (At b off) n c) en_,(JR.insP i hi hc1 hc2 ⟨rfl,hx0,hx1⟩ hsp J4 hcm),rfl⟩))
set_option maxRecDepth 20000 in
abbrev JdB (kn1:Nat) (l:List Kc):=Jap l kn1 (⟨[],[]⟩:Kc)
abbrev JdC (kn3:Nat) (l:List Kc):=Jap l kn3 (⟨[],[]⟩:Kc)
theorem Jje (G:J5) (a_l:Ba) (c_l:Nat) (l:List Kc) (h_l:RS QK G a_l c_l l) (name:Bb) (hw_name:(name).length≤140737488351232) (value:Bb) (hw_value:(value).length≤140737488351232) :YS 165 #[Sl a_l l.length c_l,Sr name,Sr value] G [] (fun u G' L'=>∃ (a1:Ba) (c2:Nat) (r3:Bg),u=.tuple #[Sl a1 (((Qv l name value).1).length) c2,I ((Qv l name value).2)]∧(JR QK G' a1 c2 ((Qv l name value).1) r3)∧L'=[r3]):=by
 refine JP Tryz.func165 52 [(0,Sl a_l l.length c_l),(1,Sr name),(2,Sr value)] rfl (fun w0 G0=>?_)
 refine Jg [0,0] [] (Jf (Jd (Jb [0,0] [(13,Sl a_l l.length c_l),(14,Sr name)] (Jm 15 (.tuple #[I ((JH l name).1),Bo ((JH l name).2.1),I ((JH l name).2.2)]) (JdA G a_l c_l l h_l name hw_name) (Jb [0,0,0,0,0,0,0] [(8,I ((JH l name).1)),(9,Bo ((JH l name).2.1)),(10,I ((JH l name).2.2))] (Je (Jc (Jf (Jg [0,0] [(20,Bo (decide ((JH l name).2.2=0)))] (Jl (decide ((JH l name).2.2=0)) (fun h1=>?_) (fun h1=>?_)))))))))))
 refine Jd (Jb [0,0] [(21,Sr name),(22,Sr value)] (Jm 23 (I (KJ name value)) (JcJ G name value) (Jb [0] [(10,I (KJ name value))] (Je (Jc (Jf (Jy (Jg [0,0,0] [(24,Bo (!decide (KJ name value=0)))] (Jl (!decide (KJ name value=0)) (fun h2=>?_) (fun h2=>?_))))))))))
 refine Jg [0,0,0] [(6,Sl none 0 0),(7,I (KJ name value))] (Jn (Ju (Jj (ZB (Jk 0 ?_)))))
 have hf1:Qv l name value=([],KJ name value):=by
  exact JmD ‹_› ‹_›
 refine Jo [0,0] [Sl none 0 0,I (KJ name value)] (JD [[]] (Jh _) ?_)
 rw [hf1]
 try dsimp only
 exact ⟨none,0,([]),rfl,(JR.none QK _),rfl⟩
 refine Jf (Jd (Jb [0,0,0] [(31,Bo (!((JH l name).2.1)))] (Ks (!((JH l name).2.1)) [31] [0,0,0,0] [1,1,1,0] (fun bb=>[(35,Bo (bb && (decide ((l.length:Int)=24))))]) (Jb [0] [(28,Bo ((!((JH l name).2.1)) && (decide ((l.length:Int)=24))))] (Je (Jc (Jl ((!((JH l name).2.1)) && (decide ((l.length:Int)=24))) (fun h3=>?_) (fun h3=>?_))))))))
 refine Jg [0,0] [(6,Sl none 0 0),(7,I 7)] (Jn (Ju (Jj (ZB (Jk 0 ?_)))))
 have hf2:Qv l name value=([],7):=by
  exact JmE ‹_› ‹_› ‹_›
 refine Jo [0,0] [Sl none 0 0,I 7] (JD [[]] (Jh _) ?_)
 rw [hf2]
 try dsimp only
 exact ⟨none,0,([]),rfl,(JR.none QK _),rfl⟩
 refine Jq (JM (Jc (Jf (Jd (Jb [0] [(36,Sl a_l l.length c_l)] (JN 37 (YU G a_l c_l l h_l) (fun v G1 L1 hl1 hp=>?_)))))))
 obtain ⟨a1,c1,r1,rfl,hr1,rfl⟩:=hp
 refine Jb [0] [(11,Sl a1 l.length c1)] (Je (Jc (Jf (Jg [0,0] [(39,Bo (!((JH l name).2.1)))] (Jl (!((JH l name).2.1)) (fun h4=>?_) (fun h4=>?_))))))
 refine Jd (Jb [0,0,0] [(40,Sl a1 l.length c1),(41,I ((JH l name).1)),(42,.agg #[Sr ([]),Sr ([])])] (Jea 43 1 #[Sr ([]),Sr ([])] 111 (fun b1=>?_)))
 obtain ⟨kn1,hkn1⟩:∃ k_:Nat,(JH l name).1=(k_:Int):=⟨((JH l name).1).toNat,by (have q_:=Zp (l:=l) (name:=name) ‹_›;omega)⟩
 have e1:(JH l name).1=(kn1:Int):=hkn1
 refine Kv 8 (I (kn1:Int)) (congrArg I e1) (Kv 41 (I (kn1:Int)) (congrArg I e1) (Jw 0 (Jw 1 (Qi (Ls:=[r1,[Vm 111 b1 0 [Sr ([]),Sr ([])]]]) (Lr:=[]) 44 (Jhp G1 a1 c1 l r1 hr1 b1 (⟨[],[]⟩:Kc) (Hb rfl) (Hb rfl) kn1 (by (have q_:=Zp (l:=l) (name:=name) ‹_›;omega)) (by (have q_:=Zp (l:=l) (name:=name) ‹_›;omega))) (fun v G2 L1 hl2 hp=>?_)))))
 obtain ⟨a2,c2,_,rfl,hr2,rfl⟩:=hp
 refine Jb [0] [(11,Sl a2 ((JdB kn1 l).length) c2)] (Je (Jc (Jf (Jd (Jb [0,0,0,0,0] [(45,Sl a2 ((JdB kn1 l).length) c2),(46,I (kn1:Int)),(49,.agg #[Sr name,Sr value])] ?_)))))
 obtain ⟨_,hx1⟩:=QS (l:=Jap l kn1 (⟨[],[]⟩:Kc)) (k:=kn1) (by (have q_:=Zp (l:=l) (name:=name) ‹_›;(rw [JaK (by omega)];omega)))
 obtain ⟨b2,o1,_,_,⟨rfl,_,_⟩,ha1,_,_⟩:=JR.ix hr2 hx1
 refine Qs (b:=b2) (off:=o1) (len:=(JdB kn1 l).length) (cap:=c2) (ik:=.i64) 50 111 2 kn1 ha1 (by (have q_:=Zp (l:=l) (name:=name) ‹_›;(rw [JaK (by omega)];omega))) (YC (b:=b2) (off:=o1) 0 hr2 kn1 (⟨name,value⟩:Kc) ha1 (by (have q_:=Zp (l:=l) (name:=name) ‹_›;(rw [JaK (by omega)];omega))) (.agg #[Sr name,Sr value]) [Sr name,Sr value] ⟨rfl,hw_name,hw_value⟩ (fun r3 hr3=>?_))
 have e2:(JdB kn1 l).length=((JdB kn1 l).set kn1 (⟨name,value⟩:Kc)).length:=(Hw ..).symm
 refine Kv 11 (Sl a2 (((JdB kn1 l).set kn1 (⟨name,value⟩:Kc)).length) c2) (congrArg (Sl a2 · c2) e2) (Je (Jc (Jg [0,0,0] [(6,Sl a2 (((JdB kn1 l).set kn1 (⟨name,value⟩:Kc)).length) c2),(7,I 0)] (Jn (Jk 0 ?_)))))
 have hf3:Qv l name value=((JdB kn1 l).set kn1 (⟨name,value⟩:Kc),0):=by
  exact JmG ‹_› ‹_› ‹_› ‹_› ‹_›
 refine Jo [0,0] [Sl a2 (((JdB kn1 l).set kn1 (⟨name,value⟩:Kc)).length) c2,I 0] (JD [r3] (Ja hl1 hl2) ?_)
 rw [hf3]
 try dsimp only
 exact ⟨a2,c2,r3,rfl,hr3,rfl⟩
 refine Jq (Jc (Jf (Jd (Jb [0,0,0,0,0] [(45,Sl a1 l.length c1),(46,I ((JH l name).1)),(49,.agg #[Sr name,Sr value])] ?_))))
 obtain ⟨kn2,hkn2⟩:∃ k_:Nat,(JH l name).1=(k_:Int):=⟨((JH l name).1).toNat,by (have q_:=Zp (l:=l) (name:=name) ‹_›;omega)⟩
 have e3:(JH l name).1=(kn2:Int):=hkn2
 refine Kv 46 (I (kn2:Int)) (congrArg I e3) ?_
 obtain ⟨_,hx2⟩:=QS (l:=l) (k:=kn2) (by (have q_:=Zp (l:=l) (name:=name) ‹_›;(have q1_:=YY (l:=l) (name:=name) ‹_›;omega)))
 obtain ⟨b3,o2,_,_,⟨rfl,_,_⟩,ha2,_,_⟩:=JR.ix hr1 hx2
 refine Qs (b:=b3) (off:=o2) (len:=l.length) (cap:=c1) (ik:=.i64) 50 111 2 kn2 ha2 (by (have q_:=Zp (l:=l) (name:=name) ‹_›;(have q1_:=YY (l:=l) (name:=name) ‹_›;omega))) (YC (b:=b3) (off:=o2) 0 hr1 kn2 (⟨name,value⟩:Kc) ha2 (by (have q_:=Zp (l:=l) (name:=name) ‹_›;(have q1_:=YY (l:=l) (name:=name) ‹_›;omega))) (.agg #[Sr name,Sr value]) [Sr name,Sr value] ⟨rfl,hw_name,hw_value⟩ (fun r4 hr4=>?_))
 have e4:l.length=(l.set kn2 (⟨name,value⟩:Kc)).length:=(Hw ..).symm
 refine Kv 11 (Sl a1 ((l.set kn2 (⟨name,value⟩:Kc)).length) c1) (congrArg (Sl a1 · c1) e4) (Je (Jc (Jg [0,0,0] [(6,Sl a1 ((l.set kn2 (⟨name,value⟩:Kc)).length) c1),(7,I 0)] (Jn (Jk 0 ?_)))))
 have hf4:Qv l name value=(l.set kn2 (⟨name,value⟩:Kc),0):=by
  exact JmF ‹_› ‹_› ‹_› ‹_›
 refine Jo [0,0] [Sl a1 ((l.set kn2 (⟨name,value⟩:Kc)).length) c1,I 0] (JD [r4] hl1 ?_)
 rw [hf4]
 try dsimp only
 exact ⟨a1,c1,r4,rfl,hr4,rfl⟩
 refine Jq (Jc (Jf (Jy (Jg [0,0,0] [(24,Bo (!decide ((JH l name).2.2=0)))] (Jl (!decide ((JH l name).2.2=0)) (fun h5=>?_) (fun h5=>?_))))))
 refine Jg [0,0,0] [(6,Sl none 0 0),(7,I ((JH l name).2.2))] (Jn (Ju (Jj (ZB (Jk 0 ?_)))))
 have hf5:Qv l name value=([],(JH l name).2.2):=by
  exact JmC ‹_›
 refine Jo [0,0] [Sl none 0 0,I ((JH l name).2.2)] (JD [[]] (Jh _) ?_)
 rw [hf5]
 try dsimp only
 exact ⟨none,0,([]),rfl,(JR.none QK _),rfl⟩
 refine Jf (Jd (Jb [0,0,0] [(31,Bo (!((JH l name).2.1)))] (Ks (!((JH l name).2.1)) [31] [0,0,0,0] [1,1,1,0] (fun bb=>[(35,Bo (bb && (decide ((l.length:Int)=24))))]) (Jb [0] [(28,Bo ((!((JH l name).2.1)) && (decide ((l.length:Int)=24))))] (Je (Jc (Jl ((!((JH l name).2.1)) && (decide ((l.length:Int)=24))) (fun h6=>?_) (fun h6=>?_))))))))
 refine Jg [0,0] [(6,Sl none 0 0),(7,I 7)] (Jn (Ju (Jj (ZB (Jk 0 ?_)))))
 have hf6:Qv l name value=([],7):=by
  (exfalso;omega)
 refine Jo [0,0] [Sl none 0 0,I 7] (JD [[]] (Jh _) ?_)
 rw [hf6]
 try dsimp only
 exact ⟨none,0,([]),rfl,(JR.none QK _),rfl⟩
 refine Jq (JM (Jc (Jf (Jd (Jb [0] [(36,Sl a_l l.length c_l)] (JN 37 (YU G a_l c_l l h_l) (fun v G3 L1 hl3 hp=>?_)))))))
 obtain ⟨a3,c3,r5,rfl,hr5,rfl⟩:=hp
 refine Jb [0] [(11,Sl a3 l.length c3)] (Je (Jc (Jf (Jg [0,0] [(39,Bo (!((JH l name).2.1)))] (Jl (!((JH l name).2.1)) (fun h7=>?_) (fun h7=>?_))))))
 refine Jd (Jb [0,0,0] [(40,Sl a3 l.length c3),(41,I ((JH l name).1)),(42,.agg #[Sr ([]),Sr ([])])] (Jea 43 1 #[Sr ([]),Sr ([])] 111 (fun b4=>?_)))
 obtain ⟨kn3,hkn3⟩:∃ k_:Nat,(JH l name).1=(k_:Int):=⟨((JH l name).1).toNat,by omega⟩
 have e5:(JH l name).1=(kn3:Int):=hkn3
 refine Kv 8 (I (kn3:Int)) (congrArg I e5) (Kv 41 (I (kn3:Int)) (congrArg I e5) (Jw 0 (Jw 1 (Qi (Ls:=[r5,[Vm 111 b4 0 [Sr ([]),Sr ([])]]]) (Lr:=[]) 44 (Jhp G3 a3 c3 l r5 hr5 b4 (⟨[],[]⟩:Kc) (Hb rfl) (Hb rfl) kn3 J4 J4) (fun v G4 L1 hl4 hp=>?_)))))
 obtain ⟨a4,c4,_,rfl,hr6,rfl⟩:=hp
 refine Jb [0] [(11,Sl a4 ((JdC kn3 l).length) c4)] (Je (Jc (Jf (Jd (Jb [0,0,0,0,0] [(45,Sl a4 ((JdC kn3 l).length) c4),(46,I (kn3:Int)),(49,.agg #[Sr name,Sr value])] ?_)))))
 obtain ⟨_,hx3⟩:=QS (l:=Jap l kn3 (⟨[],[]⟩:Kc)) (k:=kn3) (by omega)
 obtain ⟨b5,o3,_,_,⟨rfl,_,_⟩,ha3,_,_⟩:=JR.ix hr6 hx3
 refine Qs (b:=b5) (off:=o3) (len:=(JdC kn3 l).length) (cap:=c4) (ik:=.i64) 50 111 2 kn3 ha3 J4 (YC (b:=b5) (off:=o3) 0 hr6 kn3 (⟨name,value⟩:Kc) ha3 J4 (.agg #[Sr name,Sr value]) [Sr name,Sr value] ⟨rfl,hw_name,hw_value⟩ (fun r7 hr7=>?_))
 have e6:(JdC kn3 l).length=((JdC kn3 l).set kn3 (⟨name,value⟩:Kc)).length:=(Hw ..).symm
 refine Kv 11 (Sl a4 (((JdC kn3 l).set kn3 (⟨name,value⟩:Kc)).length) c4) (congrArg (Sl a4 · c4) e6) (Je (Jc (Jg [0,0,0] [(6,Sl a4 (((JdC kn3 l).set kn3 (⟨name,value⟩:Kc)).length) c4),(7,I 0)] (Jn (Jk 0 ?_)))))
 have hf7:Qv l name value=((JdC kn3 l).set kn3 (⟨name,value⟩:Kc),0):=by
  (exfalso;omega)
 refine Jo [0,0] [Sl a4 (((JdC kn3 l).set kn3 (⟨name,value⟩:Kc)).length) c4,I 0] (JD [r7] (Ja hl3 hl4) ?_)
 rw [hf7]
 try dsimp only
 exact ⟨a4,c4,r7,rfl,hr7,rfl⟩
 refine Jq (Jc (Jf (Jd (Jb [0,0,0,0,0] [(45,Sl a3 l.length c3),(46,I ((JH l name).1)),(49,.agg #[Sr name,Sr value])] ?_))))
 obtain ⟨kn4,hkn4⟩:∃ k_:Nat,(JH l name).1=(k_:Int):=⟨((JH l name).1).toNat,by omega⟩
 have e7:(JH l name).1=(kn4:Int):=hkn4
 refine Kv 46 (I (kn4:Int)) (congrArg I e7) ?_
 obtain ⟨_,hx4⟩:=QS (l:=l) (k:=kn4) (by omega)
 obtain ⟨b6,o4,_,_,⟨rfl,_,_⟩,ha4,_,_⟩:=JR.ix hr5 hx4
 refine Qs (b:=b6) (off:=o4) (len:=l.length) (cap:=c3) (ik:=.i64) 50 111 2 kn4 ha4 J4 (YC (b:=b6) (off:=o4) 0 hr5 kn4 (⟨name,value⟩:Kc) ha4 J4 (.agg #[Sr name,Sr value]) [Sr name,Sr value] ⟨rfl,hw_name,hw_value⟩ (fun r8 hr8=>?_))
 have e8:l.length=(l.set kn4 (⟨name,value⟩:Kc)).length:=(Hw ..).symm
 refine Kv 11 (Sl a3 ((l.set kn4 (⟨name,value⟩:Kc)).length) c3) (congrArg (Sl a3 · c3) e8) (Je (Jc (Jg [0,0,0] [(6,Sl a3 ((l.set kn4 (⟨name,value⟩:Kc)).length) c3),(7,I 0)] (Jn (Jk 0 ?_)))))
 have hf8:Qv l name value=(l.set kn4 (⟨name,value⟩:Kc),0):=by
  (exfalso;omega)
 refine Jo [0,0] [Sl a3 ((l.set kn4 (⟨name,value⟩:Kc)).length) c3,I 0] (JD [r8] hl3 ?_)
 rw [hf8]
 try dsimp only
 exact ⟨a3,c3,r8,rfl,hr8,rfl⟩
def isB (b:UInt8):Bool:=b == 48 || b == 49
def YL (c:Int):Bool:=decide (c=48) || decide (c=49)
theorem Ja1 (b:UInt8):YL (b.toNat:Int)=isB b:=by
 have e1:((b.toNat:Int)=48) ↔ b=48:=⟨fun h=>UInt8.toNat_inj.1 (by have q:b.toNat=48:=(by omega);simpa using q),fun h=>by subst h;rfl⟩
 have e2:((b.toNat:Int)=49) ↔ b=49:=⟨fun h=>UInt8.toNat_inj.1 (by have q:b.toNat=49:=(by omega);simpa using q),fun h=>by subst h;rfl⟩
 unfold YL isB;rw [HG];simp [e1,e2]
def Jaa (s:Bb):Bb:=s.dropWhile isB
def YZ (s:Bb):Bb:=(s.reverse.dropWhile isB).reverse
def Jbp (s:Bb):Bb:=Jaa (YZ s)
theorem Jkx {s:Bb} {y:UInt8} (h:s[0]? = some y) (hb:isB y=true):Jaa s=Jaa (s.drop 1):=by
 cases s with
 | nil=>cases h
 | cons x r=>simp at h;subst h;simp [Jaa,Hu,hb]
theorem JmH {s:Bb} {y:UInt8} (h:s[0]? = some y) (hb:isB y=false):Jaa s=s:=by
 cases s with
 | nil=>cases h
 | cons x r=>simp at h;subst h;simp [Jaa,Hu,hb]
theorem JlD {s:Bb} {y:UInt8} (h:s[s.length-1]? = some y):s=s.take (s.length-1)++[y]:=by
 obtain ⟨hl,e⟩:=Hc.1 h
 have:=HW (s.length-1) s
 rw [Hj hl,e,Hq (by omega)] at this
 exact this.symm
theorem Jky {s:Bb} {y:UInt8} (h:s[s.length-1]? = some y) (hb:isB y=true):YZ s=YZ (s.take (s.length-1)):=by
 have e:=JlD h
 generalize hr:s.take (s.length-1)=r at *
 rw [e];unfold YZ;rw [List.reverse_append];simp [Hu,hb]
theorem JmI {s:Bb} {y:UInt8} (h:s[s.length-1]? = some y) (hb:isB y=false):YZ s=s:=by
 have e:=JlD h
 generalize hr:s.take (s.length-1)=r at *
 rw [e];unfold YZ;rw [List.reverse_append];simp [Hu,hb]
theorem Jon {s:Bb} (h:((s.length:Nat):Int)≤0):s=[]:=List.eq_nil_of_length_eq_zero (by omega)
theorem JmJ {s:Bb} (h:((s.length:Nat):Int)≤0):Jaa s=s:=by rw [Jon h];rfl
theorem JmK {s:Bb} (h:((s.length:Nat):Int)≤0):YZ s=s:=by rw [Jon h];rfl
theorem Ja8 {p:UInt8→Bool}:∀ {s:Bb},s.dropWhile p=[] ↔ ∀ b∈s,p b=true
 | []=>by simp
 | x::r=>by
  rw [Hu]
  split
  · rename_i h;rw [Ja8];simp [h]
  · rename_i h;simp [h]
theorem Jb7 {p:UInt8→Bool}:∀ {s:Bb} {x:UInt8},(s.dropWhile p).head? = some x→p x=false
 | [],_,h=>by cases h
 | y::r,x,h=>by
  rw [Hu] at h
  split at h
  · exact Jb7 h
  · rename_i hy;simp at h;subst h;simpa using hy
theorem Jhq {s:Bb}:Jbp s=[] ↔ ∀ b∈s,isB b=true:=by
 unfold Jbp Jaa
 rw [Ja8]
 constructor
 ·
  intro h
  by_cases e:s.reverse.dropWhile isB=[]
  · rw [Ja8] at e;simpa using e
  ·
   exfalso
   obtain ⟨x,hx⟩:∃ x,(s.reverse.dropWhile isB).head? = some x:=by
    cases hh:s.reverse.dropWhile isB with
    | nil=>exact absurd hh e
    | cons x r=>exact ⟨x,rfl⟩
   have h1:=Jb7 hx
   have h2:x∈YZ s:=by unfold YZ;rw [HS];exact List.mem_of_mem_head? hx
   rw [h x h2] at h1;cases h1
 ·
  intro h b hb
  unfold YZ at hb
  rw [HS] at hb
  exact h b (HS.1 ((HU _).subset hb))
theorem JmL (s:Bb):(YZ s).length≤s.length:=by
 unfold YZ;rw [List.length_reverse];have:=(HU (p:=isB) (l:=s.reverse)).length_le;rw [List.length_reverse] at this;exact this
def Jek:Bv:=(List.range 256).map fun (j:Nat)=>Bo (YL (j:Int))
theorem Joo {k:Nat} (hk:k<256):Jek[k]? = some (Bo (YL (k:Int))):=by
 unfold Jek;simp [hk]
theorem asc_at {G:J5} {b k:Nat} {cs:Bv} (hz:∀ j v,cs[j]? = some v→G b (0+j)=some v) (hc:cs=Jek) (hk:k<256):∀ j v,[Bo (YL (k:Int))][j]? = some v→G b (0+k*1+j)=some v:=by
 intro j v hv
 cases j with
 | zero =>
  simp at hv;subst hv hc
  have:=hz k _ (Joo hk)
  rw [Nat.mul_one,Nat.add_zero];exact this
 | succ j=>simp at hv
set_option maxRecDepth 4000 in
theorem Jkz (G:J5):VC Tryz.prog 236 #[Sr [48,49]] G [] (fun u G' L'=>u=.tuple #[.agg Jek.toArray,Bo true]):=by
 refine JP Tryz.func236 21 [(0,Sr ([48,49]))] rfl (fun w0 G0=>?_)
 refine Jf (Jd (Jv 2 #[Bo false,Bo false,Bo false,Bo false,Bo false,Bo false,Bo false,Bo false,Bo false,Bo false,Bo false,Bo false,Bo false,Bo false,Bo false,Bo false,Bo false,Bo false,Bo false,Bo false,Bo false,Bo false,Bo false,Bo false,Bo false,Bo false,Bo false,Bo false,Bo false,Bo false,Bo false,Bo false,Bo false,Bo false,Bo false,Bo false,Bo false,Bo false,Bo false,Bo false,Bo false,Bo false,Bo false,Bo false,Bo false,Bo false,Bo false,Bo false,Bo false,Bo false,Bo false,Bo false,Bo false,Bo false,Bo false,Bo false,Bo false,Bo false,Bo false,Bo false,Bo false,Bo false,Bo false,Bo false,Bo false,Bo false,Bo false,Bo false,Bo false,Bo false,Bo false,Bo false,Bo false,Bo false,Bo false,Bo false,Bo false,Bo false,Bo false,Bo false,Bo false,Bo false,Bo false,Bo false,Bo false,Bo false,Bo false,Bo false,Bo false,Bo false,Bo false,Bo false,Bo false,Bo false,Bo false,Bo false,Bo false,Bo false,Bo false,Bo false,Bo false,Bo false,Bo false,Bo false,Bo false,Bo false,Bo false,Bo false,Bo false,Bo false,Bo false,Bo false,Bo false,Bo false,Bo false,Bo false,Bo false,Bo false,Bo false,Bo false,Bo false,Bo false,Bo false,Bo false,Bo false,Bo false,Bo false,Bo false,Bo false,Bo false,Bo false,Bo false,Bo false,Bo false,Bo false,Bo false,Bo false,Bo false,Bo false,Bo false,Bo false,Bo false,Bo false,Bo false,Bo false,Bo false,Bo false,Bo false,Bo false,Bo false,Bo false,Bo false,Bo false,Bo false,Bo false,Bo false,Bo false,Bo false,Bo false,Bo false,Bo false,Bo false,Bo false,Bo false,Bo false,Bo false,Bo false,Bo false,Bo false,Bo false,Bo false,Bo false,Bo false,Bo false,Bo false,Bo false,Bo false,Bo false,Bo false,Bo false,Bo false,Bo false,Bo false,Bo false,Bo false,Bo false,Bo false,Bo false,Bo false,Bo false,Bo false,Bo false,Bo false,Bo false,Bo false,Bo false,Bo false,Bo false,Bo false,Bo false,Bo false,Bo false,Bo false,Bo false,Bo false,Bo false,Bo false,Bo false,Bo false,Bo false,Bo false,Bo false,Bo false,Bo false,Bo false,Bo false,Bo false,Bo false,Bo false,Bo false,Bo false,Bo false,Bo false,Bo false,Bo false,Bo false,Bo false,Bo false,Bo false,Bo false,Bo false,Bo false,Bo false,Bo false,Bo false,Bo false,Bo false,Bo false,Bo false,Bo false,Bo false,Bo false,Bo false,Bo false,Bo false,Bo false,Bo false,Bo false,Bo false,Bo false,Bo false,Bo false,Bo false,Bo false,Bo false,Bo false] 316 (fun b1=>Jb [0] [] (Je (Jc (Jf (Jg [0] [(4,I 0)] (Jy (Jd4 3 (WA (Jf (Jg [0,0,0,0] [(9,Bo true)] (J0 (Jq (Jc (Jf (Jy (Jg [0,0,0,0] [(5,Y 48)] (Jf ?_)))))))))))))))))))
 refine Jg [0,0] [(16,Bo false)] (Qr (Jq (Jc (Jd (JW [0,0,3] [] [[Sg b1 0 [Bo false,Bo false,Bo false,Bo false,Bo false,Bo false,Bo false,Bo false,Bo false,Bo false,Bo false,Bo false,Bo false,Bo false,Bo false,Bo false,Bo false,Bo false,Bo false,Bo false,Bo false,Bo false,Bo false,Bo false,Bo false,Bo false,Bo false,Bo false,Bo false,Bo false,Bo false,Bo false,Bo false,Bo false,Bo false,Bo false,Bo false,Bo false,Bo false,Bo false,Bo false,Bo false,Bo false,Bo false,Bo false,Bo false,Bo false,Bo false,Bo true,Bo false,Bo false,Bo false,Bo false,Bo false,Bo false,Bo false,Bo false,Bo false,Bo false,Bo false,Bo false,Bo false,Bo false,Bo false,Bo false,Bo false,Bo false,Bo false,Bo false,Bo false,Bo false,Bo false,Bo false,Bo false,Bo false,Bo false,Bo false,Bo false,Bo false,Bo false,Bo false,Bo false,Bo false,Bo false,Bo false,Bo false,Bo false,Bo false,Bo false,Bo false,Bo false,Bo false,Bo false,Bo false,Bo false,Bo false,Bo false,Bo false,Bo false,Bo false,Bo false,Bo false,Bo false,Bo false,Bo false,Bo false,Bo false,Bo false,Bo false,Bo false,Bo false,Bo false,Bo false,Bo false,Bo false,Bo false,Bo false,Bo false,Bo false,Bo false,Bo false,Bo false,Bo false,Bo false,Bo false,Bo false,Bo false,Bo false,Bo false,Bo false,Bo false,Bo false,Bo false,Bo false,Bo false,Bo false,Bo false,Bo false,Bo false,Bo false,Bo false,Bo false,Bo false,Bo false,Bo false,Bo false,Bo false,Bo false,Bo false,Bo false,Bo false,Bo false,Bo false,Bo false,Bo false,Bo false,Bo false,Bo false,Bo false,Bo false,Bo false,Bo false,Bo false,Bo false,Bo false,Bo false,Bo false,Bo false,Bo false,Bo false,Bo false,Bo false,Bo false,Bo false,Bo false,Bo false,Bo false,Bo false,Bo false,Bo false,Bo false,Bo false,Bo false,Bo false,Bo false,Bo false,Bo false,Bo false,Bo false,Bo false,Bo false,Bo false,Bo false,Bo false,Bo false,Bo false,Bo false,Bo false,Bo false,Bo false,Bo false,Bo false,Bo false,Bo false,Bo false,Bo false,Bo false,Bo false,Bo false,Bo false,Bo false,Bo false,Bo false,Bo false,Bo false,Bo false,Bo false,Bo false,Bo false,Bo false,Bo false,Bo false,Bo false,Bo false,Bo false,Bo false,Bo false,Bo false,Bo false,Bo false,Bo false,Bo false,Bo false,Bo false,Bo false,Bo false,Bo false,Bo false,Bo false,Bo false,Bo false,Bo false,Bo false,Bo false,Bo false,Bo false,Bo false,Bo false,Bo false,Bo false,Bo false,Bo false,Bo false,Bo false,Bo false,Bo false]]] (Je (JM (Jc (Jd (Jb [0,0,0] [(4,I 1)] (Je (WR (WA (Jf (Jg [0,0,0,0] [(9,Bo true)] (J0 (Jq (Jc (Jf (Jy ?_))))))))))))))))))))
 refine Jg [0,0,0,0] [(5,Y 49)] (Jf (Jg [0,0] [(16,Bo false)] (Qr (Jq (Jc (Jd (JW [0,0,3] [] [[Sg b1 0 Jek]] (Je (JM (Jc (Jd (Jb [0,0,0] [(4,I 2)] (Je (WR (WA (Jf (Jg [0,0,0,0] [(9,Bo false)] (Qr ?_))))))))))))))))))
 refine KX (J1 (J1 (JS (Jc (Jg [2,3,0] [(3,Bo true)] (Jn (Jo [0,0] [.agg Jek.toArray,Bo true] (Jx (Jh _) ?_))))))))
 rfl
theorem Jf0 (G:J5) (b_as:Nat) (hz_as:∀ j v,(Jek:Bv)[j]? = some v→G b_as (0+j)=some v) (c:Int) (hw_c:0≤c∧c<256) :QZ 260 #[Pt b_as 0,Y c] G (Bo (YL c)):=by
 refine JP Tryz.func260 10 [(0,Pt b_as 0),(1,Y c)] rfl (fun w0 G0=>?_)
 refine Jg [0] [] (Jf (Jd (Jb [0,0,0] [(6,Y c),(7,Pt b_as 0)] ?_)))
 obtain ⟨kn1,hkn1⟩:∃ k_:Nat,c=(k_:Int):=⟨(c).toNat,by omega⟩
 have e1:c=(kn1:Int):=hkn1
 refine Kv 6 (Y (kn1:Int)) (congrArg Y e1) (Jmc (b:=b_as) (off:=0) (ik:=.u8) 8 4 1 256 kn1 J4 (JO (o':=0+kn1*1) 9 4 (cs:=[Bo (YL (kn1:Int))]) 0 (Bo (YL (kn1:Int))) (asc_at hz_as rfl J4) (Jb [0] [(4,Bo (YL (kn1:Int)))] (Je (Jc (Jn (Jo [0] [Bo (YL (kn1:Int))] (Jx (Jh _) (congrArg Bo (?_:(YL c)=(YL (kn1:Int))).symm)))))))))
 rw [hkn1]
theorem JmM (G:J5) (s:Bb) (hw_s:(s).length≤140737488351232) (b_as:Nat) (hz_as:∀ j v,(Jek:Bv)[j]? = some v→G b_as (0+j)=some v) :QZ 237 #[Sr s,Pt b_as 0] G (Sr (Jaa s)):=by
 refine JP Tryz.func237 16 [(0,Sr s),(1,Pt b_as 0)] rfl (fun w0 G0=>?_)
 refine Jg [0] [] (Jf (Jy ?_))
 refine Qc (σ:=Bb) (fun q_=>(q_.length≤140737488351232)∧(Jaa s=Jaa q_)) (fun q_=>[(0,Sr q_),(1,Pt b_as 0)]) (fun q_=>G) (fun q_=>[]) (fun q_=>q_.length) s ⟨hw_s,rfl⟩ (fun q_ hs=>?_)
 revert hs;revert q_;intro t hs
 obtain ⟨ht,hn⟩:=hs
 dsimp only
 refine Jf (Jg [0,0,0] [(7,Bo (decide (((t).length:Int) > 0)))] (Jl (decide (((t).length:Int) > 0)) (fun h1=>?_) (fun h1=>?_)))
 refine Jq (Jc (Jy (Jf (Jf (Jd (Jb [0,0] [(8,Pt b_as 0),(9,Sr t)] ?_))))))
 obtain ⟨y1,hy1⟩:=QS (l:=t) (k:=0) (by omega)
 have hb_y1:=y1.toNat_lt
 refine Jbk (ik:=.i64) 10 0 y1 hy1 (Jm 11 (Bo (YL (y1.toNat:Int))) (Jf0 G b_as hz_as (y1.toNat:Int) J4) (Jb [0] [(12,Bo (!(YL (y1.toNat:Int))))] (Je (Jc (Jl (!(YL (y1.toNat:Int))) (fun h2=>?_) (fun h2=>?_))))))
 refine KX (J1 (VF rfl (Kd (JS (Jc (Jg [0,0] [(4,Sr t)] (Jn (Jo [0] [Sr t] (Jx (Jh _) (congrArg Sr (?_:(Jaa s)=t).symm))))))))))
 rw [hn];exact JmH hy1 (by simp_all [Ja1])
 exact Jq (Jc (Jd (Jb [0] [(13,Sr t)] (Jmd (l:=t) 14 (some (I 1)) none 1 0 (.inr ⟨_,rfl⟩) (.inl ⟨rfl,rfl⟩) J4 (Jb [0] [(0,Sr (t.drop 1))] (Je (JM (Qh (t.drop 1) ⟨(by (try dsimp only);(try simp only [Hy,Hg]);omega),(by (try dsimp only);rw [hn];exact Jkx hy1 (by simp_all [Ja1]))⟩ (by (try dsimp only);(try simp only [Hy,Hg]);omega)))))))))
 refine KX (J1 (Kd (JS (Jc (Jg [0,0] [(4,Sr t)] (Jn (Jo [0] [Sr t] (Jx (Jh _) (congrArg Sr (?_:(Jaa s)=t).symm)))))))))
 rw [hn];exact JmJ (by omega)
theorem JmN (G:J5) (s:Bb) (hw_s:(s).length≤140737488351232) (b_as:Nat) (hz_as:∀ j v,(Jek:Bv)[j]? = some v→G b_as (0+j)=some v) :QZ 238 #[Sr s,Pt b_as 0] G (Sr (YZ s)):=by
 refine JP Tryz.func238 22 [(0,Sr s),(1,Pt b_as 0)] rfl (fun w0 G0=>?_)
 refine Jg [0] [] (Jf (Jy ?_))
 refine Qc (σ:=Bb) (fun q_=>(q_.length≤140737488351232)∧(YZ s=YZ q_)) (fun q_=>[(0,Sr q_),(1,Pt b_as 0)]) (fun q_=>G) (fun q_=>[]) (fun q_=>q_.length) s ⟨hw_s,rfl⟩ (fun q_ hs=>?_)
 revert hs;revert q_;intro t hs
 obtain ⟨ht,hn⟩:=hs
 dsimp only
 refine Jf (Jg [0,0,0] [(7,Bo (decide (((t).length:Int) > 0)))] (Jl (decide (((t).length:Int) > 0)) (fun h1=>?_) (fun h1=>?_)))
 refine Jq (Jc (Jy (Jf (Jf (Jd (Jb [0,0,0,0,0] [(8,Pt b_as 0),(9,Sr t),(12,I (Ha.wrap (((t).length:Int)-1)))] ?_))))))
 have e1:Ha.wrap (((t).length:Int)-1)=((t.length-1:Nat):Int):=(Hh _ (by omega)).trans (show ((t).length:Int)-1=((t.length-1:Nat):Int) by omega)
 refine Kv 12 (I ((t.length-1:Nat):Int)) (congrArg I e1) ?_
 clear e1
 obtain ⟨y1,hy1⟩:=QS (l:=t) (k:=t.length-1) (by omega)
 have hb_y1:=y1.toNat_lt
 refine Jbk (ik:=.i64) 13 (t.length-1) y1 hy1 (Jm 14 (Bo (YL (y1.toNat:Int))) (Jf0 G b_as hz_as (y1.toNat:Int) J4) (Jb [0] [(15,Bo (!(YL (y1.toNat:Int))))] (Je (Jc (Jl (!(YL (y1.toNat:Int))) (fun h2=>?_) (fun h2=>?_))))))
 refine KX (J1 (VF rfl (Kd (JS (Jc (Jg [0,0] [(4,Sr t)] (Jn (Jo [0] [Sr t] (Jx (Jh _) (congrArg Sr (?_:(YZ s)=t).symm))))))))))
 rw [hn];exact JmI hy1 (by simp_all [Ja1])
 refine Jq (Jc (Jd (Jb [0,0,0,0] [(16,Sr t),(19,I (Ha.wrap (((t).length:Int)-1)))] ?_)))
 have e2:Ha.wrap (((t).length:Int)-1)=((t.length-1:Nat):Int):=(Hh _ (by omega)).trans (show ((t).length:Int)-1=((t.length-1:Nat):Int) by omega)
 refine Kv 19 (I ((t.length-1:Nat):Int)) (congrArg I e2) ?_
 clear e2
 exact Jd9 (l:=t) 20 none (some (I ((t.length-1:Nat):Int))) 0 (t.length-1) (.inl ⟨rfl,rfl⟩) (.inr ⟨_,rfl⟩) (Hr _) J4 (Jb [0] [(0,Sr (t.take (t.length-1)))] (Je (JM (Qh (t.take (t.length-1)) ⟨(by (try dsimp only);(try simp only [Hy,Hg]);omega),(by (try dsimp only);rw [hn];exact Jky hy1 (by simp_all [Ja1]))⟩ (by (try dsimp only);(try simp only [Hy,Hg]);omega)))))
 refine KX (J1 (Kd (JS (Jc (Jg [0,0] [(4,Sr t)] (Jn (Jo [0] [Sr t] (Jx (Jh _) (congrArg Sr (?_:(YZ s)=t).symm)))))))))
 rw [hn];exact JmK (by omega)
theorem JmO (G:J5) (s:Bb) (hw_s:(s).length≤140737488351232) :QZ 199 #[Sr s,Sr ([48,49])] G (Sr (Jbp s)):=by
 refine JP Tryz.func199 43 [(0,Sr s),(1,Sr ([48,49]))] rfl (fun w0 G0=>?_)
 refine Jg [0] [] (Jf (Jf (Jd (Jb [0,0,0] [(9,Bo ((B s).toList == (B ([])).toList))] (Kv 9 (Bo (s == [])) (show (Bo ((B s).toList == (B ([])).toList):Value)=Bo (s == []) by simp only [Qx]) (Ks (s == []) [9] [1,1,0] [0,0,0] (fun bb=>[(12,Bo (bb || false))]) (Je (Jc (Jl ((s == []) || false) (fun h1=>?_) (fun h1=>?_))))))))))
 refine Jg [0,0] [(4,Sr s)] (Jn (Jj (Jo [0] [Sr s] (Jx (Jh _) (congrArg Sr (?_:(Jbp s)=s).symm)))))
 (simp_all;rfl)
 refine Jq (Jc (Jf (Jg [0,0,0,0,1,1,1,0] [(21,Bo false)] (Qr (Jq (Jc (Jf (Jf (Jd (Jb [0] [(30,Sr ([48,49]))] (Jm 31 (.tuple #[.agg Jek.toArray,Bo true]) (Jkz G) (Jb [0,0,0] [(32,.agg Jek.toArray),(33,Bo true)] (Jv 5 #[Bo false,Bo false,Bo false,Bo false,Bo false,Bo false,Bo false,Bo false,Bo false,Bo false,Bo false,Bo false,Bo false,Bo false,Bo false,Bo false,Bo false,Bo false,Bo false,Bo false,Bo false,Bo false,Bo false,Bo false,Bo false,Bo false,Bo false,Bo false,Bo false,Bo false,Bo false,Bo false,Bo false,Bo false,Bo false,Bo false,Bo false,Bo false,Bo false,Bo false,Bo false,Bo false,Bo false,Bo false,Bo false,Bo false,Bo false,Bo false,Bo false,Bo false,Bo false,Bo false,Bo false,Bo false,Bo false,Bo false,Bo false,Bo false,Bo false,Bo false,Bo false,Bo false,Bo false,Bo false,Bo false,Bo false,Bo false,Bo false,Bo false,Bo false,Bo false,Bo false,Bo false,Bo false,Bo false,Bo false,Bo false,Bo false,Bo false,Bo false,Bo false,Bo false,Bo false,Bo false,Bo false,Bo false,Bo false,Bo false,Bo false,Bo false,Bo false,Bo false,Bo false,Bo false,Bo false,Bo false,Bo false,Bo false,Bo false,Bo false,Bo false,Bo false,Bo false,Bo false,Bo false,Bo false,Bo false,Bo false,Bo false,Bo false,Bo false,Bo false,Bo false,Bo false,Bo false,Bo false,Bo false,Bo false,Bo false,Bo false,Bo false,Bo false,Bo false,Bo false,Bo false,Bo false,Bo false,Bo false,Bo false,Bo false,Bo false,Bo false,Bo false,Bo false,Bo false,Bo false,Bo false,Bo false,Bo false,Bo false,Bo false,Bo false,Bo false,Bo false,Bo false,Bo false,Bo false,Bo false,Bo false,Bo false,Bo false,Bo false,Bo false,Bo false,Bo false,Bo false,Bo false,Bo false,Bo false,Bo false,Bo false,Bo false,Bo false,Bo false,Bo false,Bo false,Bo false,Bo false,Bo false,Bo false,Bo false,Bo false,Bo false,Bo false,Bo false,Bo false,Bo false,Bo false,Bo false,Bo false,Bo false,Bo false,Bo false,Bo false,Bo false,Bo false,Bo false,Bo false,Bo false,Bo false,Bo false,Bo false,Bo false,Bo false,Bo false,Bo false,Bo false,Bo false,Bo false,Bo false,Bo false,Bo false,Bo false,Bo false,Bo false,Bo false,Bo false,Bo false,Bo false,Bo false,Bo false,Bo false,Bo false,Bo false,Bo false,Bo false,Bo false,Bo false,Bo false,Bo false,Bo false,Bo false,Bo false,Bo false,Bo false,Bo false,Bo false,Bo false,Bo false,Bo false,Bo false,Bo false,Bo false,Bo false,Bo false,Bo false,Bo false,Bo false,Bo false,Bo false,Bo false,Bo false,Bo false,Bo false,Bo false,Bo false,Bo false,Bo false,Bo false,Bo false,Bo false,Bo false,Bo false,Bo false,Bo false,Bo false] 316 (fun b1=>JW [3,0] [(6,Bo true)] [[Sg b1 0 Jek]] (Je (Jc (Jg [0] [(34,Bo true)] (J0 ?_))))))))))))))))))
 refine Jf (Jd (Jb [0] [(35,Sr s)] (QI (b:=b1) (o:=0) (cs:=Jek) 0 (fun G1 hl1 hz1=>Jm 36 (Sr (YZ s)) (JmN G1 s ‹_› b1 hz1) (Jm 37 (Sr (Jaa (YZ s))) (JmM G1 (YZ s) (Hm (JmL s) hw_s) b1 hz1) (Jb [0] [(4,Sr (Jaa (YZ s)))] (Je (Jc (Jn (Jj (Jo [0] [Sr (Jaa (YZ s))] (Jx hl1 (congrArg Sr (?_:(Jbp s)=(Jaa (YZ s))).symm)))))))))))))
 rfl
theorem JkA (G:J5) (s:Bb) (q:Bb) :QZ 263 #[Sr s,Sr q] G (Bo (decide (q <+: s))):=by
 refine JP Tryz.func263 18 [(0,Sr s),(1,Sr q)] rfl (fun w0 G0=>?_)
 refine Jg [0] [] (Jf (Jd (Jb [0,0,0,0,0,0] [(10,Bo (decide (((s).length:Int) ≥ ((q).length:Int))))] (QR [10] (decide (((s).length:Int) ≥ ((q).length:Int))) (fun h1=>?_) (fun h1=>?_)))))
 refine Jb [0,0,0] [(11,Sr s),(13,I ((q).length:Int))] (Jd9 (l:=s) 14 none (some (I ((q).length:Int))) 0 ((q).length) (.inl ⟨rfl,rfl⟩) (.inr ⟨_,rfl⟩) (Hr _) J4 (Jb [0,0,0,0] [(4,Bo ((B (s.take ((q).length))).toList == (B q).toList))] (Kv 4 (Bo (s.take ((q).length) == q)) (show (Bo ((B (s.take ((q).length))).toList == (B q).toList):Value)=Bo (s.take ((q).length) == q) by simp only [Qx]) (Je (Jc (Jn (Jo [0] [Bo (s.take ((q).length) == q)] (Jx (Jh _) (congrArg Bo (?_:(decide (q <+: s))=(s.take ((q).length) == q)).symm)))))))))
 (rw [HG];simp only [decide_eq_true_eq,beq_iff_eq,List.prefix_iff_eq_take];exact eq_comm)
 refine Jb [1,1,1,1,1,1,0,0] [(4,Bo false)] (Je (Jc (Jn (Jo [0] [Bo false] (Jx (Jh _) (congrArg Bo (?_:(decide (q <+: s))=false).symm))))))
 (rw [decide_eq_false];intro hp_;have q_:=hp_.length_le;omega)
theorem JgJ (G:J5) (s:Bb) (q:Bb) :QZ 244 #[Sr s,Sr q] G (Bo (decide (q <+: s))):=by
 refine JP Tryz.func244 8 [(0,Sr s),(1,Sr q)] rfl (fun w0 G0=>?_)
 refine Jg [0] [] (Jf (Jd (Jb [0,0] [(5,Sr s),(6,Sr q)] (Jm 7 (Bo (decide (q <+: s))) (JkA G s q) (Jb [0] [(4,Bo (decide (q <+: s)))] (Je (Jc (Jn (Jo [0] [Bo (decide (q <+: s))] (Jx (Jh _) (congrArg Bo (?_:(decide (q <+: s))=(decide (q <+: s))).symm)))))))))))
 rfl
theorem isB_bd {b:UInt8} (h:isB b=true):48≤b.toNat∧b.toNat≤49:=by
 unfold isB at h
 simp only [Bool.or_eq_true,beq_iff_eq] at h
 rcases h with rfl | rfl <;> decide
theorem JkB (name:Bb):∀ b∈YX name,isB b=true:=by
 intro b hb
 unfold YX at hb
 obtain ⟨n,hn,rfl⟩:=List.mem_map.1 hb
 have:n=48∨n=49:=by
  simp only [HC,HT,or_false] at hn
  have key:∀ k,JE (Ji name) k=48∨JE (Ji name) k=49:=fun k=>by unfold JE;omega
  rcases hn with rfl | rfl | rfl | rfl | rfl | rfl | rfl | rfl | rfl | rfl | rfl | rfl | rfl | rfl | rfl | rfl <;> exact key _
 rcases this with rfl | rfl <;> decide
theorem Jel {a:Bb} (h:(KM a).2=0):(KM a).1=YX a:=by
 unfold KM at h ⊢;split at h
 · cases h
 · rename_i h1;rw [if_neg h1]
def JkC (x:Kc):Bb:=(VQ [x.name,x.value]).1
def K7 (l:List Kc):Bb:=if l.length=0 then [0] else [1]++(l.map JkC).flatten
theorem Jop (x:Kc):(JkC x).length≤600:=Jcs _
theorem Jjf (l:List Kc):((l.map JkC).flatten).length≤600*l.length:=by
 induction l with
 | nil=>simp
 | cons x l ih=>simp only [List.map_cons,List.flatten_cons,Hd,He];have:=Jop x;omega
theorem JbF {l:List Kc} (h:l.length≤24):(K7 l).length≤14401:=by
 unfold K7;split
 · simp
 · rw [Hd];have:=Jjf l;simp only [He,Hf];omega
theorem JmP {l:List Kc} {i:Nat} {x:Kc} (h:l[i]? = some x):([1]++((l.take i).map JkC).flatten)++(VQ [x.name,x.value]).1=[1]++((l.take (i+1)).map JkC).flatten:=by rw [Ht,h];simp [JkC]
def entZ:Kc:=⟨[],[]⟩
def JkD (l:List Kc):Kc:=l[0]?.getD entZ
def Joq (l:List Kc):Kc:=l[l.length-1]?.getD entZ
theorem Jf1 {l:List Kc} {x:Kc} (h:l[0]? = some x):x=JkD l:=by unfold JkD;rw [h];rfl
theorem Jhr {l:List Kc} {x:Kc} (h:l[l.length-1]? = some x):x=Joq l:=by unfold Joq;rw [h];rfl
def Kj (l:List Kc):Bb×Int:=if Kq l ≠ 0 then ([],Kq l) else if 0<(l.length:Int)∧¬ way (JkD l).name=way (Joq l).name then ([],3) else (K7 l,0)
theorem Z6 (l:List Kc):(Kj l).1.length≤14401:=by
 unfold Kj;split
 · simp
 split
 · simp
 · rename_i h _;exact JbF (Qg.1 (Hl.1 h)).len
def JaL (x:Kc) (w:Bb):Bool:=!(way x.name == w)
def JbG (m:Int):Bool:=decide (m ≥ 2305843009213693951)
def QP (p:Q4):Int:=if KS p.name=false then 3 else if Kq p.entries ≠ 0 then Kq p.entries else if ((p.entries.any fun x0=>JaL x0 (way p.name))=true∨¬ (p.sides.length:Int)=16)∨(p.sides.any fun x0=>JbG x0)=true then 3 else 0
def Jjg:Bb:=(Kj []).1
def Jjh (a b:Int):Bb:=if a=Ji Jjg∧b=Ji Jjg then Jjg else Qo 2 a b
def Jab (w:Bb) (i:Nat) (s:Bb) (side:Int):Bb:=if w[15-i]? = some 49 then Jjh side (Ji s) else Jjh (Ji s) side
def JdD (w:Bb):Nat→Bb→List Int→Bs
 | _,s,[]=>[s]
 | i,s,q::qs=>s::JdD w (i+1) (Jab w i s q) qs
theorem YD (w:Bb):∀ (qs:List Int) (i:Nat) (s:Bb),(JdD w i s qs).length=qs.length+1
 | [],_,_=>rfl
 | q::qs,i,s=>by show (JdD w (i+1) _ qs).length+1=_;rw [YD w qs];rfl
theorem Jor (w:Bb) (qs:List Int) (i:Nat) (s:Bb):(JdD w i s qs)[0]? = some s:=by cases qs <;> rfl
theorem JkE (w:Bb) (qs:List Int) (i:Nat) (s:Bb):[s]=(JdD w i s qs).take 1:=by cases qs <;> rfl
theorem Jhs (w:Bb):∀ (qs:List Int) (i k:Nat) (s a:Bb) (q:Int),(JdD w i s qs)[k]? = some a→qs[k]? = some q→(JdD w i s qs)[k+1]? = some (Jab w (i+k) a q)
 | [],_,_,_,_,_,_,h=>by simp at h
 | q::qs,i,0,s,a,q',h1,h2=>by
  have h1:some s=some a:=h1
  have h2:some q=some q':=h2
  rw [← Hp.inj h1,← Hp.inj h2]
  exact Jor w qs (i+1) _
 | q::qs,i,k+1,s,a,q',h1,h2=>by
  have:=Jhs w qs (i+1) k (Jab w i s q) a q' h1 h2
  rw [show i+(k+1)=i+1+k by omega];exact this
theorem Vx {w:Bb} {qs:List Int} {s0 s:Bb} {xo:Bs} {i:Nat} {q:Int} (ho:xo=(JdD w 0 s0 qs).take (i+1)) (hs:(JdD w 0 s0 qs)[i]? = some s) (hq:qs[i]? = some q):xo++[Jab w i s q]=(JdD w 0 s0 qs).take (i+1+1)∧(JdD w 0 s0 qs)[i+1]? = some (Jab w i s q):=by
 have:=Jhs w qs 0 i s0 s q hs hq
 rw [H2] at this
 refine ⟨?_,this⟩
 rw [ho]
 conv=>rhs;rw [Ht,this]
 rfl
def K8 (p:Q4):Bs×Int:=if QP p ≠ 0 then ([],QP p) else (JdD (way p.name) 0 (Kj p.entries).1 p.sides,0)
theorem JaM {name:Bb} (h:KS name=true):(way name).length=16:=by unfold way KM;rw [if_neg (by rw [h];simp)];exact Jan name
structure JpW (p:Q4):Prop where
 name:KS p.name=true
 ents:ZY p.entries
 ways:∀ x∈p.entries,way x.name=way p.name
 sides:p.sides.length=16
 marks:∀ m∈p.sides,m<2305843009213693951
theorem Ww {p:Q4}:QP p=0 ↔ JpW p:=by
 unfold QP
 constructor
 ·
  intro h
  split at h
  · cases h
  split at h
  · contradiction
  split at h
  · cases h
  ·
   rename_i h1 h2 h3
   refine ⟨by simpa using h1,Qg.1 (Hl.1 h2),fun x hx=>?_,?_,fun m hm=>?_⟩
   ·
    apply Classical.byContradiction;intro hc
    exact h3 (.inl (.inl (HB.2 ⟨x,hx,by unfold JaL;simpa using hc⟩)))
   ·
    apply Classical.byContradiction;intro hc
    exact h3 (.inl (.inr (by omega)))
   ·
    apply Classical.byContradiction;intro hc
    exact h3 (.inr (HB.2 ⟨m,hm,by unfold JbG;simp;omega⟩))
 ·
  rintro ⟨h1,h2,h3,h4,h5⟩
  rw [if_neg (by rw [h1];simp),if_neg (by have:=Qg.2 h2;omega),if_neg]
  rintro ((hc | hc) | hc)
  ·
   obtain ⟨x,hx,e⟩:=HB.1 hc
   unfold JaL at e;simp at e
   exact e (h3 x hx)
  · omega
  ·
   obtain ⟨m,hm,e⟩:=HB.1 hc
   have:=h5 m hm
   unfold JbG at e;simp at e;omega
theorem Jfq {a b:Int} (h:(if b > a then b else a)=Ji (Kj []).1∧a=b):Jjh a b=(Kj []).1:=by
 unfold Jjh Jjg;obtain ⟨h1,rfl⟩:=h;rw [if_pos];split at h1 <;> exact ⟨h1,h1⟩
theorem Jfr {a b:Int} (h:¬ (if b > a then b else a)=Ji (Kj []).1∨¬ a=b):Jjh a b=Qo 2 a b:=by
 unfold Jjh Jjg;rw [if_neg];rintro ⟨rfl,h2⟩
 rcases h with h | h
 · exact h (by split <;> omega)
 · exact h h2.symm
theorem Jfs {w s:Bb} {i k:Nat} {q:Int} {y:UInt8} (h:15-i=k) (hy:w[k]? = some y) (e:(y.toNat:Int)=49):Jab w i s q=Jjh q (Ji s):=by
 have:y=49:=JpN.1 e
 unfold Jab;rw [h,hy,this,if_pos rfl]
theorem Jft {w s:Bb} {i k:Nat} {q:Int} {y:UInt8} (h:15-i=k) (hy:w[k]? = some y) (e:¬ (y.toNat:Int)=49):Jab w i s q=Jjh (Ji s) q:=by
 unfold Jab;rw [h,hy,if_neg]
 intro hc;apply e;rw [Hp.inj hc];rfl
theorem Jaq (G:J5) (a_l:Ba) (c_l:Nat) (l:List Kc) (h_l:RS QK G a_l c_l l) (h24:l.length≤24):QZ 181 #[Sl a_l l.length c_l] G (Sr (K7 l)):=by
 refine JP Tryz.func181 35 [(0,Sl a_l l.length c_l)] rfl (fun w0 G0=>?_)
 refine Jg [0] [] (Jf (Jg [0,0,0] [(10,Bo (decide ((l.length:Int)=0)))] (Jl (decide ((l.length:Int)=0)) (fun h1=>?_) (fun h1=>?_))))
 refine Jf (Jd (Km 11 1 #[Y 0] 5 (fun b1=>Jbl (b:=b1) (off:=0) (len:=1) (cap:=1) (cs:=List.map (Value.int .u8) [0]) 12 0 [0] rfl (Jau (ns:=[0]) rfl) (Jb [0] [(2,Sr (([0]:List Int).map fun n=>HJ n.toNat))] (Je (Jc (Jn (Jj (Jo [0] [Sr (([0]:List Int).map fun n=>HJ n.toNat)] (Jx (Jh _) (congrArg Sr (?_:(K7 l)=(([0]:List Int).map fun n=>HJ n.toNat)).symm)))))))))))
 unfold K7;(rw [if_pos (by omega)];rfl)
 refine Jq (Jc (Jf (Jd (Km 13 1 #[Y 1] 5 (fun b2=>Jbl (b:=b2) (off:=0) (len:=1) (cap:=1) (cs:=List.map (Value.int .u8) [1]) 14 0 [1] rfl (Jau (ns:=[1]) rfl) (Jb [0] [(3,Sr (([1]:List Int).map fun n=>HJ n.toNat))] (Je (Jc (Jf (Jg [0,0,0] [(15,Sl a_l l.length c_l),(16,I (l.length:Int)),(17,I 0)] (Jy ?_)))))))))))
 have hlm_h_l:l.length≤9223372036854775807:=Hm (h_l).le (h_l).max
 refine Qc (σ:=Nat×Bb×J5) (fun q_=>(J5.le G q_.2.2)∧(q_.1≤l.length)∧(q_.2.1=[1]++((l.take q_.1).map JkC).flatten)) (fun q_=>[(3,Sr q_.2.1),(15,Sl a_l l.length c_l),(16,I (l.length:Int)),(17,I (q_.1:Int))]) (fun q_=>q_.2.2) (fun q_=>[[Sg b2 0 [Y 1]]]) (fun q_=>l.length-q_.1) (0,([1]:List Int).map fun n=>HJ n.toNat,G) ⟨(Jh _),(by (try dsimp only);exact Hr _),(by (try dsimp only);simp)⟩ (fun q_ hs=>?_)
 obtain ⟨i,o,g⟩:=q_
 obtain ⟨hle,hi,ho⟩:=hs
 dsimp only at hle hi ho
 dsimp only
 refine Jg [0] [(18,Bo (decide ((i:Int)<(l.length:Int))))] (Jf (Jl (decide ((i:Int)<(l.length:Int))) (fun h2=>?_) (fun h2=>?_)))
 refine Jq (Jc (Jf (Jy (Jf (Jd ?_)))))
 obtain ⟨b3,o1,rfl⟩:=RS.addr (h_l.mono hle) (k:=i) (by omega)
 obtain ⟨x1,hx1⟩:=QS (l:=l) (k:=i) (by omega)
 obtain ⟨_,⟨rfl,w1,w2⟩,hc1⟩:=RS.get (h_l.mono hle) hx1
 refine JV (b:=b3) (off:=o1) (len:=l.length) (cap:=c_l) (ik:=.i64) 19 111 2 i J4 (JO 20 111 (cs:=[Sr x1.name,Sr x1.value]) 0 (.agg #[Sr x1.name,Sr x1.value]) hc1 (Jv 5 #[Sr ([]),Sr ([])] 111 (fun b4=>JW [3] [] [[Sg b4 0 [Sr x1.name,Sr x1.value]],[Sg b2 0 [Y 1]]] (Je (Jc (Jf (Jd (Jb [0,2,0,2] [(23,Sr x1.name),(25,Sr x1.value)] (Km 26 2 #[Sr x1.name,Sr x1.value] 9 (fun b5=>QI (b:=b5) (o:=0) (cs:=[Sr x1.name,Sr x1.value]) 0 (fun G1 hl1 hz1=>?_)))))))))))
 have hs1:RS ES G1 (At b5 0) 2 [x1.name,x1.value]:=RS.lit [[Sr x1.name],[Sr x1.value]] [x1.name,x1.value] ⟨⟨rfl,w1⟩,⟨⟨rfl,w2⟩,trivial⟩⟩ hz1 (Hb rfl) (Hb rfl)
 exact Jm 27 (.tuple #[Sr ((VQ ([x1.name,x1.value])).1),I ((VQ ([x1.name,x1.value])).2)]) (JiZ G1 (At b5 0) 2 ([x1.name,x1.value]) hs1) (Jb [0,0,0,0,0] [(6,Sr ((VQ ([x1.name,x1.value])).1))] (Je (Jc (Jd (Jb [0,0] [(30,Sr o),(31,Sr ((VQ ([x1.name,x1.value])).1))] (Z1 32 o ((VQ ([x1.name,x1.value])).1) (by have q_:=congrArg Hn ho;have q1_:=Jjf (l.take i);have q2_:=Jcs [x1.name,x1.value];rw [Hg] at q1_;simp only [Hd,He,Hf] at q_;omega) (Jb [0] [(3,Sr (o++((VQ ([x1.name,x1.value])).1)))] (Je (JM (Jc (Jd (Jb [0,0] [(17,I (Ha.wrap ((i:Int)+1)))] (Kp 17 ((i:Int)+1) J4 (Je (Qy [[Sg b2 0 [Y 1]]] (Qh (i+1,o++((VQ ([x1.name,x1.value])).1),G1) ⟨(Ja hle hl1),J4,(by (try dsimp only);rw [ho];exact JmP hx1)⟩ (by (try dsimp only);omega)))))))))))))))))
 refine KX (J1 (Kd (JS (Jc (Jg [0,0] [(2,Sr o)] (Jn (Jo [0] [Sr o] (Jx hle (congrArg Sr (?_:(K7 l)=o).symm)))))))))
 unfold K7;(rw [if_neg (by omega),ho,HA (by omega)])
theorem JdE (G:J5) (a_l:Ba) (c_l:Nat) (l:List Kc) (h_l:RS QK G a_l c_l l) :QZ 126 #[Sl a_l l.length c_l] G (.tuple #[Sr ((Kj l).1),I ((Kj l).2)]):=by
 refine JP Tryz.func126 31 [(0,Sl a_l l.length c_l)] rfl (fun w0 G0=>?_)
 refine Jg [0,0] [] (Jf (Jf (Jd (Jb [0] [(5,Sl a_l l.length c_l)] (Jm 6 (I (Kq l)) (Vj G a_l c_l l h_l) (Jb [0] [(4,I (Kq l))] (Je (Jc (Jg [0,0] [(8,Bo (!decide (Kq l=0)))] (Jl (!decide (Kq l=0)) (fun h1=>?_) (fun h1=>?_)))))))))))
 refine Jg [0,0,0] [(2,Sr ([])),(3,I (Kq l))] (Jn (Jj (Jo [0,0] [Sr ([]),I (Kq l)] (Jx (Jh _) ?_))))
 have hf_:(Kj l)=([],(Kq l)):=by
  unfold Kj;(rw [if_pos ‹_›];done)
 · (try rw [hf_]);(simp only [QC];done)
 refine Jq (Jc (Jf (Jf ?_)))
 rcases Hs (decide ((l.length:Int) > 0)) with h2 | h2
 have h2d:=h2
 try simp only [BB] at h2d
 obtain ⟨b1,o1,rfl⟩:=RS.addr h_l (k:=0) (by omega)
 obtain ⟨x1,hx1⟩:=QS (l:=l) (k:=0) (by omega)
 obtain ⟨_,⟨rfl,w1,_⟩,hc1⟩:=RS.get h_l hx1
 have e1:Ha.wrap ((l.length:Int)-1)=((l.length-1:Nat):Int):=(Hh _ (by (have q_:=(Qg.1 ‹_›).len;omega))).trans (show (l.length:Int)-1=((l.length-1:Nat):Int) by omega)
 obtain ⟨x2,hx2⟩:=QS (l:=l) (k:=l.length-1) (by omega)
 obtain ⟨_,⟨rfl,w3,_⟩,hc2⟩:=RS.get h_l hx2
 refine Kt [] (Wm [(0,Sl (At b1 o1) l.length c_l),(1,I (l.length:Int)),(2,Bo true),(3,Bo true),(4,Sl (At b1 o1) l.length c_l),(5,Pt b1 (o1+0*2)),(6,Pt b1 (o1+0*2)),(7,Sr x1.name),(8,Sr (way x1.name)),(9,Sl (At b1 o1) l.length c_l),(10,Sl (At b1 o1) l.length c_l),(11,I (l.length:Int)),(12,I ((l.length-1:Nat):Int)),(13,Pt b1 (o1+(l.length-1)*2)),(14,Pt b1 (o1+(l.length-1)*2)),(15,Sr x2.name),(16,Sr (way x2.name)),(17,Bo (!((B (way x1.name)).toList == (B (way x2.name)).toList))),(18,Bo (!((B (way x1.name)).toList == (B (way x2.name)).toList)))] (Kl [] [(0,0),(1,0),(3,0),(4,0),(6,0),(9,0),(10,0),(11,0),(14,0),(17,0),(18,0)] [2,5,7,8,12,13,15,16] [(0,Sl (At b1 o1) l.length c_l),(28,Bo (!((B (way x1.name)).toList == (B (way x2.name)).toList)))] (Kf ?_ (Kf ?_ (Kf ?_ (Kf ?_ (Kf ?_ (Kf ?_ (Kf ?_ (Kf ?_ KY)))))))) ?_))
 refine Jr 2 12 (Bo true) [(11,I (l.length:Int))] (fun X=>?_)
 exact K5 12 (Bo (decide ((l.length:Int) > 0))) (Bo true) (by rw [h2]) Jp
 refine Jr 5 15 (Pt b1 (o1+0*2)) [(13,Bo true),(14,Sl (At b1 o1) l.length c_l)] (fun X=>?_)
 exact JV (b:=b1) (off:=o1) (len:=l.length) (cap:=c_l) (ik:=.i64) 15 111 2 0 J4 Jp
 refine Jr 7 17 (Sr x1.name) [(13,Bo true),(16,Pt b1 (o1+0*2))] (fun X=>?_)
 exact JO 17 9 (cs:=[Sr x1.name,Sr x1.value]) 0 (Sr x1.name) hc1 Jp
 refine Jr 8 18 (Sr (way x1.name)) [(13,Bo true),(17,Sr x1.name)] (fun X=>?_)
 exact Jm 18 (Sr (way x1.name)) (Jdz G x1.name w1) Jp
 refine Jr 12 22 (I ((l.length-1:Nat):Int)) [(13,Bo true),(21,I (l.length:Int))] (fun X=>?_)
 exact K5 22 (I (Ha.wrap ((l.length:Int)-1))) (I ((l.length-1:Nat):Int)) (by simp only [e1]) Jp
 refine Jr 13 23 (Pt b1 (o1+(l.length-1)*2)) [(13,Bo true),(19,Sl (At b1 o1) l.length c_l),(22,I ((l.length-1:Nat):Int))] (fun X=>?_)
 exact JV (b:=b1) (off:=o1) (len:=l.length) (cap:=c_l) (ik:=.i64) 23 111 2 (l.length-1) J4 Jp
 refine Jr 15 25 (Sr x2.name) [(13,Bo true),(24,Pt b1 (o1+(l.length-1)*2))] (fun X=>?_)
 exact JO 25 9 (cs:=[Sr x2.name,Sr x2.value]) 0 (Sr x2.name) hc2 Jp
 refine Jr 16 26 (Sr (way x2.name)) [(13,Bo true),(25,Sr x2.name)] (fun X=>?_)
 exact Jm 26 (Sr (way x2.name)) (Jdz G x2.name w3) Jp
 refine Jd2 28 (Bo (!(way x1.name == way x2.name))) (show (Bo (!((B (way x1.name)).toList == (B (way x2.name)).toList)):Value)=Bo (!(way x1.name == way x2.name)) by simp only [Qx]) (Jc (Jl (!(way x1.name == way x2.name)) (fun h3=>?_) (fun h3=>?_)))
 refine Jg [0,0] [(2,Sr ([])),(3,I 3)] (Jn (Jj (Jo [0,0] [Sr ([]),I 3] (Jx (Jh _) ?_))))
 have hf_:(Kj l)=([],3):=by
  unfold Kj;(have hf_:=Jf1 hx1;(have hl_:=Jhr hx2;subst hf_;subst hl_;rw [if_neg (by omega)];(rw [if_pos (by simp_all)];done)))
 · (try rw [hf_]);(simp only [QC];done)
 refine Jq (Jc (Jf (Jd (Jb [0] [(29,Sl (At b1 o1) l.length c_l)] (Jm 30 (Sr (K7 l)) (Jaq G (At b1 o1) c_l l h_l (by exact (Qg.1 ‹_›).len)) (Jb [0,0] [(2,Sr (K7 l)),(3,I 0)] (Je (Jc (Jn (Jo [0,0] [Sr (K7 l),I 0] (Jx (Jh _) ?_)))))))))))
 have hf_:(Kj l)=(K7 l,0):=by
  unfold Kj;(have hf_:=Jf1 hx1;(have hl_:=Jhr hx2;subst hf_;subst hl_;rw [if_neg (by omega)];(rw [if_neg (by simp_all)];done)))
 · (try rw [hf_]);(simp only [QC];done)
 have h2d:=h2
 try simp only [BB] at h2d
 refine Kt [] (Wm [(0,Sl a_l l.length c_l),(1,I (l.length:Int)),(2,Bo false),(3,Bo false),(4,undef),(5,undef),(6,undef),(7,undef),(8,undef),(9,undef),(10,undef),(11,undef),(12,undef),(13,undef),(14,undef),(15,undef),(16,undef),(17,undef),(18,Bo false)] (Kl [] [(0,0),(1,0),(3,0),(4,1),(5,1),(6,1),(7,1),(8,1),(9,1),(10,1),(11,1),(12,1),(13,1),(14,1),(15,1),(16,1),(17,1),(18,0)] [2] [(0,Sl a_l l.length c_l),(28,Bo false)] (Kf ?_ KY) ?_))
 refine Jr 2 12 (Bo false) [(11,I (l.length:Int))] (fun X=>?_)
 exact K5 12 (Bo (decide ((l.length:Int) > 0))) (Bo false) (by rw [h2]) Jp
 refine Jc (Qr (Jq (Jc (Jf (Jd (Jb [0] [(29,Sl a_l l.length c_l)] (Jm 30 (Sr (K7 l)) (Jaq G a_l c_l l h_l (by exact (Qg.1 ‹_›).len)) (Jb [0,0] [(2,Sr (K7 l)),(3,I 0)] (Je (Jc (Jn (Jo [0,0] [Sr (K7 l),I 0] (Jx (Jh _) ?_)))))))))))))
 have hf_:(Kj l)=(K7 l,0):=by
  unfold Kj;(rw [if_neg (by omega),if_neg (by intro hc_;omega)];done)
 · (try rw [hf_]);(simp only [QC];done)
theorem JdF (G:J5) (name:Bb) (hw_name:(name).length≤140737488351232) :QZ 127 #[Sr name] G (Sr (way name)):=by
 refine JP Tryz.func127 11 [(0,Sr name)] rfl (fun w0 G0=>?_)
 refine Jg [0] [] (Jf (Jd (Jb [0] [(6,Sr name)] (Jm 7 (.tuple #[Sr ((KM name).1),I ((KM name).2)]) (Jc3 G name hw_name) (Jb [0,0,0,0,0] [(3,Sr ((KM name).1))] (Je (Jc (Jg [0,0] [(2,Sr ((KM name).1))] (Jn (Jo [0] [Sr ((KM name).1)] (Jx (Jh _) (congrArg Sr (?_:(way name)=((KM name).1)).symm))))))))))))
 rfl
theorem JkF (G:J5) (vs_x:Bv) (x:Kc) (h_x:QK.R G vs_x x) (vs_w:Bv) (w:Bb) (h_w:ES.R G vs_w w) (b_w:Nat) (hz_w:∀ j v,(vs_w:Bv)[j]? = some v→G b_w (0+j)=some v) :QZ 178 #[.agg vs_x.toArray,Pt b_w 0] G (Bo (JaL x w)):=by
 obtain ⟨rfl,w1,_⟩:=h_x
 obtain ⟨rfl,_⟩:=h_w
 refine JP Tryz.func178 9 [(0,.agg #[Sr x.name,Sr x.value]),(1,Pt b_w 0)] rfl (fun w0 G0=>?_)
 refine Jf (Jd (Jv 2 #[Sr x.name,Sr x.value] 111 (fun b1=>Jb [0] [] (Je (Jc (Jf (Kt [] (Wm [(0,Pt b1 0),(1,Sr x.name),(2,Sr (way x.name)),(3,Sr w),(4,Bo (!((B (way x.name)).toList == (B w).toList))),(5,Bo (!((B (way x.name)).toList == (B w).toList)))] (Kl [] [(0,0),(1,2),(4,0),(5,0)] [2,3] [(3,Bo (!((B (way x.name)).toList == (B w).toList)))] (Kf ?_ (Kf ?_ KY)) ?_)))))))))
 refine Jr 2 6 (Sr (way x.name)) [(5,Sr x.name)] (fun X=>?_)
 exact Jm 6 (Sr (way x.name)) (JdF G x.name w1) Jp
 refine Jr 3 7 (Sr w) [(1,Pt b_w 0)] (fun X=>?_)
 exact JO (o':=0) 7 9 (cs:=[Sr w]) 0 (Sr w) hz_w Jp
 refine Jd2 3 (Bo (!(way x.name == w))) (show (Bo (!((B (way x.name)).toList == (B w).toList)):Value)=Bo (!(way x.name == w)) by simp only [Qx]) (Jc (Jn (Jo [0] [Bo (!(way x.name == w))] (Jx (Jh _) (congrArg Bo (?_:(JaL x w)=(!(way x.name == w))).symm)))))
 rfl
theorem JkG (G:J5) (m:Int) :QZ 180 #[U m] G (Bo (JbG m)):=by
 refine JP Tryz.func180 5 [(0,U m)] rfl (fun w0 G0=>?_)
 refine Jg [0] [] (Jg [0,0,0] [(2,Bo (decide (m ≥ 2305843009213693951)))] (Jn (Jo [0] [Bo (decide (m ≥ 2305843009213693951))] (Jx (Jh _) (congrArg Bo (?_:(JbG m)=(decide (m ≥ 2305843009213693951))).symm)))))
 rfl
theorem Jf2 (G:J5) (vs_p:Bv) (p:Q4) (h_p:JfP.R G vs_p p) :QZ 125 #[.agg vs_p.toArray] G (I (QP p)):=by
 obtain ⟨a1,c1,a2,c2,rfl,w1,hs1,hs2⟩:=h_p
 refine JP Tryz.func125 33 [(0,(Jag p a1 c1 a2 c2))] rfl (fun w0 G0=>?_)
 refine Jf (Jd (Jv 1 #[Sr p.name,Sl a1 p.entries.length c1,Sl a2 p.sides.length c2] 47 (fun b1=>Jb [0] [] (Je (Jc (Jf (Jf (Jd (Jb [0,2] [(6,Sr p.name)] (Jm 7 (Bo (KS p.name)) (Z4 G p.name) (Jb [0] [(8,Bo (!(KS p.name)))] (Je (Jc (Jl (!(KS p.name)) (fun h1=>?_) (fun h1=>?_)))))))))))))))
 refine Jg [0] [(2,I 3)] (Jn (Jj (Jo [0] [I 3] (Jx (Jh _) (congrArg I (?_:(QP p)=3).symm)))))
 · unfold QP;(rw [if_pos ‹_›];done)
 refine Jq (Jc (Jf (Jf (Jd (Jb [0,2] [(10,Sl a1 p.entries.length c1)] (Jm 11 (I (Kq p.entries)) (Vj G a1 c1 p.entries hs1) (Jb [0] [(3,I (Kq p.entries))] (Je (Jc (Jg [0,0] [(13,Bo (!decide (Kq p.entries=0)))] (Jl (!decide (Kq p.entries=0)) (fun h2=>?_) (fun h2=>?_))))))))))))
 refine Jg [0,0] [(2,I (Kq p.entries))] (Jn (Jj (Jo [0] [I (Kq p.entries)] (Jx (Jh _) (congrArg I (?_:(QP p)=(Kq p.entries)).symm)))))
 · unfold QP;(rw [if_neg (by simp_all),if_pos ‹_›];done)
 refine Jq (Jc (Jf (Jd (Jb [0,2] [(16,Sr p.name)] (Jm 17 (Sr (way p.name)) (JdF G p.name w1) (Jv 4 #[Sr ([])] 9 (fun b2=>JW [3] [] [[Sg b2 0 [Sr (way p.name)]],[Sg b1 0 (VW p a1 c1 a2 c2)]] (Je (Jc (Jf (Jf (Jd (Jb [0,4,0] [(19,Sl a1 p.entries.length c1),(20,Fv 178 #[Pt b2 0])] (QI (b:=b2) (o:=0) (cs:=[Sr (way p.name)]) 0 (fun G1 hl1 hz1=>Jm 21 (Bo (p.entries.any (fun x0=>JaL x0 (way p.name)))) (Jmy G1 a1 c1 p.entries (hs1.mono hl1) 178 #[Pt b2 0] (fun x0=>JaL x0 (way p.name)) (fun _ _=>by kernel_rfl) (fun vs0 x0 hx0=>by obtain ⟨rfl,w2,w3⟩:=hx0;exact JkF G1 [Sr x0.name,Sr x0.value] x0 (⟨rfl,w2,w3⟩) [Sr (way p.name)] (way p.name) (⟨rfl,(Hm (JpS p.name) (by decide))⟩) b2 hz1)) (Jb [0] [(22,Bo (p.entries.any (fun x0=>JaL x0 (way p.name))))] (Ks (p.entries.any (fun x0=>JaL x0 (way p.name))) [22] [1,1,1,1,0] [0,4,0,0,0] (fun bb=>[(27,Bo (bb || (!decide ((p.sides.length:Int)=16))))]) (Jb [0] [(28,Bo ((p.entries.any (fun x0=>JaL x0 (way p.name))) || (!decide ((p.sides.length:Int)=16))))] ?_))))))))))))))))))
 refine QR [28] ((p.entries.any (fun x0=>JaL x0 (way p.name))) || (!decide ((p.sides.length:Int)=16))) (fun h3=>?_) (fun h3=>?_)
 refine Jb [1,1,1,0] [(32,Bo true)] (Je (Jc (J0 (Jg [0] [(2,I 3)] (Jn (Jj (Jo [0] [I 3] (Jx hl1 (congrArg I (?_:(QP p)=3).symm)))))))))
 · unfold QP;(rw [if_neg (by simp_all),if_neg (by omega)];(rw [if_pos (by simp_all)];done))
 refine Jb [0,4] [(30,Sl a2 p.sides.length c2)] (Jm 31 (Bo (p.sides.any (fun x0=>JbG x0))) (JpR G1 a2 c2 p.sides (hs2.mono hl1) 180 #[] (fun x0=>JbG x0) (fun _ _=>by kernel_rfl) (fun x0 hx0=>JkG G1 x0)) (Jb [0] [(32,Bo (p.sides.any (fun x0=>JbG x0)))] (Je (Jc (Jl (p.sides.any (fun x0=>JbG x0)) (fun h4=>?_) (fun h4=>?_))))))
 refine Jg [0] [(2,I 3)] (Jn (Jj (Jo [0] [I 3] (Jx hl1 (congrArg I (?_:(QP p)=3).symm)))))
 · unfold QP;(rw [if_neg (by simp_all),if_neg (by omega)];(rw [if_pos (by simp_all)];done))
 refine Jq (Jc (Jg [0] [(2,I 0)] (Jn (Jo [0] [I 0] (Jx hl1 (congrArg I (?_:(QP p)=0).symm))))))
 · unfold QP;(rw [if_neg (by simp_all),if_neg (by omega)];(rw [if_neg (by simp_all)];done))
set_option maxRecDepth 20000 in
theorem JgK (G:J5) (vs_p:Bv) (p:Q4) (h_p:JfP.R G vs_p p) :YS 73 #[.agg vs_p.toArray] G [] (fun u G' L'=>∃ (a1:Ba) (c2:Nat),u=.tuple #[Sl a1 (((K8 p).1).length) c2,I ((K8 p).2)]∧(RS ES G' a1 c2 ((K8 p).1))∧L'=[]):=by
 obtain ⟨a1,c1,a2,c2,rfl,w1,hs1,hs2⟩:=h_p
 refine JP Tryz.func73 74 [(0,(Jag p a1 c1 a2 c2))] rfl (fun w0 G0=>?_)
 refine Jf (Jd (Jv 1 #[Sr p.name,Sl a1 p.entries.length c1,Sl a2 p.sides.length c2] 47 (fun b1=>Jb [0,0] [] (Je (Jc (Jf (Jf (Jd (Jb [2] [(15,(Jag p a1 c1 a2 c2))] (Jm 16 (I (QP p)) (Jf2 G (VW p a1 c1 a2 c2) p (⟨a1,c1,a2,c2,rfl,w1,hs1,hs2⟩)) (Jb [0] [(4,I (QP p))] (Je (Jc (Jg [0,0] [(18,Bo (!decide (QP p=0)))] (Jl (!decide (QP p=0)) (fun h1=>?_) (fun h1=>?_))))))))))))))))
 refine Jg [0,0,0] [(2,Sl none 0 0),(3,I (QP p))] (Jn (Jj ?_))
 have hf1:K8 p=([],QP p):=by
  unfold K8;(simp_all;done)
 refine Jo [0,0] [Sl none 0 0,I (QP p)] (JD [] (Jh _) ?_)
 rw [hf1]
 try dsimp only
 exact ⟨none,0,rfl,(J2 ES G),rfl⟩
 refine Jq (Jc (Jf (Jd (Jm 21 (.tuple #[Sr ((Kj ([])).1),I ((Kj ([])).2)]) (JdE G none 0 ([]) (J2 QK G)) (Jb [0,0,0,0,0] [(5,Sr ((Kj ([])).1))] (Je (Jc (Jf (Jd (Jb [0,2] [(26,Sl a1 p.entries.length c1)] (Jm 27 (.tuple #[Sr ((Kj p.entries).1),I ((Kj p.entries).2)]) (JdE G a1 c1 p.entries hs1) (Jb [0,0,0,0,0] [(7,Sr ((Kj p.entries).1))] (Je (Jc (Jf (Jd (Jb [0] [(30,Sr ((Kj p.entries).1))] (Km 31 1 #[Sr ((Kj p.entries).1)] 9 (fun b2=>Jb [0] [(9,Sl (At b2 0) 1 1)] (Je (Jc (Jf (Jd (Jb [0,4] [(33,Sr p.name)] (Jm 34 (Sr (way p.name)) (JdF G p.name w1) ?_)))))))))))))))))))))))))
 refine Jb [0] [(10,Sr (way p.name))] (Je (Jc (Jf (Jg [0,4,0,0] [(36,Sl a2 p.sides.length c2),(37,I (p.sides.length:Int)),(38,I 0)] (Jy ?_)))))
 have hlm_hs2:p.sides.length≤9223372036854775807:=Hm (hs2).le (hs2).max
 refine Qc (σ:=Nat×Bb×Ba×Nat×Bg×Bs×J5) (fun q_=>(J5.le G q_.2.2.2.2.2.2)∧(q_.1≤p.sides.length)∧(q_.2.1.length≤14401)∧(JR ES q_.2.2.2.2.2.2 q_.2.2.1 q_.2.2.2.1 q_.2.2.2.2.2.1 q_.2.2.2.2.1)∧(q_.2.2.2.2.2.1=(JdD (way p.name) 0 (Kj p.entries).1 p.sides).take (q_.1+1))∧((JdD (way p.name) 0 (Kj p.entries).1 p.sides)[q_.1]? = some q_.2.1)) (fun q_=>[(5,Sr ((Kj ([])).1)),(7,Sr q_.2.1),(9,Sl q_.2.2.1 q_.2.2.2.2.2.1.length q_.2.2.2.1),(10,Sr (way p.name)),(36,Sl a2 p.sides.length c2),(37,I (p.sides.length:Int)),(38,I (q_.1:Int))]) (fun q_=>q_.2.2.2.2.2.2) (fun q_=>[q_.2.2.2.2.1,[Sg b1 0 (VW p a1 c1 a2 c2)]]) (fun q_=>p.sides.length-q_.1) (0,(Kj p.entries).1,At b2 0,1,[Sg b2 0 [Sr ((Kj p.entries).1)]],[(Kj p.entries).1],G) ⟨(Jh _),(by (try dsimp only);exact Hr _),(Z6 _),(JR.of_lit [[Sr ((Kj p.entries).1)]] [(Kj p.entries).1] ⟨⟨rfl,(Hm (Z6 _) (by decide))⟩,trivial⟩ (by simp)),(JkE _ _ _ _),(Jor _ _ _ _)⟩ (fun q_ hs=>?_)
 obtain ⟨i,s,ao,co,ro,xo,g⟩:=q_
 obtain ⟨hle,hi,hs,hro,hxo,hs_⟩:=hs
 dsimp only at hle hi hs hro hxo hs_
 dsimp only
 refine Jg [0] [(39,Bo (decide ((i:Int)<(p.sides.length:Int))))] (Jf (Jl (decide ((i:Int)<(p.sides.length:Int))) (fun h2=>?_) (fun h2=>?_)))
 refine Jq (Jc (Jf (Jy (Jf (Jd (Jb [0] [(40,I (i:Int))] ?_))))))
 obtain ⟨b3,o1,rfl⟩:=RS.addr (hs2.mono hle) (k:=i) (by omega)
 obtain ⟨x1,hx1⟩:=QS (l:=p.sides) (k:=i) (by omega)
 obtain ⟨_,⟨rfl,_⟩,hc1⟩:=RS.get (hs2.mono hle) hx1
 refine JV (b:=b3) (off:=o1) (len:=p.sides.length) (cap:=c2) (ik:=.i64) 41 41 1 i J4 (JO 42 41 (cs:=[U x1]) 0 (U x1) hc1 (Jb [0,0] [(11,I (i:Int)),(12,U x1)] (Je (Jc (Jf (Jd (Jb [0] [(43,Sr s)] (Jm 44 (U (Ji s)) (Ya s (Jc1 J4) g) (Jb [0,0,0] [(13,U (Ji s)),(14,U x1)] (Je (Jc (Jf (Jf (Jd (Jb [0,0,0] [(46,Sr (way p.name)),(48,I (Ha.wrap (15-(i:Int))))] (Kp 48 (15-(i:Int)) J4 ?_))))))))))))))))
 obtain ⟨kn1,hkn1⟩:∃ k_:Nat,15-(i:Int)=(k_:Int):=⟨(15-(i:Int)).toNat,by (have q_:=Ww.1 ‹_›;have q1_:=JaM q_.name;have q2_:=q_.sides;omega)⟩
 have e1:15-(i:Int)=(kn1:Int):=hkn1
 refine Kv 48 (I (kn1:Int)) (congrArg I e1) ?_
 obtain ⟨y1,hy1⟩:=QS (l:=way p.name) (k:=kn1) (by (have q_:=Ww.1 ‹_›;have q1_:=JaM q_.name;have q2_:=q_.sides;omega))
 have hb_y1:=y1.toNat_lt
 refine Jbk (ik:=.i64) 49 kn1 y1 hy1 (Jb [0] [(50,Bo (decide ((y1.toNat:Int)=49)))] (Je (Jc (Jl (decide ((y1.toNat:Int)=49)) (fun h3=>?_) (fun h3=>?_)))))
 refine Jd (Jb [0,0,0,0] [(13,U x1),(14,U (Ji s))] (Je (Jc (Jf (Jg [0,0] [(7,Sr ((Kj ([])).1))] (Jf (Jd (Jb [0,0,0,0] [(56,U (if (Ji s) > x1 then (Ji s) else x1)),(57,Sr ((Kj ([])).1))] (Jm 58 (U (Ji ((Kj ([])).1))) (Ya ((Kj ([])).1) (Jc1 (Hm (Z6 _) (by decide))) g) (Jb [0,0] [(60,Bo (!decide ((if (Ji s) > x1 then (Ji s) else x1)=Ji ((Kj ([])).1))))] (Ks (!decide ((if (Ji s) > x1 then (Ji s) else x1)=Ji ((Kj ([])).1))) [60] [1,1,1,0] [0,0,0,0] (fun bb=>[(64,Bo (bb || (!decide (x1=Ji s))))]) (Je (Jc (Jl ((!decide ((if (Ji s) > x1 then (Ji s) else x1)=Ji ((Kj ([])).1))) || (!decide (x1=Ji s))) (fun h4=>?_) (fun h4=>?_)))))))))))))))
 refine Jd (Jb [0,0] [(65,U x1),(66,U (Ji s))] (Jm 67 (Sr (Qo 2 x1 (Ji s))) (JbB 2 x1 (Ji s) g) (Jb [0] [(7,Sr (Qo 2 x1 (Ji s)))] (Je (Jc (Jd (Jb [0,0] [(68,Sl ao xo.length co),(69,Sr (Qo 2 x1 (Ji s)))] (Km 70 1 #[Sr (Qo 2 x1 (Ji s))] 9 (fun b4=>Qd (b:=b4) (cs:=[Sr (Qo 2 x1 (Ji s))]) 71 9 1 0 (E:=ES) (Qo 2 x1 (Ji s)) hro ⟨rfl,(by rw [ZZ];decide)⟩ (by have q_:=Ww.1 ‹_›;have q1_:=JaM q_.name;have q2_:=q_.sides;have q3_:=congrArg Hn hxo;have q4_:=YD (way p.name) p.sides 0 (Kj p.entries).1;rw [Hg] at q3_;(try simp only [ES,Hd,He,Hf] at *);omega) (by have q_:=Ww.1 ‹_›;have q1_:=JaM q_.name;have q2_:=q_.sides;have q3_:=congrArg Hn hxo;have q4_:=YD (way p.name) p.sides 0 (Kj p.entries).1;rw [Hg] at q3_;(try simp only [ES,Hd,He,Hf] at *);omega) (fun a3 c3 r1 hr1=>Jb [0] [(9,Sl a3 ((xo++[Qo 2 x1 (Ji s)]).length) c3)] (Je (JM (Jc (Jd (Jb [0,0] [(38,I (Ha.wrap ((i:Int)+1)))] (Kp 38 ((i:Int)+1) J4 (Je ?_)))))))))))))))))
 exact Qy [r1,[Sg b1 0 (VW p a1 c1 (At b3 o1) c2)]] (Qh (i+1,Qo 2 x1 (Ji s),a3,c3,r1,xo++[Qo 2 x1 (Ji s)],g) ⟨(Ja hle (Jh _)),J4,(by have q0_:=ZZ;(rw [q0_];decide)),hr1,(by (try dsimp only);have q0_:=Vx hxo hs_ hx1;have q1_:Jab (way p.name) i s x1=Qo 2 x1 (Ji s):=(by (rw [Jfs J4 hy1 ‹_›]);exact Jfr ‹_›);rw [q1_] at q0_;exact q0_.1),(by (try dsimp only);have q0_:=Vx hxo hs_ hx1;have q1_:Jab (way p.name) i s x1=Qo 2 x1 (Ji s):=(by (rw [Jfs J4 hy1 ‹_›]);exact Jfr ‹_›);rw [q1_] at q0_;exact q0_.2)⟩ (by (try dsimp only);omega))
 exact Jq (Jc (Jd (Jb [0,0] [(68,Sl ao xo.length co),(69,Sr ((Kj ([])).1))] (Km 70 1 #[Sr ((Kj ([])).1)] 9 (fun b5=>Qd (b:=b5) (cs:=[Sr ((Kj ([])).1)]) 71 9 1 0 (E:=ES) ((Kj ([])).1) hro ⟨rfl,(Hm (Z6 _) (by decide))⟩ (by have q_:=Ww.1 ‹_›;have q1_:=JaM q_.name;have q2_:=q_.sides;have q3_:=congrArg Hn hxo;have q4_:=YD (way p.name) p.sides 0 (Kj p.entries).1;rw [Hg] at q3_;(try simp only [ES,Hd,He,Hf] at *);omega) (by have q_:=Ww.1 ‹_›;have q1_:=JaM q_.name;have q2_:=q_.sides;have q3_:=congrArg Hn hxo;have q4_:=YD (way p.name) p.sides 0 (Kj p.entries).1;rw [Hg] at q3_;(try simp only [ES,Hd,He,Hf] at *);omega) (fun a4 c4 r2 hr2=>Jb [0] [(9,Sl a4 ((xo++[(Kj ([])).1]).length) c4)] (Je (JM (Jc (Jd (Jb [0,0] [(38,I (Ha.wrap ((i:Int)+1)))] (Kp 38 ((i:Int)+1) J4 (Je (Qy [r2,[Sg b1 0 (VW p a1 c1 (At b3 o1) c2)]] (Qh (i+1,(Kj ([])).1,a4,c4,r2,xo++[(Kj ([])).1],g) ⟨(Ja hle (Jh _)),J4,(by have q0_:=ZZ;exact Z6 _),hr2,(by (try dsimp only);have q0_:=Vx hxo hs_ hx1;have q1_:Jab (way p.name) i s x1=(Kj ([])).1:=(by (rw [Jfs J4 hy1 ‹_›]);exact Jfq ‹_›);rw [q1_] at q0_;exact q0_.1),(by (try dsimp only);have q0_:=Vx hxo hs_ hx1;have q1_:Jab (way p.name) i s x1=(Kj ([])).1:=(by (rw [Jfs J4 hy1 ‹_›]);exact Jfq ‹_›);rw [q1_] at q0_;exact q0_.2)⟩ (by (try dsimp only);omega))))))))))))))))
 refine Jq (Jc (Jf (Jg [0,0] [(7,Sr ((Kj ([])).1))] (Jf (Jd (Jb [0,0,0,0] [(56,U (if x1 > (Ji s) then x1 else (Ji s))),(57,Sr ((Kj ([])).1))] (Jm 58 (U (Ji ((Kj ([])).1))) (Ya ((Kj ([])).1) (Jc1 (Hm (Z6 _) (by decide))) g) (Jb [0,0] [(60,Bo (!decide ((if x1 > (Ji s) then x1 else (Ji s))=Ji ((Kj ([])).1))))] (Ks (!decide ((if x1 > (Ji s) then x1 else (Ji s))=Ji ((Kj ([])).1))) [60] [1,1,1,0] [0,0,0,0] (fun bb=>[(64,Bo (bb || (!decide (Ji s=x1))))]) (Je (Jc (Jl ((!decide ((if x1 > (Ji s) then x1 else (Ji s))=Ji ((Kj ([])).1))) || (!decide (Ji s=x1))) (fun h5=>?_) (fun h5=>?_)))))))))))))
 refine Jd (Jb [0,0] [(65,U (Ji s)),(66,U x1)] (Jm 67 (Sr (Qo 2 (Ji s) x1)) (JbB 2 (Ji s) x1 g) (Jb [0] [(7,Sr (Qo 2 (Ji s) x1))] (Je (Jc (Jd (Jb [0,0] [(68,Sl ao xo.length co),(69,Sr (Qo 2 (Ji s) x1))] (Km 70 1 #[Sr (Qo 2 (Ji s) x1)] 9 (fun b6=>Qd (b:=b6) (cs:=[Sr (Qo 2 (Ji s) x1)]) 71 9 1 0 (E:=ES) (Qo 2 (Ji s) x1) hro ⟨rfl,(by rw [ZZ];decide)⟩ (by have q_:=Ww.1 ‹_›;have q1_:=JaM q_.name;have q2_:=q_.sides;have q3_:=congrArg Hn hxo;have q4_:=YD (way p.name) p.sides 0 (Kj p.entries).1;rw [Hg] at q3_;(try simp only [ES,Hd,He,Hf] at *);omega) (by have q_:=Ww.1 ‹_›;have q1_:=JaM q_.name;have q2_:=q_.sides;have q3_:=congrArg Hn hxo;have q4_:=YD (way p.name) p.sides 0 (Kj p.entries).1;rw [Hg] at q3_;(try simp only [ES,Hd,He,Hf] at *);omega) (fun a5 c5 r3 hr3=>Jb [0] [(9,Sl a5 ((xo++[Qo 2 (Ji s) x1]).length) c5)] (Je (JM (Jc (Jd (Jb [0,0] [(38,I (Ha.wrap ((i:Int)+1)))] (Kp 38 ((i:Int)+1) J4 (Je ?_)))))))))))))))))
 exact Qy [r3,[Sg b1 0 (VW p a1 c1 (At b3 o1) c2)]] (Qh (i+1,Qo 2 (Ji s) x1,a5,c5,r3,xo++[Qo 2 (Ji s) x1],g) ⟨(Ja hle (Jh _)),J4,(by have q0_:=ZZ;(rw [q0_];decide)),hr3,(by (try dsimp only);have q0_:=Vx hxo hs_ hx1;have q1_:Jab (way p.name) i s x1=Qo 2 (Ji s) x1:=(by (rw [Jft J4 hy1 ‹_›]);exact Jfr ‹_›);rw [q1_] at q0_;exact q0_.1),(by (try dsimp only);have q0_:=Vx hxo hs_ hx1;have q1_:Jab (way p.name) i s x1=Qo 2 (Ji s) x1:=(by (rw [Jft J4 hy1 ‹_›]);exact Jfr ‹_›);rw [q1_] at q0_;exact q0_.2)⟩ (by (try dsimp only);omega))
 exact Jq (Jc (Jd (Jb [0,0] [(68,Sl ao xo.length co),(69,Sr ((Kj ([])).1))] (Km 70 1 #[Sr ((Kj ([])).1)] 9 (fun b7=>Qd (b:=b7) (cs:=[Sr ((Kj ([])).1)]) 71 9 1 0 (E:=ES) ((Kj ([])).1) hro ⟨rfl,(Hm (Z6 _) (by decide))⟩ (by have q_:=Ww.1 ‹_›;have q1_:=JaM q_.name;have q2_:=q_.sides;have q3_:=congrArg Hn hxo;have q4_:=YD (way p.name) p.sides 0 (Kj p.entries).1;rw [Hg] at q3_;(try simp only [ES,Hd,He,Hf] at *);omega) (by have q_:=Ww.1 ‹_›;have q1_:=JaM q_.name;have q2_:=q_.sides;have q3_:=congrArg Hn hxo;have q4_:=YD (way p.name) p.sides 0 (Kj p.entries).1;rw [Hg] at q3_;(try simp only [ES,Hd,He,Hf] at *);omega) (fun a6 c6 r4 hr4=>Jb [0] [(9,Sl a6 ((xo++[(Kj ([])).1]).length) c6)] (Je (JM (Jc (Jd (Jb [0,0] [(38,I (Ha.wrap ((i:Int)+1)))] (Kp 38 ((i:Int)+1) J4 (Je (Qy [r4,[Sg b1 0 (VW p a1 c1 (At b3 o1) c2)]] (Qh (i+1,(Kj ([])).1,a6,c6,r4,xo++[(Kj ([])).1],g) ⟨(Ja hle (Jh _)),J4,(by have q0_:=ZZ;exact Z6 _),hr4,(by (try dsimp only);have q0_:=Vx hxo hs_ hx1;have q1_:Jab (way p.name) i s x1=(Kj ([])).1:=(by (rw [Jft J4 hy1 ‹_›]);exact Jfq ‹_›);rw [q1_] at q0_;exact q0_.1),(by (try dsimp only);have q0_:=Vx hxo hs_ hx1;have q1_:Jab (way p.name) i s x1=(Kj ([])).1:=(by (rw [Jft J4 hy1 ‹_›]);exact Jfq ‹_›);rw [q1_] at q0_;exact q0_.2)⟩ (by (try dsimp only);omega))))))))))))))))
 refine KX (J1 (Kd (JS (Jc (Jg [0,0,0] [(2,Sl ao xo.length co),(3,I 0)] (Jn (Wy (E:=ES) 0 hro (by have q_:=Ww.1 ‹_›;have q1_:=JaM q_.name;have q2_:=q_.sides;have q3_:=congrArg Hn hxo;have q4_:=YD (way p.name) p.sides 0 (Kj p.entries).1;rw [Hg] at q3_;(try simp only [ES,Hd,He,Hf] at *);omega) (fun G1 hl1 hs3=>?_))))))))
 have hf2:K8 p=(xo,0):=by
  unfold K8;(rw [if_neg (by omega),hxo,HA (by rw [YD];omega)])
 refine Jo [0,0] [Sl ao xo.length co,I 0] (JD [] (Ja hle hl1) ?_)
 rw [hf2]
 try dsimp only
 exact ⟨ao,co,rfl,hs3,rfl⟩
theorem JmQ {l xo:List Kc} {p:Kc→Bool} {i j:Nat} {x:Kc} (h1:xo.take i=(l.take j).filter (fun y=>!p y)) (hx:l[j]? = some x) (hp:p x=true):xo.take i=(l.take (j+1)).filter (fun y=>!p y):=by
 rw [Ht,hx,HQ,← h1];simp [hp]
theorem Jos {l xo:List Kc} {p:Kc→Bool} {i j:Nat} {x:Kc} (h1:xo.take i=(l.take j).filter (fun y=>!p y)) (hx:l[j]? = some x) (hp:p x=false) (hi:i<xo.length):(xo.set i x).take (i+1)=(l.take (j+1)).filter (fun y=>!p y):=by
 have e:l.take (j+1)=l.take j++[x]:=by rw [Ht,hx];rfl
 rw [e,HQ,← h1,Ht,List.getElem?_set_self hi,List.take_set_of_le (Hv _)];simp [hp]
theorem Jot {l xo:List Kc} {i j:Nat} {x:Kc} (h:xo.drop j=l.drop j) (hij:i<j):(xo.set i x).drop (j+1)=l.drop (j+1):=by
 rw [List.drop_set_of_lt (by omega),← HN,h,HN]
theorem JmR {l xo:List Kc} {j:Nat} (h:xo.drop j=l.drop j):xo.drop (j+1)=l.drop (j+1):=by
 rw [← HN,h,HN]
theorem Jji {l xo:List Kc} {j:Nat} {x:Kc} (h:xo.drop j=l.drop j) (hx:xo[j]? = some x):l[j]? = some x:=by
 have:=congrArg (fun z=>z[0]?) h
 simp only [HP,Nat.add_zero] at this
 rw [← this];exact hx
theorem JmS {l:List Kc} {p:Kc→Bool} {k:Nat} (h:QJ p l=(k:Int)):l.take k=(l.take (k+1)).filter (fun y=>!p y):=by
 unfold QJ at h
 cases hh:l.findIdx? p with
 | none=>rw [hh] at h;simp at h
 | some m =>
  rw [hh] at h
  have:m=k:=by simp at h;omega
  subst this
  rw [List.findIdx?_eq_some_iff_getElem] at hh
  obtain ⟨h1,h2,h3⟩:=hh
  rw [Ht,Hk h1,HQ]
  have e1:(l.take m).filter (fun y=>!p y)=l.take m:=by
   rw [List.filter_eq_self]
   intro y hy
   obtain ⟨n,hn⟩:=Hx hy
   rw [List.getElem?_take] at hn
   split at hn
   ·
    rename_i hlt
    have:=h3 n hlt
    obtain ⟨hn',e⟩:=Hc.1 hn
    rw [e] at this;simpa using this
   · cases hn
  rw [e1];simp [h2]
theorem Jou {l:List Kc} {p:Kc→Bool} (h:QJ p l=-1):l=l.filter (fun y=>!p y):=by
 unfold QJ at h
 cases hh:l.findIdx? p with
 | some m=>rw [hh] at h;simp at h
 | none =>
  rw [List.findIdx?_eq_none_iff] at hh
  symm
  rw [List.filter_eq_self]
  intro y hy;simpa using hh y hy
theorem JpX (p:Kc→Bool) (l:List Kc):-1≤QJ p l∧QJ p l≤l.length∧(0≤QJ p l→QJ p l<l.length):=by
 by_cases h:QJ p l<0
 ·
  refine ⟨?_,by omega,by omega⟩
  unfold QJ;split <;> omega
 ·
  obtain ⟨k,hk⟩:∃ k:Nat,QJ p l=k:=⟨_,(HM (by omega)).symm⟩
  obtain ⟨x,hx,_⟩:=JhZ hk
  have:=(Hc.1 hx).1
  omega
def Jc5 (x:Kc) (q:Bb):Bool:=!decide (q <+: way x.name)
def K9 (l:List Kc) (q:Bb):List Kc:=l.filter fun x=>!Jc5 x q
theorem Y9 (l:List Kc) (q:Bb):(K9 l q).length≤l.length:=HY ..
def JdG:Int:=Ji (K7 [])
def atG:Nat→List Kc→Bb→Int
 | 0,l,_=>Ji (K7 l)
 | n+1,l,q=>if l.length=0 then Ji (K7 l) else if atG n (K9 l (q++[48])) (q++[48])=JdG∧atG n (K9 l (q++[49])) (q++[49])=JdG then JdG else Ji (Qo 2 (atG n (K9 l (q++[48])) (q++[48])) (atG n (K9 l (q++[49])) (q++[49])))
def WC (l:List Kc) (q:Bb):Int:=atG (16-q.length) l q
theorem Jjj {l:List Kc} {q:Bb} (h:(l.length:Int)=0∨(q.length:Int)=16):WC l q=Ji (K7 l):=by
 unfold WC
 rcases h with h | h
 ·
  cases hn:16-q.length with
  | zero=>rfl
  | succ n=>rw [atG,if_pos (by omega)]
 · rw [show 16-q.length=0 by omega];rfl
theorem JeR {l:List Kc} {q:Bb} (h1:¬ (l.length:Int)=0) (h2:q.length<16):WC l q=if WC (K9 l (q++[48])) (q++[48])=JdG∧WC (K9 l (q++[49])) (q++[49])=JdG then JdG else Ji (Qo 2 (WC (K9 l (q++[48])) (q++[48])) (WC (K9 l (q++[49])) (q++[49]))):=by
 have e:16-q.length=(16-(q++[48]).length)+1:=by simp;omega
 have e2:16-(q++[49]).length=16-(q++[48]).length:=by simp
 conv=>lhs;unfold WC;rw [e,atG,if_neg (by omega)]
 unfold WC;rw [e2]
theorem JmT (l:List Kc) (q:Bb):0≤WC l q∧WC l q<18446744073709551616:=by
 unfold WC
 generalize 16-q.length=n
 cases n with
 | zero=>exact (by have:=QT (K7 l);unfold atG;omega)
 | succ n =>
  rw [atG]
  have h1:=QT (K7 l);have h2:=QT (K7 []);have h3:=fun a b=>QT (Qo 2 a b)
  split
  · omega
  split
  · unfold JdG;omega
  · have:=h3 (atG n (K9 l (q++[48])) (q++[48])) (atG n (K9 l (q++[49])) (q++[49]));omega
def JY (l:List Kc) (q:Bb):Int×Int:=if ¬ Kq l=0 then (0,Kq l) else if (q.length:Int) > 16∨¬ Jbp q=[] then (0,3) else (WC (K9 l q) q,0)
theorem Vq (l:List Kc) (q:Bb):0≤(JY l q).1∧(JY l q).1<18446744073709551616:=by
 unfold JY;split
 · simp
 split
 · simp
 · exact JmT _ _
set_option maxRecDepth 4000 in
theorem JkH (G:J5) (a:Ba) (c:Nat) (l:List Kc) (r:Bg) (hr:JR QK G a c l r) (hsm:l.length≤1000) (k_f:FuncId) (caps_f:Array Value) (p_f:Kc→Bool) (hk_f:JaV Tryz.prog k_f) (h_f:∀ (vs0:Bv) (x0:Kc) (hx0:QK.R G vs0 x0),VC Tryz.prog k_f (#[.agg vs0.toArray]++caps_f) G [] (fun u _ _=>u=Bo (p_f x0))):JfI Tryz.prog 242 #[Sl a l.length c,.func (.func k_f) #[] caps_f] G [r] (fun u G' L'=>∃ a' c' r',u=Sl a' (l.filter fun y=>!p_f y).length c'∧JR QK G' a' c' (l.filter fun y=>!p_f y) r'∧L'=[r']):=by
 intro Lr
 have hlc:=JR.lec hr
 have hcm:=JR.mx hr
 refine JP Tryz.func242 42 [(0,Sl a l.length c),(1,Fv k_f caps_f)] rfl (fun w0 G0=>?_)
 show TC _ _ _ _ _ (r::Lr)
 refine Jg [0] [] (Jf (Jd (Jb [0,0] [(8,Sl a l.length c),(9,Fv k_f caps_f)] (JiM (E:=QK) 10 0 hr (by simp only [QK];omega) (I (QJ p_f l)) (fun G9 hle9 hs9=>JfV G9 a c l hs9 k_f caps_f p_f hk_f (fun vs0 x0 hx0=>VC.up hle9 (h_f vs0 x0 hx0))) (Jb [0] [(5,I (QJ p_f l))] (Je (Jc (Jf (Jg [0,0] [(12,Bo (decide (QJ p_f l=(-1))))] (Jl (decide (QJ p_f l=(-1))) (fun h1=>?_) (fun h1=>?_)))))))))))
 refine Jg [0,0] [(4,Sl a l.length c)] (Jn (Jj ?_))
 have e_:l=(l.filter fun y=>!p_f y):=Jou (by omega)
 have en_:l.length=(l.filter fun y=>!p_f y).length:=congrArg Hn e_
 exact Jo [0] [Sl a l.length c] (KB (Lr:=Lr) [r] (Jh _) (⟨_,_,_,congrArg (fun n=>Sl a n c) en_,(e_ ▸ hr),rfl⟩))
 refine Jq (Jc (Jf ?_))
 have hib_:=JpX p_f l
 obtain ⟨kn1,hkn1⟩:∃ k_:Nat,QJ p_f l=(k_:Int):=⟨(QJ p_f l).toNat,by omega⟩
 have e1:QJ p_f l=(kn1:Int):=hkn1
 refine QU 5 (I (kn1:Int)) (congrArg I e1) ?_
 have hfi_:=JmS hkn1
 refine Jg [0,0,0] [(6,I (Ha.wrap ((kn1:Int)+1)))] (Jle 6 ((kn1:Int)+1) J4 (Jy ?_))
 refine Qc (σ:=Nat×Nat×Ba×Nat×Bg×List Kc) (fun q_=>(q_.1<q_.2.1∧q_.2.1≤l.length)∧(JR QK G q_.2.2.1 q_.2.2.2.1 q_.2.2.2.2.2 q_.2.2.2.2.1)∧(q_.2.2.2.2.2.length=l.length∧q_.2.2.2.2.2.drop q_.2.1=l.drop q_.2.1∧q_.2.2.2.2.2.take q_.1=(l.take q_.2.1).filter (fun y=>!p_f y))) (fun q_=>[(0,Sl q_.2.2.1 q_.2.2.2.2.2.length q_.2.2.2.1),(1,Fv k_f caps_f),(5,I (q_.1:Int)),(6,I (q_.2.1:Int))]) (fun q_=>G) (fun q_=>(q_.2.2.2.2.1::Lr)) (fun q_=>l.length-q_.2.1) (kn1,(kn1+1),a,c,r,l) ⟨(by (try dsimp only);omega),hr,⟨rfl,rfl,hfi_⟩⟩ (fun q_ hs=>?_)
 obtain ⟨i,j,ao,co,ro,xo⟩:=q_
 obtain ⟨hj,hro,hxo⟩:=hs
 dsimp only at hj hro hxo
 dsimp only
 refine Jf (Jg [0,0,0,0] [(19,Bo (decide ((j:Int)<(xo.length:Int))))] (Jl (decide ((j:Int)<(xo.length:Int))) (fun h2=>?_) (fun h2=>?_)))
 refine Jq (Jc (Jf (Jy (Jf (Jd (Jb [0,0] [(22,Sl ao xo.length co),(23,I (j:Int))] ?_))))))
 obtain ⟨x1,hx1⟩:=QS (l:=xo) (k:=j) (by omega)
 obtain ⟨b1,o1,_,_,⟨rfl,w1,w2⟩,ha1,hre1,hc1⟩:=JR.ix hro hx1
 refine Qs (b:=b1) (off:=o1) (len:=xo.length) (cap:=co) (ik:=.i64) 24 111 2 j ha1 J4 (W4 (off:=o1) (p:=j*2) (cs:=[Sr x1.name,Sr x1.value]) 25 111 0 0 (.agg #[Sr x1.name,Sr x1.value]) hre1 hc1 (Jv 7 #[Sr ([]),Sr ([])] 111 (fun b2=>JW [3] [] ([Sg b2 0 [Sr x1.name,Sr x1.value]]::ro::Lr) (Je (Jc (Jf (Jd (Jb [0,2] [(26,Fv k_f caps_f),(27,.agg #[Sr x1.name,Sr x1.value])] (ZP (k:=k_f) (caps:=caps_f) (args:=#[.agg #[Sr x1.name,Sr x1.value]]) 28 (Bo (p_f x1)) hk_f (h_f [Sr x1.name,Sr x1.value] x1 (⟨rfl,w1,w2⟩)) (Jb [0] [(29,Bo (!(p_f x1)))] (Je (Jc (Jl (!(p_f x1)) (fun h3=>?_) (fun h3=>?_))))))))))))))
 refine Jf (Jd (Jb [0,0,2] [(30,Sl ao xo.length co),(31,I (i:Int)),(32,.agg #[Sr x1.name,Sr x1.value])] ?_))
 obtain ⟨_,hx2⟩:=QS (l:=xo) (k:=i) (by omega)
 obtain ⟨b3,o2,_,_,⟨rfl,_,_⟩,ha2,_,hc2⟩:=JR.ix hro hx2
 refine Qs (b:=b3) (off:=o2) (len:=xo.length) (cap:=co) (ik:=.i64) 33 111 2 i ha2 J4 (YC (b:=b3) (off:=o2) 1 hro i x1 ha2 J4 (.agg #[Sr x1.name,Sr x1.value]) [Sr x1.name,Sr x1.value] ⟨rfl,w1,w2⟩ (fun r1 hr1=>?_))
 have e2:xo.length=(xo.set i x1).length:=(Hw ..).symm
 exact Kv 0 (Sl ao ((xo.set i x1).length) co) (congrArg (Sl ao · co) e2) (Kv 30 (Sl ao ((xo.set i x1).length) co) (congrArg (Sl ao · co) e2) (Je (Jc (Jd (Jb [0,0,0] [(5,I (Ha.wrap ((i:Int)+1)))] (Kp 5 ((i:Int)+1) J4 (Je (JM (Jc (Jd (Jb [0,0,0] [(6,I (Ha.wrap ((j:Int)+1)))] (Kp 6 ((j:Int)+1) J4 (Je (Qy (r1::Lr) (Qh (i+1,j+1,ao,co,r1,xo.set i x1) ⟨(by (try dsimp only);omega),hr1,(by (try dsimp only);exact ⟨by rw [Hw];exact hxo.1,Jot hxo.2.1 hj.1,Jos hxo.2.2 (Jji hxo.2.1 hx1) ‹_› J4⟩)⟩ (by (try dsimp only);omega))))))))))))))))
 exact Jq (JM (Jc (Jd (Jb [0,0,0] [(6,I (Ha.wrap ((j:Int)+1)))] (Kp 6 ((j:Int)+1) J4 (Je (Qy (ro::Lr) (Qh (i,j+1,ao,co,ro,xo) ⟨(by (try dsimp only);omega),hro,(by (try dsimp only);exact ⟨hxo.1,JmR hxo.2.1,JmQ hxo.2.2 (Jji hxo.2.1 hx1) ‹_›⟩)⟩ (by (try dsimp only);omega)))))))))
 refine KX (J1 (Kd (JS (Jc ?_))))
 obtain ⟨b,off,css,spare,rfl,rfl,hc1,hc2,_,hsp,hle9,hmax,hone⟩:=JR.opened hro (by omega)
 refine Jf (Jd (Jb [0,0] [(36,Sl (At b off) xo.length co),(37,I (i:Int))] (Ws (a:=At b off) (a':=At b (off+(xo.take i).length*2)) (len:=xo.length) (cap:=co) (c':=co-(xo.take i).length) (n:=xo.length-(xo.take i).length) 38 2 (some (I (i:Int))) none i xo.length (.inr ⟨_,rfl⟩) (.inl ⟨rfl,rfl⟩) J4 (by rw [if_neg J4,Hg,HE (by omega)];simp [Wv]) (by rw [Hg,HE (by omega)]) (by rw [Hg,HE (by omega)]) J4 (JiL (b:=b) (off:=off) (m:=xo.length-(xo.take i).length) (c':=co-(xo.take i).length) 0 (JR.tk hro i J4) rfl (by rw [Hg];omega) (by rw [Hg];omega) (fun r8 hr8=>Je (Jc (Jf (Jd (Jb [0,0] [(39,Sl (At b off) xo.length co),(40,I (i:Int))] (Ws (a:=At b off) (a':=At b off) (len:=xo.length) (cap:=co) (c':=co) (n:=(xo.take i).length) 41 2 none (some (I (i:Int))) 0 i (.inl ⟨rfl,rfl⟩) (.inr ⟨_,rfl⟩) (Hr _) (by split <;> simp [Wv]) (Nat.sub_zero _).symm (by rw [Hg];omega) J4 (Jb [0] [(4,Sl (At b off) ((xo.take i).length) co)] (Je (Jc (Jn ?_))))))))))))))
 have e_:xo.take i=(l.filter fun y=>!p_f y):=by have q_:=hxo.2.2;rwa [HA (by omega:l.length≤j)] at q_
 have en_:(xo.take i).length=(l.filter fun y=>!p_f y).length:=congrArg Hn e_
 exact Jo [0] [Sl (At b off) ((xo.take i).length) co] (KB (Lr:=Lr) [r8] (Jh _) (⟨_,_,_,congrArg (fun n=>Sl (At b off) n co) en_,(e_ ▸ hr8),rfl⟩))
theorem JkI (G:J5) (vs_x:Bv) (x:Kc) (h_x:QK.R G vs_x x) (vs_q:Bv) (q:Bb) (h_q:ES.R G vs_q q) (b_q:Nat) (hz_q:∀ j v,(vs_q:Bv)[j]? = some v→G b_q (0+j)=some v) :QZ 243 #[.agg vs_x.toArray,Pt b_q 0] G (Bo (Jc5 x q)):=by
 obtain ⟨rfl,w1,_⟩:=h_x
 obtain ⟨rfl,_⟩:=h_q
 refine JP Tryz.func243 10 [(0,.agg #[Sr x.name,Sr x.value]),(1,Pt b_q 0)] rfl (fun w0 G0=>?_)
 refine Jf (Jd (Jv 2 #[Sr x.name,Sr x.value] 111 (fun b1=>Jb [0] [] (Je (Jc (Jf (Kt [] (Wm [(0,Pt b1 0),(1,Sr x.name),(2,Sr (way x.name)),(3,Sr q),(4,Bo (decide (q <+: way x.name))),(5,Bo (!(decide (q <+: way x.name)))),(6,Bo (!(decide (q <+: way x.name))))] (Kl [] [(0,0),(1,2),(5,0),(6,0)] [2,3,4] [(3,Bo (!(decide (q <+: way x.name))))] (Kf ?_ (Kf ?_ (Kf ?_ KY))) ?_)))))))))
 refine Jr 2 6 (Sr (way x.name)) [(5,Sr x.name)] (fun X=>?_)
 exact Jm 6 (Sr (way x.name)) (Jdz G x.name w1) Jp
 refine Jr 3 7 (Sr q) [(1,Pt b_q 0)] (fun X=>?_)
 exact JO (o':=0) 7 9 (cs:=[Sr q]) 0 (Sr q) hz_q Jp
 refine Jr 4 8 (Bo (decide (q <+: way x.name))) [(6,Sr (way x.name)),(7,Sr q)] (fun X=>?_)
 exact Jm 8 (Bo (decide (q <+: way x.name))) (JgJ G (way x.name) q) Jp
 refine Jc (Jn (Jo [0] [Bo (!(decide (q <+: way x.name)))] (Jx (Jh _) (congrArg Bo (?_:(Jc5 x q)=(!(decide (q <+: way x.name)))).symm))))
 rfl
theorem Ja9 (G:J5) (a_l:Ba) (c_l:Nat) (l:List Kc) (h_l:RS QK G a_l c_l l) (q:Bb) (hw_q:(q).length≤140737488351232) (h24:l.length≤24):YS 201 #[Sl a_l l.length c_l,Sr q] G [] (fun u G' L'=>∃ (a1:Ba) (c2:Nat) (r3:Bg),u=Sl a1 ((K9 l q).length) c2∧(JR QK G' a1 c2 (K9 l q) r3)∧L'=[r3]):=by
 refine JP Tryz.func201 9 [(0,Sl a_l l.length c_l),(1,Sr q)] rfl (fun w0 G0=>?_)
 refine Jf (Jd (Jv 3 #[Sr q] 9 (fun b1=>Jb [0] [] (Je (Jc (Jf (Jd (Jb [0] [(5,Sl a_l l.length c_l)] (JN 6 (YU G a_l c_l l h_l) (fun v G1 L1 hl1 hp=>?_))))))))))
 obtain ⟨a1,c1,r1,rfl,hr1,rfl⟩:=hp
 refine Jb [0] [(7,Fv 243 #[Pt b1 0])] (QI (b:=b1) (o:=0) (cs:=[Sr q]) 1 (fun G2 hl2 hz1=>Jw 0 (Qi (Ls:=[r1]) (Lr:=[[]]) 8 (JkH G2 a1 c1 l r1 (hr1.mono hl2) J4 243 #[Pt b1 0] (fun x0=>Jc5 x0 q) (fun _ _=>by kernel_rfl) (fun vs0 x0 hx0=>by obtain ⟨rfl,w1,w2⟩:=hx0;exact JkI G2 [Sr x0.name,Sr x0.value] x0 (⟨rfl,w1,w2⟩) [Sr q] q (⟨rfl,hw_q⟩) b1 hz1)) (fun v G3 L1 hl3 hp=>?_))))
 obtain ⟨a2,c2,r2,rfl,hr2,rfl⟩:=hp
 refine Jb [0] [(4,Sl a2 ((l.filter fun y=>!((fun x0=>Jc5 x0 q) y)).length) c2)] (Je (Jc (Jn (Jk 0 ?_))))
 have hf1:K9 l q=l.filter fun y=>!((fun x0=>Jc5 x0 q) y):=by
  rfl
 refine Jo [0] [Sl a2 ((l.filter fun y=>!((fun x0=>Jc5 x0 q) y)).length) c2] (JD [r2] (Ja (Ja hl1 hl2) hl3) ?_)
 rw [hf1]
 try dsimp only
 exact ⟨a2,c2,r2,rfl,hr2,rfl⟩
abbrev JlE (l:List Kc) (q:Bb):=Ji (Qo 2 (WC (K9 l (q++([48]))) (q++([48]))) (WC (K9 l (q++([49]))) (q++([49]))))
abbrev JlF (l:List Kc) (q:Bb):=WC (K9 l (q++([48]))) (q++([48]))
abbrev JlG (l:List Kc) (q:Bb):=WC (K9 l (q++([49]))) (q++([49]))
theorem Jf3 (N:Nat):∀ (G:J5) (a_l:Ba) (c_l:Nat) (l:List Kc) (h_l:RS QK G a_l c_l l) (q:Bb) (hw_q:(q).length≤140737488351232) (h24:l.length≤24) (hq:q.length≤16),16-q.length<N→QZ 200 #[Sl a_l l.length c_l,Sr q] G (U (WC l q)):=by
 induction N with
 | zero=>intros;omega
 | succ N ih =>
  intro G a_l c_l l h_l q hw_q h24 hq hN
  refine JP Tryz.func200 50 [(0,Sl a_l l.length c_l),(1,Sr q)] rfl (fun w0 G0=>?_)
  refine Jg [0] [] (Jf (Jy (Jf (Jd (Jb [0,0,0,0] [(14,Bo (decide ((l.length:Int)=0)))] (Ks (decide ((l.length:Int)=0)) [14] [1,1,1,0] [0,0,0,0] (fun bb=>[(18,Bo (bb || (decide (((q).length:Int)=16))))]) (Jb [0] [(10,Bo ((decide ((l.length:Int)=0)) || (decide (((q).length:Int)=16))))] (Je (Jc (Jl ((decide ((l.length:Int)=0)) || (decide (((q).length:Int)=16))) (fun h1=>?_) (fun h1=>?_)))))))))))
  ·
   refine Jf (Jd (Jb [0] [(19,Sl a_l l.length c_l)] (Jm 20 (Sr (K7 l)) (Jaq G a_l c_l l h_l ‹_›) (Jm 21 (U (Ji (K7 l))) (Ya (K7 l) (Jc1 (Hm (JbF ‹_›) (by decide))) G) (Jb [0] [(4,U (Ji (K7 l)))] (Je (Jc (Jn (Ju (Jj (Jo [0] [U (Ji (K7 l))] (Jx (Jh _) (congrArg U (?_:(WC l q)=(Ji (K7 l))).symm)))))))))))))
   (rw [Jjj (by omega)];done)
  ·
   refine Jq (JM (Jc (Jf (Jd (Jb [0] [(22,Sr q)] (Z1 23 q ([48]) (by (simp only [Hd,He,Hf];omega)) (Jb [0] [(24,Sr q)] (Z1 25 q ([49]) (by (simp only [Hd,He,Hf];omega)) (Jb [0,0] [(5,Sr (q++([48]))),(6,Sr (q++([49])))] (Je (Jc (Jf (Jd (Jb [0,0] [(26,Sl a_l l.length c_l),(27,Sr (q++([48])))] (JN 28 (Ja9 G a_l c_l l h_l (q++([48])) (by (simp;omega)) ‹_›) (fun v G1 L1 hl1 hp=>?_))))))))))))))))
   obtain ⟨a1,c1,_,rfl,hr1,rfl⟩:=hp
   refine Jb [0] [(29,Sr (q++([48])))] (Wg (E:=QK) 0 hr1 (by have q_:=Y9 l (q++([48]));(simp only [QK];omega)) (fun G2 hl2 hs1=>Jm 30 (U (JlF l q)) (ih G2 a1 c1 (K9 l (q++([48]))) hs1 (q++([48])) (by (simp;omega)) (by (have q_:=Y9 l (q++[48]);omega)) (by (simp;omega)) (by simp only [Hd,He,Hf] at *;omega)) (Jb [0,0] [(31,Sl a_l l.length c_l),(32,Sr (q++([49])))] (JN 33 (Ja9 G2 a_l c_l l (h_l.mono (Ja hl1 hl2)) (q++([49])) (by (simp;omega)) ‹_›) (fun v G3 L1 hl3 hp=>?_)))))
   obtain ⟨a2,c2,_,rfl,hr2,rfl⟩:=hp
   refine Jb [0] [(34,Sr (q++([49])))] (Wg (E:=QK) 0 hr2 (by have q_:=Y9 l (q++([49]));(simp only [QK];omega)) (fun G4 hl4 hs2=>Jm 35 (U (JlG l q)) (ih G4 a2 c2 (K9 l (q++([49]))) hs2 (q++([49])) (by (simp;omega)) (by (have q_:=Y9 l (q++[49]);omega)) (by (simp;omega)) (by simp only [Hd,He,Hf] at *;omega)) (Jb [0,0] [(7,U (JlF l q)),(8,U (JlG l q))] (Je (Jc (Jf (Jf (Jd (Jm 36 (Sr (K7 ([]))) (Jaq G4 none 0 ([]) (J2 QK G4) (by (simp;done))) (Jm 37 (U (Ji (K7 ([])))) (Ya (K7 ([])) (Jc1 (Hm (JbF (by simp)) (by decide))) G4) (Jb [0] [(9,U (Ji (K7 ([]))))] (Je (Jc (Jf (Jd (Jb [0,0,0,0] [(41,Bo (decide (WC (K9 l (q++([48]))) (q++([48]))=Ji (K7 ([])))))] (Ks (decide (WC (K9 l (q++([48]))) (q++([48]))=Ji (K7 ([])))) [41] [0,0,0,0] [1,1,1,0] (fun bb=>[(45,Bo (bb && (decide (WC (K9 l (q++([49]))) (q++([49]))=Ji (K7 ([]))))))]) (Je (Jc (Jl ((decide (WC (K9 l (q++([48]))) (q++([48]))=Ji (K7 ([])))) && (decide (WC (K9 l (q++([49]))) (q++([49]))=Ji (K7 ([]))))) (fun h2=>?_) (fun h2=>?_)))))))))))))))))))))
   ·
    refine Jg [0,0] [(4,U (Ji (K7 ([]))))] (Jn (Jj (Jo [0] [U (Ji (K7 ([])))] (Jx (Ja (Ja (Ja hl1 hl2) hl3) hl4) (congrArg U (?_:(WC l q)=(Ji (K7 ([])))).symm)))))
    (rw [JeR (by omega) (by omega)];unfold JdG;(rw [if_pos ‹_›];done))
   ·
    refine Jq (Jc (Jf (Jd (Jb [0,0] [(47,U (JlF l q)),(48,U (JlG l q))] (Jm 49 (U (JlE l q)) (JiV 2 (JlF l q) (JlG l q) G4) (Jb [0] [(4,U (JlE l q))] (Je (Jc (Jn (Jo [0] [U (JlE l q)] (Jx (Ja (Ja (Ja hl1 hl2) hl3) hl4) (congrArg U (?_:(WC l q)=(JlE l q)).symm))))))))))))
    (rw [JeR (by omega) (by omega)];unfold JdG;(rw [if_neg (by intro hc_;have q_:=h2 hc_.1;exact q_ hc_.2)];done))
theorem JkJ (G:J5) (a_l:Ba) (c_l:Nat) (l:List Kc) (h_l:RS QK G a_l c_l l) (q:Bb) (hw_q:(q).length≤140737488351232) (h24:l.length≤24) (hq:q.length≤16):QZ 200 #[Sl a_l l.length c_l,Sr q] G (U (WC l q)):=Jf3 (16-q.length+1) G a_l c_l l h_l q hw_q h24 hq (Nat.lt_succ_self _)
theorem JeS (G:J5) (a_l:Ba) (c_l:Nat) (l:List Kc) (h_l:RS QK G a_l c_l l) (q:Bb) (hw_q:(q).length≤140737488351232) :QZ 146 #[Sl a_l l.length c_l,Sr q] G (.tuple #[U ((JY l q).1),I ((JY l q).2)]):=by
 refine JP Tryz.func146 25 [(0,Sl a_l l.length c_l),(1,Sr q)] rfl (fun w0 G0=>?_)
 refine Jg [0,0] [] (Jf (Jf (Jd (Jb [0] [(7,Sl a_l l.length c_l)] (Jm 8 (I (Kq l)) (Vj G a_l c_l l h_l) (Jb [0] [(6,I (Kq l))] (Je (Jc (Jg [0,0] [(10,Bo (!decide (Kq l=0)))] (Jl (!decide (Kq l=0)) (fun h1=>?_) (fun h1=>?_)))))))))))
 refine Jg [0,0,0] [(4,U 0),(5,I (Kq l))] (Jn (Jj (Jo [0,0] [U 0,I (Kq l)] (Jx (Jh _) ?_))))
 have hf_:(JY l q)=(0,(Kq l)):=by
  unfold JY;(rw [if_pos ‹_›];done)
 · (try rw [hf_]);(simp only [QC];done)
 refine Jq (Jc (Jf (Jf (Jd (Jb [0,0,0,0] [(15,Bo (decide (((q).length:Int) > 16)))] (QR [15] (decide (((q).length:Int) > 16)) (fun h2=>?_) (fun h2=>?_)))))))
 refine Jb [1,1,1,0] [(19,Bo true)] (Je (Jc (J0 (Jg [0,0] [(4,U 0),(5,I 3)] (Jn (Jj (Jo [0,0] [U 0,I 3] (Jx (Jh _) ?_))))))))
 have hf_:(JY l q)=(0,3):=by
  unfold JY;(rw [if_neg (by omega)];(rw [if_pos (by simp_all)];done))
 · (try rw [hf_]);(simp only [QC];done)
 refine Jb [0] [(16,Sr q)] (Jm 17 (Sr (Jbp q)) (JmO G q hw_q) (Jb [0,0] [(19,Bo (!((B (Jbp q)).toList == (B ([])).toList)))] (Kv 19 (Bo (!(Jbp q == []))) (show (Bo (!((B (Jbp q)).toList == (B ([])).toList)):Value)=Bo (!(Jbp q == [])) by simp only [Qx]) (Je (Jc (Jl (!(Jbp q == [])) (fun h3=>?_) (fun h3=>?_)))))))
 refine Jg [0,0] [(4,U 0),(5,I 3)] (Jn (Jj (Jo [0,0] [U 0,I 3] (Jx (Jh _) ?_))))
 have hf_:(JY l q)=(0,3):=by
  unfold JY;(rw [if_neg (by omega)];(rw [if_pos (by simp_all)];done))
 · (try rw [hf_]);(simp only [QC];done)
 refine Jq (Jc (Jf (Jd (Jb [0,0] [(20,Sl a_l l.length c_l),(21,Sr q)] (JN 22 (Ja9 G a_l c_l l h_l q ‹_› (by exact (Qg.1 ‹_›).len)) (fun v G1 L1 hl1 hp=>?_))))))
 obtain ⟨a1,c1,_,rfl,hr1,rfl⟩:=hp
 refine Jb [0] [(23,Sr q)] (Wg (E:=QK) 0 hr1 (by have q_:=Y9 l q;(have q1_:=(Qg.1 ‹_›).len;simp only [QK];omega)) (fun G2 hl2 hs1=>Jm 24 (U (WC (K9 l q) q)) (JkJ G2 a1 c1 (K9 l q) hs1 q ‹_› (by (have q_:=(Qg.1 ‹_›).len;have q1_:=Y9 l q;omega)) J4) (Jb [0,0] [(4,U (WC (K9 l q) q)),(5,I 0)] (Je (Jc (Jn (Jo [0,0] [U (WC (K9 l q) q),I 0] (Jx (Ja hl1 hl2) ?_))))))))
 have hf_:(JY l q)=((WC (K9 l q) q),0):=by
  unfold JY;(rw [if_neg (by omega)];(rw [if_neg (by simp_all)];done))
 · (try rw [hf_]);(simp only [QC];done)
theorem JbH (G:J5) (a_l:Ba) (c_l:Nat) (l:List Kc) (h_l:RS QK G a_l c_l l) :QZ 95 #[Sl a_l l.length c_l] G (.tuple #[U ((JY l []).1),I ((JY l []).2)]):=by
 refine JP Tryz.func95 8 [(0,Sl a_l l.length c_l)] rfl (fun w0 G0=>?_)
 refine Jg [0,0] [] (Jf (Jd (Jb [0] [(4,Sl a_l l.length c_l)] (Jm 5 (.tuple #[U ((JY l ([])).1),I ((JY l ([])).2)]) (JeS G a_l c_l l h_l ([]) (Hb rfl)) (Jb [0,0,0,0] [(2,U ((JY l ([])).1)),(3,I ((JY l ([])).2))] (Je (Jc (Jn (Jo [0,0] [U ((JY l ([])).1),I ((JY l ([])).2)] (Jx (Jh _) ?_))))))))))
 have hf_:(JY l [])=(((JY l ([])).1),((JY l ([])).2)):=by
  rfl
 · (try rw [hf_]);(simp only [QC];done)
theorem Jf4 {R:Kc→Kc→Prop} (hi:∀ x,¬ R x x) (ha:∀ x y,R x y→¬ R y x):∀ (l m:List Kc),l.Pairwise R→m.Pairwise R→(∀ y,y∈l ↔ y∈m)→l=m
 | [],m,_,_,h=>by
  cases m with
  | nil=>rfl
  | cons y m=>exact absurd ((h y).2 (HH ..)) (HT)
 | x::l,[],_,_,h=>absurd ((h x).1 (HH ..)) (HT)
 | x::l,y::m,h1,h2,h=>by
  rw [List.pairwise_cons] at h1 h2
  have e:x=y:=by
   rcases HC.1 ((h x).1 (HH ..)) with e | e
   · exact e
   rcases HC.1 ((h y).2 (HH ..)) with e' | e'
   · exact e'.symm
   · exact absurd (h1.1 _ e') (ha _ _ (h2.1 _ e))
  subst e
  congr 1
  refine Jf4 hi ha l m h1.2 h2.2 fun z=>⟨fun hz=>?_,fun hz=>?_⟩
  ·
   rcases HC.1 ((h z).1 (H0 _ hz)) with e | e
   · subst e;exact absurd (h1.1 _ hz) (hi _)
   · exact e
  ·
   rcases HC.1 ((h z).2 (H0 _ hz)) with e | e
   · subst e;exact absurd (h2.1 _ hz) (hi _)
   · exact e
theorem ZY.pair {l:List Kc} (h:ZY l):l.Pairwise fun x y=>Yq x.name y.name<0:=by
 rw [List.pairwise_iff_getElem]
 intro i j hi hj hij
 exact h.ord i j _ _ hij (Hk hi) (Hk hj)
theorem ZY.ext {l m:List Kc} (h1:ZY l) (h2:ZY m) (h:∀ y,y∈l ↔ y∈m):l=m:=by
 refine Jf4 (R:=fun x y=>Yq x.name y.name<0) (fun x hx=>?_) (fun x y hx hy=>?_) l m h1.pair h2.pair h
 · have:=YI.2 (rfl:x.name=x.name);omega
 · have:=Jc2 hx hy;have:=YI.2 (rfl:x.name=x.name);omega
theorem Jc6 {l:List Kc} {q:Bb} (h:(JY l q).2=0):ZY l∧q.length≤16∧(∀ b∈q,isB b=true)∧(JY l q).1=WC (K9 l q) q:=by
 unfold JY at h ⊢
 split at h
 · contradiction
 rename_i h1
 split at h
 · cases h
 rename_i h2
 rw [if_neg h1,if_neg h2]
 have h3:Jbp q=[]:=Hl.1 fun hc=>h2 (.inr hc)
 have h4:¬ (q.length:Int) > 16:=fun hc=>h2 (.inl hc)
 exact ⟨Qg.1 (Hl.1 h1),by omega,Jhq.1 h3,rfl⟩
theorem Jf5 {l:List Kc} {q:Bb} (h1:ZY l) (h2:q.length≤16) (h3:∀ b∈q,isB b=true):JY l q=(WC (K9 l q) q,0):=by
 unfold JY
 rw [if_neg (fun hc=>hc (Qg.2 h1)),if_neg]
 rintro (hc | hc)
 · omega
 · exact hc (Jhq.2 h3)
def YE (b:UInt8):UInt8:=HJ (97-(b.toNat:Int)).toNat
theorem Jjk {b:UInt8} (h:48≤b.toNat∧b.toNat≤49):Utf8.encode (97-(b.toNat:Int))=B [YE b]:=JhP (by omega) (by omega)
def Jov (l:List Kc) (p:Bb) (k:Nat):Int:=(JY l (p.take k++[YE (p[k]?.getD 48)])).1
def Jc7 (l:List Kc) (p:Bb) (n:Nat):List Int:=(List.range n).map fun i=>Jov l p (15-i)
theorem Jc8 (l:List Kc) (p:Bb) (n:Nat):(Jc7 l p n).length=n:=by unfold Jc7;simp
theorem Jjl {l:List Kc} {p:Bb} {k:Nat} {y:UInt8} (hy:p[k]? = some y) (hk:k≤15):Jc7 l p (15-k)++[(JY l (p.take k++[YE y])).1]=Jc7 l p (15-k+1):=by
 unfold Jc7
 rw [List.range_succ,List.map_append]
 congr 1
 simp only [List.map_cons,List.map_nil]
 unfold Jov
 rw [show 15-(15-k)=k by omega,hy];rfl
def Jem:Q4:=⟨[],[],[]⟩
def Jf6 (l:List Kc) (p:Bb):List Kc:=l.filter fun x=>way x.name == p
theorem JmU {l:List Kc} {i:Nat} {x:Kc} {p:Bb} (h:l[i]? = some x) (hp:(way x.name == p)=true):Jf6 (l.take i) p++[x]=Jf6 (l.take (i+1)) p:=by unfold Jf6;rw [Ht,h];simp [hp]
theorem JmV {l:List Kc} {i:Nat} {x:Kc} {p:Bb} (h:l[i]? = some x) (hp:¬ (way x.name == p)=true):Jf6 (l.take i) p=Jf6 (l.take (i+1)) p:=by unfold Jf6;rw [Ht,h];simp [hp]
theorem Jia (l:List Kc) (p:Bb):(Jf6 l p).length≤l.length:=HY ..
def Qe (l:List Kc) (name:Bb):Q4×Int:=if ¬ Kq l=0 then (Jem,Kq l) else if ¬ (KM name).2=0 then (Jem,(KM name).2) else (⟨name,Jf6 l (KM name).1,Jc7 l (KM name).1 16⟩,0)
set_option maxRecDepth 20000 in
theorem JgL (G:J5) (a_l:Ba) (c_l:Nat) (l:List Kc) (h_l:RS QK G a_l c_l l) (name:Bb) (hw_name:(name).length≤140737488351232) :YS 194 #[Sl a_l l.length c_l,Sr name] G [] (fun u G' L'=>∃ (a1:Ba) (c2:Nat) (a3:Ba) (c4:Nat),u=.tuple #[.agg #[Sr (((Qe l name).1).name),Sl a1 ((((Qe l name).1).entries).length) c2,Sl a3 ((((Qe l name).1).sides).length) c4],I ((Qe l name).2)]∧((((Qe l name).1).name).length≤140737488351232)∧(RS QK G' a1 c2 (((Qe l name).1).entries))∧(RS EU G' a3 c4 (((Qe l name).1).sides))∧L'=[]):=by
 refine JP Tryz.func194 78 [(0,Sl a_l l.length c_l),(1,Sr name)] rfl (fun w0 G0=>?_)
 refine Jf (Jd (Jv 4 #[Sr ([]),Sl none 0 0,Sl none 0 0] 47 (fun b1=>Jb [0] [] (Je (Jc (Jf (Jf (Jd (Jb [0] [(16,Sl a_l l.length c_l)] (Jm 17 (I (Kq l)) (Vj G a_l c_l l h_l) (Jb [0] [(6,I (Kq l))] (Je (Jc (Jg [0,0] [(19,Bo (!decide (Kq l=0)))] (Jl (!decide (Kq l=0)) (fun h1=>?_) (fun h1=>?_))))))))))))))))
 refine Jg [0,0,3,0] [(5,I (Kq l))] (Jn (Jj ?_))
 have hf1:Qe l name=((⟨[],[],[]⟩:Q4),Kq l):=by
  unfold Qe Jem;(rw [if_pos ‹_›];done)
 refine Jo [0,0] [.agg #[Sr ([]),Sl none 0 0,Sl none 0 0],I (Kq l)] (JD [] (Jh _) ?_)
 rw [hf1]
 try dsimp only
 exact ⟨none,0,none,0,rfl,(Hb rfl),(J2 QK G),(J2 EU G),rfl⟩
 refine Jq (Jc (Jf (Jd (Jb [0] [(23,Sr name)] (Jm 24 (.tuple #[Sr ((KM name).1),I ((KM name).2)]) (Jc3 G name hw_name) (Jb [0,0,0,0,0] [(7,Sr ((KM name).1)),(8,I ((KM name).2))] (Je (Jc (Jf (Jg [0,0] [(28,Bo (!decide ((KM name).2=0)))] (Jl (!decide ((KM name).2=0)) (fun h2=>?_) (fun h2=>?_))))))))))))
 refine Jg [0,0,3,0] [(5,I ((KM name).2))] (Jn (Jj ?_))
 have hf2:Qe l name=((⟨[],[],[]⟩:Q4),(KM name).2):=by
  unfold Qe Jem;(rw [if_neg (by omega)];(rw [if_pos ‹_›];done))
 refine Jo [0,0] [.agg #[Sr ([]),Sl none 0 0,Sl none 0 0],I ((KM name).2)] (JD [] (Jh _) ?_)
 rw [hf2]
 try dsimp only
 exact ⟨none,0,none,0,rfl,(Hb rfl),(J2 QK G),(J2 EU G),rfl⟩
 refine Jq (Jc (Jf (Jd (Jb [0,0] [(32,.agg #[Sr name,Sl none 0 0,Sl none 0 0])] (Jv 9 #[Sr ([]),Sl none 0 0,Sl none 0 0] 47 (fun b2=>JW [3] [] [[Sg b2 0 [Sr name,Sl none 0 0,Sl none 0 0]],[Sg b1 0 [Sr ([]),Sl none 0 0,Sl none 0 0]]] (Je (Jc (Jf (Jg [0,0,0] [(33,Sl a_l l.length c_l),(34,I (l.length:Int)),(35,I 0)] (Jy (ZA ?_))))))))))))
 have hlm_h_l:l.length≤9223372036854775807:=Hm (h_l).le (h_l).max
 refine Qc (σ:=Nat×Ba×Nat×Bg×List Kc×J5) (fun q_=>(J5.le G q_.2.2.2.2.2)∧(q_.1≤l.length)∧(JR QK q_.2.2.2.2.2 q_.2.1 q_.2.2.1 q_.2.2.2.2.1 q_.2.2.2.1)∧(q_.2.2.2.2.1=Jf6 (l.take q_.1) (KM name).1)) (fun q_=>[(0,Sl a_l l.length c_l),(4,Pt b1 0),(7,Sr ((KM name).1)),(9,Pt b2 0),(33,Sl a_l l.length c_l),(34,I (l.length:Int)),(35,I (q_.1:Int))]) (fun q_=>q_.2.2.2.2.2) (fun q_=>[q_.2.2.2.1,[Sg b2 0 [Sr name,Sl q_.2.1 q_.2.2.2.2.1.length q_.2.2.1,Sl none 0 0]],[Sg b1 0 [Sr ([]),Sl none 0 0,Sl none 0 0]]]) (fun q_=>l.length-q_.1) (0,none,0,[],[],G) ⟨(Jh _),(by (try dsimp only);exact Hr _),(JR.none QK _),(by (try dsimp only);simp [Jf6])⟩ (fun q_ hs=>?_)
 obtain ⟨i,ao,co,ro,xo,g⟩:=q_
 obtain ⟨hle,hi,hro,hxo⟩:=hs
 dsimp only at hle hi hro hxo
 dsimp only
 refine Jg [0] [(36,Bo (decide ((i:Int)<(l.length:Int))))] (Jf (Jl (decide ((i:Int)<(l.length:Int))) (fun h3=>?_) (fun h3=>?_)))
 refine Jq (Jc (Jf (Jy (Jf (Jd ?_)))))
 obtain ⟨b3,o1,rfl⟩:=RS.addr (h_l.mono hle) (k:=i) (by omega)
 obtain ⟨x1,hx1⟩:=QS (l:=l) (k:=i) (by omega)
 obtain ⟨_,⟨rfl,w1,_⟩,hc1⟩:=RS.get (h_l.mono hle) hx1
 refine JV (b:=b3) (off:=o1) (len:=l.length) (cap:=c_l) (ik:=.i64) 37 111 2 i J4 (JO 38 111 (cs:=[Sr x1.name,Sr x1.value]) 0 (.agg #[Sr x1.name,Sr x1.value]) hc1 (Jv 11 #[Sr ([]),Sr ([])] 111 (fun b4=>JW [3] [] [[Sg b4 0 [Sr x1.name,Sr x1.value]],ro,[Sg b2 0 [Sr name,Sl ao xo.length co,Sl none 0 0]],[Sg b1 0 [Sr ([]),Sl none 0 0,Sl none 0 0]]] (Je (Jc (Jf (Jd (Jb [0,2] [(40,Sr x1.name)] (Jm 41 (Sr (way x1.name)) (JdF g x1.name w1) (Jb [0,0] [(43,Bo ((B (way x1.name)).toList == (B ((KM name).1)).toList))] (Kv 43 (Bo (way x1.name == (KM name).1)) (show (Bo ((B (way x1.name)).toList == (B ((KM name).1)).toList):Value)=Bo (way x1.name == (KM name).1) by simp only [Qx]) (Je (Jc (Jl (way x1.name == (KM name).1) (fun h4=>?_) (fun h4=>?_)))))))))))))))
 exact Jd (Jb [0,6,2] [(45,Sl ao xo.length co),(46,.agg #[Sr x1.name,Sr x1.value])] (Km 47 1 #[Sr x1.name,Sr x1.value] 111 (fun b5=>Qd (b:=b5) (cs:=[Sr x1.name,Sr x1.value]) 48 111 2 0 (E:=QK) x1 hro ⟨rfl,‹_›,‹_›⟩ (by have q_:=(Qg.1 ‹_›).len;(have q2_:=Jia (l.take i) (KM name).1;have q3_:=congrArg Hn hxo;rw [Hg] at q2_;(try simp only [QK,EU,Hd,He,Hf] at *);omega)) (by have q_:=(Qg.1 ‹_›).len;(have q2_:=Jia (l.take i) (KM name).1;have q3_:=congrArg Hn hxo;rw [Hg] at q2_;(try simp only [QK,EU,Hd,He,Hf] at *);omega)) (fun a1 c1 r1 hr1=>JW [0,9] [] [[Sg b5 0 [Sr x1.name,Sr x1.value]],[Sg b4 0 [Sr x1.name,Sr x1.value]],r1,[Sg b2 0 [Sr name,Sl a1 ((xo++[x1]).length) c1,Sl none 0 0]],[Sg b1 0 [Sr ([]),Sl none 0 0,Sl none 0 0]]] (Je (JM (Jc (Jd (Jb [0,0] [(35,I (Ha.wrap ((i:Int)+1)))] (Kp 35 ((i:Int)+1) J4 (Je (Qy [r1,[Sg b2 0 [Sr name,Sl a1 ((xo++[x1]).length) c1,Sl none 0 0]],[Sg b1 0 [Sr ([]),Sl none 0 0,Sl none 0 0]]] (Qh (i+1,a1,c1,r1,xo++[x1],g) ⟨(Ja hle (Jh _)),J4,hr1,(by (try dsimp only);rw [hxo];exact JmU hx1 (by simp_all))⟩ (by (try dsimp only);omega))))))))))))))
 exact Jq (JM (Jc (Jd (Jb [0,0] [(35,I (Ha.wrap ((i:Int)+1)))] (Kp 35 ((i:Int)+1) J4 (Je (Qy [ro,[Sg b2 0 [Sr name,Sl ao xo.length co,Sl none 0 0]],[Sg b1 0 [Sr ([]),Sl none 0 0,Sl none 0 0]]] (Qh (i+1,ao,co,ro,xo,g) ⟨(Ja hle (Jh _)),J4,hro,(by (try dsimp only);rw [hxo];exact JmV hx1 (by simp_all))⟩ (by (try dsimp only);omega)))))))))
 refine KX (J1 (Kd (JS (Jc (Jf (Jg [0] [(12,I 15)] (Jy (ZA ?_))))))))
 have hlm_h_l:l.length≤9223372036854775807:=Hm (h_l).le (h_l).max
 refine Qc (σ:=Int×Ba×Nat×Bg×List Kc×Ba×Nat×Bg×List Int×J5) (fun q_=>(J5.le g q_.2.2.2.2.2.2.2.2.2)∧(-1≤q_.1∧q_.1≤15)∧(JR QK q_.2.2.2.2.2.2.2.2.2 q_.2.1 q_.2.2.1 q_.2.2.2.2.1 q_.2.2.2.1)∧(q_.2.2.2.2.1=Jf6 l (KM name).1)∧(JR EU q_.2.2.2.2.2.2.2.2.2 q_.2.2.2.2.2.1 q_.2.2.2.2.2.2.1 q_.2.2.2.2.2.2.2.2.1 q_.2.2.2.2.2.2.2.1)∧(q_.2.2.2.2.2.2.2.2.1=Jc7 l (KM name).1 (15-q_.1).toNat)) (fun q_=>[(0,Sl a_l l.length c_l),(4,Pt b1 0),(7,Sr ((KM name).1)),(9,Pt b2 0),(12,I q_.1)]) (fun q_=>q_.2.2.2.2.2.2.2.2.2) (fun q_=>[q_.2.2.2.2.2.2.2.1,q_.2.2.2.1,[Sg b2 0 [Sr name,Sl q_.2.1 q_.2.2.2.2.1.length q_.2.2.1,Sl q_.2.2.2.2.2.1 q_.2.2.2.2.2.2.2.2.1.length q_.2.2.2.2.2.2.1]],[Sg b1 0 [Sr ([]),Sl none 0 0,Sl none 0 0]]]) (fun q_=>(q_.1+1).toNat) (15,ao,co,ro,xo,none,0,[],[],g) ⟨(Jh _),(by (try dsimp only);omega),hro,(by (try dsimp only);rw [hxo,HA (by omega)]),(JR.none EU _),rfl⟩ (fun q_ hs=>?_)
 obtain ⟨k,ao,co,ro,xo,am,cm,rm,xm,g1_⟩:=q_
 obtain ⟨hle1_,hk,hro,hxo,hrm,hxm⟩:=hs
 dsimp only at hle1_ hk hro hxo hrm hxm
 dsimp only
 refine Jf (Jg [0,0] [(52,Bo (decide (k ≥ 0)))] (Jl (decide (k ≥ 0)) (fun h5=>?_) (fun h5=>?_)))
 refine Jq (Jc (Jf (Jy ?_)))
 obtain ⟨kn1,hkn1⟩:∃ k_:Nat,k=(k_:Int):=⟨(k).toNat,by omega⟩
 have e1:k=(kn1:Int):=hkn1
 refine QU 12 (I (kn1:Int)) (congrArg I e1) (Jf ?_)
 obtain ⟨y1,hy1⟩:=QS (l:=(KM name).1) (k:=kn1) (by (have q_:=Jel (a:=name) ‹_›;have q1_:=congrArg Hn q_;rw [Jan] at q1_;omega))
 have hb_y1:=y1.toNat_lt
 have e2:HZ.wrap (y1.toNat:Int)=(y1.toNat:Int):=by (rw [IntKind.wrap_i32];omega)
 have e3:HZ.wrap (97-(y1.toNat:Int))=97-(y1.toNat:Int):=by (rw [IntKind.wrap_i32];omega)
 refine Kt [] (Wm [(0,Sr ((KM name).1)),(1,I (kn1:Int)),(2,Sr (((KM name).1).take kn1)),(3,Sr ((KM name).1)),(4,I (kn1:Int)),(5,Y (y1.toNat:Int)),(6,.int .i32 (y1.toNat:Int)),(7,.int .i32 (97-(y1.toNat:Int))),(8,Sr ([YE y1])),(9,Sr ((((KM name).1).take kn1)++([YE y1]))),(10,Sr ((((KM name).1).take kn1)++([YE y1])))] (Kl [] [(0,0),(1,0),(3,0),(4,0),(10,0)] [2,5,6,7,8,9] [(0,Sl a_l l.length c_l),(4,Pt b1 0),(7,Sr ((KM name).1)),(9,Pt b2 0),(12,I (kn1:Int)),(13,Sr ((((KM name).1).take kn1)++([YE y1])))] (Kf ?_ (Kf ?_ (Kf ?_ (Kf ?_ (Kf ?_ (Kf ?_ KY)))))) ?_))
 refine Jr 2 57 (Sr (((KM name).1).take kn1)) [(55,Sr ((KM name).1)),(56,I (kn1:Int))] (fun X=>?_)
 exact Jd9 (l:=(KM name).1) 57 none (some (I (kn1:Int))) 0 kn1 (.inl ⟨rfl,rfl⟩) (.inr ⟨_,rfl⟩) (Hr _) (by (have q_:=Jel (a:=name) ‹_›;have q1_:=congrArg Hn q_;rw [Jan] at q1_;omega)) Jp
 refine Jr 5 60 (Y (y1.toNat:Int)) [(58,Sr ((KM name).1)),(59,I (kn1:Int))] (fun X=>?_)
 exact Jbk (ik:=.i64) 60 kn1 y1 hy1 Jp
 refine Jr 6 61 (.int .i32 (y1.toNat:Int)) [(60,Y (y1.toNat:Int))] (fun X=>?_)
 exact K5 61 (.int .i32 (HZ.wrap (y1.toNat:Int))) (.int .i32 (y1.toNat:Int)) (by simp only [e2]) Jp
 refine Jr 7 62 (.int .i32 (97-(y1.toNat:Int))) [(61,.int .i32 (y1.toNat:Int))] (fun X=>?_)
 exact K5 62 (.int .i32 (HZ.wrap (97-(y1.toNat:Int)))) (.int .i32 (97-(y1.toNat:Int))) (by simp only [e3]) Jp
 refine Jr 8 63 (Sr ([YE y1])) [(62,.int .i32 (97-(y1.toNat:Int)))] (fun X=>?_)
 exact JnO 63 (97-(y1.toNat:Int)) [YE y1] (Jjk (isB_bd (JkB name _ (Ho (by rw [← Jel ‹_›];exact hy1))))) Jp
 refine Jr 9 64 (Sr ((((KM name).1).take kn1)++([YE y1]))) [(57,Sr (((KM name).1).take kn1)),(63,Sr ([YE y1]))] (fun X=>?_)
 exact Z1 64 (((KM name).1).take kn1) ([YE y1]) (by (try simp only [Hd,Hg,He,Hf]);omega) Jp
 refine Jc (Jf (Jd (Jb [0,0] [(66,Sl a_l l.length c_l),(67,Sr ((((KM name).1).take kn1)++([YE y1])))] (Jm 68 (.tuple #[U ((JY l ((((KM name).1).take kn1)++([YE y1]))).1),I ((JY l ((((KM name).1).take kn1)++([YE y1]))).2)]) (JeS g1_ a_l c_l l (h_l.mono (Ja hle hle1_)) ((((KM name).1).take kn1)++([YE y1])) (by (simp;omega))) (Jb [0,0,0,0,0] [(14,U ((JY l ((((KM name).1).take kn1)++([YE y1]))).1))] (Je (Jc (Jd (Jb [0,6,0] [(72,Sl am xm.length cm),(73,U ((JY l ((((KM name).1).take kn1)++([YE y1]))).1))] (Km 74 1 #[U ((JY l ((((KM name).1).take kn1)++([YE y1]))).1)] 41 (fun b6=>Qd (b:=b6) (cs:=[U ((JY l ((((KM name).1).take kn1)++([YE y1]))).1)]) 75 41 1 0 (E:=EU) ((JY l ((((KM name).1).take kn1)++([YE y1]))).1) hrm ⟨rfl,(Vq _ _)⟩ (by have q_:=(Qg.1 ‹_›).len;(have q3_:=congrArg Hn hxm;rw [Jc8] at q3_;(try simp only [QK,EU,Hd,He,Hf] at *);omega)) (by have q_:=(Qg.1 ‹_›).len;(have q3_:=congrArg Hn hxm;rw [Jc8] at q3_;(try simp only [QK,EU,Hd,He,Hf] at *);omega)) (fun a2 c2 r2 hr2=>JW [0,9] [] [[Sg b6 0 [U ((JY l ((((KM name).1).take kn1)++([YE y1]))).1)]],r2,ro,[Sg b2 0 [Sr name,Sl ao xo.length co,Sl a2 ((xm++[(JY l ((((KM name).1).take kn1)++([YE y1]))).1]).length) c2]],[Sg b1 0 [Sr ([]),Sl none 0 0,Sl none 0 0]]] (Je (JM (Jc (Jd (Jb [0,0,0] [(12,I (Ha.wrap ((kn1:Int)-1)))] (Kp 12 ((kn1:Int)-1) J4 (Je ?_)))))))))))))))))))
 exact Qy [r2,ro,[Sg b2 0 [Sr name,Sl ao xo.length co,Sl a2 ((xm++[(JY l ((((KM name).1).take kn1)++([YE y1]))).1]).length) c2]],[Sg b1 0 [Sr ([]),Sl none 0 0,Sl none 0 0]]] (Qh ((kn1:Int)-1,ao,co,ro,xo,a2,c2,r2,xm++[(JY l ((((KM name).1).take kn1)++([YE y1]))).1],g1_) ⟨(Ja hle1_ (Jh _)),(by (try dsimp only);omega),hro,hxo,hr2,(by (try dsimp only);rw [hxm,show (15-((kn1:Int)-1)).toNat=15-kn1+1 by omega,show (15-k).toNat=15-kn1 by omega];exact Jjl hy1 J4)⟩ (by (try dsimp only);omega))
 refine KX (J1 (Kd (JS (Jc (QF [6,9,0] [(5,I 0)] [rm,ro,[Sg b2 0 [Sr name,Sl ao xo.length co,Sl am xm.length cm]],[Sg b1 0 [Sr name,Sl ao xo.length co,Sl am xm.length cm]]] (Jn (Wy (E:=QK) 1 hro (by have q_:=(Qg.1 ‹_›).len;(have q3_:=congrArg Hn hxo;have q2_:=Jia l (KM name).1;(try simp only [QK,EU,Hd,He,Hf] at *);omega)) (fun G1 hl1 hs1=>Wy (E:=EU) 0 (hrm.mono hl1) (by have q_:=(Qg.1 ‹_›).len;(have q3_:=congrArg Hn hxm;rw [Jc8] at q3_;(try simp only [QK,EU,Hd,He,Hf] at *);omega)) (fun G2 hl2 hs2=>?_)))))))))
 have hf3:Qe l name=((⟨name,xo,xm⟩:Q4),0):=by
  unfold Qe Jem;(rw [if_neg (by omega)];(rw [if_neg (by omega),hxo,hxm,show (15-k).toNat=16 by omega];done))
 refine Jo [3,0] [.agg #[Sr name,Sl ao xo.length co,Sl am xm.length cm],I 0] (JD [] (Ja (Ja (Ja hle hle1_) hl1) hl2) ?_)
 rw [hf3]
 try dsimp only
 exact ⟨ao,co,am,cm,rfl,hw_name,(hs1.mono hl2),hs2,rfl⟩
def Jow (a:Bs):Bb:=a[a.length-1]?.getD []
theorem JmW {a:Bs} {k:Nat} {x:Bb} (hk:k=a.length-1) (h:a[k]? = some x):x=Jow a:=by unfold Jow;rw [← hk,h];rfl
def Ja2 (x y:JX):Bool:=decide (JB x y.root y.at_=(y,0))
theorem Jen {x y:JX}:Ja2 x y=true ↔ (JB x y.root y.at_).2=0∧(JB x y.root y.at_).1.epoch=y.epoch∧(JB x y.root y.at_).1.root=y.root∧(JB x y.root y.at_).1.prev=y.prev∧(JB x y.root y.at_).1.at_=y.at_:=by
 unfold Ja2
 rw [decide_eq_true_eq]
 constructor
 · intro h;rw [h];simp
 ·
  rintro ⟨h1,h2⟩
  exact Prod.ext (Jb3.2 h2) h1
def lnk:List JX→Nat→Int
 | x::y::r,i=>if Ja2 x y then lnk (y::r) (i+1) else (i:Int)
 | _,_=>-1
def Wu (l:List JX):Int:=lnk l 1
theorem JpY {l:List JX} {i:Nat} (h:l.length≤1):lnk l i=-1:=by
 match l,h with
 | [],_=>rfl
 | [_],_=>rfl
theorem Jox {l:List JX} {i:Nat} {x y:JX} (hi:1≤i) (hx:l[i-1]? = some x) (hy:l[i]? = some y) (h:Ja2 x y=true):lnk (l.drop (i-1)) i=lnk (l.drop (i+1-1)) (i+1):=by
 obtain ⟨h1,rfl⟩:=Hc.1 hx
 obtain ⟨h2,rfl⟩:=Hc.1 hy
 rw [Hj h1,show i-1+1=i by omega,show i+1-1=i by omega,Hj h2]
 show (if Ja2 _ _=true then _ else _)=_
 rw [if_pos h]
theorem Joy {l:List JX} {i:Nat} {x y:JX} (hi:1≤i) (hx:l[i-1]? = some x) (hy:l[i]? = some y) (h:¬ Ja2 x y=true):lnk (l.drop (i-1)) i=(i:Int):=by
 obtain ⟨h1,rfl⟩:=Hc.1 hx
 obtain ⟨h2,rfl⟩:=Hc.1 hy
 rw [Hj h1,show i-1+1=i by omega,Hj h2]
 show (if Ja2 _ _=true then _ else _)=_
 rw [if_neg h]
theorem JlH:∀ (l:List JX) (i:Nat),lnk l i<0 ↔ ∀ (k:Nat) x y,l[k]? = some x→l[k+1]? = some y→Ja2 x y=true
 | [],i=>by simp [lnk]
 | [a],i=>by simp [lnk]
 | a::b::r,i=>by
  have ih:=JlH (b::r) (i+1)
  unfold lnk
  split
  ·
   rename_i h
   rw [ih]
   constructor
   ·
    intro hh k x y hx hy
    cases k with
    | zero=>simp at hx hy;subst hx hy;exact h
    | succ k=>exact hh k x y hx hy
   ·
    intro hh k x y hx hy
    exact hh (k+1) x y hx hy
  ·
   rename_i h
   constructor
   · intro hh;omega
   · intro hh;exact absurd (hh 0 a b rfl rfl) h
def Vr:List JX→Nat→Int×Int
 | [],_=>(0,0)
 | h::l,i=>if JK h=0 then Vr l (i+1) else (JK h,(i:Int))
theorem Jjm {l:List JX} {i:Nat} {x:JX} (hx:l[i]? = some x) (h:JK x=0):Vr (l.drop i) i=Vr (l.drop (i+1)) (i+1):=by
 obtain ⟨h1,rfl⟩:=Hc.1 hx
 rw [Hj h1]
 show (if JK _=0 then _ else _)=_
 rw [if_pos h]
theorem JmX {l:List JX} {i:Nat} {x:JX} (hx:l[i]? = some x) (h:¬ JK x=0):Vr (l.drop i) i=(JK x,(i:Int)):=by
 obtain ⟨h1,rfl⟩:=Hc.1 hx
 rw [Hj h1]
 show (if JK _=0 then _ else _)=_
 rw [if_neg h]
theorem Jf7:∀ (l:List JX) (i:Nat),(Vr l i).1=0 ↔ ∀ h∈l,JK h=0
 | [],i=>by simp [Vr]
 | h::l,i=>by
  have ih:=Jf7 l (i+1)
  unfold Vr
  split
  · rename_i e;rw [ih];simp [e]
  · rename_i e;simp [e]
def Ki (l:List JX):Int×Int:=if l.length=0 then (5,0) else if 40<l.length then (2,0) else if (Vr l 0).1 ≠ 0 then Vr l 0 else if 0≤Wu l then (8,Wu l) else (0,0)
structure Zn (l:List JX):Prop where
 len1:1≤l.length
 len:l.length≤40
 ok:∀ h∈l,JK h=0
 lnk:∀ (k:Nat) x y,l[k]? = some x→l[k+1]? = some y→Ja2 x y=true
theorem Qa {l:List JX}:(Ki l).1=0 ↔ Zn l:=by
 unfold Ki
 have e1:=Jf7 l 0
 have e2:=JlH l 1
 constructor
 ·
  intro h
  split at h
  · cases h
  split at h
  · cases h
  split at h
  · contradiction
  split at h
  · cases h
  ·
   rename_i h1 h2 h3 h4
   exact ⟨by omega,by omega,e1.1 (Hl.1 h3),e2.1 (by unfold Wu at h4;omega)⟩
 ·
  rintro ⟨h1,h2,h3,h4⟩
  rw [if_neg (by omega),if_neg (by omega),if_neg (by have:=e1.2 h3;omega),if_neg (by have:=e2.2 h4;unfold Wu;omega)]
def K1:List (List JX)→Int
 | []=>0
 | l::r=>if (Ki l).1=0 then K1 r else (Ki l).1
theorem JgM {l:List (List JX)} {i:Nat} {x:List JX} (hx:l[i]? = some x) (h:(Ki x).1=0):K1 (l.drop i)=K1 (l.drop (i+1)):=by
 obtain ⟨h1,rfl⟩:=Hc.1 hx
 rw [Hj h1]
 show (if (Ki _).1=0 then _ else _)=_
 rw [if_pos h]
theorem Jjn {l:List (List JX)} {i:Nat} {x:List JX} (hx:l[i]? = some x) (h:¬ (Ki x).1=0):K1 (l.drop i)=(Ki x).1:=by
 obtain ⟨h1,rfl⟩:=Hc.1 hx
 rw [Hj h1]
 show (if (Ki _).1=0 then _ else _)=_
 rw [if_neg h]
theorem JdH:∀ (l:List (List JX)),K1 l=0 ↔ ∀ x∈l,Zn x
 | []=>by simp [K1]
 | a::l=>by
  have ih:=JdH l
  unfold K1
  split
  · rename_i e;rw [ih];simp [Qa.1 e]
  ·
   rename_i e;constructor
   · intro h;exact absurd h e
   · intro h;exact absurd (Qa.2 (h a (by simp))) e
theorem QL {l:List JX}:K1 [l]=0 ↔ Zn l:=by rw [JdH];simp
def W9 (l:List JX):JX:=l[l.length-1]?.getD ZE
def W2 (l:List JX):JX:=l[0]?.getD ZE
theorem Wz {l:List JX} {k:Nat} {x:JX} (hk:k=l.length-1) (h:l[k]? = some x):x=W9 l:=by unfold W9;rw [← hk,h];rfl
theorem W3 {l:List JX} {x:JX} (h:l[0]? = some x):x=W2 l:=by unfold W2;rw [h];rfl
def Yb (l:List JX) (root at_:Int):Int:=if K1 [l] ≠ 0 then K1 [l] else if (l.length:Int)=40 then 7 else (JB (W9 l) root at_).2
def QD (l:List JX) (root at_:Int):List JX×Int:=if Yb l root at_ ≠ 0 then ([],Yb l root at_) else (l++[(JB (W9 l) root at_).1],0)
def cut (l:List JX) (a b:Int):List JX:=(l.take (b-(W2 l).epoch+1).toNat).drop (a-(W2 l).epoch).toNat
def Zc (l:List JX) (a b:Int):List JX×Int:=if K1 [l] ≠ 0 then ([],K1 [l]) else if b<a∨a<(W2 l).epoch∨(W9 l).epoch<b then ([],4) else (cut l a b,0)
def QX (h:JX) (l:List JX):Bool×Int:=if K1 [l] ≠ 0 then (false,K1 [l]) else if JK h ≠ 0 then (false,JK h) else (decide (Wu [h,W2 l]<0),0)
theorem Zn.first {l:List JX} (h:Zn l):l[0]? = some (W2 l):=by
 have:=h.len1
 have e:l[0]? = some (l[0]'(by omega)):=Hk (by omega)
 rw [e];unfold W2;rw [e];rfl
theorem Zn.last {l:List JX} (h:Zn l):l[l.length-1]? = some (W9 l):=by
 have:=h.len1
 have e:l[l.length-1]? = some (l[l.length-1]'(by omega)):=Hk (by omega)
 rw [e];unfold W9;rw [e];rfl
theorem Jjo {x y:JX} (h:Ja2 x y=true):y.epoch=x.epoch+1:=by
 unfold Ja2 at h
 rw [decide_eq_true_eq] at h
 have h0:(JB x y.root y.at_).2=0:=by rw [h]
 have:=(Ja0 h0).2.2.2.1
 rw [h] at this
 have:=congrArg (fun p=>p.1.epoch) this
 simpa using this
theorem Zn.epoch {l:List JX} (h:Zn l):∀ (k:Nat) x,l[k]? = some x→x.epoch=(W2 l).epoch+k
 | 0,x,hx=>by rw [h.first] at hx;rw [← Hp.inj hx];simp
 | k+1,x,hx=>by
  have hk:=(Hc.1 hx).1
  have e:l[k]? = some (l[k]'(by omega)):=Hk (by omega)
  have:=h.epoch k _ e
  have:=Jjo (h.lnk k _ _ e hx)
  omega
theorem Zn.lastE {l:List JX} (h:Zn l):(W9 l).epoch=(W2 l).epoch+l.length-1:=by
 have:=h.epoch _ _ h.last
 have:=h.len1
 omega
theorem Zn.fb {l:List JX} (h:Zn l):0≤(W2 l).epoch∧(W2 l).epoch≤1000000:=by
 have:=Zl (h.ok _ (Ho h.first));omega
theorem Zn.lb {l:List JX} (h:Zn l):0≤(W9 l).epoch∧(W9 l).epoch≤1000000:=by
 have:=Zl (h.ok _ (Ho h.last));omega
theorem JdI {l:List JX} {r t:Int} (h:(QD l r t).2=0):Zn l∧l.length<40∧(JB (W9 l) r t).2=0∧QD l r t=(l++[(JB (W9 l) r t).1],0):=by
 unfold QD at h ⊢
 split at h
 · contradiction
 ·
  rename_i h1
  rw [if_neg h1]
  unfold Yb at h1
  by_cases e1:K1 [l]=0
  ·
   rw [if_neg (by omega)] at h1
   have hc:=QL.1 e1
   by_cases e2:(l.length:Int)=40
   · rw [if_pos e2] at h1;omega
   ·
    rw [if_neg e2] at h1
    exact ⟨hc,by have:=hc.len;omega,Hl.1 h1,rfl⟩
  · rw [if_pos e1] at h1;omega
theorem JgN {l:List JX} {r t:Int} (h:¬ (QD l r t).2=0):(QD l r t).1=[]:=by
 revert h;unfold QD;split <;> simp
theorem Zn.snoc {l:List JX} (h:Zn l) (hl:l.length<40) {n:JX} (hn:JK n=0) (hk:Ja2 (W9 l) n=true):Zn (l++[n]):=by
 refine ⟨by simp,by simp;omega,fun x hx=>?_,fun k x y hx hy=>?_⟩
 ·
  rcases HF.1 hx with hx | hx
  · exact h.ok x hx
  · rw [Hz.1 hx];exact hn
 ·
  by_cases e:k+1<l.length
  ·
   rw [HD (by omega)] at hx hy
   exact h.lnk k x y hx hy
  ·
   have hy1:=(Hc.1 hy).1
   simp at hy1
   have e2:k=l.length-1:=by have:=h.len1;omega
   have:=h.len1
   rw [HD (by omega),e2,h.last] at hx
   rw [HR (by omega),show k+1-l.length=0 by omega] at hy
   simp at hy
   rw [← Hp.inj hx,← hy];exact hk
theorem JkK {x:JX} {r t:Int} (h:(JB x r t).2=0):Ja2 x (JB x r t).1=true∧JK (JB x r t).1=0:=by
 obtain ⟨h1,h2,h3,h4,h5⟩:=Ja0 h
 have e1:(JB x r t).1.root=r:=by rw [h4]
 have e2:(JB x r t).1.at_=t:=by rw [h4]
 refine ⟨?_,by rw [h4];exact h5⟩
 unfold Ja2
 rw [decide_eq_true_eq,e1,e2]
 exact Prod.ext rfl h
theorem Ys {x:JX} {r t:Int} (hr:0≤r) (h:(JB x r t).2=0):(0≤(JB x r t).1.epoch∧(JB x r t).1.epoch≤1000000)∧(0≤(JB x r t).1.root∧(JB x r t).1.root<2305843009213693951)∧(0≤(JB x r t).1.prev∧(JB x r t).1.prev<2305843009213693951)∧0≤(JB x r t).1.at_∧(JB x r t).1.at_≤1000000000:=by
 obtain ⟨h1,h2,h3,h4,h5⟩:=Ja0 h
 have:=Zl h5
 have:=QT (V8 x)
 rw [h4]
 simp only at *
 omega
theorem Jb8 (G:J5) (a_l:Ba) (c_l:Nat) (l:List JX) (h_l:RS KO G a_l c_l l) :QZ 174 #[Sl a_l l.length c_l] G (I (Wu l)):=by
 refine JP Tryz.func174 42 [(0,Sl a_l l.length c_l)] rfl (fun w0 G0=>?_)
 refine Jg [0] [] (Jf (Jg [0] [(3,I 1)] (Jy ?_)))
 have hlm_h_l:l.length≤9223372036854775807:=Hm (h_l).le (h_l).max
 refine Qc (σ:=Nat) (fun q_=>(1≤q_∧(q_≤l.length∨q_=1))∧(Wu l=lnk (l.drop (q_-1)) q_)) (fun q_=>[(0,Sl a_l l.length c_l),(3,I (q_:Int))]) (fun q_=>G) (fun q_=>[]) (fun q_=>l.length-q_) 1 ⟨⟨Hv _,.inr rfl⟩,rfl⟩ (fun q_ hs=>?_)
 revert hs;revert q_;intro i hs
 obtain ⟨hi,hn⟩:=hs
 dsimp only
 refine Jf (Jg [0,0,0,0] [(9,Bo (decide ((i:Int)<(l.length:Int))))] (Jl (decide ((i:Int)<(l.length:Int))) (fun h1=>?_) (fun h1=>?_)))
 refine Jq (Jc (Jf (Jy (Jf ?_))))
 have e1:Ha.wrap ((i:Int)-1)=((i-1:Nat):Int):=(Hh _ (by omega)).trans (show (i:Int)-1=((i-1:Nat):Int) by omega)
 obtain ⟨b1,o1,rfl⟩:=RS.addr h_l (k:=i-1) (by omega)
 obtain ⟨x1,hx1⟩:=QS (l:=l) (k:=i-1) (by omega)
 obtain ⟨_,⟨rfl,w1,w2,w3,w4⟩,hc1⟩:=RS.get h_l hx1
 obtain ⟨x2,hx2⟩:=QS (l:=l) (k:=i) (by omega)
 obtain ⟨_,⟨rfl,_,w6,_,w8⟩,hc2⟩:=RS.get h_l hx2
 refine Kt [19,20] (Wm [(0,Sl (At b1 o1) l.length c_l),(1,I (i:Int)),(2,I ((i-1:Nat):Int)),(3,Pt b1 (o1+(i-1)*4)),(4,.agg #[I x1.epoch,U x1.root,U x1.prev,I x1.at_]),(5,Sl (At b1 o1) l.length c_l),(6,I (i:Int)),(7,Pt b1 (o1+i*4)),(8,Pt b1 (o1+i*4+1)),(9,U x2.root),(10,Sl (At b1 o1) l.length c_l),(11,I (i:Int)),(12,Pt b1 (o1+i*4)),(13,Pt b1 (o1+i*4+3)),(14,I x2.at_),(15,.tuple #[(VS (JB x1 x2.root x2.at_).1),I ((JB x1 x2.root x2.at_).2)]),(16,.tuple #[(VS (JB x1 x2.root x2.at_).1),I ((JB x1 x2.root x2.at_).2)]),(17,(VS (JB x1 x2.root x2.at_).1)),(18,I ((JB x1 x2.root x2.at_).2))] (JF [] [(0,0),(1,0),(5,0),(6,0),(8,0),(10,0),(11,0),(13,0),(16,0),(17,0),(18,0)] [2,3,4,7,9,12,14,15] [19] (Kf ?_ (Kf ?_ (Kf ?_ (Kf ?_ (Kf ?_ (Kf ?_ (Kf ?_ (Kf ?_ KY)))))))) (Kf ?_ KY)))
 refine Jr 2 15 (I ((i-1:Nat):Int)) [(14,I (i:Int))] (fun X=>?_)
 exact K5 15 (I (Ha.wrap ((i:Int)-1))) (I ((i-1:Nat):Int)) (by simp only [e1]) Jp
 refine Jr 3 16 (Pt b1 (o1+(i-1)*4)) [(13,Sl (At b1 o1) l.length c_l),(15,I ((i-1:Nat):Int))] (fun X=>?_)
 exact JV (b:=b1) (off:=o1) (len:=l.length) (cap:=c_l) (ik:=.i64) 16 43 4 (i-1) J4 Jp
 refine Jr 4 17 (.agg #[I x1.epoch,U x1.root,U x1.prev,I x1.at_]) [(16,Pt b1 (o1+(i-1)*4))] (fun X=>?_)
 exact JO 17 43 (cs:=[I x1.epoch,U x1.root,U x1.prev,I x1.at_]) 0 (.agg #[I x1.epoch,U x1.root,U x1.prev,I x1.at_]) hc1 Jp
 refine Jr 7 20 (Pt b1 (o1+i*4)) [(18,Sl (At b1 o1) l.length c_l),(19,I (i:Int))] (fun X=>?_)
 exact JV (b:=b1) (off:=o1) (len:=l.length) (cap:=c_l) (ik:=.i64) 20 43 4 i J4 Jp
 refine Jr 9 22 (U x2.root) [(21,Pt b1 (o1+i*4+1))] (fun X=>?_)
 exact JO 22 41 (cs:=[I x2.epoch,U x2.root,U x2.prev,I x2.at_]) 1 (U x2.root) hc2 Jp
 refine Jr 12 25 (Pt b1 (o1+i*4)) [(23,Sl (At b1 o1) l.length c_l),(24,I (i:Int))] (fun X=>?_)
 exact JV (b:=b1) (off:=o1) (len:=l.length) (cap:=c_l) (ik:=.i64) 25 43 4 i J4 Jp
 refine Jr 14 27 (I x2.at_) [(26,Pt b1 (o1+i*4+3))] (fun X=>?_)
 exact JO 27 2 (cs:=[I x2.epoch,U x2.root,U x2.prev,I x2.at_]) 3 (I x2.at_) hc2 Jp
 refine Jr 15 28 (.tuple #[(VS (JB x1 x2.root x2.at_).1),I ((JB x1 x2.root x2.at_).2)]) [(17,.agg #[I x1.epoch,U x1.root,U x1.prev,I x1.at_]),(22,U x2.root),(27,I x2.at_)] (fun X=>?_)
 exact Jm 28 (.tuple #[(VS (JB x1 x2.root x2.at_).1),I ((JB x1 x2.root x2.at_).2)]) (JbD G [I x1.epoch,U x1.root,U x1.prev,I x1.at_] x1 (⟨rfl,w1,w2,w3,w4⟩) x2.root w6 x2.at_ w8) Jp
 refine Jz 19 [] (fun X=>?_)
 refine Jv 4 #[I 0,U 0,U 0,I 0] 43 (fun b2=>?_)
 have e2:Ha.wrap ((i:Int)-1)=((i-1:Nat):Int):=(Hh _ (by omega)).trans (show (i:Int)-1=((i-1:Nat):Int) by omega)
 refine JA [(19,Pt b2 0)] (JF [] [(0,0),(1,0),(5,0),(6,0),(8,0),(10,0),(11,0),(13,0),(16,0),(17,0),(18,0)] [2,3,4,7,9,12,14,15] [20] (Kf ?_ (Kf ?_ (Kf ?_ (Kf ?_ (Kf ?_ (Kf ?_ (Kf ?_ (Kf ?_ KY)))))))) (Kf ?_ KY))
 refine Jr 2 15 (I ((i-1:Nat):Int)) [(14,I (i:Int))] (fun X=>?_)
 exact K5 15 (I (Ha.wrap ((i:Int)-1))) (I ((i-1:Nat):Int)) (by simp only [e2]) Jp
 refine Jr 3 16 (Pt b1 (o1+(i-1)*4)) [(13,Sl (At b1 o1) l.length c_l),(15,I ((i-1:Nat):Int))] (fun X=>?_)
 exact JV (b:=b1) (off:=o1) (len:=l.length) (cap:=c_l) (ik:=.i64) 16 43 4 (i-1) J4 Jp
 refine Jr 4 17 (.agg #[I x1.epoch,U x1.root,U x1.prev,I x1.at_]) [(16,Pt b1 (o1+(i-1)*4))] (fun X=>?_)
 exact JO 17 43 (cs:=[I x1.epoch,U x1.root,U x1.prev,I x1.at_]) 0 (.agg #[I x1.epoch,U x1.root,U x1.prev,I x1.at_]) hc1 Jp
 refine Jr 7 20 (Pt b1 (o1+i*4)) [(18,Sl (At b1 o1) l.length c_l),(19,I (i:Int))] (fun X=>?_)
 exact JV (b:=b1) (off:=o1) (len:=l.length) (cap:=c_l) (ik:=.i64) 20 43 4 i J4 Jp
 refine Jr 9 22 (U x2.root) [(21,Pt b1 (o1+i*4+1))] (fun X=>?_)
 exact JO 22 41 (cs:=[I x2.epoch,U x2.root,U x2.prev,I x2.at_]) 1 (U x2.root) hc2 Jp
 refine Jr 12 25 (Pt b1 (o1+i*4)) [(23,Sl (At b1 o1) l.length c_l),(24,I (i:Int))] (fun X=>?_)
 exact JV (b:=b1) (off:=o1) (len:=l.length) (cap:=c_l) (ik:=.i64) 25 43 4 i J4 Jp
 refine Jr 14 27 (I x2.at_) [(26,Pt b1 (o1+i*4+3))] (fun X=>?_)
 exact JO 27 2 (cs:=[I x2.epoch,U x2.root,U x2.prev,I x2.at_]) 3 (I x2.at_) hc2 Jp
 refine Jr 15 28 (.tuple #[(VS (JB x1 x2.root x2.at_).1),I ((JB x1 x2.root x2.at_).2)]) [(17,.agg #[I x1.epoch,U x1.root,U x1.prev,I x1.at_]),(22,U x2.root),(27,I x2.at_)] (fun X=>?_)
 exact Jm 28 (.tuple #[(VS (JB x1 x2.root x2.at_).1),I ((JB x1 x2.root x2.at_).2)]) (JbD G [I x1.epoch,U x1.root,U x1.prev,I x1.at_] x1 (⟨rfl,w1,w2,w3,w4⟩) x2.root w6 x2.at_ w8) Jp
 refine Jz 20 [(4,Pt b2 0),(29,(VS (JB x1 x2.root x2.at_).1))] (fun X=>?_)
 refine KC 0 [[Sg b2 0 (Jdt (JB x1 x2.root x2.at_).1)]] (J6 [(21,I ((JB x1 x2.root x2.at_).2))] (Kl [0,1,2,3,4,5,6,7,8,9,10,11,12,13,14,15,16,17] [(18,0),(21,0)] [] [(0,Sl (At b1 o1) l.length c_l),(3,I (i:Int)),(4,Pt b2 0),(5,I ((JB x1 x2.root x2.at_).2))] (Hi _) (Jc (Jf ?_))))
 rcases Hs (!decide ((JB x1 x2.root x2.at_).2=0)) with h2 | h2
 have h2d:=h2
 try simp only [BB] at h2d
 refine Kt [] (Wm [(0,I ((JB x1 x2.root x2.at_).2)),(1,Bo true),(2,Bo true),(3,undef),(4,undef),(5,undef),(6,undef),(7,undef),(8,undef),(9,Bo true)] (Kl [] [(0,0),(2,0),(3,1),(4,1),(5,1),(6,1),(7,1),(8,1),(9,0)] [1] [(0,Sl (At b1 o1) l.length c_l),(3,I (i:Int)),(40,Bo true)] (Kf ?_ KY) ?_))
 refine Jr 1 32 (Bo true) [(31,I ((JB x1 x2.root x2.at_).2))] (fun X=>?_)
 exact K5 32 (Bo (!decide ((JB x1 x2.root x2.at_).2=0))) (Bo true) (by rw [h2]) Jp
 refine Jc (J0 (Jg [0,0] [(2,I (i:Int))] (Jn (Ju (Jj (QV (Ju (Jj (Jo [0] [I (i:Int)] (Jx (Jh _) (congrArg I (?_:(Wu l)=(i:Int)).symm)))))))))))
 rw [hn];exact Joy (by omega) hx1 hx2 (by rw [Jen];simp_all)
 have h2d:=h2
 try simp only [BB] at h2d
 refine Kt [] (Wm [(0,I ((JB x1 x2.root x2.at_).2)),(1,Bo false),(2,Bo false),(3,(VS (JB x1 x2.root x2.at_).1)),(4,Sl (At b1 o1) l.length c_l),(5,I (i:Int)),(6,Pt b1 (o1+i*4)),(7,.agg #[I x2.epoch,U x2.root,U x2.prev,I x2.at_]),(8,Bo (!(decide (((JB x1 x2.root x2.at_).1).epoch=x2.epoch) && decide (((JB x1 x2.root x2.at_).1).root=x2.root) && decide (((JB x1 x2.root x2.at_).1).prev=x2.prev) && decide (((JB x1 x2.root x2.at_).1).at_=x2.at_)))),(9,Bo (!(decide (((JB x1 x2.root x2.at_).1).epoch=x2.epoch) && decide (((JB x1 x2.root x2.at_).1).root=x2.root) && decide (((JB x1 x2.root x2.at_).1).prev=x2.prev) && decide (((JB x1 x2.root x2.at_).1).at_=x2.at_))))] (Kl [] [(0,0),(2,0),(3,2),(4,0),(5,0),(9,0)] [1,6,7,8] [(0,Sl (At b1 o1) l.length c_l),(3,I (i:Int)),(40,Bo (!(decide (((JB x1 x2.root x2.at_).1).epoch=x2.epoch) && decide (((JB x1 x2.root x2.at_).1).root=x2.root) && decide (((JB x1 x2.root x2.at_).1).prev=x2.prev) && decide (((JB x1 x2.root x2.at_).1).at_=x2.at_))))] (Kf ?_ (Kf ?_ (Kf ?_ (Kf ?_ KY)))) ?_))
 refine Jr 1 32 (Bo false) [(31,I ((JB x1 x2.root x2.at_).2))] (fun X=>?_)
 exact K5 32 (Bo (!decide ((JB x1 x2.root x2.at_).2=0))) (Bo false) (by rw [h2]) Jp
 refine Jr 6 37 (Pt b1 (o1+i*4)) [(33,Bo false),(35,Sl (At b1 o1) l.length c_l),(36,I (i:Int))] (fun X=>?_)
 exact JV (b:=b1) (off:=o1) (len:=l.length) (cap:=c_l) (ik:=.i64) 37 43 4 i J4 Jp
 refine Jr 7 38 (.agg #[I x2.epoch,U x2.root,U x2.prev,I x2.at_]) [(33,Bo false),(37,Pt b1 (o1+i*4))] (fun X=>?_)
 exact JO 38 43 (cs:=[I x2.epoch,U x2.root,U x2.prev,I x2.at_]) 0 (.agg #[I x2.epoch,U x2.root,U x2.prev,I x2.at_]) hc2 Jp
 refine Jr 8 39 (Bo (!(decide (((JB x1 x2.root x2.at_).1).epoch=x2.epoch) && decide (((JB x1 x2.root x2.at_).1).root=x2.root) && decide (((JB x1 x2.root x2.at_).1).prev=x2.prev) && decide (((JB x1 x2.root x2.at_).1).at_=x2.at_)))) [(33,Bo false),(34,(VS (JB x1 x2.root x2.at_).1)),(38,.agg #[I x2.epoch,U x2.root,U x2.prev,I x2.at_])] (fun X=>?_)
 exact Jdl 39 (Bo (!(decide (((JB x1 x2.root x2.at_).1).epoch=x2.epoch) && (decide (((JB x1 x2.root x2.at_).1).root=x2.root) && (decide (((JB x1 x2.root x2.at_).1).prev=x2.prev) && (decide (((JB x1 x2.root x2.at_).1).at_=x2.at_) && true)))))) (Bo (!(decide (((JB x1 x2.root x2.at_).1).epoch=x2.epoch) && decide (((JB x1 x2.root x2.at_).1).root=x2.root) && decide (((JB x1 x2.root x2.at_).1).prev=x2.prev) && decide (((JB x1 x2.root x2.at_).1).at_=x2.at_)))) (by simp [Qx,HO]) Jp
 refine Jc (Jl (!(decide (((JB x1 x2.root x2.at_).1).epoch=x2.epoch) && decide (((JB x1 x2.root x2.at_).1).root=x2.root) && decide (((JB x1 x2.root x2.at_).1).prev=x2.prev) && decide (((JB x1 x2.root x2.at_).1).at_=x2.at_))) (fun h3=>?_) (fun h3=>?_))
 refine Jg [0,0] [(2,I (i:Int))] (Jn (Ju (Jj (QV (Ju (Jj (Jo [0] [I (i:Int)] (Jx (Jh _) (congrArg I (?_:(Wu l)=(i:Int)).symm)))))))))
 rw [hn];exact Joy (by omega) hx1 hx2 (by rw [Jen];simp_all)
 exact Jq (JM (Jc (Jd (Jb [0,0,0] [(3,I (Ha.wrap ((i:Int)+1)))] (Kp 3 ((i:Int)+1) J4 (Je (Qy [] (Qh (i+1) ⟨⟨by (try dsimp only);omega,.inl (by (try dsimp only);omega)⟩,(by rw [hn];exact Jox J4 hx1 hx2 (Jen.2 (by simp_all)))⟩ (by (try dsimp only);omega)))))))))
 refine KX (J1 (Kd (JS (Jc (Jg [0] [(2,I (-1))] (Jn (Jo [0] [I (-1)] (Jx (Jh _) (congrArg I (?_:(Wu l)=(-1)).symm)))))))))
 rw [hn];exact JpY (by simp;omega)
theorem JaN (G:J5) (a_l:Ba) (c_l:Nat) (l:List JX) (h_l:RS KO G a_l c_l l) :QZ 120 #[Sl a_l l.length c_l] G (.tuple #[I ((Ki l).1),I ((Ki l).2)]):=by
 refine JP Tryz.func120 35 [(0,Sl a_l l.length c_l)] rfl (fun w0 G0=>?_)
 refine Jg [0,0] [] (Jf (Jy (Jg [0,0,0,0] [(8,Bo (decide ((l.length:Int)=0)))] (Jl (decide ((l.length:Int)=0)) (fun h1=>?_) (fun h1=>?_)))))
 refine Jg [0,0] [(2,I 5),(3,I 0)] (Jn (Ju (Jj (Jo [0,0] [I 5,I 0] (Jx (Jh _) ?_)))))
 have hf_:(Ki l)=(5,0):=by
  unfold Ki;(rw [if_pos (by omega)];done)
 · (try rw [hf_]);(simp only [QC];done)
 refine Jg [0,0,0,0] [(12,Bo (decide ((l.length:Int) > 40)))] (Jl (decide ((l.length:Int) > 40)) (fun h2=>?_) (fun h2=>?_))
 refine Jg [0,0] [(2,I 2),(3,I 0)] (Jn (Ju (Jj (Jo [0,0] [I 2,I 0] (Jx (Jh _) ?_)))))
 have hf_:(Ki l)=(2,0):=by
  unfold Ki;(rw [if_neg (by omega),if_pos (by omega)];done)
 · (try rw [hf_]);(simp only [QC];done)
 refine Jq (JM (Jc (Jf (Jg [0,0,0] [(16,Sl a_l l.length c_l),(17,I (l.length:Int)),(18,I 0)] (Jy ?_)))))
 have hlm_h_l:l.length≤9223372036854775807:=Hm (h_l).le (h_l).max
 refine Qc (σ:=Nat) (fun q_=>(q_≤l.length)∧(Vr l 0=Vr (l.drop q_) q_)) (fun q_=>[(0,Sl a_l l.length c_l),(16,Sl a_l l.length c_l),(17,I (l.length:Int)),(18,I (q_:Int))]) (fun q_=>G) (fun q_=>[]) (fun q_=>l.length-q_) 0 ⟨(by (try dsimp only);exact Hr _),rfl⟩ (fun q_ hs=>?_)
 revert hs;revert q_;intro i hs
 obtain ⟨hi,hn⟩:=hs
 dsimp only
 refine Jg [0] [(19,Bo (decide ((i:Int)<(l.length:Int))))] (Jf (Jl (decide ((i:Int)<(l.length:Int))) (fun h3=>?_) (fun h3=>?_)))
 refine Jq (Jc (Jf (Jy (Jf (Jd (Jb [0] [(20,I (i:Int))] ?_))))))
 obtain ⟨b1,o1,rfl⟩:=RS.addr h_l (k:=i) (by omega)
 obtain ⟨x1,hx1⟩:=QS (l:=l) (k:=i) (by omega)
 obtain ⟨_,⟨rfl,_,_,_,_⟩,hc1⟩:=RS.get h_l hx1
 refine JV (b:=b1) (off:=o1) (len:=l.length) (cap:=c_l) (ik:=.i64) 21 43 4 i J4 (JO 22 43 (cs:=[I x1.epoch,U x1.root,U x1.prev,I x1.at_]) 0 (.agg #[I x1.epoch,U x1.root,U x1.prev,I x1.at_]) hc1 (Jv 5 #[I 0,U 0,U 0,I 0] 43 (fun b2=>JW [0,3] [(4,I (i:Int))] [[Sg b2 0 [I x1.epoch,U x1.root,U x1.prev,I x1.at_]]] (Je (Jc (Jf (Jd (Jb [2] [(23,.agg #[I x1.epoch,U x1.root,U x1.prev,I x1.at_])] (Jm 24 (I (JK x1)) (Z9 x1 G) (Jb [0] [(6,I (JK x1))] (Je (Jc (Jg [0,0] [(26,Bo (!decide (JK x1=0)))] (Jl (!decide (JK x1=0)) (fun h4=>?_) (fun h4=>?_)))))))))))))))
 refine Jg [0,0,0,0] [(2,I (JK x1)),(3,I (i:Int))] (Jn (Ju (Jj (QV (Ju (Jj (Jo [0,0] [I (JK x1),I (i:Int)] (Jx (Jh _) ?_))))))))
 have hf_:(Ki l)=((JK x1),(i:Int)):=by
  unfold Ki;(rw [if_neg (by omega),if_neg (by omega)];(have e_:=JmX hx1 ‹_›;rw [← hn] at e_;rw [if_pos (by rw [e_];assumption),e_];done))
 · (try rw [hf_]);(simp only [QC];done)
 exact Jq (JM (Jc (Jd (Jb [0,0] [(18,I (Ha.wrap ((i:Int)+1)))] (Kp 18 ((i:Int)+1) J4 (Je (Qy [] (Qh (i+1) ⟨J4,(by rw [hn];exact Jjm hx1 ‹_›)⟩ (by (try dsimp only);omega)))))))))
 refine KX (J1 (Kd (JS (Jc (Jf (Jf (Jd (Jb [0] [(30,Sl a_l l.length c_l)] (Jm 31 (I (Wu l)) (Jb8 G a_l c_l l h_l) (Jb [0] [(7,I (Wu l))] (Je (Jc (Jg [0,0] [(33,Bo (decide (Wu l ≥ 0)))] (Jl (decide (Wu l ≥ 0)) (fun h5=>?_) (fun h5=>?_)))))))))))))))
 refine Jg [0,0,0] [(2,I 8),(3,I (Wu l))] (Jn (Jj (Jo [0,0] [I 8,I (Wu l)] (Jx (Jh _) ?_))))
 have hf_:(Ki l)=(8,(Wu l)):=by
  unfold Ki;(rw [if_neg (by omega),if_neg (by omega)];(have e_:Vr l 0=(0,0):=(by rw [hn,Hq (by omega)];rfl);rw [if_neg (by rw [e_];simp)];(rw [if_pos (by omega)];done)))
 · (try rw [hf_]);(simp only [QC];done)
 refine Jq (Jc (Jg [0,0] [(2,I 0),(3,I 0)] (Jn (Jo [0,0] [I 0,I 0] (Jx (Jh _) ?_)))))
 have hf_:(Ki l)=(0,0):=by
  unfold Ki;(rw [if_neg (by omega),if_neg (by omega)];(have e_:Vr l 0=(0,0):=(by rw [hn,Hq (by omega)];rfl);rw [if_neg (by rw [e_];simp)];(rw [if_neg (by omega)];done)))
 · (try rw [hf_]);(simp only [QC];done)
theorem JbI (G:J5) (a_l:Ba) (c_l:Nat) (l:List (List JX)) (h_l:RS Jfn G a_l c_l l) :QZ 175 #[Sl a_l l.length c_l] G (I (K1 l)):=by
 refine JP Tryz.func175 22 [(0,Sl a_l l.length c_l)] rfl (fun w0 G0=>?_)
 refine Jg [0] [] (Jf (Jg [0,0,0] [(7,Sl a_l l.length c_l),(8,I (l.length:Int)),(9,I 0)] (Jy ?_)))
 have hlm_h_l:l.length≤9223372036854775807:=Hm (h_l).le (h_l).max
 refine Qc (σ:=Nat) (fun q_=>(q_≤l.length)∧(K1 l=K1 (l.drop q_))) (fun q_=>[(7,Sl a_l l.length c_l),(8,I (l.length:Int)),(9,I (q_:Int))]) (fun q_=>G) (fun q_=>[]) (fun q_=>l.length-q_) 0 ⟨(by (try dsimp only);exact Hr _),rfl⟩ (fun q_ hs=>?_)
 revert hs;revert q_;intro i hs
 obtain ⟨hi,hn⟩:=hs
 dsimp only
 refine Jg [0] [(10,Bo (decide ((i:Int)<(l.length:Int))))] (Jf (Jl (decide ((i:Int)<(l.length:Int))) (fun h1=>?_) (fun h1=>?_)))
 refine Jq (Jc (Jf (Jy (Jf (Jd ?_)))))
 obtain ⟨b1,o1,rfl⟩:=RS.addr h_l (k:=i) (by omega)
 obtain ⟨x1,hx1⟩:=QS (l:=l) (k:=i) (by omega)
 obtain ⟨_,⟨a1,c1,rfl,hs1⟩,hc1⟩:=RS.get h_l hx1
 refine JV (b:=b1) (off:=o1) (len:=l.length) (cap:=c_l) (ik:=.i64) 11 40 1 i J4 (JO 12 40 (cs:=[Sl a1 x1.length c1]) 0 (Sl a1 x1.length c1) hc1 (Jb [0] [(4,Sl a1 x1.length c1)] (Je (Jc (Jf (Jd (Jb [0] [(14,Sl a1 x1.length c1)] (Jm 15 (.tuple #[I ((Ki x1).1),I ((Ki x1).2)]) (JaN G a1 c1 x1 hs1) (Jb [0,0,0,0,0] [(5,I ((Ki x1).1))] (Je (Jc (Jg [0,0] [(19,Bo (!decide ((Ki x1).1=0)))] (Jl (!decide ((Ki x1).1=0)) (fun h2=>?_) (fun h2=>?_))))))))))))))
 refine Jg [0,0] [(2,I ((Ki x1).1))] (Jn (Ju (Jj (QV (Ju (Jj (Jo [0] [I ((Ki x1).1)] (Jx (Jh _) (congrArg I (?_:(K1 l)=((Ki x1).1)).symm)))))))))
 rw [hn];exact Jjn hx1 ‹_›
 exact Jq (JM (Jc (Jd (Jb [0,0] [(9,I (Ha.wrap ((i:Int)+1)))] (Kp 9 ((i:Int)+1) J4 (Je (Qh (i+1) ⟨J4,(by rw [hn];exact JgM hx1 ‹_›)⟩ (by (try dsimp only);omega))))))))
 refine KX (J1 (Kd (JS (Jc (Jg [0] [(2,I 0)] (Jn (Jo [0] [I 0] (Jx (Jh _) (congrArg I (?_:(K1 l)=0).symm)))))))))
 rw [hn];(rw [Hq (by omega)];rfl)
theorem JgO (G:J5) (a_l:Ba) (c_l:Nat) (l:List JX) (h_l:RS KO G a_l c_l l) (root:Int) (hw_root:rU root) (a:Int) (hw_a:rI a) :YS 166 #[Sl a_l l.length c_l,U root,I a] G [] (fun u G' L'=>∃ (a1:Ba) (c2:Nat) (r3:Bg),u=.tuple #[Sl a1 (((QD l root a).1).length) c2,I ((QD l root a).2)]∧(JR KO G' a1 c2 ((QD l root a).1) r3)∧L'=[r3]):=by
 refine JP Tryz.func166 41 [(0,Sl a_l l.length c_l),(1,U root),(2,I a)] rfl (fun w0 G0=>?_)
 refine Jg [0,0] [] (Jf (Jd (Jb [0] [(10,Sl a_l l.length c_l)] (Km 11 1 #[Sl a_l l.length c_l] 40 (fun b1=>QI (b:=b1) (o:=0) (cs:=[Sl a_l l.length c_l]) 0 (fun G1 hl1 hz1=>?_))))))
 have hs1:RS Jfn G1 (At b1 0) 1 [l]:=RS.lit [[Sl a_l l.length c_l]] [l] ⟨⟨a_l,c_l,rfl,(h_l.mono hl1)⟩,trivial⟩ hz1 (Hb rfl) (Hb rfl)
 refine Jm 12 (I (K1 ([l]))) (JbI G1 (At b1 0) 1 ([l]) hs1) (Jb [0] [(8,I (K1 ([l])))] (Je (Jc (Jf (Jy (Jg [0,0,0] [(13,Bo (!decide (K1 ([l])=0)))] (Jl (!decide (K1 ([l])=0)) (fun h1=>?_) (fun h1=>?_))))))))
 refine Jg [0,0,0] [(6,Sl none 0 0),(7,I (K1 ([l])))] (Jn (Ju (Jj (ZB (Jk 0 ?_)))))
 have hf1:QD l root a=([],K1 ([l])):=by
  unfold QD Yb;(simp_all;done)
 refine Jo [0,0] [Sl none 0 0,I (K1 ([l]))] (JD [[]] hl1 ?_)
 rw [hf1]
 try dsimp only
 exact ⟨none,0,([]),rfl,(JR.none KO _),rfl⟩
 refine Jg [0,0,0,0] [(17,Bo (decide ((l.length:Int)=40)))] (Jl (decide ((l.length:Int)=40)) (fun h2=>?_) (fun h2=>?_))
 refine Jg [0,0] [(6,Sl none 0 0),(7,I 7)] (Jn (Ju (Jj (ZB (Jk 0 ?_)))))
 have hf2:QD l root a=([],7):=by
  unfold QD Yb;(simp_all;done)
 refine Jo [0,0] [Sl none 0 0,I 7] (JD [[]] hl1 ?_)
 rw [hf2]
 try dsimp only
 exact ⟨none,0,([]),rfl,(JR.none KO _),rfl⟩
 refine Jq (JM (Jc (Jf (Jd (Jb [0,0,0,0] [(22,Sl a_l l.length c_l),(25,I (Ha.wrap ((l.length:Int)-1)))] ?_)))))
 have e1:Ha.wrap ((l.length:Int)-1)=((l.length-1:Nat):Int):=(Hh _ (by (have q_:=QL.1 ‹_›;have q1_:=q_.len1;have q2_:=q_.len;have q3_:=q_.lastE;have q4_:=q_.fb;have q5_:=q_.lb;omega))).trans (show (l.length:Int)-1=((l.length-1:Nat):Int) by (have q_:=QL.1 ‹_›;have q1_:=q_.len1;have q2_:=q_.len;have q3_:=q_.lastE;have q4_:=q_.fb;have q5_:=q_.lb;omega))
 refine Kv 25 (I ((l.length-1:Nat):Int)) (congrArg I e1) ?_
 clear e1
 obtain ⟨b2,o1,rfl⟩:=RS.addr (h_l.mono hl1) (k:=l.length-1) (by (have q_:=QL.1 ‹_›;have q1_:=q_.len1;have q2_:=q_.len;have q3_:=q_.lastE;have q4_:=q_.fb;have q5_:=q_.lb;omega))
 obtain ⟨x1,hx1⟩:=QS (l:=l) (k:=l.length-1) (by (have q_:=QL.1 ‹_›;have q1_:=q_.len1;have q2_:=q_.len;have q3_:=q_.lastE;have q4_:=q_.fb;have q5_:=q_.lb;omega))
 obtain ⟨_,⟨rfl,w1,w2,w3,w4⟩,hc1⟩:=RS.get (h_l.mono hl1) hx1
 refine JV (b:=b2) (off:=o1) (len:=l.length) (cap:=c_l) (ik:=.i64) 26 43 4 (l.length-1) (by (have q_:=QL.1 ‹_›;have q1_:=q_.len1;have q2_:=q_.len;have q3_:=q_.lastE;have q4_:=q_.fb;have q5_:=q_.lb;omega)) (JO 27 43 (cs:=[I x1.epoch,U x1.root,U x1.prev,I x1.at_]) 0 (.agg #[I x1.epoch,U x1.root,U x1.prev,I x1.at_]) hc1 (Jb [0,0] [(28,U root),(29,I a)] (Jm 30 (.tuple #[(VS (JB x1 root a).1),I ((JB x1 root a).2)]) (JbD G1 [I x1.epoch,U x1.root,U x1.prev,I x1.at_] x1 (⟨rfl,w1,w2,w3,w4⟩) root ‹_› a ‹_›) (Jb [0,0,0] [(31,(VS (JB x1 root a).1)),(32,I ((JB x1 root a).2))] (Jv 9 #[I 0,U 0,U 0,I 0] 43 (fun b3=>JW [3,0] [(8,I ((JB x1 root a).2))] [[Sg b3 0 (Jdt (JB x1 root a).1)],[]] (Je (Jc (Jf (Jg [0,0] [(34,Bo (!decide ((JB x1 root a).2=0)))] (Jl (!decide ((JB x1 root a).2=0)) (fun h3=>?_) (fun h3=>?_))))))))))))
 refine Jg [0,0,0] [(6,Sl none 0 0),(7,I ((JB x1 root a).2))] (Jn (Jj (ZB (Jk 0 ?_))))
 have hf3:QD l root a=([],(JB x1 root a).2):=by
  unfold QD Yb;(have hl_:=Wz (l:=l) (k:=l.length-1) rfl ‹_›;subst hl_;(simp_all;done))
 refine Jo [0,0] [Sl none 0 0,I ((JB x1 root a).2)] (JD [[]] hl1 ?_)
 rw [hf3]
 try dsimp only
 exact ⟨none,0,([]),rfl,(JR.none KO _),rfl⟩
 refine Jq (Jc (Jf (Kt [1,3,4] (Wm [(0,Sl (At b2 o1) l.length c_l),(2,(VS (JB x1 root a).1))] (JF [] [(0,0),(2,2)] [] [1,3] (Hi _) (Kf ?_ (Kf ?_ KY)))))))
 refine Jz 1 [(36,Sl (At b2 o1) l.length c_l)] (fun X=>?_)
 refine JN 37 (VI G1 (At b2 o1) c_l l (h_l.mono hl1)) (fun v G2 L1 hl2 hp=>?_)
 obtain ⟨a1,c1,_,rfl,hr1,rfl⟩:=hp
 refine JA [(1,Sl a1 l.length c1)] (JF [0] [(2,4)] [] [3] (Hi _) (Kf ?_ KY))
 refine Jz 3 [(38,(VS (JB x1 root a).1))] (fun X=>?_)
 refine Km 39 1 #[I (((JB x1 root a).1).epoch),U (((JB x1 root a).1).root),U (((JB x1 root a).1).prev),I (((JB x1 root a).1).at_)] 43 (fun b4=>JA [(3,Sl (At b4 0) 1 1)] (JF [0,2] [] [] [4] (Hi _) (Kf ?_ KY)))
 refine Jz 4 [(37,Sl a1 l.length c1),(39,Sl (At b4 0) 1 1)] (fun X=>?_)
 refine Qd (b:=b4) (cs:=(Jdt (JB x1 root a).1)) 40 43 1 0 (E:=KO) ((JB x1 root a).1) hr1 ⟨rfl,(by have q_:=Ys (x:=x1) (r:=root) (t:=a) J4 ‹_›;omega),(by have q_:=Ys (x:=x1) (r:=root) (t:=a) J4 ‹_›;omega),(by have q_:=Ys (x:=x1) (r:=root) (t:=a) J4 ‹_›;omega),(by have q_:=Ys (x:=x1) (r:=root) (t:=a) J4 ‹_›;omega)⟩ (by have q_:=QL.1 ‹_›;have q1_:=q_.len1;have q2_:=q_.len;have q3_:=q_.lastE;have q4_:=q_.fb;have q5_:=q_.lb;(try simp only [KO,Hd,He,Hf]);omega) (by have q_:=QL.1 ‹_›;have q1_:=q_.len1;have q2_:=q_.len;have q3_:=q_.lastE;have q4_:=q_.fb;have q5_:=q_.lb;(try simp only [KO,Hd,He,Hf]);omega) (fun a2 c2 r2 hr2=>JA [(4,Sl a2 ((l++[((JB x1 root a).1)]).length) c2),(5,Sl a2 ((l++[((JB x1 root a).1)]).length) c2),(6,I 0)] (Kl [0,2] [(5,0),(6,0)] [] [(6,Sl a2 ((l++[((JB x1 root a).1)]).length) c2),(7,I 0)] (Hi _) (Jc (Jn (Jk 1 ?_)))))
 have hf4:QD l root a=(l++[((JB x1 root a).1)],0):=by
  unfold QD Yb;(have hl_:=Wz (l:=l) (k:=l.length-1) rfl ‹_›;subst hl_;(simp_all;done))
 refine Jo [0,0] [Sl a2 ((l++[((JB x1 root a).1)]).length) c2,I 0] (JD [r2] (Ja hl1 hl2) ?_)
 rw [hf4]
 try dsimp only
 exact ⟨a2,c2,r2,rfl,hr2,rfl⟩
 refine Jz 3 [(38,(VS (JB x1 root a).1))] (fun X=>?_)
 refine Km 39 1 #[I (((JB x1 root a).1).epoch),U (((JB x1 root a).1).root),U (((JB x1 root a).1).prev),I (((JB x1 root a).1).at_)] 43 (fun b5=>JA [(3,Sl (At b5 0) 1 1)] (JF [2] [(0,0)] [] [1] (Hi _) (Kf ?_ KY)))
 refine Jz 1 [(36,Sl (At b2 o1) l.length c_l)] (fun X=>?_)
 refine JN 37 (VI G1 (At b2 o1) c_l l (h_l.mono hl1)) (fun v G3 L1 hl3 hp=>?_)
 obtain ⟨a3,c3,r3,rfl,hr3,rfl⟩:=hp
 refine JA [(1,Sl a3 l.length c3)] (JF [0,2] [] [] [4] (Hi _) (Kf ?_ KY))
 refine Jz 4 [(37,Sl a3 l.length c3),(39,Sl (At b5 0) 1 1)] (fun X=>?_)
 refine Qd (b:=b5) (cs:=(Jdt (JB x1 root a).1)) 40 43 0 1 (E:=KO) ((JB x1 root a).1) hr3 ⟨rfl,(by have q_:=Ys (x:=x1) (r:=root) (t:=a) J4 ‹_›;omega),(by have q_:=Ys (x:=x1) (r:=root) (t:=a) J4 ‹_›;omega),(by have q_:=Ys (x:=x1) (r:=root) (t:=a) J4 ‹_›;omega),(by have q_:=Ys (x:=x1) (r:=root) (t:=a) J4 ‹_›;omega)⟩ (by have q_:=QL.1 ‹_›;have q1_:=q_.len1;have q2_:=q_.len;have q3_:=q_.lastE;have q4_:=q_.fb;have q5_:=q_.lb;(try simp only [KO,Hd,He,Hf]);omega) (by have q_:=QL.1 ‹_›;have q1_:=q_.len1;have q2_:=q_.len;have q3_:=q_.lastE;have q4_:=q_.fb;have q5_:=q_.lb;(try simp only [KO,Hd,He,Hf]);omega) (fun a4 c4 r4 hr4=>JA [(4,Sl a4 ((l++[((JB x1 root a).1)]).length) c4),(5,Sl a4 ((l++[((JB x1 root a).1)]).length) c4),(6,I 0)] (Kl [0,2] [(5,0),(6,0)] [] [(6,Sl a4 ((l++[((JB x1 root a).1)]).length) c4),(7,I 0)] (Hi _) (Jc (Jn (Jk 0 ?_)))))
 have hf5:QD l root a=(l++[((JB x1 root a).1)],0):=by
  unfold QD Yb;(have hl_:=Wz (l:=l) (k:=l.length-1) rfl ‹_›;subst hl_;(simp_all;done))
 refine Jo [0,0] [Sl a4 ((l++[((JB x1 root a).1)]).length) c4,I 0] (JD [r4] (Ja hl1 hl3) ?_)
 rw [hf5]
 try dsimp only
 exact ⟨a4,c4,r4,rfl,hr4,rfl⟩
theorem JgP (G:J5) (a_l:Ba) (c_l:Nat) (l:List JX) (h_l:RS KO G a_l c_l l) (a:Int) (hw_a:rI a) (b:Int) (hw_b:rI b) :YS 214 #[Sl a_l l.length c_l,I a,I b] G [] (fun u G' L'=>∃ (a1:Ba) (c2:Nat),u=.tuple #[Sl a1 (((Zc l a b).1).length) c2,I ((Zc l a b).2)]∧(RS KO G' a1 c2 ((Zc l a b).1))∧L'=[]):=by
 refine JP Tryz.func214 51 [(0,Sl a_l l.length c_l),(1,I a),(2,I b)] rfl (fun w0 G0=>?_)
 refine Jg [0,0] [] (Jf (Jf (Jd (Jb [0] [(11,Sl a_l l.length c_l)] (Km 12 1 #[Sl a_l l.length c_l] 40 (fun b1=>QI (b:=b1) (o:=0) (cs:=[Sl a_l l.length c_l]) 0 (fun G1 hl1 hz1=>?_)))))))
 have hs1:RS Jfn G1 (At b1 0) 1 [l]:=RS.lit [[Sl a_l l.length c_l]] [l] ⟨⟨a_l,c_l,rfl,(h_l.mono hl1)⟩,trivial⟩ hz1 (Hb rfl) (Hb rfl)
 refine Jm 13 (I (K1 ([l]))) (JbI G1 (At b1 0) 1 ([l]) hs1) (Jb [0] [(8,I (K1 ([l])))] (Je (Jc (Jg [0,0] [(15,Bo (!decide (K1 ([l])=0)))] (Jl (!decide (K1 ([l])=0)) (fun h1=>?_) (fun h1=>?_))))))
 refine Jg [0,0,0] [(6,Sl none 0 0),(7,I (K1 ([l])))] (Jn (Jj ?_))
 have hf1:Zc l a b=([],K1 ([l])):=by
  unfold Zc;(simp_all;done)
 refine Jo [0,0] [Sl none 0 0,I (K1 ([l]))] (JD [] hl1 ?_)
 rw [hf1]
 try dsimp only
 exact ⟨none,0,rfl,(J2 KO G1),rfl⟩
 refine Jq (Jc (Jf ?_))
 obtain ⟨b2,o1,rfl⟩:=RS.addr (h_l.mono hl1) (k:=0) (by (have q_:=QL.1 ‹_›;have q1_:=q_.len1;have q2_:=q_.len;have q3_:=q_.lastE;have q4_:=q_.fb;have q5_:=q_.lb;omega))
 obtain ⟨x1,hx1⟩:=QS (l:=l) (k:=0) (by (have q_:=QL.1 ‹_›;have q1_:=q_.len1;have q2_:=q_.len;have q3_:=q_.lastE;have q4_:=q_.fb;have q5_:=q_.lb;omega))
 obtain ⟨_,⟨rfl,_,_,_,_⟩,hc1⟩:=RS.get (h_l.mono hl1) hx1
 have e1:Ha.wrap ((l.length:Int)-1)=((l.length-1:Nat):Int):=(Hh _ (by (have q_:=QL.1 ‹_›;have q1_:=q_.len1;have q2_:=q_.len;have q3_:=q_.lastE;have q4_:=q_.fb;have q5_:=q_.lb;omega))).trans (show (l.length:Int)-1=((l.length-1:Nat):Int) by (have q_:=QL.1 ‹_›;have q1_:=q_.len1;have q2_:=q_.len;have q3_:=q_.lastE;have q4_:=q_.fb;have q5_:=q_.lb;omega))
 obtain ⟨x2,hx2⟩:=QS (l:=l) (k:=l.length-1) (by (have q_:=QL.1 ‹_›;have q1_:=q_.len1;have q2_:=q_.len;have q3_:=q_.lastE;have q4_:=q_.fb;have q5_:=q_.lb;omega))
 obtain ⟨_,⟨rfl,_,_,_,_⟩,hc2⟩:=RS.get (h_l.mono hl1) hx2
 refine Kt [] (Wm [(0,Sl (At b2 o1) l.length c_l),(1,Pt b2 (o1+0*4)),(2,Pt b2 (o1+0*4)),(3,I x1.epoch),(4,Sl (At b2 o1) l.length c_l),(5,Sl (At b2 o1) l.length c_l),(6,I (l.length:Int)),(7,I ((l.length-1:Nat):Int)),(8,Pt b2 (o1+(l.length-1)*4)),(9,Pt b2 (o1+(l.length-1)*4)),(10,I x2.epoch),(11,I x1.epoch),(12,I x2.epoch)] (Kl [] [(0,0),(2,0),(4,0),(5,0),(6,0),(9,0),(11,0),(12,0)] [1,3,7,8,10] [(0,Sl (At b2 o1) l.length c_l),(1,I a),(2,I b),(9,I x1.epoch),(10,I x2.epoch)] (Kf ?_ (Kf ?_ (Kf ?_ (Kf ?_ (Kf ?_ KY))))) ?_))
 refine Jr 1 18 (Pt b2 (o1+0*4)) [(17,Sl (At b2 o1) l.length c_l)] (fun X=>?_)
 exact JV (b:=b2) (off:=o1) (len:=l.length) (cap:=c_l) (ik:=.i64) 18 43 4 0 (by (have hl_:=Wz (l:=l) (k:=l.length-1) rfl hx2;have hf_:=W3 hx1;subst hl_;subst hf_;have q_:=QL.1 ‹_›;have q1_:=q_.len1;have q2_:=q_.len;have q3_:=q_.lastE;have q4_:=q_.fb;have q5_:=q_.lb;omega)) Jp
 refine Jr 3 20 (I x1.epoch) [(19,Pt b2 (o1+0*4))] (fun X=>?_)
 exact JO 20 2 (cs:=[I x1.epoch,U x1.root,U x1.prev,I x1.at_]) 0 (I x1.epoch) hc1 Jp
 refine Jr 7 24 (I ((l.length-1:Nat):Int)) [(23,I (l.length:Int))] (fun X=>?_)
 exact K5 24 (I (Ha.wrap ((l.length:Int)-1))) (I ((l.length-1:Nat):Int)) (by simp only [e1]) Jp
 refine Jr 8 25 (Pt b2 (o1+(l.length-1)*4)) [(21,Sl (At b2 o1) l.length c_l),(24,I ((l.length-1:Nat):Int))] (fun X=>?_)
 exact JV (b:=b2) (off:=o1) (len:=l.length) (cap:=c_l) (ik:=.i64) 25 43 4 (l.length-1) (by (have hl_:=Wz (l:=l) (k:=l.length-1) rfl hx2;have hf_:=W3 hx1;subst hl_;subst hf_;have q_:=QL.1 ‹_›;have q1_:=q_.len1;have q2_:=q_.len;have q3_:=q_.lastE;have q4_:=q_.fb;have q5_:=q_.lb;omega)) Jp
 refine Jr 10 27 (I x2.epoch) [(26,Pt b2 (o1+(l.length-1)*4))] (fun X=>?_)
 exact JO 27 2 (cs:=[I x2.epoch,U x2.root,U x2.prev,I x2.at_]) 0 (I x2.epoch) hc2 Jp
 refine Jc (Jf (Jf (Jd (Jb [0,0,0,0] [(31,Bo (decide (a > b)))] (Ks (decide (a > b)) [31] [1,1,1,0] [0,0,0,0] (fun bb=>[(35,Bo (bb || (decide (a<x1.epoch))))]) (Jb [0] [(36,Bo ((decide (a > b)) || (decide (a<x1.epoch))))] (Ks ((decide (a > b)) || (decide (a<x1.epoch))) [36] [1,1,1,0] [0,0,0,0] (fun bb=>[(40,Bo (bb || (decide (b > x2.epoch))))]) (Je (Jc (Jl (((decide (a > b)) || (decide (a<x1.epoch))) || (decide (b > x2.epoch))) (fun h2=>?_) (fun h2=>?_)))))))))))
 refine Jg [0,0] [(6,Sl none 0 0),(7,I 4)] (Jn (Jj ?_))
 have hf2:Zc l a b=([],4):=by
  unfold Zc;(have hl_:=Wz (l:=l) (k:=l.length-1) rfl hx2;have hf_:=W3 hx1;subst hl_;subst hf_;rw [if_neg (by omega)];(rw [if_pos (by omega)];done))
 refine Jo [0,0] [Sl none 0 0,I 4] (JD [] hl1 ?_)
 rw [hf2]
 try dsimp only
 exact ⟨none,0,rfl,(J2 KO G1),rfl⟩
 refine Jq (Jc (Jf (Jd (Jb [0,0,0,0,0,0,0,0] [(41,Sl (At b2 o1) l.length c_l),(44,I (Ha.wrap (a-x1.epoch))),(48,I (Ha.wrap ((Ha.wrap (b-x1.epoch))+1)))] ?_))))
 have e2:Ha.wrap (a-x1.epoch)=a-x1.epoch:=Hh _ (by (have hl_:=Wz (l:=l) (k:=l.length-1) rfl hx2;have hf_:=W3 hx1;subst hl_;subst hf_;have q_:=QL.1 ‹_›;have q1_:=q_.len1;have q2_:=q_.len;have q3_:=q_.lastE;have q4_:=q_.fb;have q5_:=q_.lb;omega))
 have e3:Ha.wrap (b-x1.epoch)=b-x1.epoch:=Hh _ (by (have hl_:=Wz (l:=l) (k:=l.length-1) rfl hx2;have hf_:=W3 hx1;subst hl_;subst hf_;have q_:=QL.1 ‹_›;have q1_:=q_.len1;have q2_:=q_.len;have q3_:=q_.lastE;have q4_:=q_.fb;have q5_:=q_.lb;omega))
 have e4:Ha.wrap ((b-x1.epoch)+1)=(b-x1.epoch)+1:=Hh _ (by (have hl_:=Wz (l:=l) (k:=l.length-1) rfl hx2;have hf_:=W3 hx1;subst hl_;subst hf_;have q_:=QL.1 ‹_›;have q1_:=q_.len1;have q2_:=q_.len;have q3_:=q_.lastE;have q4_:=q_.fb;have q5_:=q_.lb;omega))
 refine Kv 44 (I (a-x1.epoch)) (congrArg I e2) (Kv 48 (I ((b-x1.epoch)+1)) (show (I (Ha.wrap ((Ha.wrap (b-x1.epoch))+1)):Value)=I ((b-x1.epoch)+1) by simp only [e2,e3,e4]) ?_)
 clear e4 e3 e2
 obtain ⟨kn1,hkn1⟩:∃ k_:Nat,a-x1.epoch=(k_:Int):=⟨(a-x1.epoch).toNat,by omega⟩
 have e5:a-x1.epoch=(kn1:Int):=hkn1
 refine Kv 44 (I (kn1:Int)) (congrArg I e5) ?_
 obtain ⟨kn2,hkn2⟩:∃ k_:Nat,(b-x1.epoch)+1=(k_:Int):=⟨((b-x1.epoch)+1).toNat,by omega⟩
 have e6:(b-x1.epoch)+1=(kn2:Int):=hkn2
 refine Kv 48 (I (kn2:Int)) (congrArg I e6) ?_
 obtain ⟨a1,c1,ea1,ec1,en1,eh1,hs2⟩:=RS.reslX (h_l.mono hl1) kn1 kn2 J4 (by (have hl_:=Wz (l:=l) (k:=l.length-1) rfl hx2;have hf_:=W3 hx1;subst hl_;subst hf_;have q_:=QL.1 ‹_›;have q1_:=q_.len1;have q2_:=q_.len;have q3_:=q_.lastE;have q4_:=q_.fb;have q5_:=q_.lb;omega))
 refine Ws (a:=At b2 o1) (len:=l.length) (cap:=c_l) 49 4 (some (I (kn1:Int))) (some (I (kn2:Int))) kn1 kn2 (.inr ⟨_,rfl⟩) (.inr ⟨_,rfl⟩) J4 ea1 ec1 en1 eh1 (JN 50 (VI G1 a1 c1 ((l.take kn2).drop kn1) hs2) (fun v G2 L1 hl2 hp=>?_))
 obtain ⟨a2,c2,_,rfl,hr1,rfl⟩:=hp
 refine Jb [0,0] [(6,Sl a2 (((l.take kn2).drop kn1).length) c2),(7,I 0)] (Je (Jc (Jn (Wy (E:=KO) 0 hr1 (by exact (hs2).fit) (fun G3 hl3 hs3=>?_)))))
 have hf3:Zc l a b=((l.take kn2).drop kn1,0):=by
  unfold Zc;(have hl_:=Wz (l:=l) (k:=l.length-1) rfl hx2;have hf_:=W3 hx1;subst hl_;subst hf_;rw [if_neg (by omega)];(rw [if_neg (by omega)];unfold cut;rw [show (a-(W2 l).epoch).toNat=kn1 by omega,show (b-(W2 l).epoch+1).toNat=kn2 by omega];done))
 refine Jo [0,0] [Sl a2 (((l.take kn2).drop kn1).length) c2,I 0] (JD [] (Ja (Ja hl1 hl2) hl3) ?_)
 rw [hf3]
 try dsimp only
 exact ⟨a2,c2,rfl,hs3,rfl⟩
theorem Jeo (G:J5) (vs_h:Bv) (h:JX) (h_h:KO.R G vs_h h) (a_l:Ba) (c_l:Nat) (l:List JX) (h_l:RS KO G a_l c_l l) :QZ 121 #[.agg vs_h.toArray,Sl a_l l.length c_l] G (.tuple #[Bo ((QX h l).1),I ((QX h l).2)]):=by
 obtain ⟨rfl,w1,w2,w3,w4⟩:=h_h
 refine JP Tryz.func121 24 [(0,.agg #[I h.epoch,U h.root,U h.prev,I h.at_]),(1,Sl a_l l.length c_l)] rfl (fun w0 G0=>?_)
 refine Jf (Jd (Jv 2 #[I h.epoch,U h.root,U h.prev,I h.at_] 43 (fun b1=>Jb [0,0] [] (Je (Jc (Jf (Jd (Jb [0] [(7,Sl a_l l.length c_l)] (Km 8 1 #[Sl a_l l.length c_l] 40 (fun b2=>QI (b:=b2) (o:=0) (cs:=[Sl a_l l.length c_l]) 0 (fun G1 hl1 hz1=>?_)))))))))))
 have hs1:RS Jfn G1 (At b2 0) 1 [l]:=RS.lit [[Sl a_l l.length c_l]] [l] ⟨⟨a_l,c_l,rfl,(h_l.mono hl1)⟩,trivial⟩ hz1 (Hb rfl) (Hb rfl)
 refine Jm 9 (I (K1 ([l]))) (JbI G1 (At b2 0) 1 ([l]) hs1) (Jb [0] [(6,I (K1 ([l])))] (Je (Jc (Jf (Jg [0,0] [(11,Bo (decide (K1 ([l])=0)))] (Jl (decide (K1 ([l])=0)) (fun h1=>?_) (fun h1=>?_)))))))
 refine Jd (Jb [4] [(12,.agg #[I h.epoch,U h.root,U h.prev,I h.at_])] (Jm 13 (I (JK h)) (Z9 h G1) (Jb [0] [(6,I (JK h))] (Je (Jc (Jf (Jg [0,0] [(15,Bo (!decide (JK h=0)))] (Jl (!decide (JK h=0)) (fun h2=>?_) (fun h2=>?_)))))))))
 refine Jg [0,0,0] [(4,Bo false),(5,I (JK h))] (Jn (Jj (Jo [0,0] [Bo false,I (JK h)] (Jx hl1 ?_))))
 have hf_:(QX h l)=(false,(JK h)):=by
  unfold QX;(simp_all;done)
 · (try rw [hf_]);(simp only [QC];done)
 refine Jq (Jc (Jf ?_))
 obtain ⟨b3,o1,rfl⟩:=RS.addr (h_l.mono hl1) (k:=0) (by (have q_:=QL.1 ‹_›;have q1_:=q_.len1;have q2_:=q_.len;have q3_:=q_.lastE;have q4_:=q_.fb;have q5_:=q_.lb;omega))
 obtain ⟨x1,hx1⟩:=QS (l:=l) (k:=0) (by (have q_:=QL.1 ‹_›;have q1_:=q_.len1;have q2_:=q_.len;have q3_:=q_.lastE;have q4_:=q_.fb;have q5_:=q_.lb;omega))
 obtain ⟨_,⟨rfl,w5,w6,w7,w8⟩,hc1⟩:=RS.get (h_l.mono hl1) hx1
 refine Kt [4,5] (Wm [(0,.agg #[I h.epoch,U h.root,U h.prev,I h.at_]),(1,Sl (At b3 o1) l.length c_l),(2,Pt b3 (o1+0*4)),(3,.agg #[I x1.epoch,U x1.root,U x1.prev,I x1.at_])] (JF [] [(0,4),(1,0)] [2,3] [4] (Kf ?_ (Kf ?_ KY)) (Kf ?_ KY)))
 refine Jr 2 19 (Pt b3 (o1+0*4)) [(18,Sl (At b3 o1) l.length c_l)] (fun X=>?_)
 exact JV (b:=b3) (off:=o1) (len:=l.length) (cap:=c_l) (ik:=.i64) 19 43 4 0 (by (have q_:=QL.1 ‹_›;have q1_:=q_.len1;have q2_:=q_.len;have q3_:=q_.lastE;have q4_:=q_.fb;have q5_:=q_.lb;omega)) Jp
 refine Jr 3 20 (.agg #[I x1.epoch,U x1.root,U x1.prev,I x1.at_]) [(19,Pt b3 (o1+0*4))] (fun X=>?_)
 exact JO 20 43 (cs:=[I x1.epoch,U x1.root,U x1.prev,I x1.at_]) 0 (.agg #[I x1.epoch,U x1.root,U x1.prev,I x1.at_]) hc1 Jp
 refine Jz 4 [(17,.agg #[I h.epoch,U h.root,U h.prev,I h.at_]),(20,.agg #[I x1.epoch,U x1.root,U x1.prev,I x1.at_])] (fun X=>?_)
 refine Km 21 2 #[I h.epoch,U h.root,U h.prev,I h.at_,I x1.epoch,U x1.root,U x1.prev,I x1.at_] 43 (fun b4=>JA [(4,Sl (At b4 0) 2 2)] (JF [0,1,2,3] [] [] [5] (Hi _) (Kf ?_ KY)))
 refine Jz 5 [(21,Sl (At b4 0) 2 2)] (fun X=>?_)
 refine QI (b:=b4) (o:=0) (cs:=[I h.epoch,U h.root,U h.prev,I h.at_,I x1.epoch,U x1.root,U x1.prev,I x1.at_]) 0 (fun G2 hl2 hz2=>?_)
 have hs2:RS KO G2 (At b4 0) 2 [h,x1]:=RS.lit [[I h.epoch,U h.root,U h.prev,I h.at_],[I x1.epoch,U x1.root,U x1.prev,I x1.at_]] [h,x1] ⟨⟨rfl,w1,w2,w3,w4⟩,⟨⟨rfl,w5,w6,w7,w8⟩,trivial⟩⟩ hz2 (Hb rfl) (Hb rfl)
 refine Jm 22 (I (Wu ([h,x1]))) (Jb8 G2 (At b4 0) 2 ([h,x1]) hs2) (JA [(5,I (Wu ([h,x1]))),(6,Bo (decide (Wu ([h,x1])<0))),(7,Bo (decide (Wu ([h,x1])<0))),(8,I 0)] (Kl [0,1,2,3] [(6,0),(7,0),(8,0)] [] [(4,Bo (decide (Wu ([h,x1])<0))),(5,I 0)] (Hi _) (Jc (Jn (Jo [0,0] [Bo (decide (Wu ([h,x1])<0)),I 0] (Jx (Ja hl1 hl2) ?_))))))
 have hf_:(QX h l)=((decide (Wu ([h,x1])<0)),0):=by
  unfold QX;(have hf_:=W3 hx1;subst hf_;simp_all;done)
 · (try rw [hf_]);(simp only [QC];done)
 refine Jq (Jc (Jf (Jg [0,0] [(15,Bo (!decide (K1 ([l])=0)))] (Jl (!decide (K1 ([l])=0)) (fun h3=>?_) (fun h3=>?_)))))
 refine Jg [0,0,0] [(4,Bo false),(5,I (K1 ([l])))] (Jn (Jj (Jo [0,0] [Bo false,I (K1 ([l]))] (Jx hl1 ?_))))
 have hf_:(QX h l)=(false,(K1 ([l]))):=by
  unfold QX;(simp_all;done)
 · (try rw [hf_]);(simp only [QC];done)
 refine Jq (Jc (Jf ?_))
 obtain ⟨b5,o2,rfl⟩:=RS.addr (h_l.mono hl1) (k:=0) (by omega)
 obtain ⟨x2,hx2⟩:=QS (l:=l) (k:=0) (by omega)
 obtain ⟨_,⟨rfl,w9,w10,w11,w12⟩,hc2⟩:=RS.get (h_l.mono hl1) hx2
 refine Kt [4,5] (Wm [(0,.agg #[I h.epoch,U h.root,U h.prev,I h.at_]),(1,Sl (At b5 o2) l.length c_l),(2,Pt b5 (o2+0*4)),(3,.agg #[I x2.epoch,U x2.root,U x2.prev,I x2.at_])] (JF [] [(0,4),(1,0)] [2,3] [4] (Kf ?_ (Kf ?_ KY)) (Kf ?_ KY)))
 refine Jr 2 19 (Pt b5 (o2+0*4)) [(18,Sl (At b5 o2) l.length c_l)] (fun X=>?_)
 exact JV (b:=b5) (off:=o2) (len:=l.length) (cap:=c_l) (ik:=.i64) 19 43 4 0 J4 Jp
 refine Jr 3 20 (.agg #[I x2.epoch,U x2.root,U x2.prev,I x2.at_]) [(19,Pt b5 (o2+0*4))] (fun X=>?_)
 exact JO 20 43 (cs:=[I x2.epoch,U x2.root,U x2.prev,I x2.at_]) 0 (.agg #[I x2.epoch,U x2.root,U x2.prev,I x2.at_]) hc2 Jp
 refine Jz 4 [(17,.agg #[I h.epoch,U h.root,U h.prev,I h.at_]),(20,.agg #[I x2.epoch,U x2.root,U x2.prev,I x2.at_])] (fun X=>?_)
 refine Km 21 2 #[I h.epoch,U h.root,U h.prev,I h.at_,I x2.epoch,U x2.root,U x2.prev,I x2.at_] 43 (fun b6=>JA [(4,Sl (At b6 0) 2 2)] (JF [0,1,2,3] [] [] [5] (Hi _) (Kf ?_ KY)))
 refine Jz 5 [(21,Sl (At b6 0) 2 2)] (fun X=>?_)
 refine QI (b:=b6) (o:=0) (cs:=[I h.epoch,U h.root,U h.prev,I h.at_,I x2.epoch,U x2.root,U x2.prev,I x2.at_]) 0 (fun G3 hl3 hz3=>?_)
 have hs3:RS KO G3 (At b6 0) 2 [h,x2]:=RS.lit [[I h.epoch,U h.root,U h.prev,I h.at_],[I x2.epoch,U x2.root,U x2.prev,I x2.at_]] [h,x2] ⟨⟨rfl,w1,w2,w3,w4⟩,⟨⟨rfl,w9,w10,w11,w12⟩,trivial⟩⟩ hz3 (Hb rfl) (Hb rfl)
 refine Jm 22 (I (Wu ([h,x2]))) (Jb8 G3 (At b6 0) 2 ([h,x2]) hs3) (JA [(5,I (Wu ([h,x2]))),(6,Bo (decide (Wu ([h,x2])<0))),(7,Bo (decide (Wu ([h,x2])<0))),(8,I 0)] (Kl [0,1,2,3] [(6,0),(7,0),(8,0)] [] [(4,Bo (decide (Wu ([h,x2])<0))),(5,I 0)] (Hi _) (Jc (Jn (Jo [0,0] [Bo (decide (Wu ([h,x2])<0)),I 0] (Jx (Ja hl1 hl3) ?_))))))
 have hf_:(QX h l)=((decide (Wu ([h,x2])<0)),0):=by
  unfold QX;(simp_all;done)
 · (try rw [hf_]);(simp only [QC];done)
def VX:Qp:=⟨[],0,ZE,[],0⟩
def WU (s:Bb):Bool:=decide (s.length > 20)
def Kg (o:Qp):Int:=if KS o.name=false then 3 else if JK o.head ≠ 0 then JK o.head else if 30<(o.wanted.length:Int)∨(o.wanted.any fun x0=>WU x0)=true then 2 else if o.had<0∨(o.wanted.length:Int)<o.had then 4 else 0
def Kk (name:Bb) (key:Int) (h:JX):Qp×Int:=if Kg ⟨name,key,h,[],0⟩ ≠ 0 then (VX,Kg ⟨name,key,h,[],0⟩) else (⟨name,key,h,[],0⟩,0)
def Yw (o:Qp) (v:Bb):Int:=if Kg o ≠ 0 then Kg o else if WU v=true then 2 else if (o.wanted.length:Int)=30 then 7 else 0
def JQ (o:Qp) (v:Bb):Qp×ZD×Int:=if Yw o v ≠ 0 then (VX,Ji4,Yw o v) else (⟨o.name,o.key,o.head,o.wanted++[v],o.had⟩,(YW o.key o.name v o.wanted.length).1,0)
theorem Qb {o:Qp}:Kg o=0 ↔ KS o.name=true∧JK o.head=0∧o.wanted.length≤30∧(∀ s∈o.wanted,s.length≤20)∧0≤o.had∧o.had≤o.wanted.length:=by
 unfold Kg
 have e:(o.wanted.any fun x0=>WU x0)=true ↔ ¬ ∀ s∈o.wanted,s.length≤20:=by
  rw [HB]
  unfold WU
  constructor
  ·
   rintro ⟨x,hx,h⟩ hc
   have:=hc x hx
   simp at h;omega
  ·
   intro h
   apply Classical.byContradiction
   intro hc
   refine h fun s hs=>?_
   apply Classical.byContradiction
   intro h2
   exact hc ⟨s,hs,by simp;omega⟩
 cases hn:KS o.name with
 | false=>simp
 | true =>
  rw [if_neg (by simp)]
  by_cases h1:JK o.head=0
  ·
   rw [if_neg (by omega)]
   by_cases h2:30<(o.wanted.length:Int)∨(o.wanted.any fun x0=>WU x0)=true
   ·
    rw [if_pos h2]
    constructor
    · intro h;cases h
    ·
     rintro ⟨_,_,h3,h4,_⟩
     rcases h2 with h2 | h2
     · omega
     · exact absurd h4 (e.1 h2)
   ·
    rw [if_neg h2]
    have h3:o.wanted.length≤30:=Nat.le_of_not_lt fun h=>h2 (.inl (by omega))
    have h4:∀ s∈o.wanted,s.length≤20:=Hl.1 fun h=>h2 (.inr (e.2 h))
    split
    ·
     constructor
     · intro h;cases h
     · rintro ⟨_,_,_,_,_,_⟩;omega
    · exact ⟨fun _=>⟨rfl,h1,h3,h4,by omega,by omega⟩,fun _=>rfl⟩
  ·
   rw [if_pos h1]
   exact ⟨fun h=>absurd h h1,fun h=>absurd h.2.1 h1⟩
theorem Jib {o:Qp} {v:Bb} (h:(JQ o v).2.2=0):Kg o=0∧v.length≤20∧o.wanted.length<30∧JQ o v=(⟨o.name,o.key,o.head,o.wanted++[v],o.had⟩,⟨o.name,v,o.wanted.length,VK o.key (Zm o.name v o.wanted.length)⟩,0)∧Kg (JQ o v).1=0∧Yl o.key (JQ o v).2.1=true∧(JQ o v).1.key=o.key∧(JQ o v).2.1.n=o.wanted.length∧(JQ o v).1.wanted.length=o.wanted.length+1:=by
 have key:Kg o=0∧WU v=false∧¬ (o.wanted.length:Int)=30:=by
  unfold JQ at h
  split at h
  · contradiction
  ·
   rename_i h1
   unfold Yw at h1
   by_cases e1:Kg o=0
   ·
    rw [if_neg (by omega)] at h1
    by_cases e2:WU v=true
    · rw [if_pos e2] at h1;omega
    ·
     rw [if_neg e2] at h1
     by_cases e3:(o.wanted.length:Int)=30
     · rw [if_pos e3] at h1;omega
     · exact ⟨e1,by simpa using e2,e3⟩
   · rw [if_pos e1] at h1;omega
 obtain ⟨e1,e2,e3⟩:=key
 have hi:=Qb.1 e1
 have hv:v.length≤20:=by unfold WU at e2;simp at e2;omega
 have hE:Yw o v=0:=by unfold Yw;rw [if_neg (by omega),if_neg (by rw [e2];simp),if_neg e3]
 have hr:Wc o.name v=0:=by unfold Wc;rw [if_neg (by rw [hi.1];simp),if_neg (by omega)]
 have ht:YW o.key o.name v o.wanted.length=(⟨o.name,v,o.wanted.length,VK o.key (Zm o.name v o.wanted.length)⟩,0):=by unfold YW;rw [if_neg (by omega)]
 have hw:JQ o v=(⟨o.name,o.key,o.head,o.wanted++[v],o.had⟩,⟨o.name,v,o.wanted.length,VK o.key (Zm o.name v o.wanted.length)⟩,0):=by
  unfold JQ;rw [if_neg (by omega),ht]
 refine ⟨e1,hv,by omega,hw,?_,?_,?_,?_,?_⟩ <;> rw [hw] <;> simp only
 ·
  rw [Qb]
  refine ⟨hi.1,hi.2.1,by simp;omega,fun s hs=>?_,hi.2.2.2.2.1,by simp;omega⟩
  rcases HF.1 hs with hs | hs
  · exact hi.2.2.2.1 s hs
  · rw [Hz.1 hs];exact hv
 · unfold Yl;simp [hr]
 · simp
theorem JcK (G:J5) (s:Bb) :QZ 70 #[Sr s] G (Bo (WU s)):=by
 refine JP Tryz.func70 6 [(0,Sr s)] rfl (fun w0 G0=>?_)
 refine Jg [0] [] (Jg [0,0,0,0] [(2,Bo (decide (((s).length:Int) > 20)))] (Jn (Jo [0] [Bo (decide (((s).length:Int) > 20))] (Jx (Jh _) (congrArg Bo (?_:(WU s)=(decide (((s).length:Int) > 20))).symm)))))
 unfold WU;rw [HG];simp;omega
theorem JaO (G:J5) (vs_o:Bv) (o:Qp) (h_o:Q9.R G vs_o o) :QZ 38 #[.agg vs_o.toArray] G (I (Kg o)):=by
 obtain ⟨a1,c1,rfl,_,_,_,_,_,_,hs1,_⟩:=h_o
 refine JP Tryz.func38 36 [(0,(KF o a1 c1))] rfl (fun w0 G0=>?_)
 refine Jf (Jd (Jv 1 #[Sr o.name,U o.key,I o.head.epoch,U o.head.root,U o.head.prev,I o.head.at_,Sl a1 o.wanted.length c1,I o.had] 76 (fun b1=>Jb [0] [] (Je (Jc (Jf (Jf (Jd (Jb [0,2] [(5,Sr o.name)] (Jm 6 (Bo (KS o.name)) (Z4 G o.name) (Jb [0] [(7,Bo (!(KS o.name)))] (Je (Jc (Jl (!(KS o.name)) (fun h1=>?_) (fun h1=>?_)))))))))))))))
 refine Jg [0] [(2,I 3)] (Jn (Jj (Jo [0] [I 3] (Jx (Jh _) (congrArg I (?_:(Kg o)=3).symm)))))
 · unfold Kg;(rw [if_pos (by simp_all)];done)
 refine Jq (Jc (Jf (Jf (Jd (Jb [0,2] [(9,.agg #[I o.head.epoch,U o.head.root,U o.head.prev,I o.head.at_])] (Jm 10 (I (JK o.head)) (Z9 o.head G) (Jb [0] [(3,I (JK o.head))] (Je (Jc (Jg [0,0] [(12,Bo (!decide (JK o.head=0)))] (Jl (!decide (JK o.head=0)) (fun h2=>?_) (fun h2=>?_))))))))))))
 refine Jg [0,0] [(2,I (JK o.head))] (Jn (Jj (Jo [0] [I (JK o.head)] (Jx (Jh _) (congrArg I (?_:(Kg o)=(JK o.head)).symm)))))
 · unfold Kg;(rw [if_neg (by simp_all),if_pos (by omega)];done)
 refine Jq (Jc (Jf (Jy (Jf (Jd (Jb [0,2,0,0,0] [(19,Bo (decide ((o.wanted.length:Int) > 30)))] (QR [19] (decide ((o.wanted.length:Int) > 30)) (fun h3=>?_) (fun h3=>?_))))))))
 refine Jb [1,1,1,0,0] [(14,Bo true)] (Je (Jc (J0 (Jg [0] [(2,I 2)] (Jn (Ju (Jj (Jo [0] [I 2] (Jx (Jh _) (congrArg I (?_:(Kg o)=2).symm))))))))))
 · unfold Kg;(rw [if_neg (by simp_all),if_neg (by omega)];(rw [if_pos (by simp_all)];done))
 refine Jb [0,2] [(21,Sl a1 o.wanted.length c1)] (Jm 22 (Bo (o.wanted.any (fun x0=>WU x0))) (JpO G a1 c1 o.wanted hs1 70 #[] (fun x0=>WU x0) (fun _ _=>by kernel_rfl) (fun x0 hx0=>JcK G x0)) (Jb [0,0] [(14,Bo (o.wanted.any (fun x0=>WU x0)))] (Je (Jc (Jl (o.wanted.any (fun x0=>WU x0)) (fun h4=>?_) (fun h4=>?_))))))
 refine Jg [0] [(2,I 2)] (Jn (Ju (Jj (Jo [0] [I 2] (Jx (Jh _) (congrArg I (?_:(Kg o)=2).symm))))))
 · unfold Kg;(rw [if_neg (by simp_all),if_neg (by omega)];(rw [if_pos (by simp_all)];done))
 refine Jf (Jd (Jb [0,2,0,0] [(28,Bo (decide (o.had<0)))] (Ks (decide (o.had<0)) [28] [1,1,1,1,1,1,0] [0,2,0,2,0,0,0] (fun bb=>[(35,Bo (bb || (decide (o.had > (o.wanted.length:Int)))))]) (Jb [0] [(24,Bo ((decide (o.had<0)) || (decide (o.had > (o.wanted.length:Int)))))] (Je (Jc (Jl ((decide (o.had<0)) || (decide (o.had > (o.wanted.length:Int)))) (fun h5=>?_) (fun h5=>?_))))))))
 refine Jg [0] [(2,I 4)] (Jn (Ju (Jj (Jo [0] [I 4] (Jx (Jh _) (congrArg I (?_:(Kg o)=4).symm))))))
 · unfold Kg;(rw [if_neg (by simp_all),if_neg (by omega)];(rw [if_neg (by simp_all),if_pos (by omega)];done))
 refine Jq (JM (Jc (Jg [0] [(2,I 0)] (Jn (Jo [0] [I 0] (Jx (Jh _) (congrArg I (?_:(Kg o)=0).symm)))))))
 · unfold Kg;(rw [if_neg (by simp_all),if_neg (by omega)];(rw [if_neg (by simp_all),if_neg (by omega)];done))
theorem JdJ (G:J5) (name:Bb) (hw_name:(name).length≤140737488351232) (key:Int) (hw_key:rU key) (vs_h:Bv) (h:JX) (h_h:KO.R G vs_h h) :YS 57 #[Sr name,U key,.agg vs_h.toArray] G [] (fun u G' L'=>∃ (a1:Ba) (c2:Nat),u=.tuple #[.agg #[Sr (((Kk name key h).1).name),U (((Kk name key h).1).key),I (((Kk name key h).1).head.epoch),U (((Kk name key h).1).head.root),U (((Kk name key h).1).head.prev),I (((Kk name key h).1).head.at_),Sl a1 ((((Kk name key h).1).wanted).length) c2,I (((Kk name key h).1).had)],I ((Kk name key h).2)]∧((((Kk name key h).1).name).length≤140737488351232)∧(rU (((Kk name key h).1).key))∧(rI (((Kk name key h).1).head.epoch))∧(rU (((Kk name key h).1).head.root))∧(rU (((Kk name key h).1).head.prev))∧(rI (((Kk name key h).1).head.at_))∧(RS ES G' a1 c2 (((Kk name key h).1).wanted))∧(rI (((Kk name key h).1).had))∧L'=[]):=by
 obtain ⟨rfl,w1,w2,w3,w4⟩:=h_h
 refine JP Tryz.func57 21 [(0,Sr name),(1,U key),(2,.agg #[I h.epoch,U h.root,U h.prev,I h.at_])] rfl (fun w0 G0=>?_)
 refine Jf (Jd (Jv 5 #[I h.epoch,U h.root,U h.prev,I h.at_] 43 (fun b1=>Jv 6 #[Sr ([]),U 0,I 0,U 0,U 0,I 0,Sl none 0 0,I 0] 76 (fun b2=>Jb [0] [] (Je (Jc (Jf (Jd (Jb [0,0,4,0] [(13,.agg #[Sr name,U key,I h.epoch,U h.root,U h.prev,I h.at_,Sl none 0 0,I 0])] (Jv 8 #[Sr ([]),U 0,I 0,U 0,U 0,I 0,Sl none 0 0,I 0] 76 (fun b3=>JW [3] [] [[Sg b3 0 [Sr name,U key,I h.epoch,U h.root,U h.prev,I h.at_,Sl none 0 0,I 0]],[Sg b2 0 [Sr ([]),U 0,I 0,U 0,U 0,I 0,Sl none 0 0,I 0]],[Sg b1 0 [I h.epoch,U h.root,U h.prev,I h.at_]]] (Je (Jc (Jf (Jf (Jd (Jb [2] [(14,.agg #[Sr name,U key,I h.epoch,U h.root,U h.prev,I h.at_,Sl none 0 0,I 0])] (Jm 15 (I (Kg (⟨name,key,h,[],0⟩:Qp))) (JaO G [Sr name,U key,I h.epoch,U h.root,U h.prev,I h.at_,Sl none 0 0,I 0] (⟨name,key,h,[],0⟩:Qp) (⟨none,0,rfl,hw_name,hw_key,w1,w2,w3,w4,(J2 ES G),(by (simp;done))⟩)) (Jb [0] [(9,I (Kg (⟨name,key,h,[],0⟩:Qp)))] (Je (Jc (Jg [0,0] [(17,Bo (!decide (Kg (⟨name,key,h,[],0⟩:Qp)=0)))] ?_))))))))))))))))))))))
 refine Jl (!decide (Kg (⟨name,key,h,[],0⟩:Qp)=0)) (fun h1=>?_) (fun h1=>?_)
 refine Jg [0,0,5,0] [(7,I (Kg (⟨name,key,h,[],0⟩:Qp)))] (Jn (Jj ?_))
 have hf1:Kk name key h=((⟨[],0,(⟨0,0,0,0⟩:JX),[],0⟩:Qp),Kg (⟨name,key,h,[],0⟩:Qp)):=by
  unfold Kk VX ZE;simp_all
 refine Jo [1,0] [.agg #[Sr ([]),U 0,I 0,U 0,U 0,I 0,Sl none 0 0,I 0],I (Kg (⟨name,key,h,[],0⟩:Qp))] (JD [] (Jh _) ?_)
 rw [hf1]
 try dsimp only
 exact ⟨none,0,rfl,(Hb rfl),J4,J4,J4,J4,J4,(J2 ES G),J4,rfl⟩
 refine Jq (Jc (QF [2,5,0] [(7,I 0)] [[Sg b3 0 [Sr name,U key,I h.epoch,U h.root,U h.prev,I h.at_,Sl none 0 0,I 0]],[Sg b2 0 [Sr name,U key,I h.epoch,U h.root,U h.prev,I h.at_,Sl none 0 0,I 0]],[Sg b1 0 [I h.epoch,U h.root,U h.prev,I h.at_]]] (Jn ?_)))
 have hf2:Kk name key h=((⟨name,key,h,[],0⟩:Qp),0):=by
  unfold Kk VX ZE;simp_all
 refine Jo [1,0] [.agg #[Sr name,U key,I h.epoch,U h.root,U h.prev,I h.at_,Sl none 0 0,I 0],I 0] (JD [] (Jh _) ?_)
 rw [hf2]
 try dsimp only
 exact ⟨none,0,rfl,hw_name,hw_key,w1,w2,w3,w4,(J2 ES G),J4,rfl⟩
abbrev JaP (o:Qp) (v:Bb):=YW o.key o.name v (o.wanted.length:Int)
abbrev Jb9 (o:Qp) (v:Bb):=(⟨o.name,o.key,o.head,(o.wanted++[v]),o.had⟩:Qp)
theorem Vk (G:J5) (vs_o:Bv) (o:Qp) (h_o:Q9.R G vs_o o) (v:Bb) (hw_v:(v).length≤140737488351232) :YS 101 #[.agg vs_o.toArray,Sr v] G [] (fun u G' L'=>∃ (a1:Ba) (c2:Nat),u=.tuple #[.agg #[Sr (((JQ o v).1).name),U (((JQ o v).1).key),I (((JQ o v).1).head.epoch),U (((JQ o v).1).head.root),U (((JQ o v).1).head.prev),I (((JQ o v).1).head.at_),Sl a1 ((((JQ o v).1).wanted).length) c2,I (((JQ o v).1).had)],.agg #[Sr (((JQ o v).2.1).name),Sr (((JQ o v).2.1).value),U (((JQ o v).2.1).n),U (((JQ o v).2.1).tag)],I ((JQ o v).2.2)]∧((((JQ o v).1).name).length≤140737488351232)∧(rU (((JQ o v).1).key))∧(rI (((JQ o v).1).head.epoch))∧(rU (((JQ o v).1).head.root))∧(rU (((JQ o v).1).head.prev))∧(rI (((JQ o v).1).head.at_))∧(RS ES G' a1 c2 (((JQ o v).1).wanted))∧(rI (((JQ o v).1).had))∧((((JQ o v).2.1).name).length≤140737488351232)∧((((JQ o v).2.1).value).length≤140737488351232)∧(rU (((JQ o v).2.1).n))∧(rU (((JQ o v).2.1).tag))∧L'=[]):=by
 obtain ⟨a1,c1,rfl,w1,w2,w3,w4,w5,w6,hs1,w7⟩:=h_o
 refine JP Tryz.func101 52 [(0,(KF o a1 c1)),(1,Sr v)] rfl (fun w0 G0=>?_)
 refine Jf (Jd (Jv 2 #[Sr o.name,U o.key,I o.head.epoch,U o.head.root,U o.head.prev,I o.head.at_,Sl a1 o.wanted.length c1,I o.had] 76 (fun b1=>Jv 4 #[Sr ([]),U 0,I 0,U 0,U 0,I 0,Sl none 0 0,I 0] 76 (fun b2=>Jv 5 #[Sr ([]),Sr ([]),U 0,U 0] 182 (fun b3=>Jb [0] [] (Je (Jc (Jf (Jd (Jb [6] [(10,(KF o a1 c1))] (Jm 11 (I (Kg o)) (JaO G (KU o a1 c1) o (⟨a1,c1,rfl,w1,w2,w3,w4,w5,w6,hs1,w7⟩)) (Jb [0] [(7,I (Kg o))] (Je (Jc (Jf (Jy (Jg [0,0,0] [(12,Bo (!decide (Kg o=0)))] (Jl (!decide (Kg o=0)) (fun h1=>?_) (fun h1=>?_)))))))))))))))))))
 refine Jg [0,0,0,5,3,0] [(6,I (Kg o))] (Jn (Ju (Jj ?_)))
 have hf1:JQ o v=((⟨[],0,(⟨0,0,0,0⟩:JX),[],0⟩:Qp),(⟨[],[],0,0⟩:ZD),Kg o):=by
  unfold JQ Yw VX Ji4 ZE;simp_all
 refine Jo [1,0,0] [.agg #[Sr ([]),U 0,I 0,U 0,U 0,I 0,Sl none 0 0,I 0],.agg #[Sr ([]),Sr ([]),U 0,U 0],I (Kg o)] (JD [] (Jh _) ?_)
 rw [hf1]
 try dsimp only
 exact ⟨none,0,rfl,(Hb rfl),J4,J4,J4,J4,J4,(J2 ES G),J4,(Hb rfl),(Hb rfl),J4,J4,rfl⟩
 refine Jf (Jd (Jb [0] [(19,Sr v)] (Jm 20 (Bo (WU v)) (JcK G v) (Jb [0] [(18,Bo (WU v))] (Je (Jc (Jl (WU v) (fun h2=>?_) (fun h2=>?_))))))))
 refine Jg [0,0,5,3,0] [(6,I 2)] (Jn (Ju (Jj ?_)))
 have hf2:JQ o v=((⟨[],0,(⟨0,0,0,0⟩:JX),[],0⟩:Qp),(⟨[],[],0,0⟩:ZD),2):=by
  unfold JQ Yw VX Ji4 ZE;simp_all
 refine Jo [1,0,0] [.agg #[Sr ([]),U 0,I 0,U 0,U 0,I 0,Sl none 0 0,I 0],.agg #[Sr ([]),Sr ([]),U 0,U 0],I 2] (JD [] (Jh _) ?_)
 rw [hf2]
 try dsimp only
 exact ⟨none,0,rfl,(Hb rfl),J4,J4,J4,J4,J4,(J2 ES G),J4,(Hb rfl),(Hb rfl),J4,J4,rfl⟩
 refine Jg [0,6,0,0,0] [(23,Bo (decide ((o.wanted.length:Int)=30)))] (Jl (decide ((o.wanted.length:Int)=30)) (fun h3=>?_) (fun h3=>?_))
 refine Jg [0,0,5,3,0] [(6,I 7)] (Jn (Ju (Jj ?_)))
 have hf3:JQ o v=((⟨[],0,(⟨0,0,0,0⟩:JX),[],0⟩:Qp),(⟨[],[],0,0⟩:ZD),7):=by
  unfold JQ Yw VX Ji4 ZE;simp_all
 refine Jo [1,0,0] [.agg #[Sr ([]),U 0,I 0,U 0,U 0,I 0,Sl none 0 0,I 0],.agg #[Sr ([]),Sr ([]),U 0,U 0],I 7] (JD [] (Jh _) ?_)
 rw [hf3]
 try dsimp only
 exact ⟨none,0,rfl,(Hb rfl),J4,J4,J4,J4,J4,(J2 ES G),J4,(Hb rfl),(Hb rfl),J4,J4,rfl⟩
 refine Jq (JM (Jc (Jf (Jd (Jb [0,6,0,6,0,0,6,0,0] [(32,U o.key),(34,Sr o.name),(35,Sr v),(39,U (HV.wrap (o.wanted.length:Int)))] (Jbi 39 (o.wanted.length:Int) (by (have q_:=Qb.1 ‹_›;omega)) (JN 40 (Jku G o.key o.name ‹_› v ‹_› (o.wanted.length:Int) (by (have q_:=Qb.1 ‹_›;omega))) (fun v G1 L1 hl1 hp=>?_))))))))
 obtain ⟨rfl,w8,w9,w10,w11,rfl⟩:=hp
 refine Jb [0,0,0] [(41,(Jkl (JaP o v).1)),(42,I ((JaP o v).2))] (Jv 8 #[Sr ([]),Sr ([]),U 0,U 0] 182 (fun b4=>JW [3,0] [] [[Sg b4 0 (JiS (JaP o v).1)],[Sg b3 0 [Sr ([]),Sr ([]),U 0,U 0]],[Sg b2 0 [Sr ([]),U 0,I 0,U 0,U 0,I 0,Sl none 0 0,I 0]],[Sg b1 0 (KU o a1 c1)]] (Je (Jc (Jf (Jd (Jb [0,8] [(44,Sl a1 o.wanted.length c1)] (JN 45 (Jbo G1 a1 c1 o.wanted (hs1.mono hl1)) (fun v G2 L1 hl2 hp=>?_)))))))))
 obtain ⟨_,c2,_,rfl,hr1,rfl⟩:=hp
 refine Jb [0] [(46,Sr v)] (Km 47 1 #[Sr v] 9 (fun b5=>Qd (b:=b5) (cs:=[Sr v]) 48 9 1 0 (E:=ES) v hr1 ⟨rfl,‹_›⟩ (by have q_:=Qb.1 ‹_›;(try simp only [ES,Hd,He,Hf]);omega) (by have q_:=Qb.1 ‹_›;(try simp only [ES,Hd,He,Hf]);omega) (fun a3 c3 r2 hr2=>JW [0,13] [] [[Sg b5 0 [Sr v]],r2,[Sg b4 0 (JiS (JaP o v).1)],[Sg b3 0 [Sr ([]),Sr ([]),U 0,U 0]],[Sg b2 0 [Sr ([]),U 0,I 0,U 0,U 0,I 0,Sl none 0 0,I 0]],[Sg b1 0 (KU (Jb9 o v) a3 c3)]] (Je (Jc (Jf (Kt [2,3] (Wm [(0,(KF (Jb9 o v) a3 c3)),(1,(Jkl (JaP o v).1))] (JF [] [(0,12),(1,6)] [] [2] (Hi _) (Kf ?_ KY))))))))))
 refine Jz 2 [(4,Pt b2 0),(50,(KF (Jb9 o v) a3 c3))] (fun X=>?_)
 refine KC 4 [[Sg b5 0 [Sr v]],r2,[Sg b4 0 (JiS (JaP o v).1)],[Sg b3 0 [Sr ([]),Sr ([]),U 0,U 0]],[Sg b2 0 (KU (Jb9 o v) a3 c3)],[Sg b1 0 (KU (Jb9 o v) a3 c3)]] (J6 [] (JF [0] [(1,6)] [] [3] (Hi _) (Kf ?_ KY)))
 refine Jz 3 [(5,Pt b3 0),(51,(Jkl (JaP o v).1))] (fun X=>?_)
 refine KC 3 [[Sg b5 0 [Sr v]],r2,[Sg b4 0 (JiS (JaP o v).1)],[Sg b3 0 (JiS (JaP o v).1)],[Sg b2 0 (KU (Jb9 o v) a3 c3)],[Sg b1 0 (KU (Jb9 o v) a3 c3)]] (J6 [(4,I 0)] (Kl [0,1] [(4,0)] [] [(4,Pt b2 0),(5,Pt b3 0),(6,I 0)] (Hi _) (Jc (Jn (Wy (E:=ES) 1 hr2 (by have q_:=Qb.1 ‹_›;(try simp only [ES,Hd,He,Hf]);omega) (fun G3 hl3 hs2=>?_))))))
 have hf4:JQ o v=((⟨o.name,o.key,o.head,o.wanted++[v],o.had⟩:Qp),((JaP o v).1),0):=by
  unfold JQ Yw VX Ji4 ZE;simp_all
 refine Jo [4,3,0] [(KF (Jb9 o v) a3 c3),(Jkl (JaP o v).1),I 0] (JD [] (Ja (Ja hl1 hl2) hl3) ?_)
 rw [hf4]
 try dsimp only
 exact ⟨a3,c3,rfl,‹_›,‹_›,‹_›,‹_›,‹_›,‹_›,hs2,‹_›,w8,w9,w10,w11,rfl⟩
def Wj (p:Q4):Int×Int:=if (K8 p).2 ≠ 0 then (0,(K8 p).2) else (Ji (Jow (K8 p).1),0)
def Zd (root:Int) (p:Q4):Int:=if (Wj p).2=0∧¬ (Wj p).1=root then 8 else (Wj p).2
def ZM (root:Int) (p:Q4):Bb×Bool×Int:=if ¬ Zd root p=0 then ([],false,Zd root p) else YP p.entries p.name
def JG (r:Q5):Bb×Bool×Int:=if ¬ JK r.head=0 then ([],false,JK r.head) else ZM r.head.root r.proof
theorem Vl {p:Q4} (h:(K8 p).2=0):(K8 p).1.length=17:=by
 unfold K8 at h ⊢
 split at h
 · contradiction
 ·
  rename_i h1
  rw [if_neg h1]
  simp only
  rw [YD,(Ww.1 (Hl.1 h1)).sides]
def Ym (x h:JX):Bool:=decide (x.epoch=h.epoch) && !decide (x=h)
def K2 (h:JX) (l:List JX):Int:=if ¬ (Ki l).1=0∨(W2 l).epoch > h.epoch+1 then 2 else if (W2 l).epoch=h.epoch+1∧(QX h l).1=false then 2 else if (l.any fun x0=>Ym x0 h)=true then 3 else if (W9 l).epoch≤h.epoch then 1 else 0
def V0 (o:Qp):Int:=if 0 > o.had-1 then 0 else o.had-1
def JaQ (o:Qp) (w:Bb):Int:=QJ (fun x=>decide (w=x)) (o.wanted.drop (V0 o).toNat)
def JZ (o:Qp) (l:List JX) (r:Q5):Int×Int:=if ¬ K2 o.head l=0 then (K2 o.head l,0) else if (¬ (JG r).2.2=0∨¬ r.head=W9 l)∨¬ r.proof.name=o.name then (4,0) else if (JG r).2.1=false∧o.had > 0 then (5,0) else if (JG r).2.1=false then (0,0) else if JaQ o (JG r).1<0 then (6,0) else (0,V0 o+JaQ o (JG r).1+1)
def JC (o:Qp) (l:List JX) (r:Q5):Qp×Int×Int:=if ¬ Kg o=0 then (VX,0,Kg o) else if (JZ o l r).1=0 then (⟨o.name,o.key,r.head,o.wanted,(JZ o l r).2⟩,0,0) else (o,(JZ o l r).1,0)
theorem Y0 {h:JX} {l:List JX} (e:K2 h l=0):Zn l∧h.epoch<(W9 l).epoch:=by
 unfold K2 at e
 split at e
 · cases e
 split at e
 · cases e
 split at e
 · cases e
 split at e
 · cases e
 ·
  rename_i h1 _ _ h4
  exact ⟨Qa.1 (Hl.1 fun hc=>h1 (.inl hc)),by omega⟩
theorem Jjp {h:JX} {l:List JX} {x:JX} (h1:¬ (Ki l).1=0∨(l[0]? = some x∧x.epoch > h.epoch+1)):K2 h l=2:=by
 unfold K2
 rw [if_pos]
 rcases h1 with h1 | ⟨h1,h2⟩
 · exact .inl h1
 · rw [← W3 h1];exact .inr h2
theorem Joz {h:JX} {l:List JX} {x:JX} (h0:(Ki l).1=0) (h1:l[0]? = some x) (h2:x.epoch≤h.epoch+1) (h3:x.epoch=h.epoch+1) (h4:(QX h l).1=false):K2 h l=2:=by
 unfold K2
 rw [← W3 h1,if_neg (by omega),if_pos ⟨h3,h4⟩]
theorem Jbq {h:JX} {l:List JX} {x:JX} (h0:(Ki l).1=0) (h1:l[0]? = some x) (h2:x.epoch≤h.epoch+1) (h3:¬ x.epoch=h.epoch+1∨(QX h l).1=true):K2 h l=if (l.any fun x0=>Ym x0 h)=true then 3 else if (W9 l).epoch≤h.epoch then 1 else 0:=by
 unfold K2
 rw [← W3 h1,if_neg (by omega),if_neg]
 rintro ⟨a,b⟩
 rcases h3 with h3 | h3
 · exact h3 a
 · rw [h3] at b;cases b
theorem JlI {α:Type} (p:α→Bool) (l:List α):-1≤QJ p l∧QJ p l<l.length+1:=by
 by_cases h:QJ p l<0
 ·
  refine ⟨?_,by omega⟩
  unfold QJ;split <;> omega
 ·
  obtain ⟨k,hk⟩:∃ k:Nat,QJ p l=k:=⟨_,(HM (by omega)).symm⟩
  obtain ⟨x,hx,_⟩:=JhZ hk
  have:=(Hc.1 hx).1
  omega
theorem Jfu {o:Qp} {l:List JX} {r:Q5} {x:JX} (h0:K2 o.head l=0) (h1:(JG r).2.2=0) (h2:l[l.length-1]? = some x) (h3:((r.head.epoch=x.epoch∧r.head.root=x.root)∧r.head.prev=x.prev)∧r.head.at_=x.at_) (h4:r.proof.name=o.name) :
  JZ o l r=if (JG r).2.1=false∧o.had > 0 then (5,0) else if (JG r).2.1=false then (0,0) else if JaQ o (JG r).1<0 then (6,0) else (0,V0 o+JaQ o (JG r).1+1):=by
 unfold JZ
 have e:=Wz rfl h2
 have e2:r.head=W9 l:=by rw [← e,Jb3];exact ⟨h3.1.1.1,h3.1.1.2,h3.1.2,h3.2⟩
 rw [if_neg (by omega),if_neg]
 rintro ((a | a) | a)
 · exact a h1
 · exact a e2
 · exact a h4
theorem Jic {o:Qp} {l:List JX} {r:Q5} (h0:K2 o.head l=0) (h1:(¬ (JG r).2.2=0∨∃ x,l[l.length-1]? = some x∧(((r.head.epoch=x.epoch∧r.head.root=x.root)∧r.head.prev=x.prev)→¬ r.head.at_=x.at_))∨¬ r.proof.name=o.name):JZ o l r=(4,0):=by
 unfold JZ
 rw [if_neg (by omega),if_pos]
 rcases h1 with (h1 | ⟨x,h1,h2⟩) | h1
 · exact .inl (.inl h1)
 ·
  refine .inl (.inr ?_)
  rw [← Wz rfl h1,Jb3]
  rintro ⟨a,b,c,d⟩
  exact h2 ⟨⟨a,b⟩,c⟩ d
 · exact .inr h1
theorem Jjq {o:Qp} {k:Nat} (w:Bb) (h:(if 0 > o.had-1 then 0 else o.had-1)=(k:Int)):V0 o=k∧JaQ o w=QJ (fun x=>decide (w=x)) (o.wanted.drop k):=by
 have e:V0 o=k:=h
 refine ⟨e,?_⟩
 unfold JaQ;rw [e];rfl
theorem Jjr {o:Qp} {w:Bb} (h:¬ JaQ o w<0):∃ k:Nat,JaQ o w=k∧o.wanted[(V0 o).toNat+k]? = some w:=by
 obtain ⟨k,hk⟩:∃ k:Nat,JaQ o w=k:=⟨_,(HM (by omega)).symm⟩
 refine ⟨k,hk,?_⟩
 unfold JaQ at hk
 obtain ⟨x,hx,hp⟩:=JhZ hk
 rw [HP] at hx
 rw [hx,of_decide_eq_true hp]
theorem JdK {o:Qp} {l:List JX} {r:Q5} (hc:Kg o=0) (h:(JZ o l r).1=0) :
  (JG r).2.2=0∧o.head.epoch<r.head.epoch∧JK r.head=0∧o.had≤(JZ o l r).2∧0≤(JZ o l r).2∧(JZ o l r).2≤o.wanted.length ∧
  ((JG r).2.1=false→(JZ o l r).2=0∧o.had=0)∧((JG r).2.1=true→1≤(JZ o l r).2∧∃ k:Nat,(JZ o l r).2-1=k∧o.wanted[k]? = some (JG r).1):=by
 have ho:=Qb.1 hc
 unfold JZ at h ⊢
 by_cases h1:K2 o.head l=0
 ·
  rw [if_neg (by omega)] at h ⊢
  obtain ⟨c1,c2⟩:=Y0 h1
  by_cases h2:(¬ (JG r).2.2=0∨¬ r.head=W9 l)∨¬ r.proof.name=o.name
  · rw [if_pos h2] at h;cases h
  ·
   rw [if_neg h2] at h ⊢
   have e1:(JG r).2.2=0:=Hl.1 fun hc=>h2 (.inl (.inl hc))
   have e2:r.head=W9 l:=Hl.1 fun hc=>h2 (.inl (.inr hc))
   have e3:JK r.head=0:=by rw [e2];exact c1.ok _ (Ho c1.last)
   by_cases h3:(JG r).2.1=false∧o.had > 0
   · rw [if_pos h3] at h;cases h
   ·
    rw [if_neg h3] at h ⊢
    by_cases h4:(JG r).2.1=false
    ·
     rw [if_pos h4] at h ⊢
     have:¬ o.had > 0:=fun hc=>h3 ⟨h4,hc⟩
     exact ⟨e1,by rw [e2];exact c2,e3,by simp only;omega,by simp,by simp,fun _=>⟨rfl,by omega⟩,fun hc=>by rw [h4] at hc;cases hc⟩
    ·
     rw [if_neg h4] at h ⊢
     by_cases h5:JaQ o (JG r).1<0
     · rw [if_pos h5] at h;cases h
     ·
      rw [if_neg h5]
      obtain ⟨k,hk,hw⟩:=Jjr h5
      have hlt:=(Hc.1 hw).1
      have hf:0≤V0 o∧o.had-1≤V0 o:=by unfold V0;split <;> omega
      simp only
      refine ⟨e1,by rw [e2];exact c2,e3,by omega,by omega,by omega,fun hc=>absurd hc h4,fun _=>⟨by omega,(V0 o).toNat+k,by omega,hw⟩⟩
 · rw [if_pos h1] at h;exact absurd h h1
theorem see_ok {o:Qp} {l:List JX} {r:Q5} (h:(JC o l r).2.2=0):Kg o=0∧(JC o l r).2.1=(JZ o l r).1∧((JZ o l r).1=0→(JC o l r).1=⟨o.name,o.key,r.head,o.wanted,(JZ o l r).2⟩)∧(¬ (JZ o l r).1=0→(JC o l r).1=o):=by
 unfold JC at h ⊢
 by_cases h1:Kg o=0
 ·
  rw [if_neg (by omega)] at h ⊢
  by_cases h2:(JZ o l r).1=0
  · rw [if_pos h2];exact ⟨h1,h2.symm,fun _=>rfl,fun hc=>absurd h2 hc⟩
  · rw [if_neg h2];exact ⟨h1,rfl,fun hc=>absurd hc h2,fun _=>rfl⟩
 · rw [if_pos h1] at h;exact absurd h h1
theorem JoA {o:Qp} {l:List JX} {r:Q5} (h:(JC o l r).2.2=0) (hv:(JC o l r).2.1=0):(JG r).2.2=0∧(JC o l r).1.head=r.head∧o.head.epoch<(JC o l r).1.head.epoch∧o.had≤(JC o l r).1.had∧Kg (JC o l r).1=0∧((JG r).2.1=false→(JC o l r).1.had=0∧o.had=0)∧((JG r).2.1=true→1≤(JC o l r).1.had∧(JC o l r).1.had≤o.wanted.length∧∃ k:Nat,(JC o l r).1.had-1=k∧o.wanted[k]? = some (JG r).1):=by
 obtain ⟨h1,h2,h3,_⟩:=see_ok h
 have hv0:(JZ o l r).1=0:=by rw [← h2];exact hv
 have hx:=h3 hv0
 have ho:=Qb.1 h1
 obtain ⟨a1,a2,a3,a4,a5,a6,a7,a8⟩:=JdK h1 hv0
 rw [hx]
 refine ⟨a1,rfl,a2,a4,Qb.2 ⟨ho.1,a3,ho.2.2.1,ho.2.2.2.1,a5,a6⟩,a7,fun hi=>⟨(a8 hi).1,a6,(a8 hi).2⟩⟩
theorem JgQ (G:J5) (vs_p:Bv) (p:Q4) (h_p:JfP.R G vs_p p) :QZ 124 #[.agg vs_p.toArray] G (.tuple #[U ((Wj p).1),I ((Wj p).2)]):=by
 obtain ⟨a1,c1,a2,c2,rfl,w1,hs1,hs2⟩:=h_p
 refine JP Tryz.func124 21 [(0,(Jag p a1 c1 a2 c2))] rfl (fun w0 G0=>?_)
 refine Jf (Jd (Jv 1 #[Sr p.name,Sl a1 p.entries.length c1,Sl a2 p.sides.length c2] 47 (fun b1=>Jb [0,0] [] (Je (Jc (Jf (Jd (Jb [2] [(7,(Jag p a1 c1 a2 c2))] (JN 8 (JgK G (VW p a1 c1 a2 c2) p (⟨a1,c1,a2,c2,rfl,w1,hs1,hs2⟩)) (fun v G1 L1 hl1 hp=>?_))))))))))
 obtain ⟨a3,c3,rfl,hs3,rfl⟩:=hp
 refine Jb [0,0,0,0,0] [(4,Sl a3 (((K8 p).1).length) c3),(5,I ((K8 p).2))] (Je (Jc (Jf (Jg [0,0] [(12,Bo (!decide ((K8 p).2=0)))] (Jl (!decide ((K8 p).2=0)) (fun h1=>?_) (fun h1=>?_))))))
 refine Jg [0,0,0] [(2,U 0),(3,I ((K8 p).2))] (Jn (Jj (Jo [0,0] [U 0,I ((K8 p).2)] (Jx hl1 ?_))))
 have hf_:(Wj p)=(0,((K8 p).2)):=by
  unfold Wj;(rw [if_pos ‹_›];done)
 · (try rw [hf_]);(simp only [QC];done)
 refine Jq (Jc (Jf (Jd (Jb [0,0,0,0] [(14,Sl a3 (((K8 p).1).length) c3),(17,I (Ha.wrap ((((K8 p).1).length:Int)-1)))] ?_))))
 have e1:Ha.wrap ((((K8 p).1).length:Int)-1)=((((K8 p).1).length-1:Nat):Int):=(Hh _ (by (have q_:=Vl (p:=p) ‹_›;omega))).trans (show (((K8 p).1).length:Int)-1=((((K8 p).1).length-1:Nat):Int) by (have q_:=Vl (p:=p) ‹_›;omega))
 refine Kv 17 (I ((((K8 p).1).length-1:Nat):Int)) (congrArg I e1) ?_
 clear e1
 obtain ⟨b2,o1,rfl⟩:=RS.addr hs3 (k:=((K8 p).1).length-1) (by (have q_:=Vl (p:=p) ‹_›;omega))
 obtain ⟨x1,hx1⟩:=QS (l:=(K8 p).1) (k:=((K8 p).1).length-1) (by (have q_:=Vl (p:=p) ‹_›;omega))
 obtain ⟨_,⟨rfl,w2⟩,hc1⟩:=RS.get hs3 hx1
 refine JV (b:=b2) (off:=o1) (len:=((K8 p).1).length) (cap:=c3) (ik:=.i64) 18 9 1 (((K8 p).1).length-1) (by (have q_:=Vl (p:=p) ‹_›;omega)) (JO 19 9 (cs:=[Sr x1]) 0 (Sr x1) hc1 (Jm 20 (U (Ji x1)) (Ya x1 (Jc1 w2) G1) (Jb [0,0] [(2,U (Ji x1)),(3,I 0)] (Je (Jc (Jn (Jo [0,0] [U (Ji x1),I 0] (Jx hl1 ?_))))))))
 have hf_:(Wj p)=((Ji x1),0):=by
  unfold Wj;(rw [if_neg (by omega)];have hl_:=JmW (a:=(K8 p).1) rfl hx1;rw [← hl_];done)
 · (try rw [hf_]);(simp only [QC];done)
theorem JgR (G:J5) (root:Int) (vs_p:Bv) (p:Q4) (h_p:JfP.R G vs_p p) :QZ 72 #[U root,.agg vs_p.toArray] G (I (Zd root p)):=by
 obtain ⟨a1,c1,a2,c2,rfl,w1,hs1,hs2⟩:=h_p
 refine JP Tryz.func72 20 [(0,U root),(1,(Jag p a1 c1 a2 c2))] rfl (fun w0 G0=>?_)
 refine Jf (Jd (Jv 3 #[Sr p.name,Sl a1 p.entries.length c1,Sl a2 p.sides.length c2] 47 (fun b1=>Jb [0] [] (Je (Jc (Jf (Jd (Jb [2] [(8,(Jag p a1 c1 a2 c2))] (Jm 9 (.tuple #[U ((Wj p).1),I ((Wj p).2)]) (JgQ G (VW p a1 c1 a2 c2) p (⟨a1,c1,a2,c2,rfl,w1,hs1,hs2⟩)) (Jb [0,0,0,0,0] [(5,U ((Wj p).1)),(6,I ((Wj p).2))] (Je (Jc (Jf (Jf (Jd (Jb [0,0,0] [(14,Bo (decide ((Wj p).2=0)))] (Ks (decide ((Wj p).2=0)) [14] [0,0,0,0] [1,1,1,0] (fun bb=>[(18,Bo (bb && (!decide ((Wj p).1=root))))]) (Je (Jc (Jl ((decide ((Wj p).2=0)) && (!decide ((Wj p).1=root))) (fun h1=>?_) (fun h1=>?_)))))))))))))))))))))
 refine Jd (Jb [0] [(6,I 8)] (Je (Jc (Jg [0,0] [(4,I 8)] (Jn (Jo [0] [I 8] (Jx (Jh _) (congrArg I (?_:(Zd root p)=8).symm))))))))
 · unfold Zd;(rw [if_pos (by simp_all)];done)
 refine Jq (Jc (Jg [0,0] [(4,I ((Wj p).2))] (Jn (Jo [0] [I ((Wj p).2)] (Jx (Jh _) (congrArg I (?_:(Zd root p)=((Wj p).2)).symm))))))
 · unfold Zd;(rw [if_neg (by simp_all)];done)
abbrev JbJ (p:Q4):=YP p.entries p.name
theorem JgS (G:J5) (root:Int) (vs_p:Bv) (p:Q4) (h_p:JfP.R G vs_p p) :YS 42 #[U root,.agg vs_p.toArray] G [] (fun u G' L'=>u=.tuple #[Sr ((ZM root p).1),Bo ((ZM root p).2.1),I ((ZM root p).2.2)]∧(((ZM root p).1).length≤140737488351232)∧L'=[]):=by
 obtain ⟨a1,c1,a2,c2,rfl,w1,hs1,hs2⟩:=h_p
 refine JP Tryz.func42 22 [(0,U root),(1,(Jag p a1 c1 a2 c2))] rfl (fun w0 G0=>?_)
 refine Jf (Jd (Jv 3 #[Sr p.name,Sl a1 p.entries.length c1,Sl a2 p.sides.length c2] 47 (fun b1=>Jb [0,0,0] [] (Je (Jc (Jf (Jf (Jd (Jb [0,2] [(8,U root),(9,(Jag p a1 c1 a2 c2))] (Jm 10 (I (Zd root p)) (JgR G root (VW p a1 c1 a2 c2) p (⟨a1,c1,a2,c2,rfl,w1,hs1,hs2⟩)) (Jb [0] [(7,I (Zd root p))] (Je (Jc (Jg [0,0] [(12,Bo (!decide (Zd root p=0)))] (Jl (!decide (Zd root p=0)) (fun h1=>?_) (fun h1=>?_))))))))))))))))
 refine Jg [0,0,0,0] [(4,Sr ([])),(5,Bo false),(6,I (Zd root p))] (Jn (Jj ?_))
 have hf1:ZM root p=([],false,Zd root p):=by
  unfold ZM;(rw [if_pos ‹_›];done)
 refine Jo [0,0,0] [Sr ([]),Bo false,I (Zd root p)] (JD [] (Jh _) ?_)
 rw [hf1]
 try dsimp only
 exact ⟨rfl,(Hb rfl),rfl⟩
 refine Jq (Jc (Jf (Jd (Jb [0,2,0,2] [(15,Sl a1 p.entries.length c1),(17,Sr p.name)] (JN 18 (Jjb G a1 c1 p.entries hs1 p.name w1) (fun v G1 L1 hl1 hp=>?_))))))
 obtain ⟨rfl,w2,rfl⟩:=hp
 refine Jb [0,0,0,0,0,0] [(4,Sr ((JbJ p).1)),(5,Bo ((JbJ p).2.1)),(6,I ((JbJ p).2.2))] (Je (Jc (Jn ?_)))
 have hf2:ZM root p=((JbJ p).1,(JbJ p).2.1,(JbJ p).2.2):=by
  unfold ZM;(rw [if_neg (by simp_all)];done)
 refine Jo [0,0,0] [Sr ((JbJ p).1),Bo ((JbJ p).2.1),I ((JbJ p).2.2)] (JD [] hl1 ?_)
 rw [hf2]
 try dsimp only
 exact ⟨rfl,w2,rfl⟩
abbrev JbK (r:Q5):=ZM r.head.root r.proof
theorem JcL (G:J5) (vs_r:Bv) (r:Q5) (h_r:Jki.R G vs_r r) :YS 24 #[.agg vs_r.toArray] G [] (fun u G' L'=>u=.tuple #[Sr ((JG r).1),Bo ((JG r).2.1),I ((JG r).2.2)]∧(((JG r).1).length≤140737488351232)∧L'=[]):=by
 obtain ⟨a1,c1,a2,c2,rfl,_,_,_,_,w5,hs1,hs2⟩:=h_r
 refine JP Tryz.func24 21 [(0,(WV r a1 c1 a2 c2))] rfl (fun w0 G0=>?_)
 refine Jf (Jd (Jv 1 #[I r.head.epoch,U r.head.root,U r.head.prev,I r.head.at_,Sr r.proof.name,Sl a1 r.proof.entries.length c1,Sl a2 r.proof.sides.length c2] 49 (fun b1=>Jb [0,0,0] [] (Je (Jc (Jf (Jf (Jd (Jb [0,2] [(7,.agg #[I r.head.epoch,U r.head.root,U r.head.prev,I r.head.at_])] (Jm 8 (I (JK r.head)) (Z9 r.head G) (Jb [0] [(5,I (JK r.head))] (Je (Jc (Jg [0,0] [(10,Bo (!decide (JK r.head=0)))] (Jl (!decide (JK r.head=0)) (fun h1=>?_) (fun h1=>?_))))))))))))))))
 refine Jg [0,0,0,0] [(2,Sr ([])),(3,Bo false),(4,I (JK r.head))] (Jn (Jj ?_))
 have hf1:JG r=([],false,JK r.head):=by
  unfold JG;(rw [if_pos ‹_›];done)
 refine Jo [0,0,0] [Sr ([]),Bo false,I (JK r.head)] (JD [] (Jh _) ?_)
 rw [hf1]
 try dsimp only
 exact ⟨rfl,(Hb rfl),rfl⟩
 refine Jq (Jc (Jf (Jd (Jb [0,0,2,0,2] [(14,U r.head.root),(16,(Jag r.proof a1 c1 a2 c2))] (JN 17 (JgS G r.head.root (VW r.proof a1 c1 a2 c2) r.proof (⟨a1,c1,a2,c2,rfl,w5,hs1,hs2⟩)) (fun v G1 L1 hl1 hp=>?_))))))
 obtain ⟨rfl,w6,rfl⟩:=hp
 refine Jb [0,0,0,0,0,0] [(2,Sr ((JbK r).1)),(3,Bo ((JbK r).2.1)),(4,I ((JbK r).2.2))] (Je (Jc (Jn ?_)))
 have hf2:JG r=((JbK r).1,(JbK r).2.1,(JbK r).2.2):=by
  unfold JG;(rw [if_neg (by simp_all)];done)
 refine Jo [0,0,0] [Sr ((JbK r).1),Bo ((JbK r).2.1),I ((JbK r).2.2)] (JD [] hl1 ?_)
 rw [hf2]
 try dsimp only
 exact ⟨rfl,w6,rfl⟩
theorem JdL (G:J5) (vs_x:Bv) (x:JX) (h_x:KO.R G vs_x x) (vs_h:Bv) (h:JX) (h_h:KO.R G vs_h h) (b_h:Nat) (hz_h:∀ j v,(vs_h:Bv)[j]? = some v→G b_h (0+j)=some v) :QZ 123 #[.agg vs_x.toArray,Pt b_h 0] G (Bo (Ym x h)):=by
 obtain ⟨rfl,_,_,_,_⟩:=h_x
 obtain ⟨rfl,_,_,_,_⟩:=h_h
 refine JP Tryz.func123 14 [(0,.agg #[I x.epoch,U x.root,U x.prev,I x.at_]),(1,Pt b_h 0)] rfl (fun w0 G0=>?_)
 refine Jf (Jd (Jv 2 #[I x.epoch,U x.root,U x.prev,I x.at_] 43 (fun b1=>Jb [0] [] (Je (Jc (Jf (Jd (Jb [0,2,0] [(5,I x.epoch),(6,Pt b_h 0)] (JO (o':=0) 7 2 (cs:=[I h.epoch,U h.root,U h.prev,I h.at_]) 0 (I h.epoch) hz_h (Jb [0,0] [(9,Bo (decide (x.epoch=h.epoch)))] (QR [9] (decide (x.epoch=h.epoch)) (fun h1=>?_) (fun h1=>?_))))))))))))
 refine Jb [2] [(10,.agg #[I x.epoch,U x.root,U x.prev,I x.at_])] (JO (o':=0) 11 43 (cs:=[I h.epoch,U h.root,U h.prev,I h.at_]) 0 (.agg #[I h.epoch,U h.root,U h.prev,I h.at_]) hz_h (Jdl 12 (Bo (!(decide (x.epoch=h.epoch) && (decide (x.root=h.root) && (decide (x.prev=h.prev) && (decide (x.at_=h.at_) && true)))))) (Bo (!(decide (x.epoch=h.epoch) && decide (x.root=h.root) && decide (x.prev=h.prev) && decide (x.at_=h.at_)))) (by simp [Qx,HO]) (Jb [0,0] [(3,Bo (!(decide (x.epoch=h.epoch) && decide (x.root=h.root) && decide (x.prev=h.prev) && decide (x.at_=h.at_))))] (Je (Jc (Jn (Jo [0] [Bo (!(decide (x.epoch=h.epoch) && decide (x.root=h.root) && decide (x.prev=h.prev) && decide (x.at_=h.at_)))] (Jx (Jh _) (congrArg Bo (?_:(Ym x h)=(!(decide (x.epoch=h.epoch) && decide (x.root=h.root) && decide (x.prev=h.prev) && decide (x.at_=h.at_)))).symm)))))))))
 unfold Ym;rw [HG];simp [Jb3];grind
 refine Jb [1,1,1,0,0] [(3,Bo false)] (Je (Jc (Jn (Jo [0] [Bo false] (Jx (Jh _) (congrArg Bo (?_:(Ym x h)=false).symm))))))
 unfold Ym;rw [HG];simp [Jb3];grind
set_option maxRecDepth 20000 in
theorem Jf8 (G:J5) (vs_h:Bv) (h:JX) (h_h:KO.R G vs_h h) (a_l:Ba) (c_l:Nat) (l:List JX) (h_l:RS KO G a_l c_l l) (hh:JK h=0):QZ 71 #[.agg vs_h.toArray,Sl a_l l.length c_l] G (I (K2 h l)):=by
 obtain ⟨rfl,w1,w2,w3,w4⟩:=h_h
 refine JP Tryz.func71 55 [(0,.agg #[I h.epoch,U h.root,U h.prev,I h.at_]),(1,Sl a_l l.length c_l)] rfl (fun w0 G0=>?_)
 refine Jf (Jd (Jv 2 #[I h.epoch,U h.root,U h.prev,I h.at_] 43 (fun b1=>Jb [0] [] (Je (Jc (Jf (Jf (Jd (Jb [0] [(10,Sl a_l l.length c_l)] (Jm 11 (.tuple #[I ((Ki l).1),I ((Ki l).2)]) (JaN G a_l c_l l h_l) (Jb [0,0,0,0,0] [(5,I ((Ki l).1))] (Je (Jc (Jf ?_))))))))))))))
 rcases Hs (!decide ((Ki l).1=0)) with h1 | h1
 have h1d:=h1
 try simp only [BB] at h1d
 refine Kt [] (Wm [(0,I ((Ki l).1)),(1,Bo true),(2,Bo true),(3,undef),(4,undef),(5,undef),(6,undef),(7,undef),(8,undef),(9,undef),(10,undef),(11,Bo true)] (Kl [] [(0,0),(2,0),(3,1),(4,1),(5,1),(6,1),(7,1),(8,1),(9,1),(10,1),(11,0)] [1] [(1,Sl a_l l.length c_l),(2,Pt b1 0),(25,Bo true)] (Kf ?_ KY) ?_))
 refine Jr 1 15 (Bo true) [(14,I ((Ki l).1))] (fun X=>?_)
 exact K5 15 (Bo (!decide ((Ki l).1=0))) (Bo true) (by rw [h1]) Jp
 refine Jc (J0 (Jg [0] [(4,I 2)] (Jn (Jj (Jo [0] [I 2] (Jx (Jh _) (congrArg I (?_:(K2 h l)=2).symm)))))))
 exact Jjp (x:=ZE) (.inl ‹_›)
 have h1d:=h1
 try simp only [BB] at h1d
 obtain ⟨b2,o1,rfl⟩:=RS.addr h_l (k:=0) (by (have q_:=(Qa.1 ‹_›);have q1_:=q_.len1;have q2_:=q_.len;omega))
 obtain ⟨x1,hx1⟩:=QS (l:=l) (k:=0) (by (have q_:=(Qa.1 ‹_›);have q1_:=q_.len1;have q2_:=q_.len;omega))
 obtain ⟨_,⟨rfl,_,_,_,_⟩,hc1⟩:=RS.get h_l hx1
 have e1:Ha.wrap (h.epoch+1)=h.epoch+1:=Hh _ (by (have q0_:=Zl hh;omega))
 refine Kt [] (Wm [(0,I ((Ki l).1)),(1,Bo false),(2,Bo false),(3,Sl (At b2 o1) l.length c_l),(4,Pt b2 (o1+0*4)),(5,Pt b2 (o1+0*4)),(6,I x1.epoch),(7,Pt b1 0),(8,I h.epoch),(9,I (h.epoch+1)),(10,Bo (decide (x1.epoch > h.epoch+1))),(11,Bo (decide (x1.epoch > h.epoch+1)))] (Kl [] [(0,0),(2,0),(3,0),(5,0),(7,0),(8,2),(10,0),(11,0)] [1,4,6,9] [(1,Sl (At b2 o1) l.length c_l),(2,Pt b1 0),(25,Bo (decide (x1.epoch > h.epoch+1)))] (Kf ?_ (Kf ?_ (Kf ?_ (Kf ?_ KY)))) ?_))
 refine Jr 1 15 (Bo false) [(14,I ((Ki l).1))] (fun X=>?_)
 exact K5 15 (Bo (!decide ((Ki l).1=0))) (Bo false) (by rw [h1]) Jp
 refine Jr 4 18 (Pt b2 (o1+0*4)) [(16,Bo false),(17,Sl (At b2 o1) l.length c_l)] (fun X=>?_)
 exact JV (b:=b2) (off:=o1) (len:=l.length) (cap:=c_l) (ik:=.i64) 18 43 4 0 (by (have q_:=(Qa.1 ‹_›);have q1_:=q_.len1;have q2_:=q_.len;omega)) Jp
 refine Jr 6 20 (I x1.epoch) [(16,Bo false),(19,Pt b2 (o1+0*4))] (fun X=>?_)
 exact JO 20 2 (cs:=[I x1.epoch,U x1.root,U x1.prev,I x1.at_]) 0 (I x1.epoch) hc1 Jp
 refine Jr 9 23 (I (h.epoch+1)) [(16,Bo false),(22,I h.epoch)] (fun X=>?_)
 exact K5 23 (I (Ha.wrap (h.epoch+1))) (I (h.epoch+1)) (by simp only [e1]) Jp
 refine Jc (Jl (decide (x1.epoch > h.epoch+1)) (fun h2=>?_) (fun h2=>?_))
 refine Jg [0] [(4,I 2)] (Jn (Jj (Jo [0] [I 2] (Jx (Jh _) (congrArg I (?_:(K2 h l)=2).symm)))))
 exact Jjp (.inr ⟨hx1,by assumption⟩)
 refine Jq (Jc (Jf (Jf ?_)))
 have e2:Ha.wrap (h.epoch+1)=h.epoch+1:=Hh _ (by (have q0_:=Zl hh;omega))
 refine Kt [] (Wm [(0,Sl (At b2 o1) l.length c_l),(1,Pt b2 (o1+0*4)),(2,Pt b2 (o1+0*4)),(3,I x1.epoch),(4,Pt b1 0),(5,I h.epoch),(6,I (h.epoch+1)),(7,Bo (decide (x1.epoch=h.epoch+1)))] (Kl [] [(0,0),(2,0),(4,0),(5,2),(7,0)] [1,3,6] [(1,Sl (At b2 o1) l.length c_l),(2,Pt b1 0),(33,Bo (decide (x1.epoch=h.epoch+1)))] (Kf ?_ (Kf ?_ (Kf ?_ KY))) ?_))
 refine Jr 1 27 (Pt b2 (o1+0*4)) [(26,Sl (At b2 o1) l.length c_l)] (fun X=>?_)
 exact JV (b:=b2) (off:=o1) (len:=l.length) (cap:=c_l) (ik:=.i64) 27 43 4 0 (by (have q_:=(Qa.1 ‹_›);have q1_:=q_.len1;have q2_:=q_.len;omega)) Jp
 refine Jr 3 29 (I x1.epoch) [(28,Pt b2 (o1+0*4))] (fun X=>?_)
 exact JO 29 2 (cs:=[I x1.epoch,U x1.root,U x1.prev,I x1.at_]) 0 (I x1.epoch) hc1 Jp
 refine Jr 6 32 (I (h.epoch+1)) [(31,I h.epoch)] (fun X=>?_)
 exact K5 32 (I (Ha.wrap (h.epoch+1))) (I (h.epoch+1)) (by simp only [e2]) Jp
 refine Jc (Jl (decide (x1.epoch=h.epoch+1)) (fun h3=>?_) (fun h3=>?_))
 refine Jf (Jd (Jb [2,0] [(35,.agg #[I h.epoch,U h.root,U h.prev,I h.at_]),(36,Sl (At b2 o1) l.length c_l)] (Jm 37 (.tuple #[Bo ((QX h l).1),I ((QX h l).2)]) (Jeo G [I h.epoch,U h.root,U h.prev,I h.at_] h (⟨rfl,w1,w2,w3,w4⟩) (At b2 o1) c_l l h_l) (Jb [0,0,0,0,0] [(7,Bo ((QX h l).1))] (Je (Jc (Jg [0,0] [(41,Bo (!((QX h l).1)))] (Jl (!((QX h l).1)) (fun h4=>?_) (fun h4=>?_)))))))))
 refine Jg [0] [(4,I 2)] (Jn (Jj (Jo [0] [I 2] (Jx (Jh _) (congrArg I (?_:(K2 h l)=2).symm)))))
 exact Joz ‹_› hx1 ‹_› ‹_› ‹_›
 refine Jq (Jc (Jf (Jf (Jd (Jb [0,0] [(42,Sl (At b2 o1) l.length c_l),(43,Fv 123 #[Pt b1 0])] (QI (b:=b1) (o:=0) (cs:=[I h.epoch,U h.root,U h.prev,I h.at_]) 0 (fun G1 hl1 hz1=>Jm 44 (Bo (l.any (fun x0=>Ym x0 h))) (JfU G1 (At b2 o1) c_l l (h_l.mono hl1) 123 #[Pt b1 0] (fun x0=>Ym x0 h) (fun _ _=>by kernel_rfl) (fun vs0 x0 hx0=>by obtain ⟨rfl,w9,w10,w11,w12⟩:=hx0;exact JdL G1 [I x0.epoch,U x0.root,U x0.prev,I x0.at_] x0 (⟨rfl,w9,w10,w11,w12⟩) [I h.epoch,U h.root,U h.prev,I h.at_] h (⟨rfl,w1,w2,w3,w4⟩) b1 hz1)) (Je (Jc (Jl (l.any (fun x0=>Ym x0 h)) (fun h5=>?_) (fun h5=>?_)))))))))))
 refine Jg [0] [(4,I 3)] (Jn (Jj (Jo [0] [I 3] (Jx hl1 (congrArg I (?_:(K2 h l)=3).symm)))))
 · (rw [Jbq ‹_› hx1 ‹_› (by exact .inr ‹_›)];(rw [if_pos ‹_›];done))
 refine Jq (Jc (Jf (Jf ?_)))
 have e3:Ha.wrap ((l.length:Int)-1)=((l.length-1:Nat):Int):=(Hh _ (by (have q_:=(Qa.1 ‹_›);have q1_:=q_.len1;have q2_:=q_.len;omega))).trans (show (l.length:Int)-1=((l.length-1:Nat):Int) by (have q_:=(Qa.1 ‹_›);have q1_:=q_.len1;have q2_:=q_.len;omega))
 obtain ⟨x2,hx2⟩:=QS (l:=l) (k:=l.length-1) (by (have q_:=(Qa.1 ‹_›);have q1_:=q_.len1;have q2_:=q_.len;omega))
 obtain ⟨_,⟨rfl,_,_,_,_⟩,hc2⟩:=RS.get (h_l.mono hl1) hx2
 refine Kt [] (Wm [(0,Sl (At b2 o1) l.length c_l),(1,Sl (At b2 o1) l.length c_l),(2,I (l.length:Int)),(3,I ((l.length-1:Nat):Int)),(4,Pt b2 (o1+(l.length-1)*4)),(5,Pt b2 (o1+(l.length-1)*4)),(6,I x2.epoch),(7,Pt b1 0),(8,I h.epoch),(9,Bo (decide (x2.epoch≤h.epoch)))] (Kl [] [(0,0),(1,0),(2,0),(5,0),(7,0),(9,0)] [3,4,6,8] [(54,Bo (decide (x2.epoch≤h.epoch)))] (Kf ?_ (Kf ?_ (Kf ?_ (Kf ?_ KY)))) ?_))
 refine Jr 3 48 (I ((l.length-1:Nat):Int)) [(47,I (l.length:Int))] (fun X=>?_)
 exact K5 48 (I (Ha.wrap ((l.length:Int)-1))) (I ((l.length-1:Nat):Int)) (by simp only [e3]) Jp
 refine Jr 4 49 (Pt b2 (o1+(l.length-1)*4)) [(45,Sl (At b2 o1) l.length c_l),(48,I ((l.length-1:Nat):Int))] (fun X=>?_)
 exact JV (b:=b2) (off:=o1) (len:=l.length) (cap:=c_l) (ik:=.i64) 49 43 4 (l.length-1) (by (have q_:=(Qa.1 ‹_›);have q1_:=q_.len1;have q2_:=q_.len;omega)) Jp
 refine Jr 6 51 (I x2.epoch) [(50,Pt b2 (o1+(l.length-1)*4))] (fun X=>?_)
 exact JO 51 2 (cs:=[I x2.epoch,U x2.root,U x2.prev,I x2.at_]) 0 (I x2.epoch) hc2 Jp
 refine Jr 8 53 (I h.epoch) [(52,Pt b1 0)] (fun X=>?_)
 exact JO (o':=0) 53 2 (cs:=[I h.epoch,U h.root,U h.prev,I h.at_]) 0 (I h.epoch) hz1 Jp
 refine Jc (Jl (decide (x2.epoch≤h.epoch)) (fun h6=>?_) (fun h6=>?_))
 refine Jg [0] [(4,I 1)] (Jn (Jj (Jo [0] [I 1] (Jx hl1 (congrArg I (?_:(K2 h l)=1).symm)))))
 · (rw [Jbq ‹_› hx1 ‹_› (by exact .inr ‹_›)];(have el_:=Wz (l:=l) (k:=l.length-1) rfl ‹_›;subst el_;rw [if_neg (by simp_all)];(rw [if_pos ‹_›];done)))
 refine Jq (Jc (Jg [0] [(4,I 0)] (Jn (Jo [0] [I 0] (Jx hl1 (congrArg I (?_:(K2 h l)=0).symm))))))
 · (rw [Jbq ‹_› hx1 ‹_› (by exact .inr ‹_›)];(have el_:=Wz (l:=l) (k:=l.length-1) rfl ‹_›;subst el_;rw [if_neg (by simp_all)];(rw [if_neg (by omega)];done)))
 refine Jq (Jc (Jf (Jf (Jd (Jb [0,0] [(42,Sl (At b2 o1) l.length c_l),(43,Fv 123 #[Pt b1 0])] (QI (b:=b1) (o:=0) (cs:=[I h.epoch,U h.root,U h.prev,I h.at_]) 0 (fun G2 hl2 hz2=>Jm 44 (Bo (l.any (fun x0=>Ym x0 h))) (JfU G2 (At b2 o1) c_l l (h_l.mono hl2) 123 #[Pt b1 0] (fun x0=>Ym x0 h) (fun _ _=>by kernel_rfl) (fun vs0 x0 hx0=>by obtain ⟨rfl,w17,w18,w19,w20⟩:=hx0;exact JdL G2 [I x0.epoch,U x0.root,U x0.prev,I x0.at_] x0 (⟨rfl,w17,w18,w19,w20⟩) [I h.epoch,U h.root,U h.prev,I h.at_] h (⟨rfl,w1,w2,w3,w4⟩) b1 hz2)) (Je (Jc (Jl (l.any (fun x0=>Ym x0 h)) (fun h7=>?_) (fun h7=>?_)))))))))))
 refine Jg [0] [(4,I 3)] (Jn (Jj (Jo [0] [I 3] (Jx hl2 (congrArg I (?_:(K2 h l)=3).symm)))))
 · (rw [Jbq ‹_› hx1 ‹_› (by exact .inl ‹_›)];(rw [if_pos ‹_›];done))
 refine Jq (Jc (Jf (Jf ?_)))
 have e4:Ha.wrap ((l.length:Int)-1)=((l.length-1:Nat):Int):=(Hh _ (by (have q_:=(Qa.1 ‹_›);have q1_:=q_.len1;have q2_:=q_.len;omega))).trans (show (l.length:Int)-1=((l.length-1:Nat):Int) by (have q_:=(Qa.1 ‹_›);have q1_:=q_.len1;have q2_:=q_.len;omega))
 obtain ⟨x3,hx3⟩:=QS (l:=l) (k:=l.length-1) (by (have q_:=(Qa.1 ‹_›);have q1_:=q_.len1;have q2_:=q_.len;omega))
 obtain ⟨_,⟨rfl,_,_,_,_⟩,hc3⟩:=RS.get (h_l.mono hl2) hx3
 refine Kt [] (Wm [(0,Sl (At b2 o1) l.length c_l),(1,Sl (At b2 o1) l.length c_l),(2,I (l.length:Int)),(3,I ((l.length-1:Nat):Int)),(4,Pt b2 (o1+(l.length-1)*4)),(5,Pt b2 (o1+(l.length-1)*4)),(6,I x3.epoch),(7,Pt b1 0),(8,I h.epoch),(9,Bo (decide (x3.epoch≤h.epoch)))] (Kl [] [(0,0),(1,0),(2,0),(5,0),(7,0),(9,0)] [3,4,6,8] [(54,Bo (decide (x3.epoch≤h.epoch)))] (Kf ?_ (Kf ?_ (Kf ?_ (Kf ?_ KY)))) ?_))
 refine Jr 3 48 (I ((l.length-1:Nat):Int)) [(47,I (l.length:Int))] (fun X=>?_)
 exact K5 48 (I (Ha.wrap ((l.length:Int)-1))) (I ((l.length-1:Nat):Int)) (by simp only [e4]) Jp
 refine Jr 4 49 (Pt b2 (o1+(l.length-1)*4)) [(45,Sl (At b2 o1) l.length c_l),(48,I ((l.length-1:Nat):Int))] (fun X=>?_)
 exact JV (b:=b2) (off:=o1) (len:=l.length) (cap:=c_l) (ik:=.i64) 49 43 4 (l.length-1) (by (have q_:=(Qa.1 ‹_›);have q1_:=q_.len1;have q2_:=q_.len;omega)) Jp
 refine Jr 6 51 (I x3.epoch) [(50,Pt b2 (o1+(l.length-1)*4))] (fun X=>?_)
 exact JO 51 2 (cs:=[I x3.epoch,U x3.root,U x3.prev,I x3.at_]) 0 (I x3.epoch) hc3 Jp
 refine Jr 8 53 (I h.epoch) [(52,Pt b1 0)] (fun X=>?_)
 exact JO (o':=0) 53 2 (cs:=[I h.epoch,U h.root,U h.prev,I h.at_]) 0 (I h.epoch) hz2 Jp
 refine Jc (Jl (decide (x3.epoch≤h.epoch)) (fun h8=>?_) (fun h8=>?_))
 refine Jg [0] [(4,I 1)] (Jn (Jj (Jo [0] [I 1] (Jx hl2 (congrArg I (?_:(K2 h l)=1).symm)))))
 · (rw [Jbq ‹_› hx1 ‹_› (by exact .inl ‹_›)];(have el_:=Wz (l:=l) (k:=l.length-1) rfl ‹_›;subst el_;rw [if_neg (by simp_all)];(rw [if_pos ‹_›];done)))
 refine Jq (Jc (Jg [0] [(4,I 0)] (Jn (Jo [0] [I 0] (Jx hl2 (congrArg I (?_:(K2 h l)=0).symm))))))
 · (rw [Jbq ‹_› hx1 ‹_› (by exact .inl ‹_›)];(have el_:=Wz (l:=l) (k:=l.length-1) rfl ‹_›;subst el_;rw [if_neg (by simp_all)];(rw [if_neg (by omega)];done)))
theorem Jjs (G:J5) (vs_o:Bv) (o:Qp) (h_o:Q9.R G vs_o o) :YS 39 #[.agg vs_o.toArray] G [] (fun u G' L'=>∃ (a1:Ba) (c2:Nat),u=.agg #[Sr o.name,U o.key,I o.head.epoch,U o.head.root,U o.head.prev,I o.head.at_,Sl a1 o.wanted.length c2,I o.had]∧((o.name).length≤140737488351232)∧(rU o.key)∧(rI o.head.epoch)∧(rU o.head.root)∧(rU o.head.prev)∧(rI o.head.at_)∧(RS ES G' a1 c2 o.wanted)∧(rI o.had)∧L'=[]):=by
 obtain ⟨a1,c1,rfl,w1,w2,w3,w4,w5,w6,hs1,w7⟩:=h_o
 refine JP Tryz.func39 8 [(0,(KF o a1 c1))] rfl (fun w0 G0=>?_)
 refine Jf (Jd (Jv 1 #[Sr o.name,U o.key,I o.head.epoch,U o.head.root,U o.head.prev,I o.head.at_,Sl a1 o.wanted.length c1,I o.had] 76 (fun b1=>Jv 2 #[Sr ([]),U 0,I 0,U 0,U 0,I 0,Sl none 0 0,I 0] 76 (fun b2=>Je (Jc (Jf (Jd (Jb [0,4] [(4,Sl a1 o.wanted.length c1)] (JN 5 (Jbo G a1 c1 o.wanted hs1) (fun v G1 L1 hl1 hp=>?_))))))))))
 obtain ⟨a2,c2,r1,rfl,hr1,rfl⟩:=hp
 refine JW [0,7] [] [r1,[Sg b2 0 [Sr ([]),U 0,I 0,U 0,U 0,I 0,Sl none 0 0,I 0]],[Sg b1 0 (KU o a2 c2)]] (Je (Jc (QF [6,5] [] [r1,[Sg b2 0 (KU o a2 c2)],[Sg b1 0 (KU o a2 c2)]] (Jn (Wy (E:=ES) 0 hr1 (by exact (hs1).fit) (fun G2 hl2 hs2=>?_))))))
 have hf1:o=o:=by
  rfl
 refine Jo [1] [(KF o a2 c2)] (JD [] (Ja hl1 hl2) ?_)
 rw [hf1]
 try dsimp only
 exact ⟨a2,c2,rfl,w1,w2,w3,w4,w5,w6,hs2,w7,rfl⟩
set_option maxRecDepth 20000 in
theorem Jep (G:J5) (vs_o:Bv) (o:Qp) (h_o:Q9.R G vs_o o) (a_l:Ba) (c_l:Nat) (l:List JX) (h_l:RS KO G a_l c_l l) (vs_r:Bv) (r:Q5) (h_r:Jki.R G vs_r r) (ho:Kg o=0):QZ 40 #[.agg vs_o.toArray,Sl a_l l.length c_l,.agg vs_r.toArray] G (.tuple #[I ((JZ o l r).1),I ((JZ o l r).2)]):=by
 obtain ⟨a1,c1,rfl,_,_,w3,w4,w5,w6,hs1,_⟩:=h_o
 obtain ⟨a2,c2,a3,c3,rfl,w8,w9,w10,w11,w12,hs2,hs3⟩:=h_r
 refine JP Tryz.func40 76 [(0,(KF o a1 c1)),(1,Sl a_l l.length c_l),(2,(WV r a2 c2 a3 c3))] rfl (fun w0 G0=>?_)
 refine Jf (Jd (Jv 3 #[Sr o.name,U o.key,I o.head.epoch,U o.head.root,U o.head.prev,I o.head.at_,Sl a1 o.wanted.length c1,I o.had] 76 (fun b1=>Jv 5 #[I r.head.epoch,U r.head.root,U r.head.prev,I r.head.at_,Sr r.proof.name,Sl a2 r.proof.entries.length c2,Sl a3 r.proof.sides.length c3] 49 (fun b2=>Jb [0,0] [] (Je (Jc (Jf (Jf (Jd (Jb [0,4,0] [(15,.agg #[I o.head.epoch,U o.head.root,U o.head.prev,I o.head.at_]),(16,Sl a_l l.length c_l)] (Jm 17 (I (K2 o.head l)) (Jf8 G [I o.head.epoch,U o.head.root,U o.head.prev,I o.head.at_] o.head (⟨rfl,w3,w4,w5,w6⟩) a_l c_l l h_l (Qb.1 ho).2.1) (Jb [0] [(8,I (K2 o.head l))] (Je (Jc (Jg [0,0] [(19,Bo (!decide (K2 o.head l=0)))] (Jl (!decide (K2 o.head l=0)) (fun h1=>?_) (fun h1=>?_)))))))))))))))))
 refine Jg [0,0,0] [(6,I (K2 o.head l)),(7,I 0)] (Jn (Jj (Jo [0,0] [I (K2 o.head l),I 0] (Jx (Jh _) ?_))))
 have hf_:(JZ o l r)=((K2 o.head l),0):=by
  (unfold JZ;rw [if_pos ‹_›];done)
 · (try rw [hf_]);(simp only [QC];done)
 refine Jq (Jc (Jf (Jd (Jb [2] [(22,(WV r a2 c2 a3 c3))] (JN 23 (JcL G (ZR r a2 c2 a3 c3) r (⟨a2,c2,a3,c3,rfl,w8,w9,w10,w11,w12,hs2,hs3⟩)) (fun v G1 L1 hl1 hp=>?_))))))
 obtain ⟨rfl,_,rfl⟩:=hp
 refine Jb [0,0,0,0,0,0,0] [(9,Sr ((JG r).1)),(10,Bo ((JG r).2.1)),(11,I ((JG r).2.2))] (Je (Jc (Jf (Jy (Jf ?_)))))
 rcases Hs (!decide ((JG r).2.2=0)) with h2 | h2
 have h2d:=h2
 try simp only [BB] at h2d
 refine Kt [] (Wm [(0,I ((JG r).2.2)),(1,Bo true),(2,Bo true),(3,undef),(4,undef),(5,undef),(6,undef),(7,undef),(8,undef),(9,undef),(10,undef),(11,undef),(12,Bo true),(13,Bo true),(14,undef),(15,undef),(16,undef),(17,undef),(18,undef),(19,undef),(20,Bo true),(21,Bo true)] (Kl [] [(0,0),(2,0),(3,1),(4,1),(5,1),(6,1),(7,1),(8,1),(9,1),(10,1),(11,1),(12,0),(13,0),(14,1),(15,1),(16,1),(17,1),(18,1),(19,1),(20,0),(21,0)] [1] [(3,Pt b1 0),(9,Sr ((JG r).1)),(10,Bo ((JG r).2.1)),(27,Bo true)] (Kf ?_ KY) ?_))
 refine Jr 1 29 (Bo true) [(28,I ((JG r).2.2))] (fun X=>?_)
 exact K5 29 (Bo (!decide ((JG r).2.2=0))) (Bo true) (by rw [h2]) Jp
 refine Jc (J0 (Jg [0,0] [(6,I 4),(7,I 0)] (Jn (Ju (Jj (Jo [0,0] [I 4,I 0] (Jx hl1 ?_)))))))
 have hf_:(JZ o l r)=(4,0):=by
  exact Jic ‹_› (.inl (.inl ‹_›))
 · (try rw [hf_]);(simp only [QC];done)
 have h2d:=h2
 try simp only [BB] at h2d
 have e1:Ha.wrap ((l.length:Int)-1)=((l.length-1:Nat):Int):=(Hh _ (by (have q_:=(Y0 ‹_›).1;have q1_:=q_.len1;have q2_:=q_.len;omega))).trans (show (l.length:Int)-1=((l.length-1:Nat):Int) by (have q_:=(Y0 ‹_›).1;have q1_:=q_.len1;have q2_:=q_.len;omega))
 obtain ⟨b3,o1,rfl⟩:=RS.addr (h_l.mono hl1) (k:=l.length-1) (by (have q_:=(Y0 ‹_›).1;have q1_:=q_.len1;have q2_:=q_.len;omega))
 obtain ⟨x1,hx1⟩:=QS (l:=l) (k:=l.length-1) (by (have q_:=(Y0 ‹_›).1;have q1_:=q_.len1;have q2_:=q_.len;omega))
 obtain ⟨_,⟨rfl,_,_,_,_⟩,hc1⟩:=RS.get (h_l.mono hl1) hx1
 rcases Hs (!(decide (r.head.epoch=x1.epoch) && decide (r.head.root=x1.root) && decide (r.head.prev=x1.prev) && decide (r.head.at_=x1.at_))) with h3 | h3
 have h3d:=h3
 try simp only [BB] at h3d
 have e2:Ha.wrap ((l.length:Int)-1)=((l.length-1:Nat):Int):=(Hh _ (by (have q_:=(Y0 ‹_›).1;have q1_:=q_.len1;have q2_:=q_.len;omega))).trans (show (l.length:Int)-1=((l.length-1:Nat):Int) by (have q_:=(Y0 ‹_›).1;have q1_:=q_.len1;have q2_:=q_.len;omega))
 refine Kt [] (Wm [(0,I ((JG r).2.2)),(1,Bo false),(2,Bo false),(3,Pt b2 0),(4,.agg #[I r.head.epoch,U r.head.root,U r.head.prev,I r.head.at_]),(5,Sl (At b3 o1) l.length c_l),(6,Sl (At b3 o1) l.length c_l),(7,I (l.length:Int)),(8,I ((l.length-1:Nat):Int)),(9,Pt b3 (o1+(l.length-1)*4)),(10,.agg #[I x1.epoch,U x1.root,U x1.prev,I x1.at_]),(11,Bo (!(decide (r.head.epoch=x1.epoch) && decide (r.head.root=x1.root) && decide (r.head.prev=x1.prev) && decide (r.head.at_=x1.at_)))),(12,Bo true),(13,Bo true),(14,undef),(15,undef),(16,undef),(17,undef),(18,undef),(19,undef),(20,Bo true),(21,Bo true)] (Kl [] [(0,0),(2,0),(3,0),(4,2),(5,0),(6,0),(7,0),(13,0),(14,1),(15,1),(16,1),(17,1),(18,1),(19,1),(20,0),(21,0)] [1,8,9,10,11,12] [(3,Pt b1 0),(9,Sr ((JG r).1)),(10,Bo ((JG r).2.1)),(27,Bo true)] (Kf ?_ (Kf ?_ (Kf ?_ (Kf ?_ (Kf ?_ (Kf ?_ KY)))))) ?_))
 refine Jr 1 29 (Bo false) [(28,I ((JG r).2.2))] (fun X=>?_)
 exact K5 29 (Bo (!decide ((JG r).2.2=0))) (Bo false) (by rw [h2]) Jp
 refine Jr 8 36 (I ((l.length-1:Nat):Int)) [(30,Bo false),(35,I (l.length:Int))] (fun X=>?_)
 exact K5 36 (I (Ha.wrap ((l.length:Int)-1))) (I ((l.length-1:Nat):Int)) (by simp only [e2]) Jp
 refine Jr 9 37 (Pt b3 (o1+(l.length-1)*4)) [(30,Bo false),(33,Sl (At b3 o1) l.length c_l),(36,I ((l.length-1:Nat):Int))] (fun X=>?_)
 exact JV (b:=b3) (off:=o1) (len:=l.length) (cap:=c_l) (ik:=.i64) 37 43 4 (l.length-1) (by (have q_:=(Y0 ‹_›).1;have q1_:=q_.len1;have q2_:=q_.len;omega)) Jp
 refine Jr 10 38 (.agg #[I x1.epoch,U x1.root,U x1.prev,I x1.at_]) [(30,Bo false),(37,Pt b3 (o1+(l.length-1)*4))] (fun X=>?_)
 exact JO 38 43 (cs:=[I x1.epoch,U x1.root,U x1.prev,I x1.at_]) 0 (.agg #[I x1.epoch,U x1.root,U x1.prev,I x1.at_]) hc1 Jp
 refine Jr 11 39 (Bo (!(decide (r.head.epoch=x1.epoch) && decide (r.head.root=x1.root) && decide (r.head.prev=x1.prev) && decide (r.head.at_=x1.at_)))) [(30,Bo false),(32,.agg #[I r.head.epoch,U r.head.root,U r.head.prev,I r.head.at_]),(38,.agg #[I x1.epoch,U x1.root,U x1.prev,I x1.at_])] (fun X=>?_)
 exact Jdl 39 (Bo (!(decide (r.head.epoch=x1.epoch) && (decide (r.head.root=x1.root) && (decide (r.head.prev=x1.prev) && (decide (r.head.at_=x1.at_) && true)))))) (Bo (!(decide (r.head.epoch=x1.epoch) && decide (r.head.root=x1.root) && decide (r.head.prev=x1.prev) && decide (r.head.at_=x1.at_)))) (by simp [Qx,HO]) Jp
 refine Jr 12 40 (Bo true) [(30,Bo false),(39,Bo (!(decide (r.head.epoch=x1.epoch) && decide (r.head.root=x1.root) && decide (r.head.prev=x1.prev) && decide (r.head.at_=x1.at_))))] (fun X=>?_)
 exact K5 40 (Bo (!(decide (r.head.epoch=x1.epoch) && decide (r.head.root=x1.root) && decide (r.head.prev=x1.prev) && decide (r.head.at_=x1.at_)))) (Bo true) (by rw [h3]) Jp
 refine Jc (J0 (Jg [0,0] [(6,I 4),(7,I 0)] (Jn (Ju (Jj (Jo [0,0] [I 4,I 0] (Jx hl1 ?_)))))))
 have hf_:(JZ o l r)=(4,0):=by
  exact Jic ‹_› (.inl (.inr ⟨_,hx1,by assumption⟩))
 · (try rw [hf_]);(simp only [QC];done)
 have h3d:=h3
 try simp only [BB] at h3d
 have e3:Ha.wrap ((l.length:Int)-1)=((l.length-1:Nat):Int):=(Hh _ (by (have q_:=(Y0 ‹_›).1;have q1_:=q_.len1;have q2_:=q_.len;omega))).trans (show (l.length:Int)-1=((l.length-1:Nat):Int) by (have q_:=(Y0 ‹_›).1;have q1_:=q_.len1;have q2_:=q_.len;omega))
 refine Kt [] (Wm [(0,I ((JG r).2.2)),(1,Bo false),(2,Bo false),(3,Pt b2 0),(4,.agg #[I r.head.epoch,U r.head.root,U r.head.prev,I r.head.at_]),(5,Sl (At b3 o1) l.length c_l),(6,Sl (At b3 o1) l.length c_l),(7,I (l.length:Int)),(8,I ((l.length-1:Nat):Int)),(9,Pt b3 (o1+(l.length-1)*4)),(10,.agg #[I x1.epoch,U x1.root,U x1.prev,I x1.at_]),(11,Bo (!(decide (r.head.epoch=x1.epoch) && decide (r.head.root=x1.root) && decide (r.head.prev=x1.prev) && decide (r.head.at_=x1.at_)))),(12,Bo false),(13,Bo false),(14,Pt b2 4),(15,Pt b2 4),(16,Sr r.proof.name),(17,Pt b1 0),(18,Sr o.name),(19,Bo (!((B r.proof.name).toList == (B o.name).toList))),(20,Bo (!((B r.proof.name).toList == (B o.name).toList))),(21,Bo (!((B r.proof.name).toList == (B o.name).toList)))] (Kl [] [(0,0),(2,0),(3,0),(4,2),(5,0),(6,0),(7,0),(13,0),(14,0),(15,0),(16,2),(17,0),(18,4),(19,0),(20,0),(21,0)] [1,8,9,10,11,12] [(3,Pt b1 0),(9,Sr ((JG r).1)),(10,Bo ((JG r).2.1)),(27,Bo (!((B r.proof.name).toList == (B o.name).toList)))] (Kf ?_ (Kf ?_ (Kf ?_ (Kf ?_ (Kf ?_ (Kf ?_ KY)))))) ?_))
 refine Jr 1 29 (Bo false) [(28,I ((JG r).2.2))] (fun X=>?_)
 exact K5 29 (Bo (!decide ((JG r).2.2=0))) (Bo false) (by rw [h2]) Jp
 refine Jr 8 36 (I ((l.length-1:Nat):Int)) [(30,Bo false),(35,I (l.length:Int))] (fun X=>?_)
 exact K5 36 (I (Ha.wrap ((l.length:Int)-1))) (I ((l.length-1:Nat):Int)) (by simp only [e3]) Jp
 refine Jr 9 37 (Pt b3 (o1+(l.length-1)*4)) [(30,Bo false),(33,Sl (At b3 o1) l.length c_l),(36,I ((l.length-1:Nat):Int))] (fun X=>?_)
 exact JV (b:=b3) (off:=o1) (len:=l.length) (cap:=c_l) (ik:=.i64) 37 43 4 (l.length-1) (by (have q_:=(Y0 ‹_›).1;have q1_:=q_.len1;have q2_:=q_.len;omega)) Jp
 refine Jr 10 38 (.agg #[I x1.epoch,U x1.root,U x1.prev,I x1.at_]) [(30,Bo false),(37,Pt b3 (o1+(l.length-1)*4))] (fun X=>?_)
 exact JO 38 43 (cs:=[I x1.epoch,U x1.root,U x1.prev,I x1.at_]) 0 (.agg #[I x1.epoch,U x1.root,U x1.prev,I x1.at_]) hc1 Jp
 refine Jr 11 39 (Bo (!(decide (r.head.epoch=x1.epoch) && decide (r.head.root=x1.root) && decide (r.head.prev=x1.prev) && decide (r.head.at_=x1.at_)))) [(30,Bo false),(32,.agg #[I r.head.epoch,U r.head.root,U r.head.prev,I r.head.at_]),(38,.agg #[I x1.epoch,U x1.root,U x1.prev,I x1.at_])] (fun X=>?_)
 exact Jdl 39 (Bo (!(decide (r.head.epoch=x1.epoch) && (decide (r.head.root=x1.root) && (decide (r.head.prev=x1.prev) && (decide (r.head.at_=x1.at_) && true)))))) (Bo (!(decide (r.head.epoch=x1.epoch) && decide (r.head.root=x1.root) && decide (r.head.prev=x1.prev) && decide (r.head.at_=x1.at_)))) (by simp [Qx,HO]) Jp
 refine Jr 12 40 (Bo false) [(30,Bo false),(39,Bo (!(decide (r.head.epoch=x1.epoch) && decide (r.head.root=x1.root) && decide (r.head.prev=x1.prev) && decide (r.head.at_=x1.at_))))] (fun X=>?_)
 exact K5 40 (Bo (!(decide (r.head.epoch=x1.epoch) && decide (r.head.root=x1.root) && decide (r.head.prev=x1.prev) && decide (r.head.at_=x1.at_)))) (Bo false) (by rw [h3]) Jp
 refine Jd2 27 (Bo (!(r.proof.name == o.name))) (show (Bo (!((B r.proof.name).toList == (B o.name).toList)):Value)=Bo (!(r.proof.name == o.name)) by simp only [Qx]) (Jc (Jl (!(r.proof.name == o.name)) (fun h4=>?_) (fun h4=>?_)))
 refine Jg [0,0] [(6,I 4),(7,I 0)] (Jn (Ju (Jj (Jo [0,0] [I 4,I 0] (Jx hl1 ?_)))))
 have hf_:(JZ o l r)=(4,0):=by
  exact Jic ‹_› (.inr ‹_›)
 · (try rw [hf_]);(simp only [QC];done)
 refine Jf (Jd (Jb [0,0,0] [(52,Bo (!((JG r).2.1)))] (Ks (!((JG r).2.1)) [52] [0,4,0,0] [1,1,1,0] (fun bb=>[(56,Bo (bb && (decide (o.had > 0))))]) (Jb [0] [(49,Bo ((!((JG r).2.1)) && (decide (o.had > 0))))] (Je (Jc (Jl ((!((JG r).2.1)) && (decide (o.had > 0))) (fun h5=>?_) (fun h5=>?_))))))))
 refine Jg [0,0] [(6,I 5),(7,I 0)] (Jn (Ju (Jj (Jo [0,0] [I 5,I 0] (Jx hl1 ?_)))))
 have hf_:(JZ o l r)=(5,0):=by
  (rw [Jfu ‹_› ‹_› hx1 ‹_› ‹_›];(rw [if_pos ‹_›];done))
 · (try rw [hf_]);(simp only [QC];done)
 refine Jg [0,0,0] [(57,Bo (!((JG r).2.1)))] (Jl (!((JG r).2.1)) (fun h6=>?_) (fun h6=>?_))
 refine Jg [0,0] [(6,I 0),(7,I 0)] (Jn (Ju (Jj (Jo [0,0] [I 0,I 0] (Jx hl1 ?_)))))
 have hf_:(JZ o l r)=(0,0):=by
  (rw [Jfu ‹_› ‹_› hx1 ‹_› ‹_›];(rw [if_neg (by simp_all)];(rw [if_pos ‹_›];done)))
 · (try rw [hf_]);(simp only [QC];done)
 refine Jq (JM (Jc (Jg [0,4,0,0,0] [(12,I (if 0 > (Ha.wrap (o.had-1)) then 0 else (Ha.wrap (o.had-1))))] ?_)))
 have e4:Ha.wrap (o.had-1)=o.had-1:=Hh _ (by (have q_:=Qb.1 ho;omega))
 refine QU 12 (I (if 0 > (o.had-1) then 0 else (o.had-1))) (show (I (if 0 > (Ha.wrap (o.had-1)) then 0 else (Ha.wrap (o.had-1))):Value)=I (if 0 > (o.had-1) then 0 else (o.had-1)) by simp only [e4]) ?_
 clear e4
 refine Jf (Jd (Jb [0,4,0] [(65,Sl a1 o.wanted.length c1),(66,I (if 0 > (o.had-1) then 0 else (o.had-1)))] ?_))
 obtain ⟨kn1,hkn1⟩:∃ k_:Nat,(if 0 > (o.had-1) then 0 else (o.had-1))=(k_:Int):=⟨(if 0 > (o.had-1) then 0 else (o.had-1)).toNat,by omega⟩
 have e5:(if 0 > (o.had-1) then 0 else (o.had-1))=(kn1:Int):=hkn1
 refine Kv 12 (I (kn1:Int)) (congrArg I e5) (Kv 66 (I (kn1:Int)) (congrArg I e5) ?_)
 obtain ⟨a4,c4,ea1,ec1,en1,eh1,hs4⟩:=RS.reslXD (hs1.mono hl1) kn1 (by (have q_:=Qb.1 ho;omega))
 refine Ws (a:=a1) (len:=o.wanted.length) (cap:=c1) 67 1 (some (I (kn1:Int))) none kn1 o.wanted.length (.inr ⟨_,rfl⟩) (.inl ⟨rfl,rfl⟩) (by (have q_:=Qb.1 ho;omega)) ea1 ec1 en1 eh1 (Jb [0] [(68,Sr ((JG r).1))] (Jm 69 (I (QJ (fun x=>decide ((JG r).1=x)) (o.wanted.drop kn1))) (Jlx G1 a4 c4 (o.wanted.drop kn1) hs4 ((JG r).1)) (Jb [0] [(13,I (QJ (fun x=>decide ((JG r).1=x)) (o.wanted.drop kn1)))] (Je (Jc (Jf (Jg [0,0] [(71,Bo (decide (QJ (fun x=>decide ((JG r).1=x)) (o.wanted.drop kn1)<0)))] (Jl (decide (QJ (fun x=>decide ((JG r).1=x)) (o.wanted.drop kn1)<0)) (fun h7=>?_) (fun h7=>?_)))))))))
 refine Jg [0,0] [(6,I 6),(7,I 0)] (Jn (Jj (Jo [0,0] [I 6,I 0] (Jx hl1 ?_))))
 have hf_:(JZ o l r)=(6,0):=by
  (rw [Jfu ‹_› ‹_› hx1 ‹_› ‹_›];(rw [if_neg (by simp_all)];(rw [if_neg (by simp_all)];obtain ⟨q1_,q2_⟩:=Jjq (JG r).1 hkn1;rw [q1_,q2_];(rw [if_pos ‹_›];done))))
 · (try rw [hf_]);(simp only [QC];done)
 refine Jq (Jc (Jg [0,0,0,0,0,0] [(6,I 0),(7,I (Ha.wrap ((Ha.wrap ((kn1:Int)+(QJ (fun x=>decide ((JG r).1=x)) (o.wanted.drop kn1))))+1)))] ?_))
 have e6:Ha.wrap ((kn1:Int)+(QJ (fun x=>decide ((JG r).1=x)) (o.wanted.drop kn1)))=(kn1:Int)+(QJ (fun x=>decide ((JG r).1=x)) (o.wanted.drop kn1)):=Hh _ (by (have q_:=Qb.1 ho;have q1_:=JlI (fun x=>decide ((JG r).1=x)) (o.wanted.drop kn1);rw [Hy] at q1_;omega))
 have e7:Ha.wrap (((kn1:Int)+(QJ (fun x=>decide ((JG r).1=x)) (o.wanted.drop kn1)))+1)=((kn1:Int)+(QJ (fun x=>decide ((JG r).1=x)) (o.wanted.drop kn1)))+1:=Hh _ (by (have q_:=Qb.1 ho;have q1_:=JlI (fun x=>decide ((JG r).1=x)) (o.wanted.drop kn1);rw [Hy] at q1_;omega))
 refine QU 7 (I (((kn1:Int)+(QJ (fun x=>decide ((JG r).1=x)) (o.wanted.drop kn1)))+1)) (show (I (Ha.wrap ((Ha.wrap ((kn1:Int)+(QJ (fun x=>decide ((JG r).1=x)) (o.wanted.drop kn1))))+1)):Value)=I (((kn1:Int)+(QJ (fun x=>decide ((JG r).1=x)) (o.wanted.drop kn1)))+1) by simp only [e6,e7]) ?_
 clear e7 e6
 refine Jn (Jo [0,0] [I 0,I (((kn1:Int)+(QJ (fun x=>decide ((JG r).1=x)) (o.wanted.drop kn1)))+1)] (Jx hl1 ?_))
 have hf_:(JZ o l r)=(0,(((kn1:Int)+(QJ (fun x=>decide ((JG r).1=x)) (o.wanted.drop kn1)))+1)):=by
  (rw [Jfu ‹_› ‹_› hx1 ‹_› ‹_›];(rw [if_neg (by simp_all)];(rw [if_neg (by simp_all)];obtain ⟨q1_,q2_⟩:=Jjq (JG r).1 hkn1;rw [q1_,q2_];(rw [if_neg (by omega)];done))))
 · (try rw [hf_]);(simp only [QC];done)
theorem JdM (G:J5) (vs_o:Bv) (o:Qp) (h_o:Q9.R G vs_o o) (a_l:Ba) (c_l:Nat) (l:List JX) (h_l:RS KO G a_l c_l l) (vs_r:Bv) (r:Q5) (h_r:Jki.R G vs_r r) :YS 23 #[.agg vs_o.toArray,Sl a_l l.length c_l,.agg vs_r.toArray] G [] (fun u G' L'=>∃ (a1:Ba) (c2:Nat),u=.tuple #[.agg #[Sr (((JC o l r).1).name),U (((JC o l r).1).key),I (((JC o l r).1).head.epoch),U (((JC o l r).1).head.root),U (((JC o l r).1).head.prev),I (((JC o l r).1).head.at_),Sl a1 ((((JC o l r).1).wanted).length) c2,I (((JC o l r).1).had)],I ((JC o l r).2.1),I ((JC o l r).2.2)]∧((((JC o l r).1).name).length≤140737488351232)∧(rU (((JC o l r).1).key))∧(rI (((JC o l r).1).head.epoch))∧(rU (((JC o l r).1).head.root))∧(rU (((JC o l r).1).head.prev))∧(rI (((JC o l r).1).head.at_))∧(RS ES G' a1 c2 (((JC o l r).1).wanted))∧(rI (((JC o l r).1).had))∧L'=[]):=by
 obtain ⟨a1,c1,rfl,w1,w2,w3,w4,w5,w6,hs1,w7⟩:=h_o
 obtain ⟨a2,c2,a3,c3,rfl,w8,w9,w10,w11,w12,hs2,hs3⟩:=h_r
 refine JP Tryz.func23 36 [(0,(KF o a1 c1)),(1,Sl a_l l.length c_l),(2,(WV r a2 c2 a3 c3))] rfl (fun w0 G0=>?_)
 refine Jf (Jd (Jv 3 #[Sr o.name,U o.key,I o.head.epoch,U o.head.root,U o.head.prev,I o.head.at_,Sl a1 o.wanted.length c1,I o.had] 76 (fun b1=>Jv 5 #[I r.head.epoch,U r.head.root,U r.head.prev,I r.head.at_,Sr r.proof.name,Sl a2 r.proof.entries.length c2,Sl a3 r.proof.sides.length c3] 49 (fun b2=>Jv 6 #[Sr ([]),U 0,I 0,U 0,U 0,I 0,Sl none 0 0,I 0] 76 (fun b3=>Jb [0,0] [] (Je (Jc (Jf (Jf (Jd (Jb [6] [(12,(KF o a1 c1))] (Jm 13 (I (Kg o)) (JaO G (KU o a1 c1) o (⟨a1,c1,rfl,w1,w2,w3,w4,w5,w6,hs1,w7⟩)) (Jb [0] [(9,I (Kg o))] (Je (Jc (Jg [0,0] [(15,Bo (!decide (Kg o=0)))] (Jl (!decide (Kg o=0)) (fun h1=>?_) (fun h1=>?_))))))))))))))))))
 refine Jg [0,0,3,0,0] [(7,I 0),(8,I (Kg o))] (Jn (Jj ?_))
 have hf1:JC o l r=((⟨[],0,(⟨0,0,0,0⟩:JX),[],0⟩:Qp),0,Kg o):=by
  unfold JC VX ZE;simp_all
 refine Jo [0,0,0] [.agg #[Sr ([]),U 0,I 0,U 0,U 0,I 0,Sl none 0 0,I 0],I 0,I (Kg o)] (JD [] (Jh _) ?_)
 rw [hf1]
 try dsimp only
 exact ⟨none,0,rfl,(Hb rfl),J4,J4,J4,J4,J4,(J2 ES G),J4,rfl⟩
 refine Jq (Jc (Jf (Jd (Jb [6] [(18,(KF o a1 c1))] (JN 19 (Jjs G (KU o a1 c1) o (⟨a1,c1,rfl,w1,w2,w3,w4,w5,w6,hs1,w7⟩)) (fun v G1 L1 hl1 hp=>?_))))))
 obtain ⟨a4,c4,rfl,w13,w14,w15,w16,w17,w18,hs4,w19,rfl⟩:=hp
 refine JW [7] [] [[Sg b3 0 [Sr ([]),U 0,I 0,U 0,U 0,I 0,Sl none 0 0,I 0]],[Sg b2 0 (ZR r a2 c2 a3 c3)],[Sg b1 0 (KU o a4 c4)]] (Je (Jc (Jf (Jd (Jb [6,0,4] [(21,(KF o a4 c4)),(22,Sl a_l l.length c_l),(23,(WV r a2 c2 a3 c3))] (Jm 24 (.tuple #[I ((JZ o l r).1),I ((JZ o l r).2)]) (Jep G1 (KU o a4 c4) o (⟨a4,c4,rfl,w13,w14,w15,w16,w17,w18,hs4,w19⟩) a_l c_l l (h_l.mono hl1) (ZR r a2 c2 a3 c3) r (⟨a2,c2,a3,c3,rfl,w8,w9,w10,w11,w12,(hs2.mono hl1),(hs3.mono hl1)⟩) ‹_›) (Jb [0,0,0,0,0] [(10,I ((JZ o l r).1)),(11,I ((JZ o l r).2))] (Je (Jc (Jf (Jg [0,0] [(28,Bo (decide ((JZ o l r).1=0)))] (Jl (decide ((JZ o l r).1=0)) (fun h2=>?_) (fun h2=>?_)))))))))))))
 refine Jd (JW [0,4,0,0,7,0,7] [] [[Sg b3 0 [Sr ([]),U 0,I 0,U 0,U 0,I 0,Sl none 0 0,I 0]],[Sg b2 0 (ZR r a2 c2 a3 c3)],[Sg b1 0 [Sr o.name,U o.key,I r.head.epoch,U r.head.root,U r.head.prev,I r.head.at_,Sl a4 o.wanted.length c4,I ((JZ o l r).2)]]] (Je (Jc (QF [6,0,3,0,0] [(7,I ((JZ o l r).1)),(8,I 0)] [[Sg b3 0 [Sr o.name,U o.key,I r.head.epoch,U r.head.root,U r.head.prev,I r.head.at_,Sl a4 o.wanted.length c4,I ((JZ o l r).2)]],[Sg b2 0 (ZR r a2 c2 a3 c3)],[Sg b1 0 [Sr o.name,U o.key,I r.head.epoch,U r.head.root,U r.head.prev,I r.head.at_,Sl a4 o.wanted.length c4,I ((JZ o l r).2)]]] (Jn ?_)))))
 have hf2:JC o l r=((⟨o.name,o.key,r.head,o.wanted,(JZ o l r).2⟩:Qp),(JZ o l r).1,0):=by
  unfold JC VX ZE;simp_all
 refine Jo [0,0,0] [.agg #[Sr o.name,U o.key,I r.head.epoch,U r.head.root,U r.head.prev,I r.head.at_,Sl a4 o.wanted.length c4,I ((JZ o l r).2)],I ((JZ o l r).1),I 0] (JD [] hl1 ?_)
 rw [hf2]
 try dsimp only
 exact ⟨a4,c4,rfl,w13,w14,w8,w9,w10,w11,hs4,(by (have q_:=JdK ‹_› ‹_›;have q1_:=Qb.1 ‹_›;omega)),rfl⟩
 refine Jq (Jc (QF [6,0,3,0,0] [(7,I ((JZ o l r).1)),(8,I 0)] [[Sg b3 0 (KU o a4 c4)],[Sg b2 0 (ZR r a2 c2 a3 c3)],[Sg b1 0 (KU o a4 c4)]] (Jn ?_)))
 have hf3:JC o l r=(o,(JZ o l r).1,0):=by
  unfold JC VX ZE;simp_all
 refine Jo [0,0,0] [(KF o a4 c4),I ((JZ o l r).1),I 0] (JD [] hl1 ?_)
 rw [hf3]
 try dsimp only
 exact ⟨a4,c4,rfl,w13,w14,w15,w16,w17,w18,hs4,w19,rfl⟩
theorem JoB {n v:Bb} (h:KJ n v=0):n.length≤12∧v.length≤20∧KS n=true:=by
 unfold KJ at h
 split at h
 · cases h
 rename_i h1
 split at h
 · cases h
 have h2:KS n=true:=by simpa using h1
 have:=(JhX.1 h2).2.1
 exact ⟨this,by omega,h2⟩
theorem JeT (l:List Kc) (q:Bb):0≤WC l q∧WC l q<2305843009213693951:=by
 unfold WC
 generalize 16-q.length=n
 cases n with
 | zero=>exact QT _
 | succ n =>
  rw [atG]
  split
  · exact QT _
  split
  · exact QT _
  · exact QT _
end Go.Proofs.YteaampgpgokjmaaGreatDoor
namespace Go.Tx
open Go.RowKit Go.Proofs Go.Shelf
open _root_.List renaming getElem?_eq_some_iff → Ha, getElem?_eq_getElem → Hb, mem_singleton → Hc, eq_nil_of_length_eq_zero → Hd, replicate → He, getElem_mem → Hg, mem_flatten → Hh, length_replicate → Hi, getElem?_append_right → Hj, getElem?_append_left → Hk, all_eq_true → Hl, getElem?_replicate → Hm, drop_eq_nil_of_le → Hn
open _root_.Array renaming getElem?_eq_some_iff → Hf
open _root_.Nat renaming le_of_ble_eq_true → Ho, zero_add → Hp
open _root_.Option renaming some → Hq
def Jeq (P:Program) (k e:TypeId) (o:Obj) (n:Nat) (D:DataW Unit):Prop :=
 JdZ o=true∧∀ (w:World) (b:Nat),w.heap[b]? = some o→w.ownsMap P k (plainElem P e) b n D
theorem Jeq.of {P:Program} {k e:TypeId} {w:World} {b n:Nat} {D:DataW Unit} (h:w.ownsMap P k (plainElem P e) b n D):∃ o,w.heap[b]? = some o∧Jeq P k e o n D:=by
 obtain ⟨es,clock,hb,F,hs,hD⟩:=h
 exact ⟨_,hb,rfl,fun w' b' h'=>⟨es,clock,h',F,hs,hD⟩⟩
theorem Jeq.empty (P:Program) (k e:TypeId):Jeq P k e (.map #[] 0) 0 (.map []) :=
 ⟨rfl,fun w b h=>by
  obtain ⟨es,clock,hb,F,hs,hD⟩:=World.ownsMap_made (H:=Unit) default P k (plainElem P e)
  have:es=#[]∧clock=0:=by
   rw [World.alloc_heap_new] at hb;cases hb;exact ⟨rfl,rfl⟩
  obtain ⟨rfl,rfl⟩:=this
  exact ⟨_,_,h,F,hs,hD⟩⟩
def JlJ (a:Bs) (s:Bb):Bs:=if s∈a then a else a++[s]
def dd (l:Bs):Bs:=l.foldl JlJ []
def nn (l:Bs):Nat:=(dd l).length
theorem JlK {α:Type} {P:List α→Prop} (h0:P []) (hs:∀ l x,P l→P (l++[x])) (l:List α):P l:=by
 rw [← List.reverse_reverse l]
 induction l.reverse with
 | nil=>exact h0
 | cons x t ih=>rw [List.reverse_cons];exact hs _ _ ih
theorem JlL (l:Bs) (s:Bb):dd (l++[s])=JlJ (dd l) s:=by simp [dd,List.foldl_append]
theorem Y1 (l:Bs):(∀ s,s∈dd l ↔ s∈l)∧(dd l).Nodup:=by
 induction l using JlK with
 | h0=>simp [dd]
 | hs l x ih =>
  rw [JlL];unfold JlJ
  split
  ·
   rename_i h
   refine ⟨fun s=>?_,ih.2⟩
   rw [ih.1 s];simp only [List.mem_append,Hc]
   exact ⟨.inl,fun h'=>h'.elim id (fun e=>e ▸ (ih.1 x).1 h)⟩
  ·
   rename_i h
   refine ⟨fun s=>by simp [ih.1 s],List.nodup_append.2 ⟨ih.2,by simp,fun a ha b hb=>by simp at hb;subst hb;exact fun e=>h (by rw [← e];exact ha)⟩⟩
theorem Jar:∀ (a b:Bs),a.Nodup→(∀ x∈a,x∈b)→a.length≤b.length
 | [],b,_,_=>Nat.zero_le _
 | x::a,b,h,hm=>by
  have hx:=hm x (by simp)
  have h1:=List.nodup_cons.1 h
  have:=Jar a (b.erase x) h1.2 (fun y hy=>(List.mem_erase_of_ne (fun e=>h1.1 (by subst e;exact hy))).2 (hm y (by simp [hy])))
  rw [List.length_erase_of_mem hx] at this
  have:0<b.length:=List.length_pos_of_mem hx
  simp only [List.length_cons];omega
theorem JdN {a b:Bs} (h:∀ x∈a,x∈b):nn a≤nn b :=
 Jar _ _ (Y1 a).2 (fun x hx=>((Y1 b).1 x).2 (h x (((Y1 a).1 x).1 hx)))
theorem nn_le (a:Bs):nn a≤a.length:=Jar _ _ (Y1 a).2 (fun x hx=>((Y1 a).1 x).1 hx)
theorem JoC {a:Bs} (h:a.Nodup):nn a=a.length :=
 Nat.le_antisymm (nn_le a) (Jar _ _ h (fun x hx=>((Y1 a).1 x).2 hx))
def Dn (l:Bs):DataW Unit:=l.foldl (fun D s=>D.put (.string s) (.lit (.bool true))) (.map [])
theorem Jfv (l:Bs) (s:Bb):Dn (l++[s])=(Dn l).put (.string s) (.lit (.bool true)):=by simp [Dn,List.foldl_append]
theorem JlM (l:Bs):Maps.Tidy (Dn l)∧(∀ s,Maps.has (Dn l) (.string s)=decide (s∈l))∧Maps.size (Dn l)=nn l:=by
 induction l using JlK with
 | h0=>exact ⟨Maps.tidy_empty,fun s=>by simp [Dn,Maps.has],rfl⟩
 | hs l x ih =>
  obtain ⟨h1,h2,h3⟩:=ih
  have hk:WideAt.IsKeyLit (.string x):=by trivial
  rw [Jfv]
  refine ⟨h1.put hk _,fun s=>?_,?_⟩
  ·
   by_cases e:s=x
   · subst e;rw [Maps.has_put_same h1.isMap hk];simp
   · rw [Maps.has_put_other (by simpa using e),h2 s];simp [e]
  ·
   rw [Maps.size_put h1,h2 x,h3]
   unfold nn;rw [JlL];unfold JlJ
   by_cases e:x∈l
   · rw [if_pos (by simpa using e),if_pos (((Y1 l).1 x).2 e)]
   · rw [if_neg (by simpa using e),if_neg (fun h=>e (((Y1 l).1 x).1 h))];simp
theorem JpZ (l:Bs):(strKeys (Dn l)).length=nn l:=by
 obtain ⟨⟨es,he,_⟩,_,h3⟩:=JlM l
 rw [← h3,he];simp [strKeys,Maps.size]
theorem St.grewO {w0 w w':World} {G0 G:J5} {L:Bl} {i b:Nat} {x y:Obj} (h:St w0 G0 w G L) (hi:L[i]? = some [Ob b x]) (hg:w.grownBy w' (some b)) (hyb:w'.heap[b]? = some y) (hy:JdZ y=true) :
  St w0 G0 w' G (L.set i [Ob b y]):=by
 obtain ⟨A,B,rfl,hset⟩:=Vg hi
 rw [hset]
 have hm:(Ob b x)∈(A++[Ob b x]::B).flatten:=by simp
 obtain ⟨hB,_,hob,_⟩:=h.own _ hm
 obtain ⟨p1,p2,_,_⟩:=hob x rfl
 simp only at hB p2
 have hlt:=(Hf.1 p2).1
 have hne:∀ b' o v,w.cell? ⟨b',o,none⟩=some v→b ≠ b':=fun b' o v hv e=>by
  have:=JbY hv (e ▸ p2)
  rw [p1] at this;cases this
 have hget:∀ k,k<w.heap.size→k ≠ b→w'.heap[k]? = w.heap[k]?:=fun k hl hk=>hg.block k hl (fun e=>hk (Hq.inj e))
 refine St.upd h ((Below.refl w0.heap.size w).grown hg h.below.size (fun k e=>by cases e;exact hB)) ?_ ?_ ?_ ?_ ?_ (by simp)
 ·
  intro b' o v hv _
  have hn:=hne b' o v hv
  have hl:=WE hv
  unfold World.cell? World.frozen? at *
  simp only at *
  rw [hget b' hl (fun e=>hn e.symm)]
  exact ⟨hv,rfl⟩
 ·
  intro b' z hz
  obtain ⟨c,hh,_⟩:=YG.1 hz
  have hn:b' ≠ b:=fun e=>by
   subst e
   rw [p2] at hh
   cases x <;> simp [JdZ] at p1 hh
  unfold shp at hz ⊢
  rw [hget b' (Hf.1 hh).1 hn];exact hz
 ·
  intro b' z hz _ hno
  have:b' ≠ b:=fun e=>hno _ (Hc.2 rfl) ⟨e.symm,Nat.le_refl _,by simp [Vf.len]⟩
  rw [hget b' (Hf.1 hz).1 this];exact hz
 ·
  intro s hs
  obtain rfl:s=_:=by simpa using hs
  refine ⟨hB,by simp,fun z hz=>?_,by simp⟩
  cases hz
  exact ⟨hy,hyb,rfl,rfl⟩
 ·
  intro s hs b' o hh
  obtain rfl:s=_:=by simpa using hs
  exact .inl ⟨_,Hc.2 rfl,hh⟩
theorem St.below_ {w0 w w':World} {G0 G:J5} {L:Bl} (h:St w0 G0 w G L) (hb:Below w.heap.size w w'):St w0 G0 w' G L:=by
 have hS':St w G w' G []:=⟨hb,fun b o v hv=>by
  have hc:=h.mem b o v hv
  have hl:=WE hc
  unfold World.cell? at *
  simp only at *
  rw [hb.block b hl];exact hc,Jh _,fun b o v hv=>.inl hv,by simp,by simp⟩
 exact h.call hS'
section
variable {C:Cx} {Q:Bq} {fr:Bf} {G:J5} {L:Bl} {ops:Bp} {rest:List Oper} {o:Oper}
theorem JdO {e:Exit} (i:Nat) {b o:Nat} {cs:Bv} (h:∀ G',J5.le G G'→(∀ j v,cs[j]? = some v→G' b (o+j)=some v)→TQ C Q e fr G' (L.set i []))
  (hi:L[i]? = some [Sg b o cs]:=by rfl):TQ C Q e fr G L :=
 JnC i (by simp) hi (fun G' h1 h2=>h G' h1 (fun j v hv=>h2 _ (Hc.2 rfl) j v hv))
theorem JkL (d:Nat) (k e:TypeId) (h:∀ b ob,Jeq C.P k e ob 0 (.map [])→KA C ops Q rest ((d,.map (some b))::fr) G ([Ob b ob]::L))
  (hb:base C.n ops fr o d=true:=by as_aux_lemma=>kernel_rfl)
  (hc:∀ w,(execOp (W6 fr) o).run C.P w=.ok (.value (.map (some w.heap.size))) (w.alloc (.map #[] 0)):=by intro _;as_aux_lemma=>kernel_rfl):KA C ops Q (o::rest) fr G L :=
 QE d hb (fun w hw=>⟨_,w.alloc (.map #[] 0),G,_,hc w,hw.allocO _ rfl,h w.heap.size _ (Jeq.empty _ _ _)⟩)
def JlN (fr:Bf) (o:Oper):Option (TypeId×Value×Value×Value):=match o.op with
 | .mapUpdate t m x v=>some (t,W6 fr m,W6 fr x,W6 fr v)
 | _=>none
theorem JmY (hb:Jhh C.n ops fr o=true)
  (hx:∀ w,St C.w0 C.G0 w G L→∃ w' G' L',(execOp (W6 fr) o).run C.P w=.ok .skip w'∧St C.w0 C.G0 w' G' L'∧KA C ops Q rest fr G' L') :
  KA C ops Q (o::rest) fr G L:=by
 intro a w ha hw
 unfold Jhh at hb
 simp only [Bool.and_eq_true,Option.isNone_iff_eq_none] at hb
 obtain ⟨⟨⟨hd,hwt⟩,hsel⟩,hcov⟩:=hb
 have hE:execOp a.eval o=execOp (W6 fr) o:=Wq _ _ _ (fun cs b e=>by rw [e] at hsel;simp [Zj] at hsel)
  (fun x hx=>ha.eval x (Hl.1 hcov x (by simpa using hx)))
 have hwant:Qu ops fr o=some true:=by
  cases hx:Qu ops fr o with
  | none=>rw [hx] at hwt;simp [YO] at hwt
  | some b=>rw [hx] at hwt;simp [YO] at hwt;rw [← hwt]
 obtain ⟨w',G',L',hr,hS,hk⟩:=hx w hw
 unfold wpList
 rw [if_pos (Wr ha hwant)]
 refine .inl ?_
 unfold Oper.wp
 rw [hE,hr]
 show wpList C.P ops Q rest (a.put o.dst _) _
 rw [hd]
 exact hk _ _ ha hS
theorem Jer (i:Nat) (t k e:TypeId) {b n:Nat} {ob:Obj} {D:DataW Unit} {s:Bb} (x:Bool) (hm:Jeq C.P k e ob n D) (K:Maps.Keyed C.P k) (ht:C.P.underlying t=some (.map k e)) (hks:C.P.underlying k=some .string) (he:C.P.underlying e=some .bool)
  (hs:s.length≤maxLen) (hn:n<maxLen)
  (h:∀ ob',Jeq C.P k e ob' (n+1) (D.put (.string s) (.lit (.bool x)))→KA C ops Q rest fr G (L.set i [Ob b ob']))
  (hL:L[i]? = some [Ob b ob]:=by rfl)
  (hb:Jhh C.n ops fr o=true:=by as_aux_lemma=>kernel_rfl)
  (hc:JlN fr o=some (t,.map (some b),Sr s,Bo x):=by as_aux_lemma=>kernel_rfl):KA C ops Q (o::rest) fr G L:=by
 refine JmY hb (fun w hw=>?_)
 unfold JlN at hc
 split at hc
 case h_2=>cases hc
 rename_i t' m' x' v' hop
 simp only [Hq.injEq,Prod.mk.injEq] at hc
 obtain ⟨rfl,c1,c2,c3⟩:=hc
 have hmem:(Ob b ob)∈L.flatten:=by
  obtain ⟨hl,he⟩:=Ha.1 hL
  exact Hh.2 ⟨_,Hg hl,by rw [he];simp⟩
 obtain ⟨_,_,hob,_⟩:=hw.own _ hmem
 obtain ⟨p1,p2,_,_⟩:=hob ob rfl
 have hown:=hm.2 w b p2
 have hkey:keyOf C.P k (Sr s)=some (.string s):=by
  have:=WideMaps.keyOf_string_mk (P:=C.P) hks (s:=B s) (by show s.toArray.size≤maxLen;simpa using hs)
  simpa using this
 obtain ⟨w',hrun,hown',hg⟩:=hown.update K ht hn hkey (plainElem_bool (H:=Unit) he x)
 obtain ⟨ob',q1,q2⟩:=Jeq.of hown'
 refine ⟨w',G,_,?_,hw.grewO hL hg q1 q2.1,h ob' q2⟩
 unfold execOp
 simp only [hop,c1,c2,c3,Sem.run_bind,Bo,hrun,Result.andThen_ok,Sem.run_pure]
theorem JmZ (d:Nat) {ρ:Ren} (L7:SlLaysZ.n7 C.P ρ) {b:Nat} (h:∀ bk,KA C ops Q rest ((d,.func (.func (ρ.f 10)) #[] #[Pt bk 0])::fr) G ([Sg bk 0 [.map (some b)]]::L))
  (hw:Qu ops fr o=some true:=by rfl) (hd:o.dst=some d:=by rfl) (hn:Nat.blt d C.n=true:=by rfl) (hsel:Zj o.op=false:=by rfl)
  (hcov:o.op.operands.toList.all (cov fr)=true:=by as_aux_lemma=>kernel_rfl) (hrun:∀ w,(execOp (W6 fr) o).run C.P w=.ok (.enter (ρ.f 7) #[.map (some b)]) w:=by intro _;as_aux_lemma=>kernel_rfl) :
  KA C ops Q (o::rest) fr G L:=by
 intro a w ha hwS
 have hE:execOp a.eval o=execOp (W6 fr) o:=Wq _ _ _ (fun cs b e=>by rw [e] at hsel;simp [Zj] at hsel)
  (fun x hx=>ha.eval x (Hl.1 hcov x (by simpa using hx)))
 unfold wpList
 rw [if_pos (Wr ha hw)]
 refine .inl ?_
 unfold Oper.wp
 rw [hE,hrun]
 refine (callsIn_wide.1 (AnyZ.keys_in L7 Fence.wide 0 trivial rfl (some b) w)).mono ?_
 rintro e w' ⟨rfl,rfl⟩
 show wpList C.P ops Q rest (a.put o.dst _) _
 rw [hd]
 exact h _ _ _ (ha.put d _ (Ho hn)) (hwS.alloc _ _)
theorem Jid (d i j:Nat) {ρ:Ren} (L8:SlLaysZ.n8 C.P ρ) (L10:SlLaysZ.n10 C.P ρ) {b bk n:Nat} {e:TypeId} {ob:Obj} {D:DataW Unit} (hm:Jeq C.P (ρ.t 26) e ob n D) (hsz:Maps.size D≤1000000)
  (h:∀ a c,KA C ops Q rest ((d,Sl a (strKeys D).length c)::fr) G L)
  (hi:L[i]? = some [Ob b ob]:=by rfl) (hj:L[j]? = some [Sg bk 0 [.map (some b)]]:=by rfl)
  (hw:Qu ops fr o=some true:=by rfl) (hd:o.dst=some d:=by rfl) (hn:Nat.blt d C.n=true:=by rfl) (hsel:Zj o.op=false:=by rfl)
  (hcov:o.op.operands.toList.all (cov fr)=true:=by as_aux_lemma=>kernel_rfl) (hrun:∀ w,(execOp (W6 fr) o).run C.P w=.ok (.enter (ρ.f 8) #[.func (.func (ρ.f 10)) #[] #[Pt bk 0]]) w:=by intro _;as_aux_lemma=>kernel_rfl) :
  KA C ops Q (o::rest) fr G L:=by
 intro a w ha hwS
 have hE:execOp a.eval o=execOp (W6 fr) o:=Wq _ _ _ (fun cs b e=>by rw [e] at hsel;simp [Zj] at hsel)
  (fun x hx=>ha.eval x (Hl.1 hcov x (by simpa using hx)))
 unfold wpList
 rw [if_pos (Wr ha hw)]
 refine .inl ?_
 unfold Oper.wp
 rw [hE,hrun]
 have m1:(Ob b ob)∈L.flatten:=by
  obtain ⟨hl,he⟩:=Ha.1 hi
  exact Hh.2 ⟨_,Hg hl,by rw [he];simp⟩
 have m2:(Sg bk 0 [.map (some b)])∈L.flatten:=by
  obtain ⟨hl,he⟩:=Ha.1 hj
  exact Hh.2 ⟨_,Hg hl,by rw [he];simp⟩
 obtain ⟨_,_,hob,_⟩:=hwS.own _ m1
 obtain ⟨_,p2,_,_⟩:=hob ob rfl
 have hown:=hm.2 w b p2
 have hcell:=((hwS.own _ m2).2.1 0 _ rfl).1
 simp only [Nat.add_zero] at hcell
 have hseq:SeqGives Fence.wide (3-1-1) C.P (ρ.f 10) #[.pointer (some ⟨bk,0,none⟩)] encStr (fun ss=>ss.Perm (strKeys D)) (Maps.size D) w :=
  AnyZ.keys_gives L10 Fence.wide (3-1-1) trivial rfl (by decide) bk b n D w (WE hcell) hcell hown
 refine (callsIn_wide.1 (AnyZ.collect_in L8 Fence.wide 3 trivial trivial rfl (by decide) (ρ.f 10) #[.pointer (some ⟨bk,0,none⟩)] trivial (L10.f10.enters rfl) _ (Maps.size D) (Nat.le_trans hsz (by decide)) (by omega) w hseq)).mono ?_
 rintro e w' ⟨v,ss,rfl,hS,hrow,hnil,hb⟩
 have hlen:ss.length=(strKeys D).length:=hS.length_eq
 obtain ⟨aa,c,rfl⟩:∃ aa c,v=Sl aa (strKeys D).length c:=by
  rw [← hlen]
  rcases hrow.2 with ⟨rfl,h0⟩ | ⟨g,cap,cur,rfl,_⟩
  · exact ⟨none,0,by rw [h0]⟩
  · exact ⟨_,_,rfl⟩
 show wpList C.P ops Q rest (a.put o.dst _) w'
 rw [hd]
 exact h _ _ _ _ (ha.put d _ (Ho hn)) (hwS.below_ hb)
theorem Jf9 {α:Type} {E:YR α} (d t e n:Nat) {z:Value} {lo co:Operand} {bytes:Nat} (x0:α) (hE:E.sz=1∧z.cells=#[z]∧(∀ G,E.R G [z] x0)) (h63:n≤9223372036854775807) (hby:n*bytes≤281474976710656)
  (hi:(C.P.info? e).map (fun i=>(i.zero,i.size,i.bytes))=some (some z,1,bytes))
  (h:∀ a r,JR E G a n (He n x0) r→KA C ops Q rest ((d,Sl a (He n x0).length n)::fr) G (r::L))
  (hb:base C.n ops fr o d=true:=by as_aux_lemma=>kernel_rfl)
  (hop:o.op=.makeSlice t lo co:=by rfl) (ht:C.P.underlying t=some (.slice e):=by as_aux_lemma=>kernel_rfl)
  (hlo:W6 fr lo=I (n:Int):=by as_aux_lemma=>kernel_rfl) (hco:W6 fr co=I (n:Int):=by as_aux_lemma=>kernel_rfl):KA C ops Q (o::rest) fr G L:=by
 simp only [Hi] at h
 refine QE d hb (fun w hw=>?_)
 obtain ⟨inf,hinf,hz,hsz,hbs⟩:=info_parts hi
 have hbn:(inf.bytes:Int)*(n:Int)≤281474976710656:=by
  have h2:(inf.bytes:Int)*n=((n*bytes:Nat):Int):=by rw [Int.natCast_mul,Int.mul_comm,hbs]
  omega
 have hm:=run_make (P:=C.P) w t e inf z ht hinf hz .i64 .i64 n n (by omega) (Int.le_refl _) hbn (by omega)
 simp only [Int.toNat_natCast,hsz,Nat.mul_one] at hm
 have hmc:(madeCells z.cells n).toList=He n z:=by
  apply List.ext_getElem
  · simp [size_madeCells]
  ·
   intro k h1 h2
   simp only [madeCells,Array.toList_map,List.getElem_map,List.getElem_replicate,hE.2.1]
   simp [Nat.mod_one]
 refine ⟨_,_,G,_,?_,hw.alloc (madeCells z.cells n) e,h (At w.heap.size 0) _ ⟨⟨He n [z],by simp,fun k x hx=>?_,?_⟩⟩⟩
 ·
  unfold execOp
  simp only [hop,hlo,hco,Sem.run_bind,hm,Result.andThen_ok,Sem.run_pure]
 ·
  have hk:=(Ha.1 hx).1
  simp only [Hi] at hk
  rw [Hm,if_pos hk] at hx
  rw [← Hq.inj hx]
  exact ⟨[z],by rw [Hm,if_pos hk],hE.2.2 G⟩
 ·
  have hf:(He n [z]).flatten=He n z:=by simp [List.flatten_replicate_singleton]
  rw [hf,hmc,Hi,hE.1]
  exact Row.lit (by simp) h63
theorem RS.cellsR {α:Type} {E:YR α} {G:J5} {ax:Ba} {capx:Nat} {ys:List α} (hy:RS E G ax capx ys):∃ dss:List Bv,dss.length=ys.length∧(∀ (k:Nat) y,ys[k]? = some y→∃ cs,dss[k]? = some cs∧E.R G cs y) ∧
  ∀ w:World,(∀ b o v,G b o=some v→w.cell? ⟨b,o,none⟩=some v)→JiD E.sz w ax ys.length dss.flatten:=by
 have hcell:∃ dss:List Bv,dss.length=ys.length∧(∀ (k:Nat) y,ys[k]? = some y→∃ cs,dss[k]? = some cs∧E.R G cs y) ∧
   (∀ ad,ax=some ad→∀ (k:Nat) cs (j:Nat) v,dss[k]? = some cs→cs[j]? = some v→G ad.block (ad.off+k*E.sz+j)=some v):=by
  cases ax with
  | none =>
   have:ys=[]:=Hd (by have:=hy.nil rfl;have:=hy.le;omega)
   subst this
   exact ⟨[],rfl,by simp,by simp⟩
  | some ad =>
   have hch:∀ k:Nat,∃ cs,∀ y,ys[k]? = some y→E.R G cs y∧∀ j v,cs[j]? = some v→G ad.block (ad.off+k*E.sz+j)=some v:=by
    intro k
    cases hk:ys[k]? with
    | none=>exact ⟨[],by simp⟩
    | some y=>obtain ⟨cs,p1,p2⟩:=hy.elem ad rfl k y hk;exact ⟨cs,fun y' hy'=>by cases hy';exact ⟨p1,p2⟩⟩
   let f:Nat→Bv:=fun k=>Classical.choose (hch k)
   have hf:∀ (k:Nat) y,ys[k]? = some y→E.R G (f k) y∧∀ j v,(f k)[j]? = some v→G ad.block (ad.off+k*E.sz+j)=some v:=fun k=>Classical.choose_spec (hch k)
   refine ⟨(List.range ys.length).map f,by simp,?_,?_⟩
   ·
    intro k y hk
    have hlt:=(Ha.1 hk).1
    exact ⟨f k,by simp [hlt],(hf k y hk).1⟩
   ·
    intro ad' had k cs j v hk hv
    cases had
    have hlt:k<ys.length:=by have:=(Ha.1 hk).1;simpa using this
    have hcs:f k=cs:=by simpa [hlt] using hk
    rw [← hcs] at hv
    exact (hf k _ (Hb hlt)).2 j v hv
 obtain ⟨dss,d1,d2,d3⟩:=hcell
 have dsz:=Jaf d1 d2
 refine ⟨dss,d1,d2,fun w hmem=>⟨by rw [K3 dsz,d1],fun ha=>by have:=hy.nil ha;have:=hy.le;omega,fun ad ha j v hv=>?_⟩⟩
 have hsp:=hy.spot ad ha (by
  have hj:=(Ha.1 hv).1
  rw [K3 dsz] at hj
  have h0:0<ys.length:=by
   rcases Nat.eq_zero_or_pos ys.length with h0 | h0
   · rw [d1,h0] at hj;omega
   · exact h0
  have:=hy.le;omega)
 obtain ⟨ab,ao,asp⟩:=ad
 simp only at hsp
 subst hsp
 rw [Wv]
 refine hmem _ _ _ ?_
 have hj:=(Ha.1 hv).1
 rw [K3 dsz] at hj
 have hpos:0<E.sz:=by
  rcases Nat.eq_zero_or_pos E.sz with h0 | h0
  · rw [h0] at hj;omega
  · exact h0
 have hk:j / E.sz<dss.length:=(Nat.div_lt_iff_lt_mul hpos).2 hj
 have hmod:=Nat.mod_lt j hpos
 have hcs:=dsz _ (Hg hk)
 have hget:(dss[j / E.sz])[j % E.sz]? = some v:=by
  have:=JaX dsz (j / E.sz) _ (j % E.sz) ((dss[j / E.sz])[j % E.sz]'(by omega)) (Hb hk) (Hb (by omega))
  rw [Nat.div_add_mod' j E.sz,hv] at this
  rw [Hb (by omega)];exact this.symm
 have:=d3 _ ha (j / E.sz) _ (j % E.sz) v (Hb hk) hget
 simp only at this
 rwa [Nat.add_assoc,Nat.div_add_mod' j E.sz] at this
theorem JkM {α:Type} {E:YR α} {a:Ba} {l:List α} (d e j:Nat) {b:Nat} {cs:Bv} (x:α) (hr:RS E G a l.length l) (hx:E.R G cs x)
  (h63:l.length+1≤9223372036854775807) (hby:(l.length+1)*E.bytes≤140737488355328)
  (h:∀ a' cap' r',JR E G a' cap' (l++[x]) r'→KA C ops Q rest ((d,Sl a' (l++[x]).length cap')::fr) G (r'::L))
  (hj:L[j]? = some [Sg b 0 cs]:=by rfl)
  (hb:base C.n ops fr o d=true:=by as_aux_lemma=>kernel_rfl)
  (hc:Ja6 C.P fr o e E.sz E.bytes=some (Sl a l.length l.length,Sl (At b 0) 1 1):=by as_aux_lemma=>kernel_rfl):KA C ops Q (o::rest) fr G L:=by
 obtain ⟨t,ty,inf,z,hu,hi,hz,hzs,hsz,hbs,hrun⟩:=Jfg hc
 obtain ⟨dss,d1,d2,d3⟩:=hr.cellsR
 refine QE d hb (fun w hw=>?_)
 have hms:(Sg b 0 cs)∈L.flatten:=by
  obtain ⟨hi',he⟩:=Ha.1 hj
  exact Hh.2 ⟨_,he ▸ Hg hi',by simp⟩
 have hown:=(hw.own _ hms).2.1
 simp only [Hp] at hown
 have hnl:cs.length=1*inf.size:=by rw [E.len hx,hsz];simp
 have hnews:∀ k v,cs[k]? = some v→w.cell? ((⟨b,0,none⟩:Addr).add k)=some v:=fun k v hv=>by
  rw [Wv,Hp];exact (hown k v hv).1
 obtain ⟨r1,r2,r3⟩:=d3 w hw.mem
 rw [← hsz] at r1
 have hby2:(l.length+1)*inf.bytes≤140737488355328:=by rw [hbs];exact hby
 have hnx:Builtin.nextslicecap (l.length+1) l.length*inf.bytes≤281474976710656:=growslice_fits (by omega) hby2
 have fin:∀ (old:Nat) (res:Result Value),res=.ok (.slice (some ⟨w.heap.size,0,none⟩) (l.length+1) (grownCap w (l.length+1) old e)) (w.drew.alloc (.cells (dss.flatten.toArray++cs.toArray++Builtin.zeroCells z.cells (grownCap w (l.length+1) old e-(l.length+1))) e)) →
   (Builtin.append_ #[t,t] ty #[.slice a l.length l.length,.slice (At b 0) 1 1]).run C.P w=res →
   ∃ v w' G' L',(execOp (W6 fr) o).run C.P w=.ok (.value v) w'∧St C.w0 C.G0 w' G' L'∧KA C ops Q rest ((d,v)::fr) G' L':=by
  intro old res hres hap
  have hlen:(l++[x]).length=l.length+1:=by simp
  refine ⟨_,_,G,_,by rw [hrun,hap,hres];rfl,(hw.drew).alloc _ e,?_⟩
  rw [← hlen]
  refine h _ _ _ ⟨⟨dss++[cs],by simp [d1],?_,?_⟩⟩
  ·
   intro k y hy
   by_cases hlt:k<l.length
   ·
    rw [Hk hlt] at hy
    obtain ⟨cs',p1,p2⟩:=d2 k y hy
    exact ⟨cs',by rw [Hk (by omega)];exact p1,p2⟩
   ·
    rw [Hj (by omega)] at hy
    have hk:k-l.length=0:=by
     have:=(Ha.1 hy).1;simp at this;omega
    rw [hk] at hy
    obtain rfl:x=y:=by simpa using hy
    exact ⟨cs,by rw [Hj (by omega),d1,hk];rfl,hx⟩
  ·
   rw [List.flatten_append,hlen,← hsz]
   refine ⟨by rw [List.length_append,r1];simp [hnl,Nat.add_mul],grownCap_ge w _ old e,?_,.inr ⟨w.heap.size,0,(Builtin.zeroCells z.cells (grownCap w (l.length+1) old e-(l.length+1))).toList,rfl,by simp,?_⟩⟩
   ·
    have:=grownCap_le_maxLen w (l.length+1) old e (by simp only [maxLen];omega)
    simp only [maxLen] at this;omega
   · rw [Array.length_toList,Yi,hzs]
 cases a with
 | none =>
  have h0:l.length=0:=hr.nil rfl
  have hl:l=[]:=Hd h0
  subst hl
  have hd0:dss=[]:=Hd (by simpa using d1)
  subst hd0
  have hap:=run_append_nil (P:=C.P) w t ty e inf z hu hi hz ⟨b,0,none⟩ 1 1 cs hnl hnews (by omega) (by omega) (by have h9:=hby2;simp only [List.length_nil,Hp] at h9;omega)
  exact fin 0 _ (by simp) hap
 | some ad =>
  have hap:=run_append_grow (P:=C.P) w t ty e inf z hu hi hz ad l.length l.length dss.flatten r1 (r3 ad rfl) ⟨b,0,none⟩ 1 1 cs hnl hnews (by omega) (by omega) hnx
  exact fin l.length _ rfl hap
def Shr (r r':Bg):Prop:=r'=r∨∃ b off F m,r=[Sg b off F]∧(r'=[Sg b (off+m) (F.drop m)]∨r'=[Sg b off []])
theorem St.shr {w0 w:World} {G0 G:J5} {L:Bl} {i:Nat} {r r':Bg} (h:St w0 G0 w G L) (hi:L[i]? = some r) (hs:Shr r r'):St w0 G0 w G (L.set i r'):=by
 rcases hs with rfl | ⟨b,off,F,m,rfl,hr⟩
 ·
  have:L.set i r'=L:=by
   obtain ⟨hi',he⟩:=Ha.1 hi
   rw [← he];exact List.set_getElem_self hi'
  rw [this];exact h
 ·
  obtain ⟨A,B,rfl,hset⟩:=Vg hi
  rw [hset]
  have hm:(Sg b off F)∈(A++[Sg b off F]::B).flatten:=by simp
  obtain ⟨hB,hc,_,_⟩:=h.own _ hm
  simp only at hB hc
  refine St.upd h (Below.refl _ _) (fun _ _ _ hv _=>⟨hv,rfl⟩) (fun _ _ hx=>hx) (fun _ _ hx _ _=>hx) ?_ ?_ ?_
  ·
   intro s hs
   rcases hr with rfl | rfl
   ·
    obtain rfl:s=_:=by simpa using hs
    refine ⟨hB,fun j v hv=>?_,by simp,by simp⟩
    simp only [List.getElem?_drop] at hv
    have:=hc _ _ hv
    rw [show off+(m+j)=off+m+j by omega] at this
    exact this
   ·
    obtain rfl:s=_:=by simpa using hs
    exact ⟨hB,by simp,by simp,by simp⟩
  ·
   intro s hs b' o hh
   rcases hr with rfl | rfl
   ·
    obtain rfl:s=_:=by simpa using hs
    obtain ⟨e,h1,h2⟩:=hh
    simp only [Vf.len,List.length_drop] at e h1 h2
    exact .inl ⟨_,Hc.2 rfl,e,by simp only;omega,by simp only [Vf.len];omega⟩
   ·
    obtain rfl:s=_:=by simpa using hs
    obtain ⟨e,h1,h2⟩:=hh
    simp [Vf.len] at h2;simp only at h1;omega
  · rcases hr with rfl | rfl <;> simp
theorem JR.dropX {α:Type} {E:YR α} {G:J5} {a:Ba} {cap:Nat} {l:List α} {r:Bg} (h:JR E G a cap l r) (k:Nat) (hk:k≤l.length) :
  ∃ r',JR E G (if cap=k then a else a.map (·.add (k*E.sz))) (cap-k) (l.drop k) r'∧Shr r r':=by
 obtain ⟨css,c1,c2,c3⟩:=h.ex
 have hsz:=Jaf c1 c2
 have hd:(css.drop k).flatten=css.flatten.drop (k*E.sz):=by
  have h1:css.flatten=(css.take k).flatten++(css.drop k).flatten:=by rw [← List.flatten_append,List.take_append_drop]
  have h2:(css.take k).flatten.length=k*E.sz:=by
   rw [K3 (fun cs hc=>hsz cs (List.mem_of_mem_take hc)),List.length_take];congr 1;omega
  rw [h1,← h2,List.drop_left]
 have hA:(css.drop k).length=(l.drop k).length∧∀ (i:Nat) x,(l.drop k)[i]? = some x→∃ cs,(css.drop k)[i]? = some cs∧E.R G cs x:=by
  refine ⟨by simp [c1],fun i x hx=>?_⟩
  rw [List.getElem?_drop] at hx ⊢
  exact c2 _ x hx
 have hlen:(css.drop k).flatten.length=(l.drop k).length*E.sz:=by
  rw [K3 (fun cs hc=>hsz cs (List.mem_of_mem_drop hc)),hA.1]
 have hle:=c3.le;have hmx:=c3.max
 rcases c3.shape with ⟨rfl,rfl,rfl⟩ | ⟨b,off,spare,rfl,rfl,hsp⟩
 ·
  have hk0:k=0:=by omega
  subst hk0
  exact ⟨[],by simpa using h,.inl rfl⟩
 ·
  by_cases e:cap=k
  ·
   rw [if_pos e]
   have hl0:l.drop k=[]:=Hn (by omega)
   have hc0:css.drop k=[]:=Hn (by omega)
   refine ⟨[Sg b off []],⟨⟨css.drop k,hA.1,hA.2,⟨hlen,by rw [hl0];simp,by omega,.inr ⟨b,off,[],rfl,?_,?_⟩⟩⟩⟩,.inr ⟨b,off,_,0,rfl,.inr rfl⟩⟩
   · rw [hc0];simp
   · rw [hl0,e];simp
  ·
   rw [if_neg e]
   refine ⟨[Sg b (off+k*E.sz) ((css.flatten++spare).drop (k*E.sz))],⟨⟨css.drop k,hA.1,hA.2,⟨hlen,by simp;omega,by omega,.inr ⟨b,off+k*E.sz,spare,?_,?_,?_⟩⟩⟩⟩,.inr ⟨b,off,_,k*E.sz,rfl,.inl rfl⟩⟩
   · simp [Wv]
   ·
    rw [hd,List.drop_append_of_le_length]
    rw [K3 hsz,c1];exact Nat.mul_le_mul_right _ hk
   · rw [hsp,List.length_drop];congr 1;omega
theorem tq_shr {e:Exit} (i:Nat) {r r':Bg} (hs:Shr r r') (h:TQ C Q e fr G (L.set i r')) (hi:L[i]? = some r:=by rfl):TQ C Q e fr G L:=fun a w ha hw=>h a w ha (hw.shr hi hs)
end
end Go.Tx
