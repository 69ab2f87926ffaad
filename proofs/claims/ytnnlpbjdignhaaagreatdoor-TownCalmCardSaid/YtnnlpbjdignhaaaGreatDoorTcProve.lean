import Derived.Test.YtnnlpbjdignhaaaGreatDoorTcMake
import Derived.Test.YtnnlpbjdignhaaaGreatDoorTcSee
import Derived.Test.YtnnlpbjdignhaaaGreatDoorTcWireL
namespace Go.Proofs.YtnnlpbjdignhaaaGreatDoor
open Go.Tx
set_option linter.unusedVariables false
set_option linter.unusedSimpArgs false
theorem Jhf {n v:List UInt8} (h:KC n v=0):n.length≤12∧v.length≤20∧Kt n=true:=by
 unfold KC at h
 split at h
 ·
  cases h
 rename_i h1
 split at h
 ·
  cases h
 have h2:Kt n=true:=by simpa using h1
 have:=(JfL.1 h2).2.1
 exact ⟨this,by omega,h2⟩
theorem Jkc {l:List JV} {w:List UInt8} (h:QP l) (hw:∀ x∈l,way x.name=w):Jw l=(KK l,0):=by
 unfold Jw
 rw [if_neg (by rw [ne_eq,Decidable.not_not];exact KJ.2 h),if_neg]
 rintro ⟨h1,h2⟩
 have e1:l[0]? = some (l[0]'(by omega)):=List.getElem?_eq_getElem _
 have e2:l[l.length-1]? = some (l[l.length-1]'(by omega)):=List.getElem?_eq_getElem _
 rw [← JbK e1,← JcA e2,hw _ (List.mem_of_getElem? e1),hw _ (List.mem_of_getElem? e2)] at h2
 exact h2 rfl
theorem Jfm (a b:Int):Jf (Jex a b)=if a=Vc∧b=Vc then Vc else Jf (Kx 2 a b):=by
 have e:Jf Jd1=Vc:=by unfold Jd1;rw [Jf3];rfl
 unfold Jex;rw [e];split
 ·
  exact e
 ·
  rfl
theorem Jlt (w:List UInt8):∀ (qs:List Int) (i:Nat) (s:List UInt8) (k:Nat),k≤qs.length→∃ a,(V5 w i s qs)[k]? = some a
 | qs,i,s,k,h=>⟨_,List.getElem?_eq_getElem (by rw [Zo];omega)⟩
theorem Jid (w:List UInt8) (qs:List Int) (s:List UInt8):(V5 w 0 s qs)[qs.length]? = some (Jfk (V5 w 0 s qs)):=by
 obtain ⟨a,ha⟩:=Jlt w qs 0 s qs.length (Nat.le_refl _)
 rw [ha,Jfl (by rw [Zo];omega) ha]
theorem Jmz {p:Wy} (h:JbZ p):KT p=(V5 (way p.name) 0 (KK p.entries) p.sides,0):=by
 unfold KT
 rw [if_neg (by rw [ne_eq,Decidable.not_not];exact QM.2 h),Jkc h.ents h.ways]
theorem Ji3 {p:Wy} (h:JbZ p):Qf p=(Jf (Jfk (V5 (way p.name) 0 (KK p.entries) p.sides)),0):=by
 unfold Qf;rw [Jmz h,if_neg (by simp)]
theorem JmA {root:Int} {p:Wy} (h:JbZ p) (h2:(Qf p).1=root):Q5 root p=K7 p.entries p.name:=by
 unfold Q5
 rw [if_neg]
 rw [Decidable.not_not]
 unfold WL
 rw [if_neg (fun hc=>hc.2 h2),Ji3 h]
theorem Jhg {l:List JV} {p:List UInt8} {x:JV}:x∈V7 l p ↔ x∈l∧way x.name=p:=by unfold V7;rw [List.mem_filter];simp
theorem Ji4 {l:List JV} {p:List UInt8} (h:QP l):QP (V7 l p):=Jib h List.filter_sublist
theorem Jkd {l:List JV} (h:QP l) {x:JV} (hx:x∈l):(way x.name).length=16∧∀ b∈way x.name,isB b=true:=by
 have hn:=(Jhf (h.ok x hx)).2.2
 refine ⟨YY hn,?_⟩
 unfold way Ke;rw [if_neg (by rw [hn];simp)];exact JbJ x.name
theorem Jlu {p w:List UInt8} (h:p.length=w.length):p <+: w ↔ w=p:=by
 constructor
 ·
  intro hp;exact (hp.eq_of_length h).symm
 ·
  intro e;rw [e];exact List.prefix_refl _
theorem Jke {l:List JV} {p:List UInt8} (h:QP l) (hp:p.length=16):J0 l p=V7 l p:=by
 unfold J0 V7
 apply List.filter_congr
 intro x hx
 unfold Jax
 rw [Bool.not_not,Bool.eq_iff_iff,decide_eq_true_eq,beq_iff_eq]
 exact Jlu (by rw [hp,(Jkd h hx).1])
theorem VZ (l:List JV) (q:List UInt8):0≤KX l q∧KX l q<2305843009213693951:=by
 unfold KX
 generalize 16-q.length=n
 cases n with
 | zero=>exact Qy _
 | succ n =>
  rw [atG]
  split
  ·
   exact Qy _
  split
  ·
   exact Qy _
  ·
   exact Qy _
theorem flip_B {b:UInt8} (h:isB b=true):isB (W5 b)=true:=by
 unfold isB at h;simp only [Bool.or_eq_true,beq_iff_eq] at h
 rcases h with rfl | rfl <;> decide
structure Jlv (p:List UInt8):Prop where
 len:p.length=16
 bits:∀ b∈p,isB b=true
theorem Ji5 {l:List JV} {p:List UInt8} {k:Nat} {y:UInt8} (h:QP l) (hp:Jlv p) (hk:p[k]? = some y):Jd5 l p k=KX (J0 l (p.take k++[W5 y])) (p.take k++[W5 y]):=by
 have hk16:k<16:=by have:=(List.getElem?_eq_some_iff.1 hk).1;rw [hp.len] at this;exact this
 unfold Jd5
 rw [hk]
 show (JO l (p.take k++[W5 y])).1=_
 rw [YZ h (by simp;omega)]
 intro b hb
 rcases List.mem_append.1 hb with hb | hb
 ·
  exact hp.bits b (List.mem_of_mem_take hb)
 ·
  rw [List.mem_singleton] at hb;rw [hb];exact flip_B (hp.bits y (List.mem_of_getElem? hk))
theorem Jd9 {l:List JV} {p:List UInt8} {n i:Nat} (h:i<n):(Yy l p n)[i]? = some (Jd5 l p (15-i)):=by
 unfold Yy;simp [h]
theorem Jhh {l:List JV} {p:List UInt8} (h:QP l) (hp:Jlv p):∀ i,i≤16→∃ s,(V5 p 0 (KK (V7 l p)) (Yy l p 16))[i]? = some s∧Jf s=KX (J0 l (p.take (16-i))) (p.take (16-i))
 | 0,_=>⟨_,Jh4 _ _ _ _,by
   rw [Nat.sub_zero,List.take_of_length_le (by rw [hp.len];exact Nat.le_refl _),Jke h hp.len,JaZ (.inr (by rw [hp.len];rfl))]⟩
 | i+1,hi=>by
  obtain ⟨s,hs,hm⟩:=Jhh h hp i (by omega)
  have hy:p[15-i]? = some (p[15-i]'(by rw [hp.len];omega)):=List.getElem?_eq_getElem _
  generalize p[15-i]'(by rw [hp.len];omega)=y at hy
  have hs2:=JcB p (Yy l p 16) 0 i _ s _ hs (Jd9 (by omega))
  rw [Nat.zero_add] at hs2
  refine ⟨_,hs2,?_⟩
  have e1:p.take (16-i)=p.take (15-i)++[y]:=by rw [show 16-i=15-i+1 by omega,List.take_add_one,hy];rfl
  rw [show 16-(i+1)=15-i by omega,Jf4 (by rw [List.length_take,hp.len];omega)]
  rw [e1] at hm
  have hsd:=Ji5 h hp hy
  have hyb:=hp.bits y (List.mem_of_getElem? hy)
  unfold isB at hyb
  simp only [Bool.or_eq_true,beq_iff_eq] at hyb
  unfold YU
  rcases hyb with rfl | rfl
  ·
   rw [hy,if_neg (by decide),Jfm,hm,hsd,show W5 48=49 by decide]
  ·
   rw [hy,if_pos rfl,Jfm,hm,hsd,show W5 49=48 by decide]
theorem Jlw {name:List UInt8} (h:Kt name=true):Jlv (way name):=⟨YY h,by unfold way Ke;rw [if_neg (by rw [h];simp)];exact JbJ name⟩
def Jea (l:List JV) (name:List UInt8):Wy:=⟨name,V7 l (way name),Yy l (way name) 16⟩
theorem Jlx {l:List JV} {name:List UInt8} (h:QP l) (hn:Kt name=true):JbZ (Jea l name):=by
 refine ⟨hn,Ji4 h,fun x hx=>(Jhg.1 hx).2,Y0 _ _ _,fun m hm=>?_⟩
 have hm:m∈Yy l (way name) 16:=hm
 obtain ⟨i,hi⟩:=List.getElem?_of_mem hm
 have hlt:=(List.getElem?_eq_some_iff.1 hi).1
 rw [Y0] at hlt
 rw [Jd9 hlt] at hi
 have hp:=Jlw hn
 have hy:(way name)[15-i]? = some ((way name)[15-i]'(by rw [hp.len];omega)):=List.getElem?_eq_getElem _
 rw [← Option.some.inj hi,Ji5 h hp hy]
 exact (VZ _ _).2
theorem Jly {l:List JV} {name:List UInt8} (h:QP l) (hn:Kt name=true):Qf (Jea l name)=JO l []:=by
 have hp:=Jlw hn
 rw [Ji3 (Jlx h hn),YZ h (by simp) (by simp)]
 obtain ⟨s,hs,hm⟩:=Jhh h hp 16 (Nat.le_refl _)
 have hl:=Jid (way name) (Yy l (way name) 16) (KK (V7 l (way name)))
 rw [Y0,hs] at hl
 have hl:=Option.some.inj hl
 show (Jf (Jfk (V5 (way name) 0 (KK (V7 l (way name))) (Yy l (way name) 16))),0)=_
 rw [← hl,hm];rfl
theorem Ji6 {l:List JV} {name:List UInt8} (h:(Ky l name).2=0):QP l∧Kt name=true∧(Ky l name).1=Jea l name:=by
 unfold Ky at h ⊢
 split at h
 ·
  contradiction
 rename_i h1
 split at h
 ·
  contradiction
 rename_i h2
 rw [if_neg h1,if_neg h2]
 refine ⟨KJ.1 (Decidable.not_not.1 h1),?_,rfl⟩
 have h2:=Decidable.not_not.1 h2
 unfold Ke at h2;split at h2
 ·
  cases h2
 ·
  rename_i hc;simpa using hc
theorem JmB {l:List JV} {name:List UInt8} (h:QP l) (hn:Kt name=true):K7 (V7 l (way name)) name=K7 l name∧(K7 l name).2.2=0:=by
 refine ⟨JdZ (Ji4 h) h fun y hy=>?_,?_⟩
 ·
  rw [Jhg];exact ⟨fun hc=>hc.1,fun hc=>⟨hc,by rw [hy]⟩⟩
 ·
  by_cases hx:∃ x∈l,x.name=name
  ·
   obtain ⟨x,hx,rfl⟩:=hx;rw [VI h hx hn]
  ·
   rw [VJ h hn (fun y hy e=>hx ⟨y,hy,e⟩)]
theorem Jkf {l:List JV} {name:List UInt8} (h:(Ky l name).2=0):(JO l []).2=0∧Q5 (JO l []).1 (Ky l name).1=K7 l name∧(K7 l name).2.2=0∧Qs (Ky l name).1=0:=by
 obtain ⟨h1,h2,h3⟩:=Ji6 h
 have h4:=Jlx h1 h2
 have h5:=JmB h1 h2
 rw [h3]
 refine ⟨by rw [YZ h1 (by simp) (by simp)],?_,h5.2,QM.2 h4⟩
 rw [JmA h4 (by rw [Jly h1 h2])]
 exact h5.1
end Go.Proofs.YtnnlpbjdignhaaaGreatDoor
