import Derived.Test.YtnnlpbjdignhaaaGreatDoorTgMake
import Derived.Test.YtnnlpbjdignhaaaGreatDoorTgSee
import Derived.Test.YtnnlpbjdignhaaaGreatDoorTgWireL
namespace Go.Proofs.YtnnlpbjdignhaaaGreatDoor
open Go.Tx
set_option linter.unusedVariables false
set_option linter.unusedSimpArgs false
theorem Jho {n v:List UInt8} (h:KB n v=0):n.length≤12∧v.length≤20∧Kt n=true:=by
 unfold KB at h
 split at h
 ·
  cases h
 rename_i h1
 split at h
 ·
  cases h
 have h2:Kt n=true:=by simpa using h1
 have:=(JfU.1 h2).2.1
 exact ⟨this,by omega,h2⟩
theorem Jkk {l:List JW} {w:List UInt8} (h:QR l) (hw:∀ x∈l,way x.name=w):Jw l=(KJ l,0):=by
 unfold Jw
 rw [if_neg (by rw [ne_eq,Decidable.not_not];exact KI.2 h),if_neg]
 rintro ⟨h1,h2⟩
 have e1:l[0]? = some (l[0]'(by omega)):=List.getElem?_eq_getElem _
 have e2:l[l.length-1]? = some (l[l.length-1]'(by omega)):=List.getElem?_eq_getElem _
 rw [← JbQ e1,← JcK e2,hw _ (List.mem_of_getElem? e1),hw _ (List.mem_of_getElem? e2)] at h2
 exact h2 rfl
theorem Jfu (a b:Int):Jf (JeG a b)=if a=Vg∧b=Vg then Vg else Jf (Kx 2 a b):=by
 have e:Jf Jea=Vg:=by unfold Jea;rw [Jgc];rfl
 unfold JeG;rw [e];split
 ·
  exact e
 ·
  rfl
theorem JlC (w:List UInt8):∀ (qs:List Int) (i:Nat) (s:List UInt8) (k:Nat),k≤qs.length→∃ a,(Jab w i s qs)[k]? = some a
 | qs,i,s,k,h=>⟨_,List.getElem?_eq_getElem (by rw [Zq];omega)⟩
theorem Jil (w:List UInt8) (qs:List Int) (s:List UInt8):(Jab w 0 s qs)[qs.length]? = some (Jfs (Jab w 0 s qs)):=by
 obtain ⟨a,ha⟩:=JlC w qs 0 s qs.length (Nat.le_refl _)
 rw [ha,Jft (by rw [Zq];omega) ha]
theorem JmH {p:WA} (h:Jb7 p):KT p=(Jab (way p.name) 0 (KJ p.entries) p.sides,0):=by
 unfold KT
 rw [if_neg (by rw [ne_eq,Decidable.not_not];exact QO.2 h),Jkk h.ents h.ways]
theorem Jjb {p:WA} (h:Jb7 p):Qg p=(Jf (Jfs (Jab (way p.name) 0 (KJ p.entries) p.sides)),0):=by
 unfold Qg;rw [JmH h,if_neg (by simp)]
theorem JmI {root:Int} {p:WA} (h:Jb7 p) (h2:(Qg p).1=root):Q5 root p=K8 p.entries p.name:=by
 unfold Q5
 rw [if_neg]
 rw [Decidable.not_not]
 unfold WN
 rw [if_neg (fun hc=>hc.2 h2),Jjb h]
theorem Jhp {l:List JW} {p:List UInt8} {x:JW}:x∈Jad l p ↔ x∈l∧way x.name=p:=by unfold Jad;rw [List.mem_filter];simp
theorem Jjc {l:List JW} {p:List UInt8} (h:QR l):QR (Jad l p):=Jij h List.filter_sublist
theorem Jkl {l:List JW} (h:QR l) {x:JW} (hx:x∈l):(way x.name).length=16∧∀ b∈way x.name,isB b=true:=by
 have hn:=(Jho (h.ok x hx)).2.2
 refine ⟨Y4 hn,?_⟩
 unfold way Ke;rw [if_neg (by rw [hn];simp)];exact JbP x.name
theorem JlD {p w:List UInt8} (h:p.length=w.length):p <+: w ↔ w=p:=by
 constructor
 ·
  intro hp;exact (hp.eq_of_length h).symm
 ·
  intro e;rw [e];exact List.prefix_refl _
theorem Jkm {l:List JW} {p:List UInt8} (h:QR l) (hp:p.length=16):J0 l p=Jad l p:=by
 unfold J0 Jad
 apply List.filter_congr
 intro x hx
 unfold JaF
 rw [Bool.not_not,Bool.eq_iff_iff,decide_eq_true_eq,beq_iff_eq]
 exact JlD (by rw [hp,(Jkl h hx).1])
theorem V4 (l:List JW) (q:List UInt8):0≤KY l q∧KY l q<2305843009213693951:=by
 unfold KY
 generalize 16-q.length=n
 cases n with
 | zero=>exact Qz _
 | succ n =>
  rw [atG]
  split
  ·
   exact Qz _
  split
  ·
   exact Qz _
  ·
   exact Qz _
theorem flip_B {b:UInt8} (h:isB b=true):isB (W7 b)=true:=by
 unfold isB at h;simp only [Bool.or_eq_true,beq_iff_eq] at h
 rcases h with rfl | rfl <;> decide
structure JlE (p:List UInt8):Prop where
 len:p.length=16
 bits:∀ b∈p,isB b=true
theorem Jjd {l:List JW} {p:List UInt8} {k:Nat} {y:UInt8} (h:QR l) (hp:JlE p) (hk:p[k]? = some y):Jee l p k=KY (J0 l (p.take k++[W7 y])) (p.take k++[W7 y]):=by
 have hk16:k<16:=by have:=(List.getElem?_eq_some_iff.1 hk).1;rw [hp.len] at this;exact this
 unfold Jee
 rw [hk]
 show (JP l (p.take k++[W7 y])).1=_
 rw [Y5 h (by simp;omega)]
 intro b hb
 rcases List.mem_append.1 hb with hb | hb
 ·
  exact hp.bits b (List.mem_of_mem_take hb)
 ·
  rw [List.mem_singleton] at hb;rw [hb];exact flip_B (hp.bits y (List.mem_of_getElem? hk))
theorem Jei {l:List JW} {p:List UInt8} {n i:Nat} (h:i<n):(YF l p n)[i]? = some (Jee l p (15-i)):=by
 unfold YF;simp [h]
theorem Jhq {l:List JW} {p:List UInt8} (h:QR l) (hp:JlE p):∀ i,i≤16→∃ s,(Jab p 0 (KJ (Jad l p)) (YF l p 16))[i]? = some s∧Jf s=KY (J0 l (p.take (16-i))) (p.take (16-i))
 | 0,_=>⟨_,Jic _ _ _ _,by
   rw [Nat.sub_zero,List.take_of_length_le (by rw [hp.len];exact Nat.le_refl _),Jkm h hp.len,Ja6 (.inr (by rw [hp.len];rfl))]⟩
 | i+1,hi=>by
  obtain ⟨s,hs,hm⟩:=Jhq h hp i (by omega)
  have hy:p[15-i]? = some (p[15-i]'(by rw [hp.len];omega)):=List.getElem?_eq_getElem _
  generalize p[15-i]'(by rw [hp.len];omega)=y at hy
  have hs2:=JcL p (YF l p 16) 0 i _ s _ hs (Jei (by omega))
  rw [Nat.zero_add] at hs2
  refine ⟨_,hs2,?_⟩
  have e1:p.take (16-i)=p.take (15-i)++[y]:=by rw [show 16-i=15-i+1 by omega,List.take_add_one,hy];rfl
  rw [show 16-(i+1)=15-i by omega,Jgd (by rw [List.length_take,hp.len];omega)]
  rw [e1] at hm
  have hsd:=Jjd h hp hy
  have hyb:=hp.bits y (List.mem_of_getElem? hy)
  unfold isB at hyb
  simp only [Bool.or_eq_true,beq_iff_eq] at hyb
  unfold Y0
  rcases hyb with rfl | rfl
  ·
   rw [hy,if_neg (by decide),Jfu,hm,hsd,show W7 48=49 by decide]
  ·
   rw [hy,if_pos rfl,Jfu,hm,hsd,show W7 49=48 by decide]
theorem JlF {name:List UInt8} (h:Kt name=true):JlE (way name):=⟨Y4 h,by unfold way Ke;rw [if_neg (by rw [h];simp)];exact JbP name⟩
def Jej (l:List JW) (name:List UInt8):WA:=⟨name,Jad l (way name),YF l (way name) 16⟩
theorem JlG {l:List JW} {name:List UInt8} (h:QR l) (hn:Kt name=true):Jb7 (Jej l name):=by
 refine ⟨hn,Jjc h,fun x hx=>(Jhp.1 hx).2,Y6 _ _ _,fun m hm=>?_⟩
 have hm:m∈YF l (way name) 16:=hm
 obtain ⟨i,hi⟩:=List.getElem?_of_mem hm
 have hlt:=(List.getElem?_eq_some_iff.1 hi).1
 rw [Y6] at hlt
 rw [Jei hlt] at hi
 have hp:=JlF hn
 have hy:(way name)[15-i]? = some ((way name)[15-i]'(by rw [hp.len];omega)):=List.getElem?_eq_getElem _
 rw [← Option.some.inj hi,Jjd h hp hy]
 exact (V4 _ _).2
theorem JlH {l:List JW} {name:List UInt8} (h:QR l) (hn:Kt name=true):Qg (Jej l name)=JP l []:=by
 have hp:=JlF hn
 rw [Jjb (JlG h hn),Y5 h (by simp) (by simp)]
 obtain ⟨s,hs,hm⟩:=Jhq h hp 16 (Nat.le_refl _)
 have hl:=Jil (way name) (YF l (way name) 16) (KJ (Jad l (way name)))
 rw [Y6,hs] at hl
 have hl:=Option.some.inj hl
 show (Jf (Jfs (Jab (way name) 0 (KJ (Jad l (way name))) (YF l (way name) 16))),0)=_
 rw [← hl,hm];rfl
theorem Jje {l:List JW} {name:List UInt8} (h:(Ky l name).2=0):QR l∧Kt name=true∧(Ky l name).1=Jej l name:=by
 unfold Ky at h ⊢
 split at h
 ·
  contradiction
 rename_i h1
 split at h
 ·
  contradiction
 rename_i h2
 rw [if_neg h1,if_neg h2]
 refine ⟨KI.1 (Decidable.not_not.1 h1),?_,rfl⟩
 have h2:=Decidable.not_not.1 h2
 unfold Ke at h2;split at h2
 ·
  cases h2
 ·
  rename_i hc;simpa using hc
theorem JmJ {l:List JW} {name:List UInt8} (h:QR l) (hn:Kt name=true):K8 (Jad l (way name)) name=K8 l name∧(K8 l name).2.2=0:=by
 refine ⟨Jd8 (Jjc h) h fun y hy=>?_,?_⟩
 ·
  rw [Jhp];exact ⟨fun hc=>hc.1,fun hc=>⟨hc,by rw [hy]⟩⟩
 ·
  by_cases hx:∃ x∈l,x.name=name
  ·
   obtain ⟨x,hx,rfl⟩:=hx;rw [VN h hx hn]
  ·
   rw [VO h hn (fun y hy e=>hx ⟨y,hy,e⟩)]
theorem Jkn {l:List JW} {name:List UInt8} (h:(Ky l name).2=0):(JP l []).2=0∧Q5 (JP l []).1 (Ky l name).1=K8 l name∧(K8 l name).2.2=0∧Qt (Ky l name).1=0:=by
 obtain ⟨h1,h2,h3⟩:=Jje h
 have h4:=JlG h1 h2
 have h5:=JmJ h1 h2
 rw [h3]
 refine ⟨by rw [Y5 h1 (by simp) (by simp)],?_,h5.2,QO.2 h4⟩
 rw [JmI h4 (by rw [JlH h1 h2])]
 exact h5.1
end Go.Proofs.YtnnlpbjdignhaaaGreatDoor
