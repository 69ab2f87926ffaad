import Derived.Test.YtnnlpbjdignhaaaGreatDoorTcCalm
namespace Go.Proofs.YtnnlpbjdignhaaaGreatDoor
open Go.Tx
set_option linter.unusedVariables false
set_option linter.unusedSimpArgs false
open Go.Tx Go.Proofs
def Zq (name:List UInt8) (l:List WT):List WT:=l.filter fun a=>decide (a.name=name)
structure Jb9 (name:List UInt8) (c:Kw) (o:KP) (J:List Nat):Prop where
 ok:Wb c
 own:J5 o=0
 nm:o.name=name
 at_:0≤o.head.epoch∧c.heads[o.head.epoch.toNat]? = some o.head
 len:J.length=c.books.length
 mono:∀ (p q:Nat) i j,p≤q→J[p]? = some i→J[q]? = some j→i≤j
 le:∀ (p:Nat) j,J[p]? = some j→j≤o.wanted.length
 book:∀ (p:Nat) j b,J[p]? = some j→c.books[p]? = some b→K7 b name=Jgc o.wanted j
 wait:∀ j,J[J.length-1]? = some j→j+(Zq name c.queue.wait).length=o.wanted.length∧∀ (p:Nat) a,(Zq name c.queue.wait)[p]? = some a→o.wanted[j+p]? = some a.value
 had:∀ j,J[o.head.epoch.toNat]? = some j→o.had≤j
theorem JcK (name:List UInt8) (l m:List WT):Zq name (l++m)=Zq name l++Zq name m:=List.filter_append ..
theorem Jca:∀ (l:List WT) (b:List JV) (name:List UInt8),QP b→(∀ a∈l,Kq a=0)→nn (KM b++Qi l)≤24 →
  K7 (Vg b l) name=match (Zq name l).getLast? with | none=>K7 b name | some a=>(a.value,true,0)
 | [],b,name,_,_,_=>rfl
 | a::l,b,name,h,hr,hn=>by
  obtain ⟨h1,h2,h3,h4⟩:=JlD h hr hn
  have ih:=Jca l (KN b a.name a.value).1 name h2 h3 h4
  show K7 (Vg (KN b a.name a.value).1 l) name=_
  rw [ih]
  have hs:=Jf2 (other:=name) h1
  by_cases e:a.name=name
  ·
   have e2:Zq name (a::l)=a::Zq name l:=by unfold Zq;simp [e]
   rw [e2]
   cases hl:Zq name l with
   | nil=>rw [← e];simpa using hs.1
   | cons y z =>
    rw [List.getLast?_cons_cons]
    cases hz:(y::z).getLast? with
    | none=>simp at hz
    | some w=>rfl
  ·
   have e2:Zq name (a::l)=Zq name l:=by unfold Zq;simp [e]
   rw [e2]
   have:=hs.2.1.resolve_left (fun q=>e q.symm)
   rw [this]
theorem Jkj {name s:List UInt8} {c:Kw} {o:KP} {J:List Nat} (h:Jb9 name c o J) (hw:(JE o s).2.2=0) (ha:(Kk c (JE o s).2.1).2.2=0) :
  Jb9 name (Kk c (JE o s).2.1).1 (JE o s).1 J:=by
 obtain ⟨w1,w2,w3,w4,w5⟩:=Vo hw
 have hok:=YQ ha
 obtain ⟨_,hq,_,_,e⟩:=Vd ha
 obtain ⟨_,_,_,e2⟩:=VV hq
 have hx:(Kk c (JE o s).2.1).1=⟨⟨c.queue.most,c.queue.wait++[(JE o s).2.1]⟩,c.batch,c.every,c.now,c.heads,c.books⟩:=by rw [e,e2]
 have hn:(JE o s).2.1.name=o.name∧(JE o s).2.1.value=s:=by rw [w4];exact ⟨rfl,rfl⟩
 have ho:(JE o s).1=⟨o.name,o.key,o.head,o.wanted++[s],o.had⟩:=by rw [w4]
 refine ⟨hok,w5.1,?_,?_,?_,h.mono,?_,?_,?_,?_⟩
 ·
  rw [ho];exact h.nm
 ·
  rw [ho,hx];exact h.at_
 ·
  rw [hx];exact h.len
 ·
  intro p j hj;rw [ho];have:=h.le p j hj;simp;omega
 ·
  intro p j b hj hb
  rw [hx] at hb;rw [ho]
  simp only
  rw [JlF (h.le p j hj)]
  exact h.book p j b hj hb
 ·
  intro j hj
  obtain ⟨q1,q2⟩:=h.wait j hj
  have e3:Zq name (c.queue.wait++[(JE o s).2.1])=Zq name c.queue.wait++[(JE o s).2.1]:=by
   rw [JcK];congr 1;unfold Zq;simp [hn.1,h.nm]
  rw [hx,ho]
  simp only
  rw [e3]
  refine ⟨by simp;omega,fun p a hp=>?_⟩
  by_cases hl:p<(Zq name c.queue.wait).length
  ·
   rw [List.getElem?_append_left hl] at hp
   rw [List.getElem?_append_left (by omega)];exact q2 p a hp
  ·
   rw [List.getElem?_append_right (by omega)] at hp
   have hz:p-(Zq name c.queue.wait).length=0:=by have:=(List.getElem?_eq_some_iff.1 hp).1;simp at this;omega
   rw [hz] at hp
   simp only [List.getElem?_cons_zero,Option.some.injEq] at hp
   subst hp
   rw [List.getElem?_append_right (by omega),show j+p-o.wanted.length=0 by omega,hn.2];rfl
 ·
  rw [ho];exact h.had
theorem Jhm {name:List UInt8} {c:Kw} {o:KP} {J:List Nat} {a:WT} (h:Jb9 name c o J) (ha:(Kk c a).2.2=0) (hn:¬ a.name=name):Jb9 name (Kk c a).1 o J:=by
 have hok:=YQ ha
 obtain ⟨_,hq,_,_,e⟩:=Vd ha
 obtain ⟨_,_,_,e2⟩:=VV hq
 have hx:(Kk c a).1=⟨⟨c.queue.most,c.queue.wait++[a]⟩,c.batch,c.every,c.now,c.heads,c.books⟩:=by rw [e,e2]
 have e3:Zq name (c.queue.wait++[a])=Zq name c.queue.wait:=by rw [JcK];unfold Zq;simp [hn]
 refine ⟨hok,h.own,h.nm,?_,?_,h.mono,h.le,?_,?_,h.had⟩ <;> rw [hx] <;> simp only
 ·
  exact h.at_
 ·
  exact h.len
 ·
  exact h.book
 ·
  rw [e3];exact h.wait
theorem Jip {name:List UInt8} {c:Kw} {o:KP} {J:List Nat} (h:Jb9 name c o J):(J6 c).2.2=0∧∃ J',Jb9 name (J6 c).1 o J':=by
 obtain ⟨t0,t⟩:=YR h.ok
 refine ⟨t0,?_⟩
 have h0:=WJ.2 h.ok
 by_cases h1:WN c=true
 ·
  have e:(J6 c).1=c:=by unfold J6;rw [if_neg (by omega),if_pos h1]
  exact ⟨J,by rw [e];exact h⟩
 by_cases h2:(c.now+1).tmod c.every=0
 ·
  have h1':WN c=false:=by simpa using h1
  obtain ⟨u1,u2⟩:=V8 h.ok
  obtain ⟨b1,b2⟩:=Jc6 h.ok
  have hroot:=YZ (q:=[]) b1 (by simp) (by simp)
  have hrb:(JO (Zc c) []).1<2305843009213693951:=by rw [hroot];exact (VZ _ _).2
  obtain ⟨g1,g2,g3⟩:=Jhl h.ok h1' hrb
  have e:(J6 c).1=⟨⟨c.queue.most,c.queue.wait.drop (QA c.batch c.queue.wait)⟩,c.batch,c.every,c.now+1,c.heads++[(Jy (WA c.heads) (JO (Zc c) []).1 (c.now+1)).1],c.books++[Zc c]⟩:=by
   unfold J6;rw [if_neg (by omega),if_neg (by omega),if_neg (by omega),u2,g2]
  have hlen1:=h.ok.chain.len1
  have hbl:=h.ok.len
  have hJ:J.length-1<J.length:=by rw [h.len];omega
  obtain ⟨j,hj⟩:∃ j,J[J.length-1]? = some j:=⟨_,List.getElem?_eq_getElem hJ⟩
  obtain ⟨q1,q2⟩:=h.wait j hj
  have hm:=@Jbf c.batch c.queue.wait
  generalize hmm:QA c.batch c.queue.wait=m at hm
  have hq:=(K4.1 h.ok.queue).2.2.2
  have hlast:=h.ok.last
  have hone:=Jca (c.queue.wait.take m) (Qx c.books) name (h.ok.book hlast) (fun a ha=>hq a (List.mem_of_mem_take ha)) (Nat.le_trans (V0 fun x hx=>by
   unfold Vq
   rcases List.mem_append.1 hx with q | q
   ·
    simp [q]
   ·
    obtain ⟨z,hz,rfl⟩:=Wu.1 q
    have:z.name∈Qi c.queue.wait:=Wu.2 ⟨z,List.mem_of_mem_take hz,rfl⟩
    simp [this]) h.ok.names)
  have htb:Zc c=Vg (Qx c.books) (c.queue.wait.take m):=by unfold Zc;rw [u2,hmm]
  rw [← htb] at hone
  have hW:Zq name c.queue.wait=Zq name (c.queue.wait.take m)++Zq name (c.queue.wait.drop m):=by rw [← JcK,List.take_append_drop]
  rw [hW] at q1 q2
  rw [List.length_append] at q1
  generalize hA:Zq name (c.queue.wait.take m)=A at q1 q2 hone hW
  generalize hB:Zq name (c.queue.wait.drop m)=B at q1 q2 hW
  generalize hn0:A.length=n at q1
  have hnew:K7 (Zc c) name=Jgc o.wanted (j+n):=by
   rw [hone]
   by_cases hm0:n=0
   ·
    have hAn:A=[]:=List.eq_nil_of_length_eq_zero (by omega)
    rw [hAn,hm0]
    simp only [List.getLast?_nil,Nat.add_zero]
    exact h.book _ j _ (by rw [← h.len] at hlast;exact hj) (by rw [h.len];exact hlast)
   ·
    have hg:A.getLast? = A[n-1]?:=by rw [List.getLast?_eq_getElem?,hn0]
    rw [hg]
    obtain ⟨a,ha⟩:∃ a,A[n-1]? = some a:=⟨_,List.getElem?_eq_getElem (by omega)⟩
    rw [ha]
    have r2:=q2 (n-1) a (by rw [List.getElem?_append_left (by omega)];exact ha)
    unfold Jgc
    rw [if_neg (by omega),show j+n-1=j+(n-1) by omega,r2];rfl
  refine ⟨J++[j+n],t.ok,h.own,h.nm,?_,?_,?_,?_,?_,?_,?_⟩
  ·
   refine ⟨h.at_.1,?_⟩
   rw [e];simp only
   rw [List.getElem?_append_left (List.getElem?_eq_some_iff.1 h.at_.2).1];exact h.at_.2
  ·
   rw [e];simp [h.len]
  ·
   intro p q i k hpq hi hk
   by_cases hq2:q<J.length
   ·
    rw [List.getElem?_append_left hq2] at hk
    rw [List.getElem?_append_left (by omega)] at hi
    exact h.mono p q i k hpq hi hk
   ·
    have hk':k=j+n:=by
     rw [List.getElem?_append_right (by omega)] at hk
     have:=List.mem_of_getElem? hk
     simpa using this
    by_cases hp2:p<J.length
    ·
     rw [List.getElem?_append_left hp2] at hi
     have:=h.mono p (J.length-1) i j (by omega) hi hj
     omega
    ·
     rw [List.getElem?_append_right (by omega)] at hi
     have:=List.mem_of_getElem? hi
     have:i=j+n:=by simpa using this
     omega
  ·
   intro p k hk
   by_cases hp2:p<J.length
   ·
    rw [List.getElem?_append_left hp2] at hk;exact h.le p k hk
   ·
    rw [List.getElem?_append_right (by omega)] at hk
    have:=List.mem_of_getElem? hk
    have:k=j+n:=by simpa using this
    omega
  ·
   intro p k b hk hb
   rw [e] at hb;simp only at hb
   by_cases hp2:p<J.length
   ·
    rw [List.getElem?_append_left hp2] at hk
    rw [List.getElem?_append_left (by rw [← h.len];exact hp2)] at hb
    exact h.book p k b hk hb
   ·
    rw [List.getElem?_append_right (by omega)] at hk
    rw [List.getElem?_append_right (by rw [← h.len];omega)] at hb
    have h3:=List.mem_of_getElem? hk
    have h4:=List.mem_of_getElem? hb
    have h5:k=j+n:=by simpa using h3
    have h6:b=Zc c:=by simpa using h4
    rw [h5,h6];exact hnew
  ·
   intro k hk
   have hk':k=j+n:=by
    rw [List.length_append,List.getElem?_append_right (by simp)] at hk
    have:=List.mem_of_getElem? hk
    simpa using this
   subst hk'
   rw [e];simp only
   rw [hmm,hB]
   refine ⟨by omega,fun p a hp=>?_⟩
   have r2:=q2 (n+p) a (by rw [List.getElem?_append_right (by omega),show n+p-A.length=p by omega];exact hp)
   rw [← r2];congr 1;omega
  ·
   intro k hk
   have hl:o.head.epoch.toNat<J.length:=by rw [h.len,hbl];exact (List.getElem?_eq_some_iff.1 h.at_.2).1
   rw [List.getElem?_append_left hl] at hk
   exact h.had k hk
 ·
  have e:(J6 c).1=⟨c.queue,c.batch,c.every,c.now+1,c.heads,c.books⟩:=by unfold J6;rw [if_neg (by omega),if_neg h1,if_pos h2]
  exact ⟨J,t.ok,h.own,h.nm,by rw [e];exact h.at_,by rw [e];exact h.len,h.mono,h.le,by rw [e];exact h.book,by rw [e];exact h.wait,h.had⟩
theorem Jkk {name:List UInt8} {c:Kw} {o:KP} {J:List Nat} (h:Jb9 name c o J) {a b:Int} (ha0:0≤a) (hab:a≤b) (hb:b<c.heads.length) (hae:a≤o.head.epoch+1) :
  (QK c a b).2=0∧(Kl c name b).2=0∧(Jx o (QK c a b).1 (Kl c name b).1).2.2=0∧(Jx o (QK c a b).1 (Kl c name b).1).2.1≤1∧0≤(Jx o (QK c a b).1 (Kl c name b).1).2.1∧Jb9 name c (Jx o (QK c a b).1 (Kl c name b).1).1 J:=by
 have h0:=WJ.2 h.ok
 have hlE:=h.ok.chain.lastE
 have hf:=h.ok.first
 have hlen:=h.ok.len
 have hcut:=Jaz h.ok.chain hab (by omega) (by omega:b≤(WA c.heads).epoch)
 obtain ⟨k1,k2,k3,k4,k5⟩:=cut_ok h.ok.chain hab (by omega) (by omega:b≤(WA c.heads).epoch)
 have hH:QK c a b=(cut c.heads a b,0):=by unfold QK;rw [if_neg (by omega),hcut]
 obtain ⟨hname,hh0,hw30,hw20,hd0,hd1⟩:=KZ.1 h.own
 rw [h.nm] at hname
 have hbk:(Kb c b).2=0:=by unfold Kb;rw [if_neg (by omega),if_neg (by omega)]
 obtain ⟨_,_,_,hx⟩:=JaB hbk
 have hpm:(Ky (Kb c b).1 name).2=0:=by
  have hp:(Ke name).2=0:=by unfold Ke;rw [if_neg (by rw [hname];simp)]
  unfold Ky
  rw [if_neg (by rw [KJ.2 (h.ok.book hx)];simp),if_neg (by omega)]
 have hL:Kl c name b=(⟨c.heads[b.toNat]?.getD WY,(Ky (Kb c b).1 name).1⟩,0):=by
  unfold Kl;rw [if_neg (by omega),if_neg (by omega)]
 have hL2:(Kl c name b).2=0:=by rw [hL]
 obtain ⟨_,l2,l3,l4⟩:=JlE hL2
 have hbl:b.toNat<c.heads.length:=by omega
 have hhb:c.heads[b.toNat]? = some c.heads[b.toNat]:=List.getElem?_eq_getElem hbl
 have hrh:(Kl c name b).1.head=WA (cut c.heads a b):=by
  have q1:=Jeg h.ok (Jgd (List.mem_of_getElem? k1.last))
  rw [k5] at q1
  rw [hL];simp only
  rw [q1.2];rfl
 have hrn:(Kl c name b).1.proof.name=name:=by
  rw [hL];simp only
  rw [(Ji6 hpm).2.2];rfl
 have hbJ:b.toNat<J.length:=by rw [h.len,hlen];exact hbl
 obtain ⟨j,hj⟩:∃ j,J[b.toNat]? = some j:=⟨_,List.getElem?_eq_getElem hbJ⟩
 have htold:JI (Kl c name b).1=Jgc o.wanted j:=by rw [l2];exact h.book _ _ _ hj hx
 have heJ:o.head.epoch.toNat<J.length:=by rw [h.len,hlen];exact (List.getElem?_eq_some_iff.1 h.at_.2).1
 obtain ⟨e,he⟩:∃ e,J[o.head.epoch.toNat]? = some e:=⟨_,List.getElem?_eq_getElem heJ⟩
 have hade:=h.had e he
 rw [hH]
 simp only
 have hlinks:KR o.head (cut c.heads a b)=if b≤o.head.epoch then 1 else 0:=by
  unfold KR
  rw [if_neg (by rw [KY.2 k1];simp;omega),if_neg,if_neg,k5]
  ·
   rw [List.any_eq_true]
   rintro ⟨x,hxm,hd⟩
   unfold Zp at hd
   simp only [Bool.and_eq_true,decide_eq_true_eq,Bool.not_eq_true',decide_eq_false_iff_not] at hd
   have q:=Jeg h.ok (Jgd hxm)
   rw [hd.1,h.at_.2] at q
   exact hd.2 (Option.some.inj q.2).symm
  ·
   rintro ⟨e1,e2⟩
   have q:=Jeg h.ok (Jgd (List.mem_of_getElem? k1.first))
   rw [e1] at q
   have hk:=h.ok.chain.lnk o.head.epoch.toNat _ _ h.at_.2 (by rw [← q.2];congr 1;have:=h.at_.1;omega)
   have hl:QR [o.head,QW (cut c.heads a b)]<0:=by
    unfold QR
    rw [Jf6]
    intro k x y hx hy
    have hk0:k=0:=by have:=(List.getElem?_eq_some_iff.1 hy).1;simp at this;omega
    subst hk0
    simp at hx hy
    subst hx hy
    exact hk
   unfold Qt at e2
   rw [if_neg (by rw [Qb.2 k1];simp),if_neg (by rw [hh0];simp)] at e2
   simp only [decide_eq_false_iff_not] at e2
   exact e2 hl
 by_cases hbo:b≤o.head.epoch
 ·
  rw [if_pos hbo] at hlinks
  have hv:JH o (cut c.heads a b) (Kl c name b).1=(1,0):=by unfold JH;rw [hlinks,if_pos (by decide)]
  have hs:Jx o (cut c.heads a b) (Kl c name b).1=(o,1,0):=by unfold Jx;rw [if_neg (by rw [h.own];simp),hv,if_neg (by decide)]
  rw [hs]
  exact ⟨trivial,hL2,rfl,by simp,by simp,h⟩
 ·
  rw [if_neg hbo] at hlinks
  have hej:e≤j:=h.mono _ _ _ _ (by have:=h.at_.1;omega) he hj
  have hfine:(JH o (cut c.heads a b) (Kl c name b).1).1=0∧(JH o (cut c.heads a b) (Kl c name b).1).2≤j:=by
   unfold JH
   rw [if_neg (by rw [hlinks];simp),if_neg (by rw [hrh,hrn,h.nm,htold];simp;unfold Jgc;split <;> rfl)]
   rw [htold]
   unfold Jgc
   by_cases hj0:j=0
   ·
    rw [if_pos hj0]
    simp only
    rw [if_neg (by omega),if_pos trivial]
    exact ⟨rfl,by simp⟩
   ·
    rw [if_neg hj0]
    simp only
    rw [if_neg (by simp),if_neg (by simp)]
    have hjl:=h.le _ _ hj
    have hwj:o.wanted[j-1]? = some (o.wanted[j-1]?.getD []):=by
     rw [List.getElem?_eq_getElem (by omega)];rfl
    generalize hv:o.wanted[j-1]?.getD []=v at hwj
    have hfr:Zd o≤j-1∧0≤Zd o:=by unfold Zd;split <;> omega
    have hget:(o.wanted.drop (Zd o).toNat)[j-1-(Zd o).toNat]? = some v:=by
     rw [List.getElem?_drop,show (Zd o).toNat+(j-1-(Zd o).toNat)=j-1 by omega];exact hwj
    have hi:=Jio (p:=fun x=>decide (v=x)) hget (by simp)
    have hid:Vf o v=K9 (fun x=>decide (v=x)) (o.wanted.drop (Zd o).toNat):=rfl
    rw [if_neg (by rw [hid];omega)]
    refine ⟨rfl,?_⟩
    simp only
    rw [hid];omega
  have hs:Jx o (cut c.heads a b) (Kl c name b).1=(⟨o.name,o.key,(Kl c name b).1.head,o.wanted,(JH o (cut c.heads a b) (Kl c name b).1).2⟩,0,0):=by
   unfold Jx;rw [if_neg (by rw [h.own];simp),if_pos hfine.1]
  have hz:(Jx o (cut c.heads a b) (Kl c name b).1).2.2=0:=by rw [hs]
  have hz1:(Jx o (cut c.heads a b) (Kl c name b).1).2.1=0:=by rw [hs]
  have hck:=(Jd7 hz hz1).2.2.2.2.1
  rw [hs] at hck ⊢
  refine ⟨trivial,hL2,rfl,by simp,by simp,⟨h.ok,hck,h.nm,?_,h.len,h.mono,h.le,h.book,h.wait,?_⟩⟩
  ·
   rw [show (KP.mk o.name o.key (Kl c name b).1.head o.wanted (JH o (cut c.heads a b) (Kl c name b).1).2).head=(Kl c name b).1.head from rfl,l4]
   refine ⟨by omega,?_⟩
   rw [hhb,hL];simp only
   rw [hhb];rfl
  ·
   intro i hi
   simp only at hi ⊢
   rw [l4,hj] at hi
   cases hi
   exact hfine.2
end Go.Proofs.YtnnlpbjdignhaaaGreatDoor
