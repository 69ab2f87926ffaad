import Derived.Test.YtnnlpbjdignhaaaGreatDoorTgTownP
namespace Go.Proofs.YtnnlpbjdignhaaaGreatDoor
open Go.Tx
set_option linter.unusedVariables false
set_option linter.unusedSimpArgs false
open Go.Tx Go.Proofs
structure Ext (c d:Kw):Prop where
 ok:Q8 c
 ok2:Q8 d
 heads:∃ m,d.heads=c.heads++m
 books:∃ m,d.books=c.books++m
theorem Ext.refl {c:Kw} (h:Q8 c):Ext c c:=⟨h,h,⟨[],by simp⟩,⟨[],by simp⟩⟩
theorem Ext.trans {c d e:Kw} (h:Ext c d) (h2:Ext d e):Ext c e:=by
 obtain ⟨m,e1⟩:=h.heads;obtain ⟨n,e2⟩:=h2.heads
 obtain ⟨p,e3⟩:=h.books;obtain ⟨q,e4⟩:=h2.books
 exact ⟨h.ok,h2.ok2,⟨m++n,by rw [e2,e1,List.append_assoc]⟩,⟨p++q,by rw [e4,e3,List.append_assoc]⟩⟩
theorem Ext.ask {c:Kw} {a:WU} (h:(Kk c a).2.2=0):Ext c (Kk c a).1:=by
 obtain ⟨ok,_,_,_,e⟩:=YL h
 refine ⟨ok,Ye h,⟨[],?_⟩,⟨[],?_⟩⟩ <;> rw [e] <;> simp
theorem Ext.tick {c:Kw} (h:Q8 c):Ext c (J1 c).1:=by
 obtain ⟨_,t⟩:=Yo h
 exact ⟨h,t.ok,t.heads,t.books⟩
theorem JmT {l m:List JS} {a b:Int} (h1:1≤l.length) (h2:(QX l).epoch=0) (hb:b<l.length):cut (l++m) a b=cut l a b:=by
 have hf:QX (l++m)=QX l:=by unfold QX;rw [List.getElem?_append_left (by omega)]
 unfold cut
 rw [hf,h2,List.take_append_of_le_length (by omega)]
theorem Ext.serve {c d:Kw} (h:Ext c d) {a b:Int} (ha:0≤a) (hab:a≤b) (hb:b<c.heads.length) (name:List UInt8):b<d.heads.length∧QH d a b=QH c a b∧Kl d name b=Kl c name b:=by
 obtain ⟨m,e1⟩:=h.heads;obtain ⟨p,e2⟩:=h.books
 have hl:d.heads.length=c.heads.length+m.length:=by rw [e1];simp
 have c0:=WK.2 h.ok
 have d0:=WK.2 h.ok2
 have hc1:=h.ok.chain.lastE
 have hd1:=h.ok2.chain.lastE
 have hc2:=h.ok.first
 have hd2:=h.ok2.first
 have hc3:=h.ok.chain.len1
 have hc4:=h.ok.len
 have hd4:=h.ok2.len
 refine ⟨by omega,?_,?_⟩
 ·
  unfold QH
  rw [if_neg (by omega),if_neg (by omega),JaH h.ok2.chain hab (by omega) (by omega),JaH h.ok.chain hab (by omega) (by omega),e1,JmT hc3 hc2 hb]
 ·
  have hb1:Kb d b=Kb c b:=by
   unfold Kb
   rw [if_neg (by omega),if_neg (by omega),if_neg (by omega),if_neg (by omega),e2,List.getElem?_append_left (by omega)]
  have hb2:d.heads[b.toNat]? = c.heads[b.toNat]?:=by rw [e1,List.getElem?_append_left (by omega)]
  unfold Kl
  rw [hb1,hb2]
def V7 (c:Kw) (os:List KO) (l:JI):Prop :=
 (l.to_<0→0≤l.from_→∀ o,os[l.from_.toNat]? = some o→l.since≤o.head.epoch+1) ∧
 (0≤l.to_→∀ o,os[l.to_.toNat]? = some o→∃ a b:Int,0≤a∧a≤b∧b<c.heads.length∧a≤o.head.epoch+1∧l.heads=(QH c a b).1∧l.reply=(Kl c o.name b).1)
structure Fwd (t u:JA):Prop where
 ext:Ext t.town.clerk u.town.clerk
 own:∀ (i:Nat) o,u.town.owners[i]? = some o→∃ p,t.town.owners[i]? = some p∧p.name=o.name∧p.head.epoch≤o.head.epoch
theorem V7.fwd {t u:JA} {l:JI} (h:V7 t.town.clerk t.town.owners l) (hf:Fwd t u):V7 u.town.clerk u.town.owners l:=by
 refine ⟨fun h1 h2 o ho=>?_,fun h1 o ho=>?_⟩
 ·
  obtain ⟨p,hp,_,he⟩:=hf.own _ _ ho
  have:=h.1 h1 h2 p hp;omega
 ·
  obtain ⟨p,hp,hn,he⟩:=hf.own _ _ ho
  obtain ⟨a,b,q1,q2,q3,q4,q5,q6⟩:=h.2 h1 p hp
  obtain ⟨r1,r2,r3⟩:=hf.ext.serve q1 q2 q3 o.name
  exact ⟨a,b,q1,q2,r1,by omega,by rw [r2];exact q5,by rw [r3,← hn];exact q6⟩
structure Wi (t:JA):Prop where
 reach:1≤t.reach
 clerk:Q8 t.town.clerk
 own:∀ (i:Nat) o,t.town.owners[i]? = some o→∃ J,Jch o.name t.town.clerk o J
 dist:∀ (i j:Nat) o p,t.town.owners[i]? = some o→t.town.owners[j]? = some p→o.name=p.name→i=j
 way:∀ l∈t.town.net.way,V7 t.town.clerk t.town.owners l
 evs:∀ x∈t.events,x.kind=2→x.n≤1
theorem Fwd.refl {t:JA} (h:Q8 t.town.clerk):Fwd t t:=⟨Ext.refl h,fun _ o ho=>⟨o,ho,rfl,Int.le_refl _⟩⟩
theorem Fwd.trans {t u v:JA} (h:Fwd t u) (h2:Fwd u v):Fwd t v:=by
 refine ⟨h.ext.trans h2.ext,fun i o ho=>?_⟩
 obtain ⟨p,hp,e1,l1⟩:=h2.own i o ho
 obtain ⟨q,hq,e2,l2⟩:=h.own i p hp
 exact ⟨q,hq,e2.trans e1,by omega⟩
def Jjs (l:JI) (k:Int):JI:=⟨l.to_,l.from_,l.since,k,l.heads,l.reply⟩
theorem Jmd {n:Z5} {l x:JI} {f:List Int} (hk:(Kh n l f).2=0) (h:x∈(Kh n l f).1.way):x∈n.way∨∃ k∈f,x=Jjs l (n.now+k):=by
 unfold Kh at h hk
 split at hk
 ·
  contradiction
 split at hk
 ·
  cases hk
 split at hk
 ·
  cases hk
 ·
  rename_i h1 h2 h3
  rw [if_neg h1,if_neg h2,if_neg h3] at h
  simp only [List.mem_append,List.mem_map] at h
  rcases h with h | ⟨k,hk,rfl⟩
  ·
   exact .inl h
  ·
   exact .inr ⟨k,hk,rfl⟩
theorem V7.due {c:Kw} {os:List KO} {l:JI} (h:V7 c os l) (k:Int):V7 c os (Jjs l k):=h
theorem Wi.send {t:JA} {l:JI} (h:Wi t) (hl:V7 t.town.clerk t.town.owners l):Wi (QW t l):=by
 refine ⟨h.reach,h.clerk,h.own,h.dist,fun x hx=>?_,h.evs⟩
 unfold QW at hx
 simp only at hx
 split at hx
 ·
  rename_i hk
  rcases Jmd hk hx with hx | ⟨k,_,rfl⟩
  ·
   exact h.way x hx
  ·
   exact hl.due _
 ·
  exact h.way x hx
theorem Jme {t:JA} (h:Q8 t.town.clerk) (l:JI):Fwd t (QW t l):=⟨Ext.refl h,fun _ o ho=>⟨o,ho,rfl,Int.le_refl _⟩⟩
theorem Jmf {t:JA} (h:Q8 t.town.clerk) (d:Qb):Fwd t (Qo t d):=by
 unfold Qo
 split
 ·
  exact Fwd.refl h
 rename_i h0
 split
 ·
  exact Fwd.refl h
 split
 ·
  exact Fwd.refl h
 ·
  rename_i h1 h2
  simp only [not_or,Bool.not_eq_false] at h1
  have hw:=Decidable.not_not.1 h1.1
  have ha:=Decidable.not_not.1 h2
  have hd:=ZS.1 (by simpa using h0:Wv t d.who=true)
  obtain ⟨w1,w2,w3,w4,w5⟩:=Vt hw
  refine ⟨Ext.ask ha,fun i o ho=>?_⟩
  rcases YC ho with ⟨rfl,rfl,_⟩ | ⟨_,ho⟩
  ·
   exact ⟨_,Yi (k:=d.who) (by omega),by rw [w4],by rw [w4];exact Int.le_refl _⟩
  ·
   exact ⟨o,ho,rfl,Int.le_refl _⟩
theorem Wi.want {t:JA} (h:Wi t) (d:Qb):Wi (Qo t d):=by
 have hf:=Jmf h.clerk d
 by_cases e:Qo t d=t
 ·
  rw [e];exact h
 have hway:∀ l∈(Qo t d).town.net.way,V7 (Qo t d).town.clerk (Qo t d).town.owners l:=by
  have hn:(Qo t d).town.net=t.town.net:=by unfold Qo;(repeat' split) <;> rfl
  intro l hl
  rw [hn] at hl
  exact (h.way l hl).fwd hf
 have hdist:∀ (i j:Nat) o p,(Qo t d).town.owners[i]? = some o→(Qo t d).town.owners[j]? = some p→o.name=p.name→i=j:=by
  intro i j o p ho hp hop
  obtain ⟨o2,ho2,e2,_⟩:=hf.own _ _ ho
  obtain ⟨p2,hp2,e3,_⟩:=hf.own _ _ hp
  exact h.dist i j o2 p2 ho2 hp2 (by rw [e2,e3,hop])
 refine ⟨by rw [(JlS t d).reach];exact h.reach,hf.ext.ok2,?_,hdist,hway,?_⟩
 ·
  unfold Qo at e ⊢
  split at e
  ·
   exact absurd rfl e
  rename_i h0
  rw [if_neg h0]
  split at e
  ·
   exact absurd rfl e
  rename_i h1
  rw [if_neg h1]
  split at e
  ·
   exact absurd rfl e
  rename_i h2
  rw [if_neg h2]
  simp only [not_or,Bool.not_eq_false] at h1
  have hw:=Decidable.not_not.1 h1.1
  have ha:=Decidable.not_not.1 h2
  have hd:=ZS.1 (by simpa using h0:Wv t d.who=true)
  obtain ⟨w1,w2,w3,w4,w5⟩:=Vt hw
  intro i o ho
  have hat:=Yi (t:=t) (k:=d.who) (by omega)
  rcases YC ho with ⟨rfl,rfl,_⟩ | ⟨hne,ho⟩
  ·
   obtain ⟨J,hJ⟩:=h.own _ _ hat
   have hn:(JD (Jm t d.who) d.value).1.name=(Jm t d.who).name:=by rw [w4]
   exact ⟨J,by rw [hn];exact Jkr hJ hw ha⟩
  ·
   obtain ⟨J,hJ⟩:=h.own _ _ ho
   refine ⟨J,Jhv hJ ha fun hnm=>hne ?_⟩
   have hn:(JD (Jm t d.who) d.value).2.1.name=(Jm t d.who).name:=by rw [w4]
   exact h.dist _ _ _ _ hat ho (by rw [← hn,hnm])
 ·
  intro x hx
  have hev:x∈t.events∨x.kind=1:=by
   revert hx
   unfold Qo
   (repeat' split) <;> intro hx
   ·
    exact .inl hx
   ·
    exact .inl hx
   ·
    exact .inl hx
   ·
    rcases List.mem_append.1 hx with hx | hx
    ·
     exact .inl hx
    ·
     simp at hx;rw [hx];exact .inr rfl
  rcases hev with hx | hx
  ·
   exact h.evs x hx
  ·
   intro e2;omega
theorem JkA {o:KO} {l:List JS} {r:WE} (h:J6 o=0):o.head.epoch≤(Jx o l r).1.head.epoch:=by
 by_cases hv:(JH o l r).1=0
 ·
  have e:Jx o l r=(⟨o.name,o.key,r.head,o.wanted,(JH o l r).2⟩,0,0):=by unfold Jx;rw [if_neg (by omega),if_pos hv]
  have h1:(Jx o l r).2.2=0:=by rw [e]
  have h2:(Jx o l r).2.1=0:=by rw [e]
  have:=(Jeg h1 h2).2.2.1;omega
 ·
  have e:Jx o l r=(o,(JH o l r).1,0):=by unfold Jx;rw [if_neg (by omega),if_neg hv]
  rw [e];exact Int.le_refl _
theorem Wi.check {t:JA} (h:Wi t) {i:Nat} {o:KO} (ho:t.town.owners[i]? = some o):J6 o=0:=let ⟨_,hJ⟩:=h.own i o ho;hJ.own
theorem Wi.see {t:JA} {l:JI} (h:Wi t) (hl:V7 t.town.clerk t.town.owners l) (h0:0≤l.to_) (h1:l.to_<t.town.owners.length) :
  Wi (Wx t l)∧Fwd t (Wx t l)∧0≤(Jx (Jm t l.to_) l.heads l.reply).2.1∧(Jx (Jm t l.to_) l.heads l.reply).2.1≤1:=by
 have hat:=Yi (t:=t) (k:=l.to_) (by omega)
 obtain ⟨k1,k2,k3,k4⟩:=Jfx (l:=l.heads) (r:=l.reply) (h.check hat)
 have hf:Fwd t (Wx t l):=by
  refine ⟨Ext.refl h.clerk,fun i o ho=>?_⟩
  rcases YC ho with ⟨rfl,rfl,_⟩ | ⟨_,ho⟩
  ·
   exact ⟨_,hat,k2.symm,JkA (h.check hat)⟩
  ·
   exact ⟨o,ho,rfl,Int.le_refl _⟩
 obtain ⟨a,b,q1,q2,q3,q4,q5,q6⟩:=hl.2 h0 _ hat
 obtain ⟨J,hJ⟩:=h.own _ _ hat
 obtain ⟨_,_,s1,s2,s3,s4⟩:=Jks hJ q1 q2 q3 q4
 rw [← q5,← q6] at s1 s2 s3 s4
 refine ⟨⟨h.reach,h.clerk,fun i o ho=>?_,fun i j o p ho hp hop=>?_,fun x hx=>(h.way x hx).fwd hf,fun x hx=>?_⟩,hf,s3,s2⟩
 ·
  rcases YC ho with ⟨rfl,rfl,_⟩ | ⟨_,ho⟩
  ·
   exact ⟨J,by rw [k2];exact s4⟩
  ·
   exact h.own i o ho
 ·
  obtain ⟨o2,ho2,e2,_⟩:=hf.own _ _ ho
  obtain ⟨p2,hp2,e3,_⟩:=hf.own _ _ hp
  exact h.dist i j o2 p2 ho2 hp2 (by rw [e2,e3,hop])
 ·
  unfold Wx at hx
  simp only at hx
  rcases List.mem_append.1 hx with hx | hx
  ·
   exact h.evs x hx
  ·
   simp at hx;rw [hx];exact fun _=>s2
theorem ans_bd {t:JA} (h:Wi t) (l:JI):0≤Q0 t l∧Q0 t l≤ZA t l∧ZA t l<t.town.clerk.heads.length∧(Q0 t l≤l.since∨Q0 t l=0):=by
 have h1:=h.clerk.chain.len1
 have h2:=h.reach
 unfold ZA Q0 WD minI maxI
 (repeat' split) <;> omega
theorem Wi.answer {t:JA} {l:JI} (h:Wi t) (hl:V7 t.town.clerk t.town.owners l) (h0:l.to_<0):Wi (KC t l)∧Fwd t (KC t l):=by
 unfold KC
 split
 ·
  exact ⟨h,Fwd.refl h.clerk⟩
 ·
  rename_i h1
  have hd:=ZS.1 (by simpa using h1:Wv t l.from_=true)
  have hat:=Yi (t:=t) (k:=l.from_) (by omega)
  refine ⟨h.send ⟨fun q=>?_,fun _ o ho=>?_⟩,Jme h.clerk _⟩
  ·
   simp only at q;omega
  ·
   simp only at ho ⊢
   rw [hat] at ho
   cases ho
   obtain ⟨q1,q2,q3,q4⟩:=ans_bd h l
   have:=hl.1 h0 hd.1 _ hat
   obtain ⟨J,hJ⟩:=h.own _ _ hat
   have:=hJ.at_.1
   exact ⟨Q0 t l,ZA t l,q1,q2,q3,by omega,rfl,rfl⟩
theorem Wi.letter {t:JA} {l:JI} (h:Wi t) (hl:V7 t.town.clerk t.town.owners l) (h1:l.to_<t.town.owners.length):Wi (W9 t l)∧Fwd t (W9 t l):=by
 unfold W9
 split
 ·
  rename_i h0;exact h.answer hl h0
 ·
  obtain ⟨q1,q2,_⟩:=h.see hl (by omega) h1;exact ⟨q1,q2⟩
theorem Wi.letters:∀ (l:List JI) {t:JA},Wi t→(∀ x∈l,x.to_<t.town.owners.length)→(∀ x∈l,V7 t.town.clerk t.town.owners x)→Wi (WL t l)
 | [],_,h,_,_=>h
 | x::l,t,h,hl,hc=>by
  obtain ⟨q1,q2⟩:=h.letter (hc x (by simp)) (hl x (by simp))
  exact Wi.letters l q1 (fun y hy=>by rw [(Jcl t x).own];exact hl y (by simp [hy])) (fun y hy=>(hc y (by simp [hy])).fwd q2)
theorem Wi.ask {t:JA} (h:Wi t) {k:Nat} (hk:k<t.town.owners.length):Wi (Wo t (k:Int)):=by
 have h2:Wi (Vn t (k:Int)):=by
  unfold Vn
  refine Wi.send (t:=⟨⟨t.town.clerk,t.town.owners,t.town.polls.set (k:Int).toNat (Kn (KR t (k:Int)) t.town.clerk.now).1,t.town.net⟩,t.reach,t.fates,t.events⟩) ⟨h.reach,h.clerk,h.own,h.dist,h.way,h.evs⟩ ⟨fun _ _ o ho=>?_,fun q=>?_⟩
  ·
   simp only at ho ⊢
   have hat:=Yi (t:=t) (k:=(k:Int)) (by omega)
   rw [hat] at ho
   cases ho;exact Int.le_refl _
  ·
   simp only at q;omega
 unfold Wo
 split
 ·
  exact h
 split
 ·
  refine ⟨h2.reach,h2.clerk,h2.own,h2.dist,h2.way,fun x hx=>?_⟩
  unfold QP at hx
  simp only at hx
  rcases List.mem_append.1 hx with hx | hx
  ·
   exact h2.evs x hx
  ·
   simp at hx;rw [hx];intro q;simp at q
 ·
  exact h2
theorem Wi.asks {t:JA} (h:Wi t):∀ n,n≤t.town.owners.length→Wi (Jaq t n)
 | 0,_=>h
 | n+1,hn=>by
  rw [← YH]
  exact (Wi.asks h n (by omega)).ask (by rw [(Jet t n).own];omega)
theorem Wi.tick1 {t:JA} (h:Wi t):Wi (ZM t)∧Fwd t (ZM t):=by
 have hf:Fwd t (ZM t):=⟨Ext.tick h.clerk,fun _ o ho=>⟨o,ho,rfl,Int.le_refl _⟩⟩
 refine ⟨⟨h.reach,(Yo h.clerk).2.ok,fun i o ho=>?_,h.dist,fun x hx=>(h.way x (Jdm hx)).fwd hf,h.evs⟩,hf⟩
 obtain ⟨J,hJ⟩:=h.own i o ho
 exact (Jix hJ).2
theorem Wi.tick {t:JA} (h:Wi t) (hw:Wa t):Wi (Q6 t):=by
 unfold Q6
 split
 ·
  exact h
 ·
  obtain ⟨h1,hf⟩:=h.tick1
  exact (Wi.letters _ h1 (fun x hx=>hw x (VT hx)) (fun x hx=>(h.way x (VT hx)).fwd hf)).asks _ (Nat.le_refl _)
theorem Wi.doing {t:JA} (h:Wi t) (hw:Wa t) {d:Qb} (hd:¬ d.kind=3):Wi (ZD t d):=by
 unfold ZD
 split
 ·
  exact h.want d
 split
 ·
  exact ⟨h.reach,h.clerk,h.own,h.dist,h.way,h.evs⟩
 try rw [if_neg hd]
 split
 ·
  exact h.tick hw
 ·
  exact h
theorem JiF {s:KK} (h:Qm s=0):Wi (Qd s):=by
 obtain ⟨b1,b2,b3,b4,b5,b6,b7⟩:=Jar h
 obtain ⟨c1,c2,c3,c4,c5⟩:=YY b4
 have hf:JE (QX (JO s.most s.batch s.every).1.heads)=0:=c1.chain.ok _ (List.mem_of_getElem? c1.chain.first)
 refine ⟨b6,c1,fun i o ho=>?_,fun i j o p ho hp hop=>?_,by intro l hl;simp [Qd] at hl,by intro x hx;simp [Qd] at hx⟩
 ·
  obtain ⟨q1,q2,q3,q4,q5,q6⟩:=Vy hf b3 ho
  refine ⟨[0],⟨c1,q1,rfl,?_,?_,?_,?_,?_,?_,?_⟩⟩
  ·
   rw [q4,c1.first];exact ⟨Int.le_refl _,c1.chain.first⟩
  ·
   show [0].length=(JO s.most s.batch s.every).1.books.length;rw [c3];rfl
  ·
   intro p q i j hpq hi hj
   have a1:=(List.getElem?_eq_some_iff.1 hi).1;have a2:=(List.getElem?_eq_some_iff.1 hj).1
   simp only [List.length_cons,List.length_nil] at a1 a2
   obtain rfl:p=0:=by omega
   obtain rfl:q=0:=by omega
   rw [hi] at hj;cases hj;exact Nat.le_refl _
  ·
   intro p j hj
   have a1:=(List.getElem?_eq_some_iff.1 hj).1
   simp only [List.length_cons,List.length_nil] at a1
   obtain rfl:p=0:=by omega
   simp at hj;omega
  ·
   intro p j b hj hbk
   have a1:=(List.getElem?_eq_some_iff.1 hj).1
   simp only [List.length_cons,List.length_nil] at a1
   obtain rfl:p=0:=by omega
   replace hbk:(JO s.most s.batch s.every).1.books[0]? = some b:=hbk
   rw [c3] at hbk
   simp at hj hbk
   subst hj hbk
   exact VO ⟨by simp,by simp,by simp⟩ (K0.1 q1).1 (by simp)
  ·
   intro j hj
   simp at hj
   subst hj
   show 0+(Zs o.name (JO s.most s.batch s.every).1.queue.wait).length=o.wanted.length∧∀ (p:Nat) a,(Zs o.name (JO s.most s.batch s.every).1.queue.wait)[p]? = some a→o.wanted[0+p]? = some a.value
   rw [c4,q5];simp [Zs]
  ·
   intro j _;rw [q6];simp
 ·
  obtain ⟨_,q2,_⟩:=Vy hf b3 ho
  obtain ⟨_,r2,_⟩:=Vy hf b3 hp
  have hd:=(Jgr _ _ b3).2.1
  rw [hop] at q2
  have hi:=(List.getElem?_eq_some_iff.1 q2);have hj:=(List.getElem?_eq_some_iff.1 r2)
  have hpw:=List.pairwise_iff_getElem.1 hd
  rcases Nat.lt_trichotomy i j with q | q | q
  ·
   exact absurd (hi.2.trans hj.2.symm) (hpw i j hi.1 hj.1 q)
  ·
   exact q
  ·
   exact absurd (hj.2.trans hi.2.symm) (hpw j i hj.1 hi.1 q)
def Jbi (p:QF):Bool:=decide (p.asked=0)
def Jmg (now:Int) (way P:List JI) (k:Int) (p:QF):Prop :=
 (∃ l∈way,l.to_<0∧l.from_=k∧now+3≤p.next)∨(∃ l∈way,l.to_=k∧now+2≤p.next) ∨
 (∃ l∈P,l.to_<0∧l.from_=k∧now+2≤p.next)∨(∃ l∈P,l.to_=k)
structure WZ (N:Int) (t:JA) (P:List JI):Prop where
 lim:t.town.clerk.now≤N
 clerk:Q8 t.town.clerk
 fates:t.fates=[]
 due:∀ l∈t.town.net.way,l.due=t.town.net.now+1
 now:t.town.net.now=t.town.clerk.now
 net:K1 t.town.net=0
 ok:∀ (k:Nat) p,t.town.polls[k]? = some p→Yf p∧3≤p.least∧2≤p.lost
 inv:∀ (k:Nat) p,t.town.polls[k]? = some p→p.asked=0∨p.asked=1∧Jmg t.town.clerk.now t.town.net.way P (k:Int) p
 len:t.town.polls.length=t.town.owners.length
 cnt:t.town.net.way.length+P.length+t.town.polls.countP Jbi≤4
 ev:∀ x∈t.events,¬ x.kind=3
theorem Jbj {n:Z5} (hn:K1 n=0) (hl:n.way.length<60) (l:JI):Kh n l [1]=(⟨n.now,n.way++[Jer l (n.now+1)]⟩,0):=by
 unfold Kh
 rw [if_neg (by simpa using hn),if_neg (by unfold YB;simp),if_neg (by simp;omega)]
 rfl
theorem JfB {t:JA} (hf:t.fates=[]) (hn:K1 t.town.net=0) (hl:t.town.net.way.length<60) (l:JI):QW t l=⟨⟨t.town.clerk,t.town.owners,t.town.polls,⟨t.town.net.now,t.town.net.way++[Jer l (t.town.net.now+1)]⟩⟩,t.reach,[],t.events⟩:=by
 rw [Jiy (by rw [hf];simp),Jbj hn hl,hf];rfl
theorem WZ.answer {N:Int} {t:JA} {l:JI} {P:List JI} (h:WZ N t (l::P)) (h0:l.to_<0):WZ N (KC t l) P:=by
 have hc:=h.cnt
 simp only [List.length_cons] at hc
 unfold KC
 split
 ·
  rename_i h1
  refine ⟨h.lim,h.clerk,h.fates,h.due,h.now,h.net,h.ok,fun k p hp=>?_,h.len,by omega,h.ev⟩
  have hk:k<t.town.owners.length:=by rw [← h.len];exact (List.getElem?_eq_some_iff.1 hp).1
  have hno:¬ (0≤l.from_∧l.from_<t.town.owners.length):=fun q=>by rw [ZS.2 q] at h1;cases h1
  refine (h.inv k p hp).imp id fun ⟨q,c⟩=>⟨q,?_⟩
  rcases c with c | c | ⟨x,hx,c1,c2,c3⟩ | ⟨x,hx,c⟩
  ·
   exact .inl c
  ·
   exact .inr (.inl c)
  ·
   rcases List.mem_cons.1 hx with rfl | hx
   ·
    exact absurd ⟨by omega,by omega⟩ hno
   ·
    exact .inr (.inr (.inl ⟨x,hx,c1,c2,c3⟩))
  ·
   rcases List.mem_cons.1 hx with rfl | hx
   ·
    omega
   ·
    exact .inr (.inr (.inr ⟨x,hx,c⟩))
 ·
  rename_i h1
  rw [JfB h.fates h.net (by omega)]
  have hs:=ZZ (n:=t.town.net) (l:=⟨l.from_,0,0,0,(QH t.town.clerk (Q0 t l) (ZA t l)).1,(Kl t.town.clerk (Jm t l.from_).name (ZA t l)).1⟩) (f:=[1]) (by rw [Jbj h.net (by omega)])
  rw [Jbj h.net (by omega)] at hs
  refine ⟨h.lim,h.clerk,rfl,fun x hx=>?_,h.now,hs.1,h.ok,fun k p hp=>?_,h.len,by simp only [List.length_append,List.length_cons,List.length_nil];omega,h.ev⟩
  ·
   rcases List.mem_append.1 hx with hx | hx
   ·
    exact h.due x hx
   ·
    simp at hx;rw [hx];rfl
  ·
   refine (h.inv k p hp).imp id fun ⟨q,c⟩=>⟨q,?_⟩
   rcases c with ⟨x,hx,c⟩ | ⟨x,hx,c⟩ | ⟨x,hx,c1,c2,c3⟩ | ⟨x,hx,c⟩
   ·
    exact .inl ⟨x,List.mem_append_left _ hx,c⟩
   ·
    exact .inr (.inl ⟨x,List.mem_append_left _ hx,c⟩)
   ·
    rcases List.mem_cons.1 hx with rfl | hx
    ·
     exact .inr (.inl ⟨_,List.mem_append_right _ (List.mem_singleton.2 rfl),c2,c3⟩)
    ·
     exact .inr (.inr (.inl ⟨x,hx,c1,c2,c3⟩))
   ·
    rcases List.mem_cons.1 hx with rfl | hx
    ·
     omega
    ·
     exact .inr (.inr (.inr ⟨x,hx,c⟩))
theorem Jmh {p:QF} {now:Int} (h:Yf p) (h1:0≤now) (h2:now≤1000000000):Qn p now=(⟨p.least,p.most,p.lost,p.least,if KV now p.least<p.next then KV now p.least else p.next,0⟩,0):=by
 unfold Qn
 rw [if_neg (by rw [(JaM p now).2 ⟨h,h1,h2⟩];simp)]
theorem Jjt {l:List QF} {k:Nat} {p q:QF} (h:l[k]? = some p):(l.set k q).countP Jbi+(if Jbi p then 1 else 0)=l.countP Jbi+(if Jbi q then 1 else 0):=by
 induction l generalizing k with
 | nil=>simp at h
 | cons a l ih =>
  cases k with
  | zero =>
   simp at h;subst h
   simp only [List.set_cons_zero,List.countP_cons];omega
  | succ k =>
   simp at h
   have:=ih h
   simp only [List.set_cons_succ,List.countP_cons];omega
theorem WZ.see {N:Int} {t:JA} {l:JI} {P:List JI} (h:WZ N t (l::P)) (h0:0≤l.to_) (h1:l.to_<t.town.owners.length) (hv0:0≤(Jx (Jm t l.to_) l.heads l.reply).2.1) (hv1:(Jx (Jm t l.to_) l.heads l.reply).2.1≤1):WZ N (Wx t l) P:=by
 have hc:=h.cnt
 simp only [List.length_cons] at hc
 have hat:=JbV (t:=t) (k:=l.to_) (by rw [h.len];omega)
 have hn:=h.clerk.now
 obtain ⟨ok1,ok2,ok3⟩:=h.ok _ _ hat
 have he:=Jmh ok1 hn.1 hn.2
 have hpl:(Wx t l).town.polls=t.town.polls.set l.to_.toNat (Qn (KR t l.to_) t.town.clerk.now).1:=by
  unfold Wx;simp only;rw [if_pos (by omega)]
 have hck:=Jbe ((Wu _).2 ok1) hn.1 hn.2
 have hcs:=Jjt (q:=(Qn (KR t l.to_) t.town.clerk.now).1) hat
 refine ⟨h.lim,h.clerk,h.fates,h.due,h.now,h.net,fun k p hp=>?_,fun k p hp=>?_,?_,?_,fun x hx=>?_⟩
 ·
  rw [hpl] at hp
  rcases YC hp with ⟨_,rfl,_⟩ | ⟨_,hp⟩
  ·
   refine ⟨(Wu _).1 hck,?_,?_⟩ <;> rw [he]
   ·
    exact ok2
   ·
    exact ok3
  ·
   exact h.ok k p hp
 ·
  rw [hpl] at hp
  rcases YC hp with ⟨_,rfl,_⟩ | ⟨hne,hp⟩
  ·
   exact .inl (by rw [he])
  ·
   refine (h.inv k p hp).imp id fun ⟨q,c⟩=>⟨q,?_⟩
   rcases c with c | c | ⟨x,hx,c1,c2,c3⟩ | ⟨x,hx,c⟩
   ·
    exact .inl c
   ·
    exact .inr (.inl c)
   ·
    rcases List.mem_cons.1 hx with rfl | hx
    ·
     omega
    ·
     exact .inr (.inr (.inl ⟨x,hx,c1,c2,c3⟩))
   ·
    rcases List.mem_cons.1 hx with rfl | hx
    ·
     omega
    ·
     exact .inr (.inr (.inr ⟨x,hx,c⟩))
 ·
  rw [hpl];simp only [List.length_set];rw [(g_see t l).own];exact h.len
 ·
  rw [hpl]
  show t.town.net.way.length+P.length+_≤4
  have:∀ b:Bool,(if b then 1 else 0:Nat)≤1:=by intro b;cases b <;> simp
  have:=this (Jbi (Qn (KR t l.to_) t.town.clerk.now).1)
  omega
 ·
  unfold Wx at hx
  simp only at hx
  rcases List.mem_append.1 hx with hx | hx
  ·
   exact h.ev x hx
  ·
   simp at hx;rw [hx];simp
theorem WZ.letters {N:Int}:∀ (l:List JI) {t:JA},WZ N t l→Wi t→(∀ x∈l,x.to_<t.town.owners.length)→(∀ x∈l,V7 t.town.clerk t.town.owners x)→WZ N (WL t l) []
 | [],_,h,_,_,_=>h
 | x::l,t,h,hc,hl,hm=>by
  obtain ⟨q1,q2⟩:=hc.letter (hm x (by simp)) (hl x (by simp))
  have h2:WZ N (W9 t x) l:=by
   unfold W9
   split
   ·
    rename_i h0;exact h.answer h0
   ·
    obtain ⟨_,_,v0,v1⟩:=hc.see (hm x (by simp)) (by omega) (hl x (by simp))
    exact h.see (by omega) (hl x (by simp)) v0 v1
  exact WZ.letters l h2 q1 (fun y hy=>by rw [(Jcl t x).own];exact hl y (by simp [hy])) (fun y hy=>(hm y (by simp [hy])).fwd q2)
theorem WZ.ask {N:Int} {t:JA} (h:WZ N t []) (hN:N≤1000000) {k:Nat} (hk:k<t.town.owners.length):WZ N (Wo t (k:Int)) []:=by
 unfold Wo
 split
 ·
  exact h
 rename_i h1
 have h1:=Decidable.not_not.1 h1
 have hat:=JbV (t:=t) (k:=(k:Int)) (by rw [h.len];omega)
 obtain ⟨ok1,ok2,ok3⟩:=h.ok _ _ hat
 obtain ⟨s1,s2,s3,s4,s5,s6,s7,s8,s9,s10,s11,s12,s13,s14,s15,s16,s17,s18,s19,s20,s21⟩:=Jbc h1
 have hl:=h.lim
 have hcnt:=h.cnt
 have ha:(KR t (k:Int)).asked=0:=by
  rcases h.inv _ _ hat with q | ⟨_,c⟩
  ·
   exact q
  ·
   rcases c with ⟨x,_,_,_,c⟩ | ⟨x,_,_,c⟩ | ⟨x,hx,_⟩ | ⟨x,hx,_⟩
   ·
    omega
   ·
    omega
   ·
    cases hx
   ·
    cases hx
 have hnx:(Kn (KR t (k:Int)) t.town.clerk.now).1.next=t.town.clerk.now+(KR t (k:Int)).gap:=by omega
 rw [if_neg (by rintro ⟨q,_⟩;have:=(Jgq _).1 q;omega)]
 have hcs:=Jjt (q:=(Kn (KR t (k:Int)) t.town.clerk.now).1) hat
 have hq1:Jbi (KR t (k:Int))=true:=by unfold Jbi;simp [ha]
 have hq2:Jbi (Kn (KR t (k:Int)) t.town.clerk.now).1=false:=by unfold Jbi;simp;omega
 rw [hq1,hq2] at hcs
 simp at hcs
 unfold Vn
 rw [JfB (t:=⟨⟨t.town.clerk,t.town.owners,t.town.polls.set (k:Int).toNat (Kn (KR t (k:Int)) t.town.clerk.now).1,t.town.net⟩,t.reach,t.fates,t.events⟩) h.fates h.net (by simp only [List.length_nil] at hcnt ⊢;omega)]
 have hs:=ZZ (n:=t.town.net) (l:=⟨-1,(k:Int),(Jm t (k:Int)).head.epoch+1,0,[],JbT⟩) (f:=[1]) (by rw [Jbj h.net (by omega)])
 rw [Jbj h.net (by omega)] at hs
 refine ⟨h.lim,h.clerk,rfl,fun x hx=>?_,h.now,hs.1,fun i p hp=>?_,fun i p hp=>?_,by simp only [List.length_set];exact h.len,?_,h.ev⟩
 ·
  rcases List.mem_append.1 hx with hx | hx
  ·
   exact h.due x hx
  ·
   simp at hx;rw [hx];rfl
 ·
  rcases YC hp with ⟨_,rfl,_⟩ | ⟨_,hp⟩
  ·
   exact ⟨(Wu _).1 s15,by omega,by omega⟩
  ·
   exact h.ok i p hp
 ·
  rcases YC hp with ⟨hi,rfl,_⟩ | ⟨_,hp⟩
  ·
   refine .inr ⟨by omega,.inl ⟨_,List.mem_append_right _ (List.mem_singleton.2 rfl),by simp [Jer],?_,by simp only;omega⟩⟩
   simp only [Jer];omega
  ·
   refine (h.inv i p hp).imp id fun ⟨q,c⟩=>⟨q,?_⟩
   rcases c with ⟨x,hx,c⟩ | ⟨x,hx,c⟩ | ⟨x,hx,_⟩ | ⟨x,hx,_⟩
   ·
    exact .inl ⟨x,List.mem_append_left _ hx,c⟩
   ·
    exact .inr (.inl ⟨x,List.mem_append_left _ hx,c⟩)
   ·
    cases hx
   ·
    cases hx
 ·
  simp only [List.length_append,List.length_cons,List.length_nil] at hcnt ⊢
  simp only [Int.toNat_natCast]
  omega
theorem WZ.asks {N:Int} {t:JA} (h:WZ N t []) (hN:N≤1000000):∀ n,n≤t.town.owners.length→WZ N (Jaq t n) []
 | 0,_=>h
 | n+1,hn=>by
  rw [← YH]
  exact (WZ.asks h hN n (by omega)).ask hN (by rw [(Jet t n).own];omega)
theorem WZ.tick {N:Int} {t:JA} (h:WZ N t []) (hN:N+1≤1000000) (hc:Wi t) (hw:Wa t):WZ (N+1) (Q6 t) []:=by
 have up:WZ (N+1) t []:=⟨by have:=h.lim;omega,h.clerk,h.fates,h.due,h.now,h.net,h.ok,h.inv,h.len,h.cnt,h.ev⟩
 unfold Q6
 split
 ·
  exact up
 ·
  rename_i h1
  have hl:=h.lim
  have hn0:=h.now
  have hn:=h.clerk.now
  have hnn:(J1 t.town.clerk).1.now=t.town.clerk.now+1:=by
   rcases Jaf h.clerk with q | q
   ·
    exact absurd q.1 h1
   ·
    exact q.2
  obtain ⟨hc1,hf⟩:=hc.tick1
  have ht:JR t.town.net=(⟨t.town.net.now+1,[]⟩,t.town.net.way,0):=by
   unfold JR
   rw [if_neg (by simpa using h.net),if_neg (by omega)]
   have e1:(t.town.net.way.filter fun l=>!decide (l.due=t.town.net.now+1))=[]:=by
    rw [List.filter_eq_nil_iff];intro x hx;simp [h.due x hx]
   have e2:(t.town.net.way.filter fun l=>decide (l.due=t.town.net.now+1))=t.town.net.way:=by
    rw [List.filter_eq_self];intro x hx;simp [h.due x hx]
   rw [e1,e2]
  have hr:=Jah h.net (by omega)
  have h2:WZ (N+1) (ZM t) (JR t.town.net).2.1:=by
   refine ⟨?_,(Yo h.clerk).2.ok,h.fates,?_,?_,hr.1,h.ok,fun k p hp=>?_,h.len,?_,h.ev⟩
   ·
    show (J1 t.town.clerk).1.now≤N+1;omega
   ·
    intro x hx
    replace hx:x∈(JR t.town.net).1.way:=hx
    rw [ht] at hx;cases hx
   ·
    show (JR t.town.net).1.now=(J1 t.town.clerk).1.now
    rw [hr.2];omega
   ·
    refine (h.inv k p hp).imp id fun ⟨q,c⟩=>⟨q,?_⟩
    show Jmg (J1 t.town.clerk).1.now (JR t.town.net).1.way (JR t.town.net).2.1 (k:Int) p
    rw [ht,hnn]
    rcases c with ⟨x,hx,c1,c2,c3⟩ | ⟨x,hx,c1,c2⟩ | ⟨x,hx,_⟩ | ⟨x,hx,_⟩
    ·
     exact .inr (.inr (.inl ⟨x,hx,c1,c2,by omega⟩))
    ·
     exact .inr (.inr (.inr ⟨x,hx,c1⟩))
    ·
     cases hx
    ·
     cases hx
   ·
    show (JR t.town.net).1.way.length+(JR t.town.net).2.1.length+_≤4
    have:=h.cnt
    rw [ht];simp only [List.length_nil,ZM] at this ⊢;omega
  exact (h2.letters _ hc1 (fun x hx=>hw x (VT hx)) (fun x hx=>(hc.way x (VT hx)).fwd hf)).asks hN _ (Nat.le_refl _)
theorem WZ.want {N:Int} {t:JA} (h:WZ N t []) (d:Qb):WZ N (Qo t d) []:=by
 unfold Qo
 split
 ·
  exact h
 split
 ·
  exact h
 split
 ·
  exact h
 ·
  rename_i h1 h2
  have ha:=Decidable.not_not.1 h2
  have hnow:(Kk t.town.clerk (JD (Jm t d.who) d.value).2.1).1.now=t.town.clerk.now:=by rw [(YL ha).2.2.2.2]
  refine ⟨by simp only;rw [hnow];exact h.lim,Ye ha,h.fates,h.due,by simp only;rw [hnow];exact h.now,h.net,h.ok,by simp only;rw [hnow];exact h.inv,by simp only [List.length_set];exact h.len,h.cnt,fun x hx=>?_⟩
  rcases List.mem_append.1 hx with hx | hx
  ·
   exact h.ev x hx
  ·
   simp at hx;rw [hx];simp
theorem WZ.doing {N:Int} {t:JA} (h:WZ N t []) (hN:N+1≤1000000) (hc:Wi t) (hw:Wa t) {d:Qb} (hd:¬ d.kind=3) (hd2:¬ d.kind=2):WZ (N+1) (ZD t d) []:=by
 have up:∀ {u:JA},WZ N u []→WZ (N+1) u []:=fun h=>⟨by have:=h.lim;omega,h.clerk,h.fates,h.due,h.now,h.net,h.ok,h.inv,h.len,h.cnt,h.ev⟩
 unfold ZD
 split
 ·
  exact up (h.want d)
 try rw [if_neg hd2]
 try rw [if_neg hd]
 split
 ·
  exact h.tick hN hc hw
 ·
  exact up h
theorem WZ.doings:∀ (l:List Qb) {N:Int} {t:JA},WZ N t []→N+l.length≤1000000→Wi t→Wa t→(∀ d∈l,¬ d.kind=3∧¬ d.kind=2)→∀ x∈(JaS t l).events,¬ x.kind=3
 | [],_,_,h,_,_,_,_=>h.ev
 | d::l,N,t,h,hN,hc,hw,hd=>by
  simp only [List.length_cons] at hN
  obtain ⟨d1,d2⟩:=hd d (by simp)
  exact WZ.doings l (h.doing (by omega) hc hw d1 d2) (by omega) (hc.doing hw d1) (w_do hw d) (fun x hx=>hd x (by simp [hx]))
theorem Jmi {s:KK} {l:List Qb} (h:(K6 s l).2.2=0) (hl:∀ d∈l,¬ d.kind=3∧¬ d.kind=2) (h3:3≤s.least) (h2:2≤s.lost):∀ x∈(K6 s l).2.1,¬ x.kind=3:=by
 obtain ⟨h1,hlen,hp⟩:=JmN h
 rw [hp]
 obtain ⟨b1,b2,b3,b4⟩:=Jdn h1
 obtain ⟨e1,e2,e3,e4,e5,e6,e7⟩:=Jar h1
 obtain ⟨c1,c2,c3,c4,c5⟩:=YY e4
 obtain ⟨q1,q2⟩:=JbU e5
 have hrep:∀ (k:Nat) p,(Qd s).town.polls[k]? = some p→p=(KH s.least s.top s.lost).1:=fun k p hp=>(List.mem_replicate.1 (List.mem_of_getElem? hp)).2
 refine WZ.doings l (N:=0) (t:=Qd s) ⟨Int.le_of_eq c2,c1,rfl,by intro l hl;simp [Qd] at hl,b1.now,b1.net,fun k p hp=>?_,fun k p hp=>?_,by rw [b3,b4],?_,by intro x hx;simp [Qd] at hx⟩ (by omega) (JiF h1) b2 hl
 ·
  rw [hrep k p hp,q2];exact ⟨q1,h3,h2⟩
 ·
  left;rw [hrep k p hp,q2]
 ·
  have:=List.countP_le_length (p:=Jbi) (l:=(Qd s).town.polls)
  show ([]:List JI).length+([]:List JI).length+_≤4
  rw [b4] at this
  simp only [List.length_nil];omega
end Go.Proofs.YtnnlpbjdignhaaaGreatDoor
