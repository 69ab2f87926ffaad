import Derived.Test.YtnnlpbjdignhaaaGreatDoorTcTownP
namespace Go.Proofs.YtnnlpbjdignhaaaGreatDoor
open Go.Tx
set_option linter.unusedVariables false
set_option linter.unusedSimpArgs false
open Go.Tx Go.Proofs
structure Ext (c d:Kw):Prop where
 ok:Wb c
 ok2:Wb d
 heads:∃ m,d.heads=c.heads++m
 books:∃ m,d.books=c.books++m
theorem Ext.refl {c:Kw} (h:Wb c):Ext c c:=⟨h,h,⟨[],by simp⟩,⟨[],by simp⟩⟩
theorem Ext.trans {c d e:Kw} (h:Ext c d) (h2:Ext d e):Ext c e:=by
 obtain ⟨m,e1⟩:=h.heads;obtain ⟨n,e2⟩:=h2.heads
 obtain ⟨p,e3⟩:=h.books;obtain ⟨q,e4⟩:=h2.books
 exact ⟨h.ok,h2.ok2,⟨m++n,by rw [e2,e1,List.append_assoc]⟩,⟨p++q,by rw [e4,e3,List.append_assoc]⟩⟩
theorem Ext.ask {c:Kw} {a:WT} (h:(Kk c a).2.2=0):Ext c (Kk c a).1:=by
 obtain ⟨ok,_,_,_,e⟩:=Vd h
 refine ⟨ok,YQ h,⟨[],?_⟩,⟨[],?_⟩⟩ <;> rw [e] <;> simp
theorem Ext.tick {c:Kw} (h:Wb c):Ext c (J6 c).1:=by
 obtain ⟨_,t⟩:=YR h
 exact ⟨h,t.ok,t.heads,t.books⟩
theorem JmL {l m:List JR} {a b:Int} (h1:1≤l.length) (h2:(QW l).epoch=0) (hb:b<l.length):cut (l++m) a b=cut l a b:=by
 have hf:QW (l++m)=QW l:=by unfold QW;rw [List.getElem?_append_left (by omega)]
 unfold cut
 rw [hf,h2,List.take_append_of_le_length (by omega)]
theorem Ext.serve {c d:Kw} (h:Ext c d) {a b:Int} (ha:0≤a) (hab:a≤b) (hb:b<c.heads.length) (name:List UInt8):b<d.heads.length∧QK d a b=QK c a b∧Kl d name b=Kl c name b:=by
 obtain ⟨m,e1⟩:=h.heads;obtain ⟨p,e2⟩:=h.books
 have hl:d.heads.length=c.heads.length+m.length:=by rw [e1];simp
 have c0:=WJ.2 h.ok
 have d0:=WJ.2 h.ok2
 have hc1:=h.ok.chain.lastE
 have hd1:=h.ok2.chain.lastE
 have hc2:=h.ok.first
 have hd2:=h.ok2.first
 have hc3:=h.ok.chain.len1
 have hc4:=h.ok.len
 have hd4:=h.ok2.len
 refine ⟨by omega,?_,?_⟩
 ·
  unfold QK
  rw [if_neg (by omega),if_neg (by omega),Jaz h.ok2.chain hab (by omega) (by omega),Jaz h.ok.chain hab (by omega) (by omega),e1,JmL hc3 hc2 hb]
 ·
  have hb1:Kb d b=Kb c b:=by
   unfold Kb
   rw [if_neg (by omega),if_neg (by omega),if_neg (by omega),if_neg (by omega),e2,List.getElem?_append_left (by omega)]
  have hb2:d.heads[b.toNat]? = c.heads[b.toNat]?:=by rw [e1,List.getElem?_append_left (by omega)]
  unfold Kl
  rw [hb1,hb2]
def Jak (c:Kw) (os:List KP) (l:JP):Prop :=
 (l.to_<0→0≤l.from_→∀ o,os[l.from_.toNat]? = some o→l.since≤o.head.epoch+1) ∧
 (0≤l.to_→∀ o,os[l.to_.toNat]? = some o→∃ a b:Int,0≤a∧a≤b∧b<c.heads.length∧a≤o.head.epoch+1∧l.heads=(QK c a b).1∧l.reply=(Kl c o.name b).1)
structure Fwd (t u:JC):Prop where
 ext:Ext t.town.clerk u.town.clerk
 own:∀ (i:Nat) o,u.town.owners[i]? = some o→∃ p,t.town.owners[i]? = some p∧p.name=o.name∧p.head.epoch≤o.head.epoch
theorem Jak.fwd {t u:JC} {l:JP} (h:Jak t.town.clerk t.town.owners l) (hf:Fwd t u):Jak u.town.clerk u.town.owners l:=by
 refine ⟨fun h1 h2 o ho=>?_,fun h1 o ho=>?_⟩
 ·
  obtain ⟨p,hp,_,he⟩:=hf.own _ _ ho
  have:=h.1 h1 h2 p hp;omega
 ·
  obtain ⟨p,hp,hn,he⟩:=hf.own _ _ ho
  obtain ⟨a,b,q1,q2,q3,q4,q5,q6⟩:=h.2 h1 p hp
  obtain ⟨r1,r2,r3⟩:=hf.ext.serve q1 q2 q3 o.name
  exact ⟨a,b,q1,q2,r1,by omega,by rw [r2];exact q5,by rw [r3,← hn];exact q6⟩
structure Wg (t:JC):Prop where
 reach:1≤t.reach
 clerk:Wb t.town.clerk
 own:∀ (i:Nat) o,t.town.owners[i]? = some o→∃ J,Jb9 o.name t.town.clerk o J
 dist:∀ (i j:Nat) o p,t.town.owners[i]? = some o→t.town.owners[j]? = some p→o.name=p.name→i=j
 way:∀ l∈t.town.net.way,Jak t.town.clerk t.town.owners l
 evs:∀ x∈t.events,x.kind=2→x.n≤1
theorem Fwd.refl {t:JC} (h:Wb t.town.clerk):Fwd t t:=⟨Ext.refl h,fun _ o ho=>⟨o,ho,rfl,Int.le_refl _⟩⟩
theorem Fwd.trans {t u v:JC} (h:Fwd t u) (h2:Fwd u v):Fwd t v:=by
 refine ⟨h.ext.trans h2.ext,fun i o ho=>?_⟩
 obtain ⟨p,hp,e1,l1⟩:=h2.own i o ho
 obtain ⟨q,hq,e2,l2⟩:=h.own i p hp
 exact ⟨q,hq,e2.trans e1,by omega⟩
def Jjl (l:JP) (k:Int):JP:=⟨l.to_,l.from_,l.since,k,l.heads,l.reply⟩
theorem Jl6 {n:Yh} {l x:JP} {f:List Int} (hk:(Kj n l f).2=0) (h:x∈(Kj n l f).1.way):x∈n.way∨∃ k∈f,x=Jjl l (n.now+k):=by
 unfold Kj at h hk
 split at hk
 ·
  contradiction
 split at hk
 ·
  cases hk
 split at hk
 ·
  cases hk
 ·
  rename_i h1 h2 h3
  rw [if_neg h1,if_neg h2,if_neg h3] at h
  simp only [List.mem_append,List.mem_map] at h
  rcases h with h | ⟨k,hk,rfl⟩
  ·
   exact .inl h
  ·
   exact .inr ⟨k,hk,rfl⟩
theorem Jak.due {c:Kw} {os:List KP} {l:JP} (h:Jak c os l) (k:Int):Jak c os (Jjl l k):=h
theorem Wg.send {t:JC} {l:JP} (h:Wg t) (hl:Jak t.town.clerk t.town.owners l):Wg (QX t l):=by
 refine ⟨h.reach,h.clerk,h.own,h.dist,fun x hx=>?_,h.evs⟩
 unfold QX at hx
 simp only at hx
 split at hx
 ·
  rename_i hk
  rcases Jl6 hk hx with hx | ⟨k,_,rfl⟩
  ·
   exact h.way x hx
  ·
   exact hl.due _
 ·
  exact h.way x hx
theorem Jl7 {t:JC} (h:Wb t.town.clerk) (l:JP):Fwd t (QX t l):=⟨Ext.refl h,fun _ o ho=>⟨o,ho,rfl,Int.le_refl _⟩⟩
theorem Jl8 {t:JC} (h:Wb t.town.clerk) (d:Qd):Fwd t (Qp t d):=by
 unfold Qp
 split
 ·
  exact Fwd.refl h
 rename_i h0
 split
 ·
  exact Fwd.refl h
 split
 ·
  exact Fwd.refl h
 ·
  rename_i h1 h2
  simp only [not_or,Bool.not_eq_false] at h1
  have hw:=Decidable.not_not.1 h1.1
  have ha:=Decidable.not_not.1 h2
  have hd:=Yc.1 (by simpa using h0:Wt t d.who=true)
  obtain ⟨w1,w2,w3,w4,w5⟩:=Vo hw
  refine ⟨Ext.ask ha,fun i o ho=>?_⟩
  rcases V1 ho with ⟨rfl,rfl,_⟩ | ⟨_,ho⟩
  ·
   exact ⟨_,Yd (k:=d.who) (by omega),by rw [w4],by rw [w4];exact Int.le_refl _⟩
  ·
   exact ⟨o,ho,rfl,Int.le_refl _⟩
theorem Wg.want {t:JC} (h:Wg t) (d:Qd):Wg (Qp t d):=by
 have hf:=Jl8 h.clerk d
 by_cases e:Qp t d=t
 ·
  rw [e];exact h
 have hway:∀ l∈(Qp t d).town.net.way,Jak (Qp t d).town.clerk (Qp t d).town.owners l:=by
  have hn:(Qp t d).town.net=t.town.net:=by unfold Qp;(repeat' split) <;> rfl
  intro l hl
  rw [hn] at hl
  exact (h.way l hl).fwd hf
 have hdist:∀ (i j:Nat) o p,(Qp t d).town.owners[i]? = some o→(Qp t d).town.owners[j]? = some p→o.name=p.name→i=j:=by
  intro i j o p ho hp hop
  obtain ⟨o2,ho2,e2,_⟩:=hf.own _ _ ho
  obtain ⟨p2,hp2,e3,_⟩:=hf.own _ _ hp
  exact h.dist i j o2 p2 ho2 hp2 (by rw [e2,e3,hop])
 refine ⟨by rw [(JlL t d).reach];exact h.reach,hf.ext.ok2,?_,hdist,hway,?_⟩
 ·
  unfold Qp at e ⊢
  split at e
  ·
   exact absurd rfl e
  rename_i h0
  rw [if_neg h0]
  split at e
  ·
   exact absurd rfl e
  rename_i h1
  rw [if_neg h1]
  split at e
  ·
   exact absurd rfl e
  rename_i h2
  rw [if_neg h2]
  simp only [not_or,Bool.not_eq_false] at h1
  have hw:=Decidable.not_not.1 h1.1
  have ha:=Decidable.not_not.1 h2
  have hd:=Yc.1 (by simpa using h0:Wt t d.who=true)
  obtain ⟨w1,w2,w3,w4,w5⟩:=Vo hw
  intro i o ho
  have hat:=Yd (t:=t) (k:=d.who) (by omega)
  rcases V1 ho with ⟨rfl,rfl,_⟩ | ⟨hne,ho⟩
  ·
   obtain ⟨J,hJ⟩:=h.own _ _ hat
   have hn:(JE (Jn t d.who) d.value).1.name=(Jn t d.who).name:=by rw [w4]
   exact ⟨J,by rw [hn];exact Jkj hJ hw ha⟩
  ·
   obtain ⟨J,hJ⟩:=h.own _ _ ho
   refine ⟨J,Jhm hJ ha fun hnm=>hne ?_⟩
   have hn:(JE (Jn t d.who) d.value).2.1.name=(Jn t d.who).name:=by rw [w4]
   exact h.dist _ _ _ _ hat ho (by rw [← hn,hnm])
 ·
  intro x hx
  have hev:x∈t.events∨x.kind=1:=by
   revert hx
   unfold Qp
   (repeat' split) <;> intro hx
   ·
    exact .inl hx
   ·
    exact .inl hx
   ·
    exact .inl hx
   ·
    rcases List.mem_append.1 hx with hx | hx
    ·
     exact .inl hx
    ·
     simp at hx;rw [hx];exact .inr rfl
  rcases hev with hx | hx
  ·
   exact h.evs x hx
  ·
   intro e2;omega
theorem Jks {o:KP} {l:List JR} {r:WC} (h:J5 o=0):o.head.epoch≤(Jx o l r).1.head.epoch:=by
 by_cases hv:(JH o l r).1=0
 ·
  have e:Jx o l r=(⟨o.name,o.key,r.head,o.wanted,(JH o l r).2⟩,0,0):=by unfold Jx;rw [if_neg (by omega),if_pos hv]
  have h1:(Jx o l r).2.2=0:=by rw [e]
  have h2:(Jx o l r).2.1=0:=by rw [e]
  have:=(Jd7 h1 h2).2.2.1;omega
 ·
  have e:Jx o l r=(o,(JH o l r).1,0):=by unfold Jx;rw [if_neg (by omega),if_neg hv]
  rw [e];exact Int.le_refl _
theorem Wg.check {t:JC} (h:Wg t) {i:Nat} {o:KP} (ho:t.town.owners[i]? = some o):J5 o=0:=let ⟨_,hJ⟩:=h.own i o ho;hJ.own
theorem Wg.see {t:JC} {l:JP} (h:Wg t) (hl:Jak t.town.clerk t.town.owners l) (h0:0≤l.to_) (h1:l.to_<t.town.owners.length) :
  Wg (WE t l)∧Fwd t (WE t l)∧0≤(Jx (Jn t l.to_) l.heads l.reply).2.1∧(Jx (Jn t l.to_) l.heads l.reply).2.1≤1:=by
 have hat:=Yd (t:=t) (k:=l.to_) (by omega)
 obtain ⟨k1,k2,k3,k4⟩:=Jfp (l:=l.heads) (r:=l.reply) (h.check hat)
 have hf:Fwd t (WE t l):=by
  refine ⟨Ext.refl h.clerk,fun i o ho=>?_⟩
  rcases V1 ho with ⟨rfl,rfl,_⟩ | ⟨_,ho⟩
  ·
   exact ⟨_,hat,k2.symm,Jks (h.check hat)⟩
  ·
   exact ⟨o,ho,rfl,Int.le_refl _⟩
 obtain ⟨a,b,q1,q2,q3,q4,q5,q6⟩:=hl.2 h0 _ hat
 obtain ⟨J,hJ⟩:=h.own _ _ hat
 obtain ⟨_,_,s1,s2,s3,s4⟩:=Jkk hJ q1 q2 q3 q4
 rw [← q5,← q6] at s1 s2 s3 s4
 refine ⟨⟨h.reach,h.clerk,fun i o ho=>?_,fun i j o p ho hp hop=>?_,fun x hx=>(h.way x hx).fwd hf,fun x hx=>?_⟩,hf,s3,s2⟩
 ·
  rcases V1 ho with ⟨rfl,rfl,_⟩ | ⟨_,ho⟩
  ·
   exact ⟨J,by rw [k2];exact s4⟩
  ·
   exact h.own i o ho
 ·
  obtain ⟨o2,ho2,e2,_⟩:=hf.own _ _ ho
  obtain ⟨p2,hp2,e3,_⟩:=hf.own _ _ hp
  exact h.dist i j o2 p2 ho2 hp2 (by rw [e2,e3,hop])
 ·
  unfold WE at hx
  simp only at hx
  rcases List.mem_append.1 hx with hx | hx
  ·
   exact h.evs x hx
  ·
   simp at hx;rw [hx];exact fun _=>s2
theorem ans_bd {t:JC} (h:Wg t) (l:JP):0≤Q2 t l∧Q2 t l≤ZN t l∧ZN t l<t.town.clerk.heads.length∧(Q2 t l≤l.since∨Q2 t l=0):=by
 have h1:=h.clerk.chain.len1
 have h2:=h.reach
 unfold ZN Q2 WB minI maxI
 (repeat' split) <;> omega
theorem Wg.answer {t:JC} {l:JP} (h:Wg t) (hl:Jak t.town.clerk t.town.owners l) (h0:l.to_<0):Wg (KF t l)∧Fwd t (KF t l):=by
 unfold KF
 split
 ·
  exact ⟨h,Fwd.refl h.clerk⟩
 ·
  rename_i h1
  have hd:=Yc.1 (by simpa using h1:Wt t l.from_=true)
  have hat:=Yd (t:=t) (k:=l.from_) (by omega)
  refine ⟨h.send ⟨fun q=>?_,fun _ o ho=>?_⟩,Jl7 h.clerk _⟩
  ·
   simp only at q;omega
  ·
   simp only at ho ⊢
   rw [hat] at ho
   cases ho
   obtain ⟨q1,q2,q3,q4⟩:=ans_bd h l
   have:=hl.1 h0 hd.1 _ hat
   obtain ⟨J,hJ⟩:=h.own _ _ hat
   have:=hJ.at_.1
   exact ⟨Q2 t l,ZN t l,q1,q2,q3,by omega,rfl,rfl⟩
theorem Wg.letter {t:JC} {l:JP} (h:Wg t) (hl:Jak t.town.clerk t.town.owners l) (h1:l.to_<t.town.owners.length):Wg (Zr t l)∧Fwd t (Zr t l):=by
 unfold Zr
 split
 ·
  rename_i h0;exact h.answer hl h0
 ·
  obtain ⟨q1,q2,_⟩:=h.see hl (by omega) h1;exact ⟨q1,q2⟩
theorem Wg.letters:∀ (l:List JP) {t:JC},Wg t→(∀ x∈l,x.to_<t.town.owners.length)→(∀ x∈l,Jak t.town.clerk t.town.owners x)→Wg (WP t l)
 | [],_,h,_,_=>h
 | x::l,t,h,hl,hc=>by
  obtain ⟨q1,q2⟩:=h.letter (hc x (by simp)) (hl x (by simp))
  exact Wg.letters l q1 (fun y hy=>by rw [(Jek t x).own];exact hl y (by simp [hy])) (fun y hy=>(hc y (by simp [hy])).fwd q2)
theorem Wg.ask {t:JC} (h:Wg t) {k:Nat} (hk:k<t.town.owners.length):Wg (Wv t (k:Int)):=by
 have h2:Wg (VO t (k:Int)):=by
  unfold VO
  refine Wg.send (t:=⟨⟨t.town.clerk,t.town.owners,t.town.polls.set (k:Int).toNat (Kr (K8 t (k:Int)) t.town.clerk.now).1,t.town.net⟩,t.reach,t.fates,t.events⟩) ⟨h.reach,h.clerk,h.own,h.dist,h.way,h.evs⟩ ⟨fun _ _ o ho=>?_,fun q=>?_⟩
  ·
   simp only at ho ⊢
   have hat:=Yd (t:=t) (k:=(k:Int)) (by omega)
   rw [hat] at ho
   cases ho;exact Int.le_refl _
  ·
   simp only at q;omega
 unfold Wv
 split
 ·
  exact h
 split
 ·
  refine ⟨h2.reach,h2.clerk,h2.own,h2.dist,h2.way,fun x hx=>?_⟩
  unfold QN at hx
  simp only at hx
  rcases List.mem_append.1 hx with hx | hx
  ·
   exact h2.evs x hx
  ·
   simp at hx;rw [hx];intro q;simp at q
 ·
  exact h2
theorem Wg.asks {t:JC} (h:Wg t):∀ n,n≤t.town.owners.length→Wg (JaK t n)
 | 0,_=>h
 | n+1,hn=>by
  rw [← Y4]
  exact (Wg.asks h n (by omega)).ask (by rw [(Jgh t n).own];omega)
theorem Wg.tick1 {t:JC} (h:Wg t):Wg (ZY t)∧Fwd t (ZY t):=by
 have hf:Fwd t (ZY t):=⟨Ext.tick h.clerk,fun _ o ho=>⟨o,ho,rfl,Int.le_refl _⟩⟩
 refine ⟨⟨h.reach,(YR h.clerk).2.ok,fun i o ho=>?_,h.dist,fun x hx=>(h.way x (Jde hx)).fwd hf,h.evs⟩,hf⟩
 obtain ⟨J,hJ⟩:=h.own i o ho
 exact (Jip hJ).2
theorem Wg.tick {t:JC} (h:Wg t) (hw:Wj t):Wg (Q8 t):=by
 unfold Q8
 split
 ·
  exact h
 ·
  obtain ⟨h1,hf⟩:=h.tick1
  exact (Wg.letters _ h1 (fun x hx=>hw x (Ja6 hx)) (fun x hx=>(h.way x (Ja6 hx)).fwd hf)).asks _ (Nat.le_refl _)
theorem Wg.doing {t:JC} (h:Wg t) (hw:Wj t) {d:Qd} (hd:¬ d.kind=3):Wg (ZJ t d):=by
 unfold ZJ
 split
 ·
  exact h.want d
 split
 ·
  exact ⟨h.reach,h.clerk,h.own,h.dist,h.way,h.evs⟩
 try rw [if_neg hd]
 split
 ·
  exact h.tick hw
 ·
  exact h
theorem Wg.doings:∀ (l:List Qd) {t:JC},Wg t→Wj t→(∀ d∈l,¬ d.kind=3)→Wg (JaL t l)
 | [],_,h,_,_=>h
 | d::l,t,h,hw,hd=>Wg.doings l (h.doing hw (hd d (by simp))) (w_do hw d) (fun x hx=>hd x (by simp [hx]))
theorem Jix {s:KI} (h:Ql s=0):Wg (Qq s):=by
 obtain ⟨b1,b2,b3,b4,b5,b6,b7⟩:=Jbi h
 obtain ⟨c1,c2,c3,c4,c5⟩:=VP b4
 have hf:JD (QW (JN s.most s.batch s.every).1.heads)=0:=c1.chain.ok _ (List.mem_of_getElem? c1.chain.first)
 refine ⟨b6,c1,fun i o ho=>?_,fun i j o p ho hp hop=>?_,by intro l hl;simp [Qq] at hl,by intro x hx;simp [Qq] at hx⟩
 ·
  obtain ⟨q1,q2,q3,q4,q5,q6⟩:=Vt hf b3 ho
  refine ⟨[0],⟨c1,q1,rfl,?_,?_,?_,?_,?_,?_,?_⟩⟩
  ·
   rw [q4,c1.first];exact ⟨Int.le_refl _,c1.chain.first⟩
  ·
   show [0].length=(JN s.most s.batch s.every).1.books.length;rw [c3];rfl
  ·
   intro p q i j hpq hi hj
   have a1:=(List.getElem?_eq_some_iff.1 hi).1;have a2:=(List.getElem?_eq_some_iff.1 hj).1
   simp only [List.length_cons,List.length_nil] at a1 a2
   obtain rfl:p=0:=by omega
   obtain rfl:q=0:=by omega
   rw [hi] at hj;cases hj;exact Nat.le_refl _
  ·
   intro p j hj
   have a1:=(List.getElem?_eq_some_iff.1 hj).1
   simp only [List.length_cons,List.length_nil] at a1
   obtain rfl:p=0:=by omega
   simp at hj;omega
  ·
   intro p j b hj hbk
   have a1:=(List.getElem?_eq_some_iff.1 hj).1
   simp only [List.length_cons,List.length_nil] at a1
   obtain rfl:p=0:=by omega
   replace hbk:(JN s.most s.batch s.every).1.books[0]? = some b:=hbk
   rw [c3] at hbk
   simp at hj hbk
   subst hj hbk
   exact VJ ⟨by simp,by simp,by simp⟩ (KZ.1 q1).1 (by simp)
  ·
   intro j hj
   simp at hj
   subst hj
   show 0+(Zq o.name (JN s.most s.batch s.every).1.queue.wait).length=o.wanted.length∧∀ (p:Nat) a,(Zq o.name (JN s.most s.batch s.every).1.queue.wait)[p]? = some a→o.wanted[0+p]? = some a.value
   rw [c4,q5];simp [Zq]
  ·
   intro j _;rw [q6];simp
 ·
  obtain ⟨_,q2,_⟩:=Vt hf b3 ho
  obtain ⟨_,r2,_⟩:=Vt hf b3 hp
  have hd:=(Jgi _ _ b3).2.1
  rw [hop] at q2
  have hi:=(List.getElem?_eq_some_iff.1 q2);have hj:=(List.getElem?_eq_some_iff.1 r2)
  have hpw:=List.pairwise_iff_getElem.1 hd
  rcases Nat.lt_trichotomy i j with q | q | q
  ·
   exact absurd (hi.2.trans hj.2.symm) (hpw i j hi.1 hj.1 q)
  ·
   exact q
  ·
   exact absurd (hj.2.trans hi.2.symm) (hpw j i hj.1 hi.1 q)
theorem Jl9 {s:KI} {l:List Qd} (h:(Kz s l).2.2=0) (hl:∀ d∈l,¬ d.kind=3):∀ x∈(Kz s l).2.1,x.kind=2→x.n≤1:=by
 obtain ⟨h1,h2,h3⟩:=JmF h
 rw [h3]
 exact ((Jix h1).doings l (Jdg h1).2.1 hl).evs
end Go.Proofs.YtnnlpbjdignhaaaGreatDoor
