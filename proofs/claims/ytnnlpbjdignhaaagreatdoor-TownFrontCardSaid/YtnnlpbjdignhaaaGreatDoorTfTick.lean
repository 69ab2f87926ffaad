import Derived.Test.YtnnlpbjdignhaaaGreatDoorTfClerk
namespace Go.Proofs.YtnnlpbjdignhaaaGreatDoor
open Go.Tx
set_option linter.unusedVariables false
set_option linter.unusedSimpArgs false
open Go.Tx Go.Proofs
theorem JkL {α:Type} {x b:List α} {i:Nat} {v:α} (h:x.take i=b.take i) (hi:i<x.length) (hv:b[i]? = some v):(x.set i v).take (i+1)=b.take (i+1):=by
 rw [List.take_add_one,List.take_set_of_le (Nat.le_refl _),h,List.take_add_one,hv,List.getElem?_set_self hi]
theorem JhD {α:Type} {x b:List α} {i:Nat} (hl:x.length=b.length) (h:x.take i=b.take i) (hi:b.length≤i):x=b:=by
 rw [List.take_of_length_le (by omega),List.take_of_length_le hi] at h;exact h
def WS (c:KF):Bool:=decide ((c.heads.length:Int)=40) || decide (c.now=1000000000)
def Ku (c:KF) (a:W6):KF×Int×Int:=if ¬ J7 c=0 then (Zo,0,J7 c) else if ¬ (JB c.queue a).2.2=0∧¬ (JB c.queue a).2.2=7 then (Zo,0,(JB c.queue a).2.2) else if WS c=true then (Zo,0,9) else if (JB c.queue a).2.2=7∨Wx c [a.name] > 24 then (Zo,0,7) else (⟨(JB c.queue a).1,c.batch,c.every,c.now,c.heads,c.books⟩,c.now-c.now.tmod c.every+(K6 (JB c.queue a).2.1 c.batch c.every).1,0)
def Jaa (b:List J1) (l:List W6):List J1:=l.foldl (fun b a=>(K5 b a.name a.value).1) b
theorem JgB {b:List J1} {l:List W6} {i:Nat} {a:W6} (h:l[i]? = some a):(K5 (Jaa b (l.take i)) a.name a.value).1=Jaa b (l.take (i+1)):=by
 unfold Jaa;rw [List.take_add_one,h];simp [List.foldl_append]
def YX (c:KF):List J1:=Jaa (Qu c.books) (JH c.queue c.batch).2.1
def Kc (c:KF):KF×Bool×Int:=if ¬ J7 c=0 then (Zo,false,J7 c) else if WS c=true then (c,false,0) else if ¬ (c.now+1).tmod c.every=0 then (⟨c.queue,c.batch,c.every,c.now+1,c.heads,c.books⟩,false,0) else (⟨(JH c.queue c.batch).1,c.batch,c.every,c.now+1,(K8 c.heads (JQ (YX c) []).1 (c.now+1)).1,c.books++[YX c]⟩,true,0)
theorem JgC {b:List J1} (h:W9 b):(K2 b).Nodup:=by
 unfold K2
 refine List.pairwise_map.2 (h.pair.imp fun {x y} hxy e=>?_)
 rw [ZP.2 e] at hxy;omega
theorem Jab {b:List J1} {s:List UInt8}:s∈K2 b ↔ ∃ x∈b,x.name=s:=by unfold K2;simp
theorem Zh {b:List W6} {s:List UInt8}:s∈QG b ↔ ∃ x∈b,x.name=s:=by unfold QG;simp
theorem JgD {b:List J1} {name value:List UInt8} (h:W9 b) (hr:Kz name value=0) (hf:name∈K2 b∨b.length<24):(K5 b name value).2=0:=by
 have hp:=(JkG hr).2.2
 have e1:Jr b name=((bsF b name QR).1,(bsF b name QR).2,0):=by
  unfold Jr;rw [if_neg (by rw [K7.2 h];simp),if_neg (by rw [hp];simp)]
 have e2:WN b name value=0:=by
  unfold WN
  rw [e1,if_neg (by simp),if_neg (by rw [hr];simp),if_neg]
  rintro ⟨q1,q2⟩
  rcases hf with hf | hf
  ·
   have:=(Jkg h name).2 (Jab.1 hf)
   rw [this] at q1;cases q1
  ·
   omega
 unfold K5
 rw [if_neg (by omega)]
theorem JeQ {b:List J1} {name value:List UInt8} (h:(K5 b name value).2=0) {s:List UInt8}:s∈K2 (K5 b name value).1 ↔ s=name∨s∈K2 b:=by
 obtain ⟨_,_,_,q⟩:=Jbi h
 rw [Jab,Jab]
 constructor
 ·
  rintro ⟨x,hx,rfl⟩
  rcases (q x).1 hx with e | ⟨e,_⟩
  ·
   exact .inl (by rw [e])
  ·
   exact .inr ⟨x,e,rfl⟩
 ·
  rintro (rfl | ⟨x,hx,rfl⟩)
  ·
   exact ⟨_,(q _).2 (.inl rfl),rfl⟩
  ·
   by_cases e:x.name=name
   ·
    exact ⟨_,(q _).2 (.inl rfl),e.symm⟩
   ·
    exact ⟨x,(q x).2 (.inr ⟨hx,e⟩),rfl⟩
theorem Jjs {a:W6} (h:Kr a=0):Kz a.name a.value=0:=h
theorem JeR:∀ (l:List W6) (b:List J1),W9 b→(∀ a∈l,Kr a=0)→nn (K2 b++QG l)≤24 →
  W9 (Jaa b l)∧(∀ s,s∈K2 (Jaa b l) ↔ s∈K2 b∨s∈QG l)
 | [],b,h,_,_=>⟨h,fun s=>by simp [Jaa,QG]⟩
 | a::l,b,h,hr,hn=>by
  have ha:=Jjs (hr a (by simp))
  have hf:a.name∈K2 b∨b.length<24:=by
   by_cases e:a.name∈K2 b
   ·
    exact .inl e
   ·
    right
    have h1:(a.name::K2 b).Nodup:=List.nodup_cons.2 ⟨e,JgC h⟩
    have h2:=JkH h1
    have h3:nn (a.name::K2 b)≤nn (K2 b++QG (a::l)):=JbJ fun x hx=>by
     rcases List.mem_cons.1 hx with rfl | hx
     ·
      exact List.mem_append.2 (.inr (Zh.2 ⟨a,by simp,rfl⟩))
     ·
      exact List.mem_append.2 (.inl hx)
    simp only [List.length_cons] at h2
    have:(K2 b).length=b.length:=by simp [K2]
    omega
  have hs:=JgD h ha hf
  have hok:=(Jbi hs).2.2.1
  have hmem:∀ s,s∈K2 (K5 b a.name a.value).1++QG l→s∈K2 b++QG (a::l):=fun s hs'=>by
   rcases List.mem_append.1 hs' with q | q
   ·
    rcases (JeQ hs).1 q with rfl | q
    ·
     exact List.mem_append.2 (.inr (Zh.2 ⟨a,by simp,rfl⟩))
    ·
     exact List.mem_append.2 (.inl q)
   ·
    exact List.mem_append.2 (.inr (by simp only [QG,List.map_cons,List.mem_cons];exact .inr q))
  obtain ⟨q1,q2⟩:=JeR l _ hok (fun x hx=>hr x (by simp [hx])) (Nat.le_trans (JbJ hmem) hn)
  refine ⟨q1,fun s=>?_⟩
  show s∈K2 (Jaa (K5 b a.name a.value).1 l) ↔ _
  rw [q2 s,JeQ hs]
  simp only [QG,List.map_cons,List.mem_cons]
  constructor
  ·
   rintro ((h | h) | h)
   ·
    exact .inr (.inl h)
   ·
    exact .inl h
   ·
    exact .inr (.inr h)
  ·
   rintro (h | h | h)
   ·
    exact .inl (.inr h)
   ·
    exact .inl (.inl h)
   ·
    exact .inr h
theorem WR.last {c:KF} (h:WR c):c.books[c.books.length-1]? = some (Qu c.books):=by
 have:=h.len;have:=h.chain.len1
 have hl:c.books.length-1<c.books.length:=by omega
 unfold Qu;rw [List.getElem?_eq_getElem hl];rfl
theorem WR.book {c:KF} (h:WR c) {k:Nat} {x:List J1} (hx:c.books[k]? = some x):W9 x:=(Jbk (h.root k x hx).1).1
theorem WR.bds {c:KF} (h:WR c):0<c.books.length∧c.books.length≤1000∧(Qu c.books).length≤1000∧c.queue.wait.length≤1000∧1≤c.heads.length∧c.heads.length≤40:=by
 have h1:=K0.1 h.queue
 have:=h.len;have:=h.chain.len1;have:=h.chain.len
 have:=(h.book h.last).len
 omega
theorem ZL {c:KF} (h:J7 c=0):(0<c.books.length∧c.books.length≤1000∧(Qu c.books).length≤1000∧c.queue.wait.length≤1000∧1≤c.heads.length∧c.heads.length≤40)∧(0≤c.now∧c.now≤1000000000)∧(1≤c.batch∧c.batch≤30)∧1≤c.every∧c.every≤1000 :=
 let q:=Z2.1 h
 ⟨q.bds,q.now,q.batch,q.every⟩
theorem JcF {c:KF} {a:W6} (h:(Ku c a).2.2=0):WR c∧(JB c.queue a).2.2=0∧WS c=false∧nn (VH c [a.name])≤24∧Ku c a=(⟨(JB c.queue a).1,c.batch,c.every,c.now,c.heads,c.books⟩,c.now-c.now.tmod c.every+(K6 (JB c.queue a).2.1 c.batch c.every).1,0):=by
 unfold Ku at h ⊢
 split at h
 ·
  contradiction
 split at h
 ·
  rename_i h1 h2;exact absurd h h2.1
 split at h
 ·
  cases h
 split at h
 ·
  cases h
 ·
  rename_i h1 h2 h3 h4
  rw [if_neg h1,if_neg h2,if_neg h3,if_neg h4]
  simp only [not_or] at h4
  have h5:=h4.2;unfold Wx at h5
  exact ⟨Z2.1 (Decidable.not_not.1 h1),by apply Decidable.byContradiction;intro hc;exact h2 ⟨hc,h4.1⟩,by simpa using h3,by omega,rfl⟩
theorem JdL {c:KF} {a:W6} (h:(Ku c a).2.2=0):WR (Ku c a).1:=by
 obtain ⟨ok,hq,_,hn,e⟩:=JcF h
 rw [e]
 obtain ⟨_,_,_,e2⟩:=Jcy hq
 refine ⟨Jdv hq,ok.batch,ok.every,ok.now,ok.chain,ok.first,ok.len,ok.at_,ok.root,?_⟩
 refine Nat.le_trans (JbJ fun x hx=>?_) hn
 unfold VH at hx ⊢
 rw [e2] at hx
 simp only [QG,List.map_append,List.map_cons,List.map_nil,List.mem_append,List.mem_singleton,List.not_mem_nil,or_false] at hx ⊢
 rcases hx with h | h | h
 ·
  exact .inl (.inl h)
 ·
  exact .inl (.inr h)
 ·
  exact .inr h
theorem JkM {c:KF} (h:WR c) (hc:WS c=false) {r:Int} (hr:r<2305843009213693951):(K8 c.heads r (c.now+1)).2=0∧K8 c.heads r (c.now+1)=(c.heads++[(Jx (WQ c.heads) r (c.now+1)).1],0)∧(Jx (WQ c.heads) r (c.now+1)).2=0:=by
 unfold WS at hc
 simp only [Bool.or_eq_false_iff,decide_eq_false_iff_not] at hc
 have hn:=h.now
 have he:(Jx (WQ c.heads) r (c.now+1)).2=0:=by
  have hk:JD (WQ c.heads)=0:=h.chain.ok _ (List.mem_of_getElem? h.chain.last)
  have hl:=h.chain.lastE
  have hf:=h.first
  have hlen:=h.chain.len
  have ha:=h.at_
  have hb:=Jf7 (WQ c.heads)
  have hb2:=WY hk
  unfold Jx
  have:ZO (WQ c.heads) r (c.now+1)=0:=by
   unfold ZO
   rw [if_neg (by omega),if_neg (by omega),if_neg (by omega)]
   unfold JD
   simp only
   rw [if_neg (by omega),if_neg (by omega)]
  rw [if_neg (by omega)]
 have hg:Zn c.heads r (c.now+1)=0:=by
  unfold Zn
  rw [if_neg (by rw [Qg.2 h.chain];simp),if_neg (by exact_mod_cast hc.1),he]
 refine ⟨?_,?_,he⟩ <;> (unfold K8;rw [if_neg (by omega)])
theorem Jeh (l:List JU) (r t:Int):(K8 l r t).1.length≤40:=by
 by_cases h:(K8 l r t).2=0
 ·
  obtain ⟨_,h2,_,h4⟩:=JbE h
  rw [h4];simp;omega
 ·
  rw [Jd6 h];simp
theorem Ja2 {c:KF} (h:WR c):(JH c.queue c.batch).2.2=0∧JH c.queue c.batch=((⟨c.queue.most,c.queue.wait.drop (Qz c.batch c.queue.wait)⟩:QF),c.queue.wait.take (Qz c.batch c.queue.wait),(0:Int)):=by
 have hq:=h.queue;have hb:=h.batch
 constructor <;> (unfold JH;rw [if_neg (by omega),if_neg (by omega)])
theorem JgE {c:KF} (h:WR c):W9 (YX c)∧(∀ s,s∈K2 (YX c) ↔ s∈K2 (Qu c.books)∨s∈QG (c.queue.wait.take (Qz c.batch c.queue.wait))):=by
 unfold YX
 rw [(Ja2 h).2]
 refine JeR _ _ (h.book h.last) (fun a ha=>(K0.1 h.queue).2.2.2 a (List.mem_of_mem_take ha)) (Nat.le_trans (JbJ fun x hx=>?_) h.names)
 unfold VH
 rcases List.mem_append.1 hx with q | q
 ·
  simp [q]
 ·
  obtain ⟨a,ha,rfl⟩:=Zh.1 q
  have:a.name∈QG c.queue.wait:=Zh.2 ⟨a,List.mem_of_mem_take ha,rfl⟩
  simp [this]
theorem JhE (l:List (List J1)) (x:List J1):Qu (l++[x])=x:=by unfold Qu;simp
theorem JhF {l:List JU} (h:1≤l.length) (m:List JU):Wm (l++m)=Wm l:=by
 unfold Wm;rw [List.getElem?_append_left (by omega)]
theorem JhG (l:List JU) (x:JU):WQ (l++[x])=x:=by unfold WQ;simp
structure Ticked (c d:KF):Prop where
 ok:WR d
 batch:d.batch=c.batch
 every:d.every=c.every
 heads:∃ m,d.heads=c.heads++m
 books:∃ m,d.books=c.books++m
theorem JbL {c:KF} (h:WR c):(Kc c).2.2=0∧Ticked c (Kc c).1:=by
 have h0:=Z2.2 h
 unfold Kc
 rw [if_neg (by omega)]
 by_cases h1:WS c=true
 ·
  rw [if_pos h1];exact ⟨rfl,h,rfl,rfl,⟨[],by simp⟩,⟨[],by simp⟩⟩
 rw [if_neg h1]
 have h1':WS c=false:=by simpa using h1
 have hnow:c.now+1≤1000000000:=by
  have:=h.now;unfold WS at h1';simp only [Bool.or_eq_false_iff,decide_eq_false_iff_not] at h1';omega
 by_cases h2:(c.now+1).tmod c.every=0
 ·
  rw [if_neg (by omega)]
  obtain ⟨t1,t2⟩:=JgE h
  have hroot:=JdD (q:=[]) t1 (by simp) (by simp)
  have hb:=JcE (Kg (YX c) []) []
  have hr:(JQ (YX c) []).1<2305843009213693951:=by rw [hroot];exact hb.2
  obtain ⟨g1,g2,g3⟩:=JkM h h1' hr
  obtain ⟨k1,k2⟩:=Jhw g3
  obtain ⟨u1,u2⟩:=Ja2 h
  have hlen1:=h.chain.len1
  have hlt:c.heads.length<40:=(JbE g1).2.1
  rw [g2]
  have hbk:=h.len
  have hnx:=(VE g3).2.2.2.1
  refine ⟨rfl,⟨JcT u1,h.batch,h.every,⟨by have:=h.now;show 0≤c.now+1;omega,hnow⟩,h.chain.snoc hlt k2 k1,?_,?_,?_,?_,?_⟩,rfl,rfl,⟨_,rfl⟩,⟨_,rfl⟩⟩
  ·
   show (Wm (c.heads++_)).epoch=0;rw [JhF hlen1];exact h.first
  ·
   simp only [List.length_append,List.length_cons,List.length_nil];omega
  ·
   show (WQ (c.heads++_)).at_≤c.now+1;rw [JhG,hnx];exact Int.le_refl _
  ·
   intro k x hx
   simp only at hx ⊢
   by_cases hk:k<c.books.length
   ·
    rw [List.getElem?_append_left hk] at hx
    rw [List.getElem?_append_left (by omega)]
    exact h.root k x hx
   ·
    rw [List.getElem?_append_right (by omega)] at hx
    have hk2:k-c.books.length=0:=by
     have:=(List.getElem?_eq_some_iff.1 hx).1;simp at this;omega
    rw [hk2] at hx
    simp only [List.getElem?_cons_zero,Option.some.injEq] at hx
    subst hx
    rw [List.getElem?_append_right (by omega),show k-c.heads.length=0 by omega]
    refine ⟨by rw [hroot],?_⟩
    show _=(Jx _ _ _).1.root
    rw [hnx]
  ·
   refine Nat.le_trans (JbJ fun x hx=>?_) h.names
   unfold VH at hx ⊢
   simp only [JhE,List.append_nil] at hx ⊢
   rw [u2] at hx
   rcases List.mem_append.1 hx with q | q
   ·
    rcases (t2 x).1 q with q | q
    ·
     exact List.mem_append.2 (.inl q)
    ·
     obtain ⟨a,ha,rfl⟩:=Zh.1 q
     exact List.mem_append.2 (.inr (Zh.2 ⟨a,List.mem_of_mem_take ha,rfl⟩))
   ·
    obtain ⟨a,ha,rfl⟩:=Zh.1 q
    exact List.mem_append.2 (.inr (Zh.2 ⟨a,List.mem_of_mem_drop ha,rfl⟩))
 ·
  rw [if_pos h2]
  refine ⟨rfl,⟨h.queue,h.batch,h.every,⟨by have:=h.now;show 0≤c.now+1;omega,hnow⟩,h.chain,h.first,h.len,?_,h.root,h.names⟩,rfl,rfl,⟨[],by simp⟩,⟨[],by simp⟩⟩
  have:=h.at_;show (WQ c.heads).at_≤c.now+1;omega
theorem Ja3 {c:KF} (h:WR c):((Kc c).1.now=c.now∧WS c=true)∨(WS c=false∧(Kc c).1.now=c.now+1):=by
 have h0:=Z2.2 h
 unfold Kc
 rw [if_neg (by omega)]
 by_cases h1:WS c=true
 ·
  rw [if_pos h1];exact .inl ⟨rfl,h1⟩
 ·
  rw [if_neg h1]
  refine .inr ⟨by simpa using h1,?_⟩
  split <;> rfl
theorem JlC {n e:Int} (h:0≤n):n.tmod e=n % e:=Int.tmod_eq_emod_of_nonneg h
theorem Va {n e:Int} (h:0≤n) (he:1≤e):0≤n.tmod e∧n.tmod e≤n∧n.tmod e<e:=by
 rw [JlC h]
 have h2:=Int.emod_nonneg n (show e ≠ 0 by omega)
 have h3:=Int.emod_lt_of_pos n (show 0<e by omega)
 have h1:=Int.emod_add_mul_ediv n e
 have h4:0≤e*(n / e):=Int.mul_nonneg (by omega) (Int.ediv_nonneg h (by omega))
 omega
theorem JdM (a b e:Int):0≤(K6 a b e).1∧(K6 a b e).1≤31000:=by
 unfold K6
 split
 ·
  simp
 ·
  have h1:=Jc3 (a:=a) (b:=b) (by omega) (by omega)
  have h2:=Jh8 (a:=a.tdiv b+1) (b:=e) (by omega) (by omega)
  simp only;omega
theorem JcG (G:Jt) (vs_c:List Value) (c:KF) (h_c:Vo.R G vs_c c) :QE Tryz.prog 55 #[.agg vs_c.toArray] G [] (fun u G' L'=>u=Bo (WS c)):=by
 obtain ⟨a1,c1,a2,c2,a3,c3,rfl,_,_,_,_,_,_,_⟩:=h_c
 refine JL Tryz.func55 12 [(0,(KP c a1 c1 a2 c2 a3 c3))] rfl (fun w0 G0=>?_)
 refine Je (Jb ?_)
 refine Ju 1 #[I c.queue.most,Sl a1 c.queue.wait.length c1,I c.batch,I c.every,I c.now,Sl a2 c.heads.length c2,Sl a3 c.books.length c3] 34 (fun b1=>?_)
 refine Jc [0] [(1,Pt b1 0)] (Jd (Ja (Je (Jb ?_))))
 refine Jc [0,2,0,0,0] [(1,Pt b1 0),(7,Bo (decide ((c.heads.length:Int)=40)))] ?_
 refine Ky (decide ((c.heads.length:Int)=40)) (fun bb=>[(1,Pt b1 0),(7,Bo bb)]) [1,1,1,0] [0,2,0,0] (fun bb=>[(11,Bo (bb || (decide (c.now=1000000000))))]) ?_
 refine Jc [0] [(2,Bo ((decide ((c.heads.length:Int)=40)) || (decide (c.now=1000000000))))] (Jd (Ja (Jk ?_)))
 refine Jl [0] [Bo ((decide ((c.heads.length:Int)=40)) || (decide (c.now=1000000000)))] (Jv (Jt.le_refl _) ?_)
 have hf_:(WS c)=((decide ((c.heads.length:Int)=40)) || (decide (c.now=1000000000))):=by
  rfl
 · (try rw [hf_]);(simp only [JM];done)
theorem JcH (G:Jt) (vs_c:List Value) (c:KF) (h_c:Vo.R G vs_c c) (hb:c.books.length≤1000):QE Tryz.prog 56 #[.agg vs_c.toArray] G [] (fun u G' L'=>∃ (a1:Option Addr) (c2:Nat) (a3:Option Addr) (c4:Nat) (a5:Option Addr),u=.agg #[I c.queue.most,Sl a1 c.queue.wait.length c2,I c.batch,I c.every,I c.now,Sl a3 c.heads.length c4,Sl a5 c.books.length c.books.length]∧(rI c.queue.most)∧(RS QO G' a1 c2 c.queue.wait)∧(rI c.batch)∧(rI c.every)∧(rI c.now)∧(RS KA G' a3 c4 c.heads)∧(RS Qf G' a5 c.books.length c.books)∧L'=[]):=by
 obtain ⟨a1,c1,a2,c2,a3,c3,rfl,w1,hs1,w2,w3,w4,hs2,hs3⟩:=h_c
 refine JL Tryz.func56 37 [(0,(KP c a1 c1 a2 c2 a3 c3))] rfl (fun w0 G0=>?_)
 refine Je (Jb ?_)
 refine Ju 1 #[I c.queue.most,Sl a1 c.queue.wait.length c1,I c.batch,I c.every,I c.now,Sl a2 c.heads.length c2,Sl a3 c.books.length c3] 34 (fun b1=>?_)
 refine Ju 2 #[I 0,Sl none 0 0,I 0,I 0,I 0,Sl none 0 0,Sl none 0 0] 34 (fun b2=>?_)
 refine Jd (Ja (Je (Jb ?_)))
 refine Jc [0,0,4] [(1,Pt b1 0),(2,Pt b2 0),(8,Sl a1 c.queue.wait.length c1)] ?_
 refine JN 9 (ZW G a1 c1 c.queue.wait hs1) (fun v G1 L1 hl1 hp=>?_)
 obtain ⟨a4,c4,r1,rfl,hr1,rfl⟩:=hp
 refine Kb [0,0,7] [(1,Pt b1 0),(2,Pt b2 0)] [r1,[Sg b2 0 [I 0,Sl none 0 0,I 0,I 0,I 0,Sl none 0 0,Sl none 0 0]],[Sg b1 0 (Kn c a4 c4 a2 c2 a3 c3)]] (Jd (Ja (Je (Jb ?_))))
 refine Jc [0,6] [(1,Pt b1 0),(2,Pt b2 0),(13,Sl a2 c.heads.length c2)] ?_
 refine JN 14 (YB G1 a2 c2 c.heads (hs2.mono hl1)) (fun v G2 L1 hl2 hp=>?_)
 obtain ⟨a5,c5,r2,rfl,hr2,rfl⟩:=hp
 refine Kb [0,9] [(1,Pt b1 0),(2,Pt b2 0)] [r2,r1,[Sg b2 0 [I 0,Sl none 0 0,I 0,I 0,I 0,Sl none 0 0,Sl none 0 0]],[Sg b1 0 (Kn c a4 c4 a5 c5 a3 c3)]] (Jd (Ja (Je (Jb ?_))))
 refine Jc [0,8,0] [(1,Pt b1 0),(2,Pt b2 0),(18,I (c.books.length:Int))] ?_
 refine Jhy (E:=Qf) (bytes:=24) 19 32 66 c.books.length ([]:List J1) ⟨rfl,rfl,fun G=>⟨_,_,rfl,RS.nil' Qj G⟩⟩ (by omega) (by omega) (by kernel_rfl) (fun a6 r3 hr3=>?_)
 refine Jc [0] [(1,Pt b1 0),(2,Pt b2 0),(3,Sl a6 ((List.replicate c.books.length ([]:List J1)).length) c.books.length)] (Jd (Ja (Je ?_)))
 refine Jg [0,10,0,0] [(1,Pt b1 0),(2,Pt b2 0),(3,Sl a6 ((List.replicate c.books.length ([]:List J1)).length) c.books.length),(21,Sl a3 c.books.length c3),(22,I (c.books.length:Int)),(23,I 0)] (Jy ?_)
 have hlm_hs3:c.books.length≤9223372036854775807:=Nat.le_trans (hs3).le (hs3).max
 refine Qb (σ:=Nat×Option Addr×Nat×List Kq×List (List J1)×Jt) (fun q_=>(Jt.le G2 q_.2.2.2.2.2)∧(q_.1≤c.books.length)∧(J8 Qf q_.2.2.2.2.2 q_.2.1 q_.2.2.1 q_.2.2.2.2.1 q_.2.2.2.1)∧(q_.2.2.2.2.1.length=c.books.length∧q_.2.2.2.2.1.take q_.1=c.books.take q_.1)∧(q_.2.2.1=q_.2.2.2.2.1.length)) (fun q_=>[(1,Pt b1 0),(2,Pt b2 0),(3,Sl q_.2.1 q_.2.2.2.2.1.length q_.2.2.1),(21,Sl a3 c.books.length c3),(22,I (c.books.length:Int)),(23,I (q_.1:Int))]) (fun q_=>q_.2.2.2.2.2) (fun q_=>[q_.2.2.2.1,r2,r1,[Sg b2 0 [I 0,Sl none 0 0,I 0,I 0,I 0,Sl none 0 0,Sl none 0 0]],[Sg b1 0 (Kn c a4 c4 a5 c5 a3 c3)]]) (fun q_=>c.books.length-q_.1) (0,a6,c.books.length,r3,(List.replicate c.books.length ([]:List J1)),G2) ⟨(Jt.le_refl _),(by (try dsimp only);exact Nat.zero_le _),hr3,⟨by simp,rfl⟩,(by (try dsimp only);simp)⟩ (fun q_ hs=>?_)
 obtain ⟨i,aw,cw,rw,xw,g⟩:=q_
 obtain ⟨hle,hi,hrw,hxw,hcw⟩:=hs
 dsimp only at hle hi hrw hxw hcw
 refine KJ (fr':=[(1,Pt b1 0),(2,Pt b2 0),(3,Sl aw xw.length cw),(21,Sl a3 c.books.length c3),(22,I (c.books.length:Int)),(23,I (i:Int))]) (L':=[rw,r2,r1,[Sg b2 0 [I 0,Sl none 0 0,I 0,I 0,I 0,Sl none 0 0,Sl none 0 0]],[Sg b1 0 (Kn c a4 c4 a5 c5 a3 c3)]]) rfl rfl ?_
 refine Jg [0] [(1,Pt b1 0),(2,Pt b2 0),(3,Sl aw xw.length cw),(21,Sl a3 c.books.length c3),(22,I (c.books.length:Int)),(23,I (i:Int)),(24,Bo (decide ((i:Int)<(c.books.length:Int))))] (Je ?_)
 refine Jo (decide ((i:Int)<(c.books.length:Int))) (fun h1=>?_) (fun h1=>?_)
 try simp only [BB] at h1
 refine Jm (Ja (Je (Jy (Je (Jb ?_)))))
 refine Jc [0] [(1,Pt b1 0),(2,Pt b2 0),(3,Sl aw xw.length cw),(21,Sl a3 c.books.length c3),(22,I (c.books.length:Int)),(23,I (i:Int)),(25,I (i:Int))] ?_
 obtain ⟨b3,o1,rfl⟩:=RS.addr (hs3.mono (Jt.le_trans (Jt.le_trans hl1 hl2) hle)) (k:=i) (by omega)
 obtain ⟨x1,hx1⟩:=Q8 (l:=c.books) (k:=i) (by omega)
 obtain ⟨_,⟨a7,c6,rfl,hs4⟩,hc1⟩:=RS.get (hs3.mono (Jt.le_trans (Jt.le_trans hl1 hl2) hle)) hx1
 refine Kh (b:=b3) (off:=o1) (len:=c.books.length) (cap:=c3) (ik:=.i64) 26 66 1 i (by omega) ?_
 refine J9 27 66 (cs:=[Sl a7 x1.length c6]) 0 (Sl a7 x1.length c6) hc1 ?_
 refine Jc [0,0] [(1,Pt b1 0),(2,Pt b2 0),(3,Sl aw xw.length cw),(4,I (i:Int)),(5,Sl a7 x1.length c6),(21,Sl (At b3 o1) c.books.length c3),(22,I (c.books.length:Int)),(23,I (i:Int))] (Jd (Ja (Jb ?_)))
 refine Jc [0,0,0] [(1,Pt b1 0),(2,Pt b2 0),(3,Sl aw xw.length cw),(21,Sl (At b3 o1) c.books.length c3),(22,I (c.books.length:Int)),(23,I (i:Int)),(28,Sl aw xw.length cw),(29,I (i:Int)),(30,Sl a7 x1.length c6)] ?_
 refine JN 31 (ZV g a7 c6 x1 hs4) (fun v G3 L1 hl3 hp=>?_)
 obtain ⟨a8,c7,_,rfl,hr4,rfl⟩:=hp
 obtain ⟨_,hx2⟩:=Q8 (l:=xw) (k:=i) (by omega)
 obtain ⟨b4,o2,_,_,⟨_,_,rfl,_⟩,ha1,_,_⟩:=J8.ix (hrw.mono hl3) hx2
 refine Qq (b:=b4) (off:=o2) (len:=xw.length) (cap:=cw) (ik:=.i64) 32 66 1 i ha1 (by omega) ?_
 refine Jc [] [(1,Pt b1 0),(2,Pt b2 0),(3,Sl aw xw.length cw),(21,Sl (At b3 o1) c.books.length c3),(22,I (c.books.length:Int)),(23,I (i:Int)),(28,Sl aw xw.length cw),(29,I (i:Int)),(30,Sl a7 x1.length c6),(31,Sl a8 x1.length c7),(32,Pt b4 (o2+i*1))] ?_
 refine Ys (E:=Qj) 0 hr4 (by exact (hs4).fit) (fun G4 hl4 hs6=>?_)
 refine Yi (b:=b4) (off:=o2) 1 (hrw.mono (Jt.le_trans hl3 hl4)) i x1 ha1 (by omega) (Sl a8 x1.length c7) [Sl a8 x1.length c7] ⟨a8,c7,rfl,hs6⟩ (fun r5 hr5=>?_)
 have e1:xw.length=(xw.set i x1).length:=(List.length_set ..).symm
 refine J2 (fr':=[(1,Pt b1 0),(2,Pt b2 0),(3,Sl aw ((xw.set i x1).length) cw),(21,Sl (At b3 o1) c.books.length c3),(22,I (c.books.length:Int)),(23,I (i:Int)),(28,Sl aw ((xw.set i x1).length) cw),(29,I (i:Int)),(30,Sl a7 x1.length c6),(31,Sl a8 x1.length c7),(32,Pt b4 (o2+i*1))]) (L':=[[],r5,r2,r1,[Sg b2 0 [I 0,Sl none 0 0,I 0,I 0,I 0,Sl none 0 0,Sl none 0 0]],[Sg b1 0 [I c.queue.most,Sl a4 c.queue.wait.length c4,I c.batch,I c.every,I c.now,Sl a5 c.heads.length c5,Sl (At b3 o1) c.books.length c3]]]) (by simp only [Kn,KP,e1];first | done | rfl) (by rfl) ?_
 refine Jd (JK (Ja (Jb ?_)))
 refine Jc [0,0] [(1,Pt b1 0),(2,Pt b2 0),(3,Sl aw ((xw.set i x1).length) cw),(21,Sl (At b3 o1) c.books.length c3),(22,I (c.books.length:Int)),(23,I (IntKind.i64.wrap ((i:Int)+1)))] ?_
 have e2:IntKind.i64.wrap ((i:Int)+1)=(i:Int)+1:=IntWalk.i64_in _ (by omega)
 refine J2 (fr':=[(1,Pt b1 0),(2,Pt b2 0),(3,Sl aw ((xw.set i x1).length) cw),(21,Sl (At b3 o1) c.books.length c3),(22,I (c.books.length:Int)),(23,I ((i:Int)+1))]) (L':=[[],r5,r2,r1,[Sg b2 0 [I 0,Sl none 0 0,I 0,I 0,I 0,Sl none 0 0,Sl none 0 0]],[Sg b1 0 [I c.queue.most,Sl a4 c.queue.wait.length c4,I c.batch,I c.every,I c.now,Sl a5 c.heads.length c5,Sl (At b3 o1) c.books.length c3]]]) (by simp only [Kn,KP,e2];first | done | rfl) (by rfl) ?_
 clear e2
 refine Jd ?_
 refine QY [r5,r2,r1,[Sg b2 0 [I 0,Sl none 0 0,I 0,I 0,I 0,Sl none 0 0,Sl none 0 0]],[Sg b1 0 (Kn c a4 c4 a5 c5 (At b3 o1) c3)]] (.cons _ (.cons_cons _ (.cons_cons _ (.cons_cons _ (.cons_cons _ (.cons_cons _ .slnil)))))) ?_
 exact Qd (i+1,aw,cw,r5,xw.set i x1,G4) ⟨(Jt.le_trans hle (Jt.le_trans hl3 hl4)),(by omega),hr5,⟨by simp only [List.length_set];exact hxw.1,JkL hxw.2 (by omega) hx1⟩,(by simp only [List.length_set];exact hcw)⟩ (by (try dsimp only);omega)
 try simp only [BB] at h1
 refine KU (J3 (Ke (JW (Ja ?_))))
 refine WC [0,0,11] [(1,Pt b1 0),(2,Pt b2 0)] [rw,r2,r1,[Sg b2 0 [I 0,Sl none 0 0,I 0,I 0,I 0,Sl none 0 0,Sl none 0 0]],[Sg b1 0 [I c.queue.most,Sl a4 c.queue.wait.length c4,I c.batch,I c.every,I c.now,Sl a5 c.heads.length c5,Sl aw xw.length cw]]] ?_
 refine WC [10,9] [(2,Pt b2 0)] [rw,r2,r1,[Sg b2 0 [I c.queue.most,Sl a4 c.queue.wait.length c4,I c.batch,I c.every,I c.now,Sl a5 c.heads.length c5,Sl aw xw.length cw]],[Sg b1 0 [I c.queue.most,Sl a4 c.queue.wait.length c4,I c.batch,I c.every,I c.now,Sl a5 c.heads.length c5,Sl aw xw.length cw]]] ?_
 refine Jk ?_
 subst hcw
 refine We (E:=QO) 2 (hr1.mono (Jt.le_trans hl2 hle)) (by exact (hs1).fit) (fun G5 hl5 hs7=>?_)
 refine We (E:=KA) 1 (hr2.mono (Jt.le_trans hle hl5)) (by exact (hs2.mono hl1).fit) (fun G6 hl6 hs8=>?_)
 refine We (E:=Qf) 0 (hrw.mono (Jt.le_trans hl5 hl6)) (by simp only [Qf];omega) (fun G7 hl7 hs9=>?_)
 have hf1:c=(⟨c.queue,c.batch,c.every,c.now,c.heads,xw⟩:KF):=by
  have e_:xw=c.books:=JhD hxw.1 hxw.2 (by omega);subst e_;rfl
 refine Jl [3] [.agg #[I c.queue.most,Sl a4 c.queue.wait.length c4,I c.batch,I c.every,I c.now,Sl a5 c.heads.length c5,Sl aw xw.length xw.length]] (JY [] (.cons _ (.cons _ (.cons _ (.cons _ (.cons _ .slnil))))) (Jt.le_trans (Jt.le_trans (Jt.le_trans (Jt.le_trans (Jt.le_trans hl1 hl2) hle) hl5) hl6) hl7) ?_)
 rw [hf1]
 try dsimp only
 exact ⟨a4,c4,a5,c5,aw,rfl,w1,(hs7.mono (Jt.le_trans hl6 hl7)),w2,w3,w4,(hs8.mono hl7),hs9,rfl⟩
set_option maxRecDepth 20000 in
theorem JbM (G:Jt) (vs_c:List Value) (c:KF) (h_c:Vo.R G vs_c c) (vs_a:List Value) (a:W6) (h_a:QO.R G vs_a a) :QE Tryz.prog 28 #[.agg vs_c.toArray,.agg vs_a.toArray] G [] (fun u G' L'=>∃ (a1:Option Addr) (c2:Nat) (a3:Option Addr) (c4:Nat) (a5:Option Addr) (c6:Nat),u=.tuple #[.agg #[I (((Ku c a).1).queue.most),Sl a1 ((((Ku c a).1).queue.wait).length) c2,I (((Ku c a).1).batch),I (((Ku c a).1).every),I (((Ku c a).1).now),Sl a3 ((((Ku c a).1).heads).length) c4,Sl a5 ((((Ku c a).1).books).length) c6],I ((Ku c a).2.1),I ((Ku c a).2.2)]∧(rI (((Ku c a).1).queue.most))∧(RS QO G' a1 c2 (((Ku c a).1).queue.wait))∧(rI (((Ku c a).1).batch))∧(rI (((Ku c a).1).every))∧(rI (((Ku c a).1).now))∧(RS KA G' a3 c4 (((Ku c a).1).heads))∧(RS Qf G' a5 c6 (((Ku c a).1).books))∧(rI ((Ku c a).2.1))∧L'=[]):=by
 obtain ⟨a1,c1,a2,c2,a3,c3,rfl,w1,hs1,w2,w3,w4,hs2,hs3⟩:=h_c
 obtain ⟨rfl,w5,w6,w7,w8⟩:=h_a
 refine JL Tryz.func28 76 [(0,(KP c a1 c1 a2 c2 a3 c3)),(1,.agg #[Sr a.name,Sr a.value,U a.n,U a.tag])] rfl (fun w0 G0=>?_)
 refine Je (Jb ?_)
 refine Ju 2 #[I c.queue.most,Sl a1 c.queue.wait.length c1,I c.batch,I c.every,I c.now,Sl a2 c.heads.length c2,Sl a3 c.books.length c3] 34 (fun b1=>?_)
 refine Ju 3 #[Sr a.name,Sr a.value,U a.n,U a.tag] 83 (fun b2=>?_)
 refine Ju 4 #[I 0,Sl none 0 0,I 0,I 0,I 0,Sl none 0 0,Sl none 0 0] 34 (fun b3=>?_)
 refine Jc [0,0] [(2,Pt b1 0),(3,Pt b2 0),(4,Pt b3 0)] (Jd (Ja (Je (Je (Jb ?_)))))
 refine Jc [6] [(2,Pt b1 0),(3,Pt b2 0),(4,Pt b3 0),(13,(KP c a1 c1 a2 c2 a3 c3))] ?_
 refine Ji 14 (I (J7 c)) (YE G (Kn c a1 c1 a2 c2 a3 c3) c (⟨a1,c1,a2,c2,a3,c3,rfl,w1,hs1,w2,w3,w4,hs2,hs3⟩)) ?_
 refine Jc [0] [(2,Pt b1 0),(3,Pt b2 0),(4,Pt b3 0),(7,I (J7 c))] (Jd (Ja ?_))
 refine Jg [0,0] [(2,Pt b1 0),(3,Pt b2 0),(4,Pt b3 0),(7,I (J7 c)),(16,Bo (!decide (J7 c=0)))] ?_
 refine Jo (!decide (J7 c=0)) (fun h1=>?_) (fun h1=>?_)
 try simp only [BB] at h1
 refine Jg [0,0,3,0,0] [(4,Pt b3 0),(5,I 0),(6,I (J7 c))] (Jk (Jh ?_))
 have hf1:Ku c a=((⟨(⟨0,[]⟩:QF),0,0,0,[],[]⟩:KF),0,J7 c):=by
  unfold Ku Zo;(rw [if_pos ‹_›];done)
 refine Jl [0,0,0] [.agg #[I 0,Sl none 0 0,I 0,I 0,I 0,Sl none 0 0,Sl none 0 0],I 0,I (J7 c)] (JY [] (.cons _ (.cons _ (.cons _ .slnil))) (Jt.le_refl _) ?_)
 rw [hf1]
 try dsimp only
 exact ⟨none,0,none,0,none,0,rfl,(by omega),(RS.nil' QO G),(by omega),(by omega),(by omega),(RS.nil' KA G),(RS.nil' Qf G),(by omega),rfl⟩
 try simp only [BB] at h1
 refine Jm (Ja (Je (Jb ?_)))
 refine Jc [0,6,4] [(2,Pt b1 0),(3,Pt b2 0),(4,Pt b3 0),(21,.agg #[I c.queue.most,Sl a1 c.queue.wait.length c1]),(22,.agg #[Sr a.name,Sr a.value,U a.n,U a.tag])] ?_
 refine JN 23 (Jfk G [I c.queue.most,Sl a1 c.queue.wait.length c1] c.queue (⟨a1,c1,rfl,w1,hs1⟩) [Sr a.name,Sr a.value,U a.n,U a.tag] a (⟨rfl,w5,w6,w7,w8⟩)) (fun v G1 L1 hl1 hp=>?_)
 obtain ⟨a4,c4,rfl,w9,hs4,rfl⟩:=hp
 refine Jc [0,0,0,0] [(2,Pt b1 0),(3,Pt b2 0),(4,Pt b3 0),(24,.agg #[I (((JB c.queue a).1).most),Sl a4 ((((JB c.queue a).1).wait).length) c4]),(25,I ((JB c.queue a).2.1)),(26,I ((JB c.queue a).2.2))] ?_
 refine Ju 8 #[I 0,Sl none 0 0] 30 (fun b4=>?_)
 refine Kb [3,0,0] [(2,Pt b1 0),(3,Pt b2 0),(4,Pt b3 0),(8,Pt b4 0),(9,I ((JB c.queue a).2.1)),(10,I ((JB c.queue a).2.2))] [[Sg b4 0 [I (((JB c.queue a).1).most),Sl a4 ((((JB c.queue a).1).wait).length) c4]],[Sg b3 0 [I 0,Sl none 0 0,I 0,I 0,I 0,Sl none 0 0,Sl none 0 0]],[Sg b2 0 [Sr a.name,Sr a.value,U a.n,U a.tag]],[Sg b1 0 (Kn c a1 c1 a2 c2 a3 c3)]] (Jd (Ja (Je (Jy (Je (Jb ?_))))))
 refine Jc [0,0,0] [(2,Pt b1 0),(3,Pt b2 0),(4,Pt b3 0),(8,Pt b4 0),(9,I ((JB c.queue a).2.1)),(10,I ((JB c.queue a).2.2)),(30,Bo (!decide ((JB c.queue a).2.2=0)))] ?_
 refine Ky (!decide ((JB c.queue a).2.2=0)) (fun bb=>[(2,Pt b1 0),(3,Pt b2 0),(4,Pt b3 0),(8,Pt b4 0),(9,I ((JB c.queue a).2.1)),(10,I ((JB c.queue a).2.2)),(30,Bo bb)]) [0,0,0] [1,1,0] (fun bb=>[(2,Pt b1 0),(3,Pt b2 0),(4,Pt b3 0),(8,Pt b4 0),(9,I ((JB c.queue a).2.1)),(10,I ((JB c.queue a).2.2)),(33,Bo (bb && (!decide ((JB c.queue a).2.2=7))))]) ?_
 refine Jc [0] [(2,Pt b1 0),(3,Pt b2 0),(4,Pt b3 0),(8,Pt b4 0),(9,I ((JB c.queue a).2.1)),(10,I ((JB c.queue a).2.2)),(27,Bo ((!decide ((JB c.queue a).2.2=0)) && (!decide ((JB c.queue a).2.2=7))))] (Jd (Ja ?_))
 refine Jo ((!decide ((JB c.queue a).2.2=0)) && (!decide ((JB c.queue a).2.2=7))) (fun h2=>?_) (fun h2=>?_)
 try simp only [BB] at h2
 refine Jg [0,0,5,0,0] [(4,Pt b3 0),(5,I 0),(6,I ((JB c.queue a).2.2))] (Jk (Js (Jh ?_)))
 have hf2:Ku c a=((⟨(⟨0,[]⟩:QF),0,0,0,[],[]⟩:KF),0,(JB c.queue a).2.2):=by
  unfold Ku Zo;(rw [if_neg (by simp_all)];simp_all;done)
 refine Jl [1,0,0] [.agg #[I 0,Sl none 0 0,I 0,I 0,I 0,Sl none 0 0,Sl none 0 0],I 0,I ((JB c.queue a).2.2)] (JY [] (.cons _ (.cons _ (.cons _ (.cons _ .slnil)))) hl1 ?_)
 rw [hf2]
 try dsimp only
 exact ⟨none,0,none,0,none,0,rfl,(by omega),(RS.nil' QO G1),(by omega),(by omega),(by omega),(RS.nil' KA G1),(RS.nil' Qf G1),(by omega),rfl⟩
 try simp only [BB] at h2
 refine Je (Jb ?_)
 refine Jc [8] [(2,Pt b1 0),(3,Pt b2 0),(4,Pt b3 0),(8,Pt b4 0),(9,I ((JB c.queue a).2.1)),(10,I ((JB c.queue a).2.2)),(37,(KP c a1 c1 a2 c2 a3 c3))] ?_
 refine Ji 38 (Bo (WS c)) (JcG G1 (Kn c a1 c1 a2 c2 a3 c3) c (⟨a1,c1,a2,c2,a3,c3,rfl,w1,(hs1.mono hl1),w2,w3,w4,(hs2.mono hl1),(hs3.mono hl1)⟩)) ?_
 refine Jc [0] [(2,Pt b1 0),(3,Pt b2 0),(4,Pt b3 0),(8,Pt b4 0),(9,I ((JB c.queue a).2.1)),(10,I ((JB c.queue a).2.2)),(36,Bo (WS c))] (Jd (Ja ?_))
 refine Jo (WS c) (fun h3=>?_) (fun h3=>?_)
 try simp only [BB] at h3
 refine Jg [0,5,0,0] [(4,Pt b3 0),(5,I 0),(6,I 9)] (Jk (Js (Jh ?_)))
 have hf3:Ku c a=((⟨(⟨0,[]⟩:QF),0,0,0,[],[]⟩:KF),0,9):=by
  unfold Ku Zo;(rw [if_neg (by simp_all)];simp_all;done)
 refine Jl [1,0,0] [.agg #[I 0,Sl none 0 0,I 0,I 0,I 0,Sl none 0 0,Sl none 0 0],I 0,I 9] (JY [] (.cons _ (.cons _ (.cons _ (.cons _ .slnil)))) hl1 ?_)
 rw [hf3]
 try dsimp only
 exact ⟨none,0,none,0,none,0,rfl,(by omega),(RS.nil' QO G1),(by omega),(by omega),(by omega),(RS.nil' KA G1),(RS.nil' Qf G1),(by omega),rfl⟩
 try simp only [BB] at h3
 refine Je (Jb ?_)
 refine Jc [0,0,0] [(2,Pt b1 0),(3,Pt b2 0),(4,Pt b3 0),(8,Pt b4 0),(9,I ((JB c.queue a).2.1)),(43,Bo (decide ((JB c.queue a).2.2=7)))] ?_
 refine QZ (fun bb=>[(2,Pt b1 0),(3,Pt b2 0),(4,Pt b3 0),(8,Pt b4 0),(9,I ((JB c.queue a).2.1)),(43,Bo bb)]) (decide ((JB c.queue a).2.2=7)) (fun h4=>?_) (fun h4=>?_)
 try simp only [BB] at h4
 refine Jc [1,1,1,1,1,1,0,0] [(2,Pt b1 0),(4,Pt b3 0),(8,Pt b4 0),(9,I ((JB c.queue a).2.1)),(40,Bo true)] (Jd (Ja ?_))
 refine J0 ?_
 refine Jg [0,5,0,0] [(4,Pt b3 0),(5,I 0),(6,I 7)] (Jk (Js (Jh ?_)))
 have hf4:Ku c a=((⟨(⟨0,[]⟩:QF),0,0,0,[],[]⟩:KF),0,7):=by
  unfold Ku Zo;(rw [if_neg (by simp_all)];simp_all;done)
 refine Jl [1,0,0] [.agg #[I 0,Sl none 0 0,I 0,I 0,I 0,Sl none 0 0,Sl none 0 0],I 0,I 7] (JY [] (.cons _ (.cons _ (.cons _ (.cons _ .slnil)))) hl1 ?_)
 rw [hf4]
 try dsimp only
 exact ⟨none,0,none,0,none,0,rfl,(by omega),(RS.nil' QO G1),(by omega),(by omega),(by omega),(RS.nil' KA G1),(RS.nil' Qf G1),(by omega),rfl⟩
 try simp only [BB] at h4
 refine Jc [8,0,6] [(2,Pt b1 0),(4,Pt b3 0),(8,Pt b4 0),(9,I ((JB c.queue a).2.1)),(43,Bo false),(44,(KP c a1 c1 a2 c2 a3 c3)),(46,Sr a.name)] ?_
 refine KC 47 1 #[Sr a.name] 9 (fun b5=>?_)
 refine QJ (b:=b5) (o:=0) (cs:=[Sr a.name]) 0 (fun G2 hl2 hz1=>?_)
 have hs5:RS ES G2 (At b5 0) 1 [a.name]:=RS.lit [[Sr a.name]] [a.name] ⟨⟨rfl,w5⟩,trivial⟩ hz1 (Nat.le_of_ble_eq_true rfl) (Nat.le_of_ble_eq_true rfl)
 refine Ji 48 (I (Wx c ([a.name]))) (JaB G2 (Kn c a1 c1 a2 c2 a3 c3) c (⟨a1,c1,a2,c2,a3,c3,rfl,w1,(hs1.mono (Jt.le_trans hl1 hl2)),w2,w3,w4,(hs2.mono (Jt.le_trans hl1 hl2)),(hs3.mono (Jt.le_trans hl1 hl2))⟩) (At b5 0) 1 ([a.name]) hs5 (by (have q_:=ZL ‹_›;(try dsimp only);omega)) (by (have q_:=ZL ‹_›;(try dsimp only);omega)) (by (have q_:=ZL ‹_›;(try dsimp only);omega)) (by (have q_:=ZL ‹_›;(try dsimp only);omega)) (by (simp;done))) ?_
 refine Jc [0,0,0] [(2,Pt b1 0),(4,Pt b3 0),(8,Pt b4 0),(9,I ((JB c.queue a).2.1)),(40,Bo (decide (Wx c ([a.name]) > 24)))] (Jd (Ja ?_))
 refine Jo (decide (Wx c ([a.name]) > 24)) (fun h5=>?_) (fun h5=>?_)
 try simp only [BB] at h5
 refine Jg [0,7,0,0] [(4,Pt b3 0),(5,I 0),(6,I 7)] (Jk (Js (Jh ?_)))
 have hf5:Ku c a=((⟨(⟨0,[]⟩:QF),0,0,0,[],[]⟩:KF),0,7):=by
  unfold Ku Zo;(rw [if_neg (by simp_all)];simp_all;done)
 refine Jl [2,0,0] [.agg #[I 0,Sl none 0 0,I 0,I 0,I 0,Sl none 0 0,Sl none 0 0],I 0,I 7] (JY [] (.cons _ (.cons _ (.cons _ (.cons _ (.cons _ .slnil))))) (Jt.le_trans hl1 hl2) ?_)
 rw [hf5]
 try dsimp only
 exact ⟨none,0,none,0,none,0,rfl,(by omega),(RS.nil' QO G2),(by omega),(by omega),(by omega),(RS.nil' KA G2),(RS.nil' Qf G2),(by omega),rfl⟩
 try simp only [BB] at h5
 refine Jm (JK (Ja (Je (Jb ?_))))
 refine Jc [10] [(2,Pt b1 0),(4,Pt b3 0),(8,Pt b4 0),(9,I ((JB c.queue a).2.1)),(52,(KP c a1 c1 a2 c2 a3 c3))] ?_
 refine JN 53 (JcH G2 (Kn c a1 c1 a2 c2 a3 c3) c (⟨a1,c1,a2,c2,a3,c3,rfl,w1,(hs1.mono (Jt.le_trans hl1 hl2)),w2,w3,w4,(hs2.mono (Jt.le_trans hl1 hl2)),(hs3.mono (Jt.le_trans hl1 hl2))⟩) (by (have q_:=ZL ‹_›;(try dsimp only);omega))) (fun v G3 L1 hl3 hp=>?_)
 obtain ⟨a5,c5,a6,c6,a7,rfl,_,_,w11,w12,w13,hs7,hs8,rfl⟩:=hp
 refine Kb [11] [(2,Pt b1 0),(4,Pt b3 0),(8,Pt b4 0),(9,I ((JB c.queue a).2.1))] [[],[Sg b4 0 [I (((JB c.queue a).1).most),Sl a4 ((((JB c.queue a).1).wait).length) c4]],[Sg b3 0 [I 0,Sl none 0 0,I 0,I 0,I 0,Sl none 0 0,Sl none 0 0]],[Sg b2 0 [Sr a.name,Sr a.value,U a.n,U a.tag]],[Sg b1 0 (Kn c a5 c5 a6 c6 a7 c.books.length)]] (Jd (Ja ?_))
 refine WC [4,0,11] [(2,Pt b1 0),(4,Pt b3 0),(9,I ((JB c.queue a).2.1))] [[],[Sg b4 0 [I (((JB c.queue a).1).most),Sl a4 ((((JB c.queue a).1).wait).length) c4]],[Sg b3 0 [I 0,Sl none 0 0,I 0,I 0,I 0,Sl none 0 0,Sl none 0 0]],[Sg b2 0 [Sr a.name,Sr a.value,U a.n,U a.tag]],[Sg b1 0 [I (((JB c.queue a).1).most),Sl a4 ((((JB c.queue a).1).wait).length) c4,I c.batch,I c.every,I c.now,Sl a6 c.heads.length c6,Sl a7 c.books.length c.books.length]]] ?_
 refine Je (Jb ?_)
 refine Jc [0,0,10,0,10] [(2,Pt b1 0),(4,Pt b3 0),(57,I ((JB c.queue a).2.1)),(59,I c.batch),(61,I c.every)] ?_
 refine Ji 62 (.tuple #[I ((K6 ((JB c.queue a).2.1) c.batch c.every).1),I ((K6 ((JB c.queue a).2.1) c.batch c.every).2)]) (Jd1 G3 ((JB c.queue a).2.1) c.batch c.every) ?_
 refine Jc [0,0,0,0,0] [(2,Pt b1 0),(4,Pt b3 0),(11,I ((K6 ((JB c.queue a).2.1) c.batch c.every).1))] (Jd (Ja (Je ?_)))
 have e1:IntKind.i64.wrap (c.now-((c.now).tmod c.every))=c.now-((c.now).tmod c.every):=IntWalk.i64_in _ (by (have q_:=ZL ‹_›;have q10_:=Va (n:=c.now) (e:=c.every) (by omega) (by omega);have q11_:=JdM (JB c.queue a).2.1 c.batch c.every;omega))
 have e2:IntKind.i64.wrap ((c.now-((c.now).tmod c.every))+((K6 ((JB c.queue a).2.1) c.batch c.every).1))=(c.now-((c.now).tmod c.every))+((K6 ((JB c.queue a).2.1) c.batch c.every).1):=IntWalk.i64_in _ (by (have q_:=ZL ‹_›;have q10_:=Va (n:=c.now) (e:=c.every) (by omega) (by omega);have q11_:=JdM (JB c.queue a).2.1 c.batch c.every;omega))
 refine Kw [11] ?_
 refine Wa [(0,.agg #[I (((JB c.queue a).1).most),Sl a4 ((((JB c.queue a).1).wait).length) c4,I c.batch,I c.every,I c.now,Sl a6 c.heads.length c6,Sl a7 c.books.length c.books.length]),(1,Pt b1 4),(2,I c.now),(3,Pt b1 4),(4,I c.now),(5,Pt b1 3),(6,I c.every),(7,I ((c.now).tmod c.every)),(8,I (c.now-((c.now).tmod c.every))),(9,I ((K6 ((JB c.queue a).2.1) c.batch c.every).1)),(10,I ((c.now-((c.now).tmod c.every))+((K6 ((JB c.queue a).2.1) c.batch c.every).1)))] ?_
 refine JZ [] [(0,10),(1,0),(2,10),(3,0),(4,10),(5,0),(6,10),(9,0)] [7,8,10] [11] (List.forall_mem_cons.2 ⟨?_,(List.forall_mem_cons.2 ⟨?_,(List.forall_mem_cons.2 ⟨?_,List.forall_mem_nil _⟩)⟩)⟩) (List.forall_mem_cons.2 ⟨?_,List.forall_mem_nil _⟩)
 refine Jq 7 72 (I ((c.now).tmod c.every)) [(69,I c.now),(71,I c.every)] (fun X=>?_)
 exact Jbr (k:=.i64) (x:=c.now) (y:=c.every) 72 false ((c.now).tmod c.every) (by (have q_:=ZL ‹_›;have q10_:=Va (n:=c.now) (e:=c.every) (by omega) (by omega);have q11_:=JdM (JB c.queue a).2.1 c.batch c.every;omega)) rfl Jn
 refine Jq 8 73 (I (c.now-((c.now).tmod c.every))) [(67,I c.now),(72,I ((c.now).tmod c.every))] (fun X=>?_)
 exact KZ 73 (I (IntKind.i64.wrap (c.now-((c.now).tmod c.every)))) (I (c.now-((c.now).tmod c.every))) (by simp only [e1]) Jn
 refine Jq 10 75 (I ((c.now-((c.now).tmod c.every))+((K6 ((JB c.queue a).2.1) c.batch c.every).1))) [(73,I (c.now-((c.now).tmod c.every))),(74,I ((K6 ((JB c.queue a).2.1) c.batch c.every).1))] (fun X=>?_)
 exact KZ 75 (I (IntKind.i64.wrap ((c.now-((c.now).tmod c.every))+((K6 ((JB c.queue a).2.1) c.batch c.every).1)))) (I ((c.now-((c.now).tmod c.every))+((K6 ((JB c.queue a).2.1) c.batch c.every).1))) (by simp only [e2]) Jn
 refine JO 11 [(4,Pt b3 0),(65,.agg #[I (((JB c.queue a).1).most),Sl a4 ((((JB c.queue a).1).wait).length) c4,I c.batch,I c.every,I c.now,Sl a6 c.heads.length c6,Sl a7 c.books.length c.books.length])] (fun X=>?_)
 refine KQ 2 [[],[Sg b4 0 [I (((JB c.queue a).1).most),Sl a4 ((((JB c.queue a).1).wait).length) c4]],[Sg b3 0 [I (((JB c.queue a).1).most),Sl a4 ((((JB c.queue a).1).wait).length) c4,I c.batch,I c.every,I c.now,Sl a6 c.heads.length c6,Sl a7 c.books.length c.books.length]],[Sg b2 0 [Sr a.name,Sr a.value,U a.n,U a.tag]],[Sg b1 0 [I (((JB c.queue a).1).most),Sl a4 ((((JB c.queue a).1).wait).length) c4,I c.batch,I c.every,I c.now,Sl a6 c.heads.length c6,Sl a7 c.books.length c.books.length]]] ?_
 have e3:IntKind.i64.wrap (c.now-((c.now).tmod c.every))=c.now-((c.now).tmod c.every):=IntWalk.i64_in _ (by (have q_:=ZL ‹_›;have q10_:=Va (n:=c.now) (e:=c.every) (by omega) (by omega);have q11_:=JdM (JB c.queue a).2.1 c.batch c.every;omega))
 have e4:IntKind.i64.wrap ((c.now-((c.now).tmod c.every))+((K6 ((JB c.queue a).2.1) c.batch c.every).1))=(c.now-((c.now).tmod c.every))+((K6 ((JB c.queue a).2.1) c.batch c.every).1):=IntWalk.i64_in _ (by (have q_:=ZL ‹_›;have q10_:=Va (n:=c.now) (e:=c.every) (by omega) (by omega);have q11_:=JdM (JB c.queue a).2.1 c.batch c.every;omega))
 refine Kj [(12,I ((c.now-((c.now).tmod c.every))+((K6 ((JB c.queue a).2.1) c.batch c.every).1))),(13,I 0)] ?_
 refine Kv [0] [(1,0),(2,10),(3,0),(4,10),(5,0),(6,10),(9,0),(12,0),(13,0)] [7,8,10] [(4,Pt b3 0),(5,I ((c.now-((c.now).tmod c.every))+((K6 ((JB c.queue a).2.1) c.batch c.every).1))),(6,I 0)] (List.forall_mem_cons.2 ⟨?_,(List.forall_mem_cons.2 ⟨?_,(List.forall_mem_cons.2 ⟨?_,List.forall_mem_nil _⟩)⟩)⟩) ?_
 refine Jq 7 72 (I ((c.now).tmod c.every)) [(69,I c.now),(71,I c.every)] (fun X=>?_)
 exact Jbr (k:=.i64) (x:=c.now) (y:=c.every) 72 false ((c.now).tmod c.every) (by (have q_:=ZL ‹_›;have q10_:=Va (n:=c.now) (e:=c.every) (by omega) (by omega);have q11_:=JdM (JB c.queue a).2.1 c.batch c.every;omega)) rfl Jn
 refine Jq 8 73 (I (c.now-((c.now).tmod c.every))) [(67,I c.now),(72,I ((c.now).tmod c.every))] (fun X=>?_)
 exact KZ 73 (I (IntKind.i64.wrap (c.now-((c.now).tmod c.every)))) (I (c.now-((c.now).tmod c.every))) (by simp only [e3]) Jn
 refine Jq 10 75 (I ((c.now-((c.now).tmod c.every))+((K6 ((JB c.queue a).2.1) c.batch c.every).1))) [(73,I (c.now-((c.now).tmod c.every))),(74,I ((K6 ((JB c.queue a).2.1) c.batch c.every).1))] (fun X=>?_)
 exact KZ 75 (I (IntKind.i64.wrap ((c.now-((c.now).tmod c.every))+((K6 ((JB c.queue a).2.1) c.batch c.every).1)))) (I ((c.now-((c.now).tmod c.every))+((K6 ((JB c.queue a).2.1) c.batch c.every).1))) (by simp only [e4]) Jn
 refine Ja (Jk ?_)
 have hf6:Ku c a=((⟨((JB c.queue a).1),c.batch,c.every,c.now,c.heads,c.books⟩:KF),(c.now-((c.now).tmod c.every))+((K6 ((JB c.queue a).2.1) c.batch c.every).1),0):=by
  unfold Ku Zo;(rw [if_neg (by simp_all)];simp_all;done)
 refine Jl [2,0,0] [.agg #[I (((JB c.queue a).1).most),Sl a4 ((((JB c.queue a).1).wait).length) c4,I c.batch,I c.every,I c.now,Sl a6 c.heads.length c6,Sl a7 c.books.length c.books.length],I ((c.now-((c.now).tmod c.every))+((K6 ((JB c.queue a).2.1) c.batch c.every).1)),I 0] (JY [] (.cons _ (.cons _ (.cons _ (.cons _ (.cons _ .slnil))))) (Jt.le_trans (Jt.le_trans hl1 hl2) hl3) ?_)
 rw [hf6]
 try dsimp only
 exact ⟨a4,c4,a6,c6,a7,c.books.length,rfl,w9,(hs4.mono (Jt.le_trans hl2 hl3)),w11,w12,w13,hs7,hs8,(by (have q_:=ZL ‹_›;have q10_:=Va (n:=c.now) (e:=c.every) (by omega) (by omega);have q11_:=JdM (JB c.queue a).2.1 c.batch c.every;omega)),rfl⟩
set_option maxRecDepth 20000 in
theorem Jei (G:Jt) (vs_c:List Value) (c:KF) (h_c:Vo.R G vs_c c) :QE Tryz.prog 29 #[.agg vs_c.toArray] G [] (fun u G' L'=>∃ (a1:Option Addr) (c2:Nat) (a3:Option Addr) (c4:Nat) (a5:Option Addr) (c6:Nat),u=.tuple #[.agg #[I (((Kc c).1).queue.most),Sl a1 ((((Kc c).1).queue.wait).length) c2,I (((Kc c).1).batch),I (((Kc c).1).every),I (((Kc c).1).now),Sl a3 ((((Kc c).1).heads).length) c4,Sl a5 ((((Kc c).1).books).length) c6],Bo ((Kc c).2.1),I ((Kc c).2.2)]∧(rI (((Kc c).1).queue.most))∧(RS QO G' a1 c2 (((Kc c).1).queue.wait))∧(rI (((Kc c).1).batch))∧(rI (((Kc c).1).every))∧(rI (((Kc c).1).now))∧(RS KA G' a3 c4 (((Kc c).1).heads))∧(RS Qf G' a5 c6 (((Kc c).1).books))∧L'=[]):=by
 obtain ⟨a1,c1,a2,c2,a3,c3,rfl,w1,hs1,w2,w3,w4,hs2,hs3⟩:=h_c
 refine JL Tryz.func29 88 [(0,(KP c a1 c1 a2 c2 a3 c3))] rfl (fun w0 G0=>?_)
 refine Je (Jb ?_)
 refine Ju 1 #[I c.queue.most,Sl a1 c.queue.wait.length c1,I c.batch,I c.every,I c.now,Sl a2 c.heads.length c2,Sl a3 c.books.length c3] 34 (fun b1=>?_)
 refine Ju 2 #[I 0,Sl none 0 0,I 0,I 0,I 0,Sl none 0 0,Sl none 0 0] 34 (fun b2=>?_)
 refine Jc [0,0] [(1,Pt b1 0),(2,Pt b2 0)] (Jd (Ja (Je (Je (Jb ?_)))))
 refine Jc [4] [(1,Pt b1 0),(2,Pt b2 0),(14,(KP c a1 c1 a2 c2 a3 c3))] ?_
 refine Ji 15 (I (J7 c)) (YE G (Kn c a1 c1 a2 c2 a3 c3) c (⟨a1,c1,a2,c2,a3,c3,rfl,w1,hs1,w2,w3,w4,hs2,hs3⟩)) ?_
 refine Jc [0] [(1,Pt b1 0),(2,Pt b2 0),(5,I (J7 c))] (Jd (Ja ?_))
 refine Jg [0,0] [(1,Pt b1 0),(2,Pt b2 0),(5,I (J7 c)),(17,Bo (!decide (J7 c=0)))] ?_
 refine Jo (!decide (J7 c=0)) (fun h1=>?_) (fun h1=>?_)
 try simp only [BB] at h1
 refine Jg [0,0,3,0,0] [(2,Pt b2 0),(3,Bo false),(4,I (J7 c))] (Jk (Jh ?_))
 have hf1:Kc c=((⟨(⟨0,[]⟩:QF),0,0,0,[],[]⟩:KF),false,J7 c):=by
  unfold Kc Zo;(rw [if_pos ‹_›];done)
 refine Jl [0,0,0] [.agg #[I 0,Sl none 0 0,I 0,I 0,I 0,Sl none 0 0,Sl none 0 0],Bo false,I (J7 c)] (JY [] (.cons _ (.cons _ .slnil)) (Jt.le_refl _) ?_)
 rw [hf1]
 try dsimp only
 exact ⟨none,0,none,0,none,0,rfl,(by omega),(RS.nil' QO G),(by omega),(by omega),(by omega),(RS.nil' KA G),(RS.nil' Qf G),rfl⟩
 try simp only [BB] at h1
 refine Jm (Ja (Je (Jb ?_)))
 refine Jc [4] [(1,Pt b1 0),(2,Pt b2 0),(20,(KP c a1 c1 a2 c2 a3 c3))] ?_
 refine JN 21 (JcH G (Kn c a1 c1 a2 c2 a3 c3) c (⟨a1,c1,a2,c2,a3,c3,rfl,w1,hs1,w2,w3,w4,hs2,hs3⟩) (by (have q_:=ZL ‹_›;(try dsimp only);omega))) (fun v G1 L1 hl1 hp=>?_)
 obtain ⟨a4,c4,a5,c5,a6,rfl,w5,hs4,w6,w7,w8,hs5,hs6,rfl⟩:=hp
 refine Kb [5] [(1,Pt b1 0),(2,Pt b2 0)] [[Sg b2 0 [I 0,Sl none 0 0,I 0,I 0,I 0,Sl none 0 0,Sl none 0 0]],[Sg b1 0 (Kn c a4 c4 a5 c5 a6 c.books.length)]] (Jd (Ja (Je (Je (Jb ?_)))))
 refine Jc [4] [(1,Pt b1 0),(2,Pt b2 0),(22,(KP c a4 c4 a5 c5 a6 c.books.length))] ?_
 refine Ji 23 (Bo (WS c)) (JcG G1 (Kn c a4 c4 a5 c5 a6 c.books.length) c (⟨a4,c4,a5,c5,a6,c.books.length,rfl,w5,hs4,w6,w7,w8,hs5,hs6⟩)) ?_
 refine Jd (Ja ?_)
 refine Jo (WS c) (fun h2=>?_) (fun h2=>?_)
 try simp only [BB] at h2
 refine WC [4,3,0,0] [(2,Pt b2 0),(3,Bo false),(4,I 0)] [[Sg b2 0 (Kn c a4 c4 a5 c5 a6 c.books.length)],[Sg b1 0 (Kn c a4 c4 a5 c5 a6 c.books.length)]] ?_
 refine Jk (Jh ?_)
 have hf2:Kc c=(c,false,0):=by
  unfold Kc Zo;(rw [if_neg (by simp_all)];(rw [if_pos ‹_›];done))
 refine Jl [0,0,0] [(KP c a4 c4 a5 c5 a6 c.books.length),Bo false,I 0] (JY [] (.cons _ (.cons _ .slnil)) hl1 ?_)
 rw [hf2]
 try dsimp only
 exact ⟨a4,c4,a5,c5,a6,c.books.length,rfl,w5,hs4,w6,w7,w8,hs5,hs6,rfl⟩
 try simp only [BB] at h2
 refine Jm (Ja ?_)
 refine WC [0,4,0,0,5] [(1,Pt b1 0),(2,Pt b2 0)] [[Sg b2 0 [I 0,Sl none 0 0,I 0,I 0,I 0,Sl none 0 0,Sl none 0 0]],[Sg b1 0 [I c.queue.most,Sl a4 c.queue.wait.length c4,I c.batch,I c.every,I (IntKind.i64.wrap (c.now+1)),Sl a5 c.heads.length c5,Sl a6 c.books.length c.books.length]]] ?_
 have e1:IntKind.i64.wrap (c.now+1)=c.now+1:=IntWalk.i64_in _ (by (have q_:=ZL ‹_›;have q10_:=Va (n:=c.now+1) (e:=c.every) (by omega) (by omega);omega))
 refine KJ (fr':=[(1,Pt b1 0),(2,Pt b2 0)]) (L':=[[Sg b2 0 [I 0,Sl none 0 0,I 0,I 0,I 0,Sl none 0 0,Sl none 0 0]],[Sg b1 0 [I c.queue.most,Sl a4 c.queue.wait.length c4,I c.batch,I c.every,I (c.now+1),Sl a5 c.heads.length c5,Sl a6 c.books.length c.books.length]]]) (by rfl) (by simp only [Kn,KP,e1];first | done | rfl) ?_
 clear e1
 refine Je (Je (Jb ?_))
 refine Jc [0,4,0,4] [(1,Pt b1 0),(2,Pt b2 0),(30,I (c.now+1)),(32,I c.every)] ?_
 refine Jbr (k:=.i64) (x:=c.now+1) (y:=c.every) 33 false ((c.now+1).tmod c.every) (by (have q_:=ZL ‹_›;have q10_:=Va (n:=c.now+1) (e:=c.every) (by omega) (by omega);omega)) rfl ?_
 refine Jc [0] [(1,Pt b1 0),(2,Pt b2 0),(34,Bo (!decide ((c.now+1).tmod c.every=0)))] (Jd (Ja ?_))
 refine Jo (!decide ((c.now+1).tmod c.every=0)) (fun h3=>?_) (fun h3=>?_)
 try simp only [BB] at h3
 refine WC [4,3,0,0] [(2,Pt b2 0),(3,Bo false),(4,I 0)] [[Sg b2 0 [I c.queue.most,Sl a4 c.queue.wait.length c4,I c.batch,I c.every,I (c.now+1),Sl a5 c.heads.length c5,Sl a6 c.books.length c.books.length]],[Sg b1 0 [I c.queue.most,Sl a4 c.queue.wait.length c4,I c.batch,I c.every,I (c.now+1),Sl a5 c.heads.length c5,Sl a6 c.books.length c.books.length]]] ?_
 refine Jk (Jh ?_)
 have hf3:Kc c=((⟨c.queue,c.batch,c.every,c.now+1,c.heads,c.books⟩:KF),false,0):=by
  unfold Kc Zo;(rw [if_neg (by simp_all)];(rw [if_neg (by simp_all)];(rw [if_pos ‹_›];done)))
 refine Jl [0,0,0] [.agg #[I c.queue.most,Sl a4 c.queue.wait.length c4,I c.batch,I c.every,I (c.now+1),Sl a5 c.heads.length c5,Sl a6 c.books.length c.books.length],Bo false,I 0] (JY [] (.cons _ (.cons _ .slnil)) hl1 ?_)
 rw [hf3]
 try dsimp only
 exact ⟨a4,c4,a5,c5,a6,c.books.length,rfl,‹_›,hs4,‹_›,‹_›,(by have q_:=ZL ‹_›;(try dsimp only);omega),hs5,hs6,rfl⟩
 try simp only [BB] at h3
 refine Jm (Ja (Je (Jb ?_)))
 refine Jc [0,4,0,4] [(1,Pt b1 0),(2,Pt b2 0),(38,.agg #[I c.queue.most,Sl a4 c.queue.wait.length c4]),(40,I c.batch)] ?_
 refine JN 41 (Jd0 G1 [I c.queue.most,Sl a4 c.queue.wait.length c4] c.queue (⟨a4,c4,rfl,‹_›,hs4⟩) c.batch) (fun v G2 L1 hl2 hp=>?_)
 obtain ⟨a7,c6,a8,c7,rfl,w9,hs7,hs8,rfl⟩:=hp
 refine Jc [0,0,0,0] [(1,Pt b1 0),(2,Pt b2 0),(42,.agg #[I (((JH c.queue c.batch).1).most),Sl a7 ((((JH c.queue c.batch).1).wait).length) c6]),(43,Sl a8 (((JH c.queue c.batch).2.1).length) c7),(44,I ((JH c.queue c.batch).2.2))] ?_
 refine Ju 6 #[I 0,Sl none 0 0] 30 (fun b3=>?_)
 refine Kb [3,0,0] [(1,Pt b1 0),(2,Pt b2 0),(6,Pt b3 0),(7,Sl a8 (((JH c.queue c.batch).2.1).length) c7)] [[Sg b3 0 [I (((JH c.queue c.batch).1).most),Sl a7 ((((JH c.queue c.batch).1).wait).length) c6]],[Sg b2 0 [I 0,Sl none 0 0,I 0,I 0,I 0,Sl none 0 0,Sl none 0 0]],[Sg b1 0 [I c.queue.most,Sl a4 c.queue.wait.length c4,I c.batch,I c.every,I (c.now+1),Sl a5 c.heads.length c5,Sl a6 c.books.length c.books.length]]] (Jd (Ja (Je (Jb ?_))))
 refine Jc [6] [(1,Pt b1 0),(2,Pt b2 0),(6,Pt b3 0),(7,Sl a8 (((JH c.queue c.batch).2.1).length) c7),(45,.agg #[I c.queue.most,Sl a4 c.queue.wait.length c4,I c.batch,I c.every,I (c.now+1),Sl a5 c.heads.length c5,Sl a6 c.books.length c.books.length])] ?_
 refine JN 46 (JdJ G2 [I c.queue.most,Sl a4 c.queue.wait.length c4,I c.batch,I c.every,I (c.now+1),Sl a5 c.heads.length c5,Sl a6 c.books.length c.books.length] (⟨c.queue,c.batch,c.every,c.now+1,c.heads,c.books⟩:KF) (⟨a4,c4,a5,c5,a6,c.books.length,rfl,‹_›,(hs4.mono hl2),‹_›,‹_›,(by have q_:=ZL ‹_›;(try dsimp only);omega),(hs5.mono hl2),(hs6.mono hl2)⟩) (by (have q_:=ZL ‹_›;(try dsimp only);omega)) (by (have q_:=ZL ‹_›;(try dsimp only);omega))) (fun v G3 L1 hl3 hp=>?_)
 obtain ⟨a9,c8,rfl,hs9,rfl⟩:=hp
 refine JN 47 (ZV G3 a9 c8 (Qu (⟨c.queue,c.batch,c.every,c.now+1,c.heads,c.books⟩:KF).books) hs9) (fun v G4 L1 hl4 hp=>?_)
 obtain ⟨a10,c9,r1,rfl,hr1,rfl⟩:=hp
 refine Jc [0] [(1,Pt b1 0),(2,Pt b2 0),(6,Pt b3 0),(7,Sl a8 (((JH c.queue c.batch).2.1).length) c7),(9,Sl a10 ((Qu (⟨c.queue,c.batch,c.every,c.now+1,c.heads,c.books⟩:KF).books).length) c9)] (Jd (Ja (Je ?_)))
 refine Jg [0,0,0] [(1,Pt b1 0),(2,Pt b2 0),(6,Pt b3 0),(9,Sl a10 ((Qu (⟨c.queue,c.batch,c.every,c.now+1,c.heads,c.books⟩:KF).books).length) c9),(48,Sl a8 (((JH c.queue c.batch).2.1).length) c7),(49,I (((JH c.queue c.batch).2.1).length:Int)),(50,I 0)] (Jy ?_)
 have hlm_hs8:((JH c.queue c.batch).2.1).length≤9223372036854775807:=Nat.le_trans (hs8).le (hs8).max
 refine Qb (σ:=Nat×Option Addr×Nat×List Kq×List J1×Jt) (fun q_=>(Jt.le G4 q_.2.2.2.2.2)∧(q_.1≤((JH c.queue c.batch).2.1).length)∧(J8 Qj q_.2.2.2.2.2 q_.2.1 q_.2.2.1 q_.2.2.2.2.1 q_.2.2.2.1)∧(q_.2.2.2.2.1=Jaa (Qu c.books) ((JH c.queue c.batch).2.1.take q_.1)∧q_.2.2.2.2.1.length≤1000)) (fun q_=>[(1,Pt b1 0),(2,Pt b2 0),(6,Pt b3 0),(9,Sl q_.2.1 q_.2.2.2.2.1.length q_.2.2.1),(48,Sl a8 (((JH c.queue c.batch).2.1).length) c7),(49,I (((JH c.queue c.batch).2.1).length:Int)),(50,I (q_.1:Int))]) (fun q_=>q_.2.2.2.2.2) (fun q_=>[q_.2.2.2.1,[Sg b3 0 [I (((JH c.queue c.batch).1).most),Sl a7 ((((JH c.queue c.batch).1).wait).length) c6]],[Sg b2 0 [I 0,Sl none 0 0,I 0,I 0,I 0,Sl none 0 0,Sl none 0 0]],[Sg b1 0 [I c.queue.most,Sl a4 c.queue.wait.length c4,I c.batch,I c.every,I (c.now+1),Sl a5 c.heads.length c5,Sl a6 c.books.length c.books.length]]]) (fun q_=>((JH c.queue c.batch).2.1).length-q_.1) (0,a10,c9,r1,Qu (⟨c.queue,c.batch,c.every,c.now+1,c.heads,c.books⟩:KF).books,G4) ⟨(Jt.le_refl _),(by (try dsimp only);exact Nat.zero_le _),hr1,⟨rfl,by have q_:=ZL ‹_›;(try dsimp only);omega⟩⟩ (fun q_ hs=>?_)
 obtain ⟨i,aw,cw,rw,xw,g⟩:=q_
 obtain ⟨hle,hi,hrw,hxw⟩:=hs
 dsimp only at hle hi hrw hxw
 refine KJ (fr':=[(1,Pt b1 0),(2,Pt b2 0),(6,Pt b3 0),(9,Sl aw xw.length cw),(48,Sl a8 (((JH c.queue c.batch).2.1).length) c7),(49,I (((JH c.queue c.batch).2.1).length:Int)),(50,I (i:Int))]) (L':=[rw,[Sg b3 0 [I (((JH c.queue c.batch).1).most),Sl a7 ((((JH c.queue c.batch).1).wait).length) c6]],[Sg b2 0 [I 0,Sl none 0 0,I 0,I 0,I 0,Sl none 0 0,Sl none 0 0]],[Sg b1 0 [I c.queue.most,Sl a4 c.queue.wait.length c4,I c.batch,I c.every,I (c.now+1),Sl a5 c.heads.length c5,Sl a6 c.books.length c.books.length]]]) rfl rfl ?_
 refine Jg [0] [(1,Pt b1 0),(2,Pt b2 0),(6,Pt b3 0),(9,Sl aw xw.length cw),(48,Sl a8 (((JH c.queue c.batch).2.1).length) c7),(49,I (((JH c.queue c.batch).2.1).length:Int)),(50,I (i:Int)),(51,Bo (decide ((i:Int)<(((JH c.queue c.batch).2.1).length:Int))))] (Je ?_)
 refine Jo (decide ((i:Int)<(((JH c.queue c.batch).2.1).length:Int))) (fun h4=>?_) (fun h4=>?_)
 try simp only [BB] at h4
 refine Jm (Ja (Je (Jy (Je (Jb ?_)))))
 obtain ⟨b4,o1,rfl⟩:=RS.addr (hs8.mono (Jt.le_trans (Jt.le_trans hl3 hl4) hle)) (k:=i) (by omega)
 obtain ⟨x1,hx1⟩:=Q8 (l:=(JH c.queue c.batch).2.1) (k:=i) (by omega)
 obtain ⟨_,⟨rfl,w10,w11,_,_⟩,hc1⟩:=RS.get (hs8.mono (Jt.le_trans (Jt.le_trans hl3 hl4) hle)) hx1
 refine Kh (b:=b4) (off:=o1) (len:=((JH c.queue c.batch).2.1).length) (cap:=c7) (ik:=.i64) 52 83 4 i (by omega) ?_
 refine J9 53 83 (cs:=[Sr x1.name,Sr x1.value,U x1.n,U x1.tag]) 0 (.agg #[Sr x1.name,Sr x1.value,U x1.n,U x1.tag]) hc1 ?_
 refine Ju 11 #[Sr ([]),Sr ([]),U 0,U 0] 83 (fun b5=>?_)
 refine Kb [3] [(1,Pt b1 0),(2,Pt b2 0),(6,Pt b3 0),(9,Sl aw xw.length cw),(11,Pt b5 0),(48,Sl (At b4 o1) (((JH c.queue c.batch).2.1).length) c7),(49,I (((JH c.queue c.batch).2.1).length:Int)),(50,I (i:Int))] [[Sg b5 0 [Sr x1.name,Sr x1.value,U x1.n,U x1.tag]],rw,[Sg b3 0 [I (((JH c.queue c.batch).1).most),Sl a7 ((((JH c.queue c.batch).1).wait).length) c6]],[Sg b2 0 [I 0,Sl none 0 0,I 0,I 0,I 0,Sl none 0 0,Sl none 0 0]],[Sg b1 0 [I c.queue.most,Sl a4 c.queue.wait.length c4,I c.batch,I c.every,I (c.now+1),Sl a5 c.heads.length c5,Sl a6 c.books.length c.books.length]]] (Jd (Ja (Jb ?_)))
 refine Jc [0,0,2,0,2] [(1,Pt b1 0),(2,Pt b2 0),(6,Pt b3 0),(9,Sl aw xw.length cw),(48,Sl (At b4 o1) (((JH c.queue c.batch).2.1).length) c7),(49,I (((JH c.queue c.batch).2.1).length:Int)),(50,I (i:Int)),(55,Sl aw xw.length cw),(57,Sr x1.name),(59,Sr x1.value)] ?_
 refine Ys (E:=Qj) 1 hrw (by (have q0_:=hxw.2;simp only [Qj];omega)) (fun G5 hl5 hs10=>?_)
 refine JN 60 (Jgl G5 aw cw xw hs10 x1.name w10 x1.value w11) (fun v G6 L1 hl6 hp=>?_)
 obtain ⟨a11,c10,r2,rfl,hr2,rfl⟩:=hp
 refine Jc [0,0,0,0] [(1,Pt b1 0),(2,Pt b2 0),(6,Pt b3 0),(9,Sl a11 (((K5 xw x1.name x1.value).1).length) c10),(48,Sl (At b4 o1) (((JH c.queue c.batch).2.1).length) c7),(49,I (((JH c.queue c.batch).2.1).length:Int)),(50,I (i:Int))] (Jd (JK (Ja (Jb ?_))))
 refine Jc [0,0] [(1,Pt b1 0),(2,Pt b2 0),(6,Pt b3 0),(9,Sl a11 (((K5 xw x1.name x1.value).1).length) c10),(48,Sl (At b4 o1) (((JH c.queue c.batch).2.1).length) c7),(49,I (((JH c.queue c.batch).2.1).length:Int)),(50,I (IntKind.i64.wrap ((i:Int)+1)))] ?_
 have e2:IntKind.i64.wrap ((i:Int)+1)=(i:Int)+1:=IntWalk.i64_in _ (by omega)
 refine J2 (fr':=[(1,Pt b1 0),(2,Pt b2 0),(6,Pt b3 0),(9,Sl a11 (((K5 xw x1.name x1.value).1).length) c10),(48,Sl (At b4 o1) (((JH c.queue c.batch).2.1).length) c7),(49,I (((JH c.queue c.batch).2.1).length:Int)),(50,I ((i:Int)+1))]) (L':=[r2,[Sg b5 0 [Sr x1.name,Sr x1.value,U x1.n,U x1.tag]],[],[Sg b3 0 [I (((JH c.queue c.batch).1).most),Sl a7 ((((JH c.queue c.batch).1).wait).length) c6]],[Sg b2 0 [I 0,Sl none 0 0,I 0,I 0,I 0,Sl none 0 0,Sl none 0 0]],[Sg b1 0 [I c.queue.most,Sl a4 c.queue.wait.length c4,I c.batch,I c.every,I (c.now+1),Sl a5 c.heads.length c5,Sl a6 c.books.length c.books.length]]]) (by simp only [Kn,KP,e2];first | done | rfl) (by rfl) ?_
 clear e2
 refine Jd ?_
 refine Jj 0 ?_
 refine Jj 1 ?_
 refine Jj 2 ?_
 refine QY [r2,[Sg b3 0 [I (((JH c.queue c.batch).1).most),Sl a7 ((((JH c.queue c.batch).1).wait).length) c6]],[Sg b2 0 [I 0,Sl none 0 0,I 0,I 0,I 0,Sl none 0 0,Sl none 0 0]],[Sg b1 0 [I c.queue.most,Sl a4 c.queue.wait.length c4,I c.batch,I c.every,I (c.now+1),Sl a5 c.heads.length c5,Sl a6 c.books.length c.books.length]]] (.cons _ (.cons _ (.cons_cons _ (.cons_cons _ (.cons_cons _ (.cons_cons _ .slnil)))))) ?_
 exact Qd (i+1,a11,c10,r2,(K5 xw x1.name x1.value).1,G6) ⟨(Jt.le_trans hle (Jt.le_trans hl5 hl6)),(by omega),hr2,⟨by rw [hxw.1];exact JgB hx1,Nat.le_trans (Jgk _ _ _) (by decide)⟩⟩ (by (try dsimp only);omega)
 try simp only [BB] at h4
 refine KU (J3 (Ke (JW (Ja (Je (Jb ?_))))))
 refine Jc [0] [(1,Pt b1 0),(2,Pt b2 0),(6,Pt b3 0),(9,Sl aw xw.length cw),(65,Sl aw xw.length cw)] ?_
 refine Ys (E:=Qj) 0 hrw (by (have q0_:=hxw.2;simp only [Qj];omega)) (fun G7 hl7 hs11=>?_)
 refine Ji 66 (.tuple #[U ((JQ xw []).1),I ((JQ xw []).2)]) (V8 G7 aw cw xw hs11) ?_
 refine Jc [0,0,0,0,0] [(1,Pt b1 0),(2,Pt b2 0),(6,Pt b3 0),(9,Sl aw xw.length cw),(12,U ((JQ xw []).1))] (Jd (Ja (Je ?_)))
 refine Kw [4,5,7,9] ?_
 refine Wa [(0,.agg #[I (((JH c.queue c.batch).1).most),Sl a7 ((((JH c.queue c.batch).1).wait).length) c6]),(1,Pt b1 6),(2,Sl a6 c.books.length c.books.length),(3,Sl aw xw.length cw),(6,Pt b1 0)] ?_
 refine JZ [] [(0,4),(1,0),(2,8),(3,0),(6,0)] [] [4] (List.forall_mem_nil _) (List.forall_mem_cons.2 ⟨?_,List.forall_mem_nil _⟩)
 refine JO 4 [(72,Sl aw xw.length cw)] (fun X=>?_)
 refine KC 73 1 #[Sl aw xw.length cw] 66 (fun b6=>?_)
 refine JS [(4,Sl (At b6 0) 1 1)] ?_
 refine JZ [3] [(0,6),(1,0),(2,10),(6,0)] [] [5] (List.forall_mem_nil _) (List.forall_mem_cons.2 ⟨?_,List.forall_mem_nil _⟩)
 refine JO 5 [(71,Sl a6 c.books.length c.books.length),(73,Sl (At b6 0) 1 1)] (fun X=>?_)
 refine Jhz (E:=Qf) (b:=b6) (cs:=[Sl aw xw.length cw]) 74 66 0 xw (hs6.mono (Jt.le_trans (Jt.le_trans (Jt.le_trans (Jt.le_trans hl2 hl3) hl4) hle) hl7)) (⟨aw,cw,rfl,hs11⟩) (by (have q_:=ZL ‹_›;(try simp only [List.length_append,List.length_cons,List.length_nil]);omega)) (by (have q_:=ZL ‹_›;simp only [Qf,List.length_append,List.length_cons,List.length_nil];omega)) (fun a12 c11 r3 hr3=>?_)
 refine JS [(5,Sl a12 ((c.books++[xw]).length) c11)] ?_
 refine JZ [1,2,3] [(0,8),(6,0)] [] [7] (List.forall_mem_nil _) (List.forall_mem_cons.2 ⟨?_,List.forall_mem_nil _⟩)
 refine JO 7 [(69,.agg #[I (((JH c.queue c.batch).1).most),Sl a7 ((((JH c.queue c.batch).1).wait).length) c6]),(75,Pt b1 0)] (fun X=>?_)
 refine KQ 5 [r3,[Sg b6 0 [Sl aw xw.length cw]],[],[Sg b3 0 [I (((JH c.queue c.batch).1).most),Sl a7 ((((JH c.queue c.batch).1).wait).length) c6]],[Sg b2 0 [I 0,Sl none 0 0,I 0,I 0,I 0,Sl none 0 0,Sl none 0 0]],[Sg b1 0 [I (((JH c.queue c.batch).1).most),Sl a7 ((((JH c.queue c.batch).1).wait).length) c6,I c.batch,I c.every,I (c.now+1),Sl a5 c.heads.length c5,Sl a6 c.books.length c.books.length]]] ?_
 refine Kj [(8,Pt b1 6)] ?_
 refine JZ [0,1,2,3,6] [(8,0)] [] [9] (List.forall_mem_nil _) (List.forall_mem_cons.2 ⟨?_,List.forall_mem_nil _⟩)
 refine JO 9 [(74,Sl a12 ((c.books++[xw]).length) c11),(76,Pt b1 6)] (fun X=>?_)
 refine KQ 5 [r3,[Sg b6 0 [Sl aw xw.length cw]],[],[Sg b3 0 [I (((JH c.queue c.batch).1).most),Sl a7 ((((JH c.queue c.batch).1).wait).length) c6]],[Sg b2 0 [I 0,Sl none 0 0,I 0,I 0,I 0,Sl none 0 0,Sl none 0 0]],[Sg b1 0 [I (((JH c.queue c.batch).1).most),Sl a7 ((((JH c.queue c.batch).1).wait).length) c6,I c.batch,I c.every,I (c.now+1),Sl a5 c.heads.length c5,Sl a12 ((c.books++[xw]).length) c11]]] ?_
 refine Kj [] ?_
 refine Kv [0,1,2,3,6,8] [] [] [(1,Pt b1 0),(2,Pt b2 0),(12,U ((JQ xw []).1))] (List.forall_mem_nil _) ?_
 refine Ja (Je (Jb ?_))
 refine Jc [0,12,0,0,12] [(1,Pt b1 0),(2,Pt b2 0),(79,Sl a5 c.heads.length c5),(80,U ((JQ xw []).1)),(82,I (c.now+1))] ?_
 refine JN 83 (Jd7 G7 a5 c5 c.heads (hs5.mono (Jt.le_trans (Jt.le_trans (Jt.le_trans (Jt.le_trans hl2 hl3) hl4) hle) hl7)) ((JQ xw []).1) (Yn _ _) (c.now+1) (by have q_:=ZL ‹_›;(try dsimp only);omega)) (fun v G8 L1 hl8 hp=>?_)
 obtain ⟨a13,c12,r4,rfl,hr4,rfl⟩:=hp
 refine Kb [0,0,0,0,15] [(1,Pt b1 0),(2,Pt b2 0)] [r4,r3,[Sg b6 0 [Sl aw xw.length cw]],[],[Sg b3 0 [I (((JH c.queue c.batch).1).most),Sl a7 ((((JH c.queue c.batch).1).wait).length) c6]],[Sg b2 0 [I 0,Sl none 0 0,I 0,I 0,I 0,Sl none 0 0,Sl none 0 0]],[Sg b1 0 [I (((JH c.queue c.batch).1).most),Sl a7 ((((JH c.queue c.batch).1).wait).length) c6,I c.batch,I c.every,I (c.now+1),Sl a13 (((K8 c.heads ((JQ xw []).1) (c.now+1)).1).length) c12,Sl a12 ((c.books++[xw]).length) c11]]] (Jd (Ja ?_))
 refine WC [14,13,0,0] [(2,Pt b2 0),(3,Bo true),(4,I 0)] [r4,r3,[Sg b6 0 [Sl aw xw.length cw]],[],[Sg b3 0 [I (((JH c.queue c.batch).1).most),Sl a7 ((((JH c.queue c.batch).1).wait).length) c6]],[Sg b2 0 [I (((JH c.queue c.batch).1).most),Sl a7 ((((JH c.queue c.batch).1).wait).length) c6,I c.batch,I c.every,I (c.now+1),Sl a13 (((K8 c.heads ((JQ xw []).1) (c.now+1)).1).length) c12,Sl a12 ((c.books++[xw]).length) c11]],[Sg b1 0 [I (((JH c.queue c.batch).1).most),Sl a7 ((((JH c.queue c.batch).1).wait).length) c6,I c.batch,I c.every,I (c.now+1),Sl a13 (((K8 c.heads ((JQ xw []).1) (c.now+1)).1).length) c12,Sl a12 ((c.books++[xw]).length) c11]]] ?_
 refine Jk ?_
 refine We (E:=KA) 0 hr4 (by (have q_:=Jeh c.heads ((JQ xw []).1) (c.now+1);simp only [KA];omega)) (fun G9 hl9 hs12=>?_)
 refine We (E:=Qf) 1 (hr3.mono (Jt.le_trans hl8 hl9)) (by (have q_:=ZL ‹_›;simp only [Qf,List.length_append,List.length_cons,List.length_nil];omega)) (fun G10 hl10 hs13=>?_)
 have hf4:Kc c=((⟨((JH c.queue c.batch).1),c.batch,c.every,c.now+1,(K8 c.heads ((JQ xw []).1) (c.now+1)).1,(c.books++[xw])⟩:KF),true,0):=by
  unfold Kc Zo;(rw [if_neg (by simp_all)];(rw [if_neg (by simp_all)];(rw [if_neg (by simp_all)];have e_:xw=YX c:=(by rw [hxw.1,List.take_of_length_le (by omega)];rfl);rw [← e_])))
 refine Jl [5,0,0] [.agg #[I (((JH c.queue c.batch).1).most),Sl a7 ((((JH c.queue c.batch).1).wait).length) c6,I c.batch,I c.every,I (c.now+1),Sl a13 (((K8 c.heads ((JQ xw []).1) (c.now+1)).1).length) c12,Sl a12 ((c.books++[xw]).length) c11],Bo true,I 0] (JY [] (.cons _ (.cons _ (.cons _ (.cons _ (.cons _ (.cons _ (.cons _ .slnil))))))) (Jt.le_trans (Jt.le_trans (Jt.le_trans (Jt.le_trans (Jt.le_trans (Jt.le_trans (Jt.le_trans (Jt.le_trans hl1 hl2) hl3) hl4) hle) hl7) hl8) hl9) hl10) ?_)
 rw [hf4]
 try dsimp only
 exact ⟨a7,c6,a13,c12,a12,c11,rfl,w9,(hs7.mono (Jt.le_trans (Jt.le_trans (Jt.le_trans (Jt.le_trans (Jt.le_trans (Jt.le_trans hl3 hl4) hle) hl7) hl8) hl9) hl10)),‹_›,‹_›,(by have q_:=ZL ‹_›;(try dsimp only);omega),(hs12.mono hl10),hs13,rfl⟩
end Go.Proofs.YtnnlpbjdignhaaaGreatDoor
