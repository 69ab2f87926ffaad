import Derived.Test.YtnnlpbjdignhaaaGreatDoorTcClerk
namespace Go.Proofs.YtnnlpbjdignhaaaGreatDoor
open Go.Tx
set_option linter.unusedVariables false
set_option linter.unusedSimpArgs false
open Go.Tx Go.Proofs
theorem JlC {α:Type} {x b:List α} {i:Nat} {v:α} (h:x.take i=b.take i) (hi:i<x.length) (hv:b[i]? = some v):(x.set i v).take (i+1)=b.take (i+1):=by
 rw [List.take_add_one,List.take_set_of_le (Nat.le_refl _),h,List.take_add_one,hv,List.getElem?_set_self hi]
theorem Jik {α:Type} {x b:List α} {i:Nat} (hl:x.length=b.length) (h:x.take i=b.take i) (hi:b.length≤i):x=b:=by
 rw [List.take_of_length_le (by omega),List.take_of_length_le hi] at h;exact h
def WN (c:Kw):Bool:=decide ((c.heads.length:Int)=40) || decide (c.now=1000000000)
def Kk (c:Kw) (a:WT):Kw×Int×Int:=if ¬ J8 c=0 then (Zy,0,J8 c) else if ¬ (JB c.queue a).2.2=0∧¬ (JB c.queue a).2.2=7 then (Zy,0,(JB c.queue a).2.2) else if WN c=true then (Zy,0,9) else if (JB c.queue a).2.2=7∨WI c [a.name] > 24 then (Zy,0,7) else (⟨(JB c.queue a).1,c.batch,c.every,c.now,c.heads,c.books⟩,c.now-c.now.tmod c.every+(Qa (JB c.queue a).2.1 c.batch c.every).1,0)
def Vg (b:List JV) (l:List WT):List JV:=l.foldl (fun b a=>(KN b a.name a.value).1) b
theorem Jhk {b:List JV} {l:List WT} {i:Nat} {a:WT} (h:l[i]? = some a):(KN (Vg b (l.take i)) a.name a.value).1=Vg b (l.take (i+1)):=by
 unfold Vg;rw [List.take_add_one,h];simp [List.foldl_append]
def Zc (c:Kw):List JV:=Vg (Qx c.books) (JK c.queue c.batch).2.1
def J6 (c:Kw):Kw×Bool×Int:=if ¬ J8 c=0 then (Zy,false,J8 c) else if WN c=true then (c,false,0) else if ¬ (c.now+1).tmod c.every=0 then (⟨c.queue,c.batch,c.every,c.now+1,c.heads,c.books⟩,false,0) else (⟨(JK c.queue c.batch).1,c.batch,c.every,c.now+1,(Qe c.heads (JO (Zc c) []).1 (c.now+1)).1,c.books++[Zc c]⟩,true,0)
theorem Jc4 {b:List JV} (h:QP b):(KM b).Nodup:=by
 unfold KM
 refine List.pairwise_map.2 (h.pair.imp fun {x y} hxy e=>?_)
 rw [Zi.2 e] at hxy;omega
theorem JaC {b:List JV} {s:List UInt8}:s∈KM b ↔ ∃ x∈b,x.name=s:=by unfold KM;simp
theorem Wu {b:List WT} {s:List UInt8}:s∈Qi b ↔ ∃ x∈b,x.name=s:=by unfold Qi;simp
theorem Jc5 {b:List JV} {name value:List UInt8} (h:QP b) (hr:KC name value=0) (hf:name∈KM b∨b.length<24):(KN b name value).2=0:=by
 have hp:=(Jhf hr).2.2
 have e1:Jq b name=((bsF b name QE).1,(bsF b name QE).2,0):=by
  unfold Jq;rw [if_neg (by rw [KJ.2 h];simp),if_neg (by rw [hp];simp)]
 have e2:WW b name value=0:=by
  unfold WW
  rw [e1,if_neg (by simp),if_neg (by rw [hr];simp),if_neg]
  rintro ⟨q1,q2⟩
  rcases hf with hf | hf
  ·
   have:=(Jf0 h name).2 (JaC.1 hf)
   rw [this] at q1;cases q1
  ·
   omega
 unfold KN
 rw [if_neg (by omega)]
theorem JcI {b:List JV} {name value:List UInt8} (h:(KN b name value).2=0) {s:List UInt8}:s∈KM (KN b name value).1 ↔ s=name∨s∈KM b:=by
 obtain ⟨_,_,_,q⟩:=VH h
 rw [JaC,JaC]
 constructor
 ·
  rintro ⟨x,hx,rfl⟩
  rcases (q x).1 hx with e | ⟨e,_⟩
  ·
   exact .inl (by rw [e])
  ·
   exact .inr ⟨x,e,rfl⟩
 ·
  rintro (rfl | ⟨x,hx,rfl⟩)
  ·
   exact ⟨_,(q _).2 (.inl rfl),rfl⟩
  ·
   by_cases e:x.name=name
   ·
    exact ⟨_,(q _).2 (.inl rfl),e.symm⟩
   ·
    exact ⟨x,(q x).2 (.inr ⟨hx,e⟩),rfl⟩
theorem Jfn {a:WT} (h:Kq a=0):KC a.name a.value=0:=h
theorem Jfo:∀ (l:List WT) (b:List JV),QP b→(∀ a∈l,Kq a=0)→nn (KM b++Qi l)≤24 →
  QP (Vg b l)∧(∀ s,s∈KM (Vg b l) ↔ s∈KM b∨s∈Qi l)
 | [],b,h,_,_=>⟨h,fun s=>by simp [Vg,Qi]⟩
 | a::l,b,h,hr,hn=>by
  have ha:=Jfn (hr a (by simp))
  have hf:a.name∈KM b∨b.length<24:=by
   by_cases e:a.name∈KM b
   ·
    exact .inl e
   ·
    right
    have h1:(a.name::KM b).Nodup:=List.nodup_cons.2 ⟨e,Jc4 h⟩
    have h2:=Jhi h1
    have h3:nn (a.name::KM b)≤nn (KM b++Qi (a::l)):=V0 fun x hx=>by
     rcases List.mem_cons.1 hx with rfl | hx
     ·
      exact List.mem_append.2 (.inr (Wu.2 ⟨a,by simp,rfl⟩))
     ·
      exact List.mem_append.2 (.inl hx)
    simp only [List.length_cons] at h2
    have:(KM b).length=b.length:=by simp [KM]
    omega
  have hs:=Jc5 h ha hf
  have hok:=(VH hs).2.2.1
  have hmem:∀ s,s∈KM (KN b a.name a.value).1++Qi l→s∈KM b++Qi (a::l):=fun s hs'=>by
   rcases List.mem_append.1 hs' with q | q
   ·
    rcases (JcI hs).1 q with rfl | q
    ·
     exact List.mem_append.2 (.inr (Wu.2 ⟨a,by simp,rfl⟩))
    ·
     exact List.mem_append.2 (.inl q)
   ·
    exact List.mem_append.2 (.inr (by simp only [Qi,List.map_cons,List.mem_cons];exact .inr q))
  obtain ⟨q1,q2⟩:=Jfo l _ hok (fun x hx=>hr x (by simp [hx])) (Nat.le_trans (V0 hmem) hn)
  refine ⟨q1,fun s=>?_⟩
  show s∈KM (Vg (KN b a.name a.value).1 l) ↔ _
  rw [q2 s,JcI hs]
  simp only [Qi,List.map_cons,List.mem_cons]
  constructor
  ·
   rintro ((h | h) | h)
   ·
    exact .inr (.inl h)
   ·
    exact .inl h
   ·
    exact .inr (.inr h)
  ·
   rintro (h | h | h)
   ·
    exact .inl (.inr h)
   ·
    exact .inl (.inl h)
   ·
    exact .inr h
theorem Wb.last {c:Kw} (h:Wb c):c.books[c.books.length-1]? = some (Qx c.books):=by
 have:=h.len;have:=h.chain.len1
 have hl:c.books.length-1<c.books.length:=by omega
 unfold Qx;rw [List.getElem?_eq_getElem hl];rfl
theorem Wb.book {c:Kw} (h:Wb c) {k:Nat} {x:List JV} (hx:c.books[k]? = some x):QP x:=(JbM (h.root k x hx).1).1
theorem Wb.bds {c:Kw} (h:Wb c):0<c.books.length∧c.books.length≤1000∧(Qx c.books).length≤1000∧c.queue.wait.length≤1000∧1≤c.heads.length∧c.heads.length≤40:=by
 have h1:=K4.1 h.queue
 have:=h.len;have:=h.chain.len1;have:=h.chain.len
 have:=(h.book h.last).len
 omega
theorem ZR {c:Kw} (h:J8 c=0):(0<c.books.length∧c.books.length≤1000∧(Qx c.books).length≤1000∧c.queue.wait.length≤1000∧1≤c.heads.length∧c.heads.length≤40)∧(0≤c.now∧c.now≤1000000000)∧(1≤c.batch∧c.batch≤30)∧1≤c.every∧c.every≤1000 :=
 let q:=WJ.1 h
 ⟨q.bds,q.now,q.batch,q.every⟩
theorem Vd {c:Kw} {a:WT} (h:(Kk c a).2.2=0):Wb c∧(JB c.queue a).2.2=0∧WN c=false∧nn (Vq c [a.name])≤24∧Kk c a=(⟨(JB c.queue a).1,c.batch,c.every,c.now,c.heads,c.books⟩,c.now-c.now.tmod c.every+(Qa (JB c.queue a).2.1 c.batch c.every).1,0):=by
 unfold Kk at h ⊢
 split at h
 ·
  contradiction
 split at h
 ·
  rename_i h1 h2;exact absurd h h2.1
 split at h
 ·
  cases h
 split at h
 ·
  cases h
 ·
  rename_i h1 h2 h3 h4
  rw [if_neg h1,if_neg h2,if_neg h3,if_neg h4]
  simp only [not_or] at h4
  have h5:=h4.2;unfold WI at h5
  exact ⟨WJ.1 (Decidable.not_not.1 h1),by apply Decidable.byContradiction;intro hc;exact h2 ⟨hc,h4.1⟩,by simpa using h3,by omega,rfl⟩
theorem YQ {c:Kw} {a:WT} (h:(Kk c a).2.2=0):Wb (Kk c a).1:=by
 obtain ⟨ok,hq,_,hn,e⟩:=Vd h
 rw [e]
 obtain ⟨_,_,_,e2⟩:=VV hq
 refine ⟨JdW hq,ok.batch,ok.every,ok.now,ok.chain,ok.first,ok.len,ok.at_,ok.root,?_⟩
 refine Nat.le_trans (V0 fun x hx=>?_) hn
 unfold Vq at hx ⊢
 rw [e2] at hx
 simp only [Qi,List.map_append,List.map_cons,List.map_nil,List.mem_append,List.mem_singleton,List.not_mem_nil,or_false] at hx ⊢
 rcases hx with h | h | h
 ·
  exact .inl (.inl h)
 ·
  exact .inl (.inr h)
 ·
  exact .inr h
theorem Jhl {c:Kw} (h:Wb c) (hc:WN c=false) {r:Int} (hr:r<2305843009213693951):(Qe c.heads r (c.now+1)).2=0∧Qe c.heads r (c.now+1)=(c.heads++[(Jy (WA c.heads) r (c.now+1)).1],0)∧(Jy (WA c.heads) r (c.now+1)).2=0:=by
 unfold WN at hc
 simp only [Bool.or_eq_false_iff,decide_eq_false_iff_not] at hc
 have hn:=h.now
 have he:(Jy (WA c.heads) r (c.now+1)).2=0:=by
  have hk:JD (WA c.heads)=0:=h.chain.ok _ (List.mem_of_getElem? h.chain.last)
  have hl:=h.chain.lastE
  have hf:=h.first
  have hlen:=h.chain.len
  have ha:=h.at_
  have hb:=JgP (WA c.heads)
  have hb2:=W6 hk
  unfold Jy
  have:ZV (WA c.heads) r (c.now+1)=0:=by
   unfold ZV
   rw [if_neg (by omega),if_neg (by omega),if_neg (by omega)]
   unfold JD
   simp only
   rw [if_neg (by omega),if_neg (by omega)]
  rw [if_neg (by omega)]
 have hg:Zx c.heads r (c.now+1)=0:=by
  unfold Zx
  rw [if_neg (by rw [Qb.2 h.chain];simp),if_neg (by exact_mod_cast hc.1),he]
 refine ⟨?_,?_,he⟩ <;> (unfold Qe;rw [if_neg (by omega)])
theorem JeM (l:List JR) (r t:Int):(Qe l r t).1.length≤40:=by
 by_cases h:(Qe l r t).2=0
 ·
  obtain ⟨_,h2,_,h4⟩:=Jb3 h
  rw [h4];simp;omega
 ·
  rw [JeB h];simp
theorem V8 {c:Kw} (h:Wb c):(JK c.queue c.batch).2.2=0∧JK c.queue c.batch=((⟨c.queue.most,c.queue.wait.drop (QA c.batch c.queue.wait)⟩:QL),c.queue.wait.take (QA c.batch c.queue.wait),(0:Int)):=by
 have hq:=h.queue;have hb:=h.batch
 constructor <;> (unfold JK;rw [if_neg (by omega),if_neg (by omega)])
theorem Jc6 {c:Kw} (h:Wb c):QP (Zc c)∧(∀ s,s∈KM (Zc c) ↔ s∈KM (Qx c.books)∨s∈Qi (c.queue.wait.take (QA c.batch c.queue.wait))):=by
 unfold Zc
 rw [(V8 h).2]
 refine Jfo _ _ (h.book h.last) (fun a ha=>(K4.1 h.queue).2.2.2 a (List.mem_of_mem_take ha)) (Nat.le_trans (V0 fun x hx=>?_) h.names)
 unfold Vq
 rcases List.mem_append.1 hx with q | q
 ·
  simp [q]
 ·
  obtain ⟨a,ha,rfl⟩:=Wu.1 q
  have:a.name∈Qi c.queue.wait:=Wu.2 ⟨a,List.mem_of_mem_take ha,rfl⟩
  simp [this]
theorem Jil (l:List (List JV)) (x:List JV):Qx (l++[x])=x:=by unfold Qx;simp
theorem Jim {l:List JR} (h:1≤l.length) (m:List JR):QW (l++m)=QW l:=by
 unfold QW;rw [List.getElem?_append_left (by omega)]
theorem Jin (l:List JR) (x:JR):WA (l++[x])=x:=by unfold WA;simp
structure Ticked (c d:Kw):Prop where
 ok:Wb d
 batch:d.batch=c.batch
 every:d.every=c.every
 heads:∃ m,d.heads=c.heads++m
 books:∃ m,d.books=c.books++m
theorem YR {c:Kw} (h:Wb c):(J6 c).2.2=0∧Ticked c (J6 c).1:=by
 have h0:=WJ.2 h
 unfold J6
 rw [if_neg (by omega)]
 by_cases h1:WN c=true
 ·
  rw [if_pos h1];exact ⟨rfl,h,rfl,rfl,⟨[],by simp⟩,⟨[],by simp⟩⟩
 rw [if_neg h1]
 have h1':WN c=false:=by simpa using h1
 have hnow:c.now+1≤1000000000:=by
  have:=h.now;unfold WN at h1';simp only [Bool.or_eq_false_iff,decide_eq_false_iff_not] at h1';omega
 by_cases h2:(c.now+1).tmod c.every=0
 ·
  rw [if_neg (by omega)]
  obtain ⟨t1,t2⟩:=Jc6 h
  have hroot:=YZ (q:=[]) t1 (by simp) (by simp)
  have hb:=VZ (J0 (Zc c) []) []
  have hr:(JO (Zc c) []).1<2305843009213693951:=by rw [hroot];exact hb.2
  obtain ⟨g1,g2,g3⟩:=Jhl h h1' hr
  obtain ⟨k1,k2⟩:=Jic g3
  obtain ⟨u1,u2⟩:=V8 h
  have hlen1:=h.chain.len1
  have hlt:c.heads.length<40:=(Jb3 g1).2.1
  rw [g2]
  have hbk:=h.len
  have hnx:=(VW g3).2.2.2.1
  refine ⟨rfl,⟨Jdl u1,h.batch,h.every,⟨by have:=h.now;show 0≤c.now+1;omega,hnow⟩,h.chain.snoc hlt k2 k1,?_,?_,?_,?_,?_⟩,rfl,rfl,⟨_,rfl⟩,⟨_,rfl⟩⟩
  ·
   show (QW (c.heads++_)).epoch=0;rw [Jim hlen1];exact h.first
  ·
   simp only [List.length_append,List.length_cons,List.length_nil];omega
  ·
   show (WA (c.heads++_)).at_≤c.now+1;rw [Jin,hnx];exact Int.le_refl _
  ·
   intro k x hx
   simp only at hx ⊢
   by_cases hk:k<c.books.length
   ·
    rw [List.getElem?_append_left hk] at hx
    rw [List.getElem?_append_left (by omega)]
    exact h.root k x hx
   ·
    rw [List.getElem?_append_right (by omega)] at hx
    have hk2:k-c.books.length=0:=by
     have:=(List.getElem?_eq_some_iff.1 hx).1;simp at this;omega
    rw [hk2] at hx
    simp only [List.getElem?_cons_zero,Option.some.injEq] at hx
    subst hx
    rw [List.getElem?_append_right (by omega),show k-c.heads.length=0 by omega]
    refine ⟨by rw [hroot],?_⟩
    show _=(Jy _ _ _).1.root
    rw [hnx]
  ·
   refine Nat.le_trans (V0 fun x hx=>?_) h.names
   unfold Vq at hx ⊢
   simp only [Jil,List.append_nil] at hx ⊢
   rw [u2] at hx
   rcases List.mem_append.1 hx with q | q
   ·
    rcases (t2 x).1 q with q | q
    ·
     exact List.mem_append.2 (.inl q)
    ·
     obtain ⟨a,ha,rfl⟩:=Wu.1 q
     exact List.mem_append.2 (.inr (Wu.2 ⟨a,List.mem_of_mem_take ha,rfl⟩))
   ·
    obtain ⟨a,ha,rfl⟩:=Wu.1 q
    exact List.mem_append.2 (.inr (Wu.2 ⟨a,List.mem_of_mem_drop ha,rfl⟩))
 ·
  rw [if_pos h2]
  refine ⟨rfl,⟨h.queue,h.batch,h.every,⟨by have:=h.now;show 0≤c.now+1;omega,hnow⟩,h.chain,h.first,h.len,?_,h.root,h.names⟩,rfl,rfl,⟨[],by simp⟩,⟨[],by simp⟩⟩
  have:=h.at_;show (WA c.heads).at_≤c.now+1;omega
theorem Jbt {c:Kw} (h:Wb c):((J6 c).1.now=c.now∧WN c=true)∨(WN c=false∧(J6 c).1.now=c.now+1):=by
 have h0:=WJ.2 h
 unfold J6
 rw [if_neg (by omega)]
 by_cases h1:WN c=true
 ·
  rw [if_pos h1];exact .inl ⟨rfl,h1⟩
 ·
  rw [if_neg h1]
  refine .inr ⟨by simpa using h1,?_⟩
  split <;> rfl
theorem JmE {n e:Int} (h:0≤n):n.tmod e=n % e:=Int.tmod_eq_emod_of_nonneg h
theorem Vs {n e:Int} (h:0≤n) (he:1≤e):0≤n.tmod e∧n.tmod e≤n∧n.tmod e<e:=by
 rw [JmE h]
 have h2:=Int.emod_nonneg n (show e ≠ 0 by omega)
 have h3:=Int.emod_lt_of_pos n (show 0<e by omega)
 have h1:=Int.emod_add_mul_ediv n e
 have h4:0≤e*(n / e):=Int.mul_nonneg (by omega) (Int.ediv_nonneg h (by omega))
 omega
theorem Jef (a b e:Int):0≤(Qa a b e).1∧(Qa a b e).1≤31000:=by
 unfold Qa
 split
 ·
  simp
 ·
  have h1:=Jdw (a:=a) (b:=b) (by omega) (by omega)
  have h2:=JiT (a:=a.tdiv b+1) (b:=e) (by omega) (by omega)
  simp only;omega
theorem Jc7 (G:Jt) (vs_c:List Value) (c:Kw) (h_c:VE.R G vs_c c) :QF Tryz.prog 55 #[.agg vs_c.toArray] G [] (fun u G' L'=>u=Bo (WN c)):=by
 obtain ⟨a1,c1,a2,c2,a3,c3,rfl,_,_,_,_,_,_,_⟩:=h_c
 refine JJ Tryz.func55 12 [(0,(KW c a1 c1 a2 c2 a3 c3))] rfl (fun w0 G0=>?_)
 refine Je (Jb (Ju 1 #[I c.queue.most,Sl a1 c.queue.wait.length c1,I c.batch,I c.every,I c.now,Sl a2 c.heads.length c2,Sl a3 c.books.length c3] 34 (fun b1=>Jd [0] [(1,Pt b1 0)] (Jc (Ja (Je (Jb (Jd [0,2,0,0,0] [(1,Pt b1 0),(7,Bo (decide ((c.heads.length:Int)=40)))] (KD (decide ((c.heads.length:Int)=40)) (fun bb=>[(1,Pt b1 0),(7,Bo bb)]) [1,1,1,0] [0,2,0,0] (fun bb=>[(11,Bo (bb || (decide (c.now=1000000000))))]) (Jd [0] [(2,Bo ((decide ((c.heads.length:Int)=40)) || (decide (c.now=1000000000))))] (Jc (Ja (Jk (Jl [0] [Bo ((decide ((c.heads.length:Int)=40)) || (decide (c.now=1000000000)))] (Jv (Jt.le_refl _) ?_)))))))))))))))
 have hf_:(WN c)=((decide ((c.heads.length:Int)=40)) || (decide (c.now=1000000000))):=by
  rfl
 · (try rw [hf_]);(simp only [JL];done)
theorem Jc8 (G:Jt) (vs_c:List Value) (c:Kw) (h_c:VE.R G vs_c c) (hb:c.books.length≤1000):QF Tryz.prog 56 #[.agg vs_c.toArray] G [] (fun u G' L'=>∃ (a1:Option Addr) (c2:Nat) (a3:Option Addr) (c4:Nat) (a5:Option Addr),u=.agg #[I c.queue.most,Sl a1 c.queue.wait.length c2,I c.batch,I c.every,I c.now,Sl a3 c.heads.length c4,Sl a5 c.books.length c.books.length]∧(rI c.queue.most)∧(RS QV G' a1 c2 c.queue.wait)∧(rI c.batch)∧(rI c.every)∧(rI c.now)∧(RS KE G' a3 c4 c.heads)∧(RS Qm G' a5 c.books.length c.books)∧L'=[]):=by
 obtain ⟨a1,c1,a2,c2,a3,c3,rfl,w1,hs1,w2,w3,w4,hs2,hs3⟩:=h_c
 refine JJ Tryz.func56 37 [(0,(KW c a1 c1 a2 c2 a3 c3))] rfl (fun w0 G0=>?_)
 refine Je (Jb (Ju 1 #[I c.queue.most,Sl a1 c.queue.wait.length c1,I c.batch,I c.every,I c.now,Sl a2 c.heads.length c2,Sl a3 c.books.length c3] 34 (fun b1=>Ju 2 #[I 0,Sl none 0 0,I 0,I 0,I 0,Sl none 0 0,Sl none 0 0] 34 (fun b2=>Jc (Ja (Je (Jb (Jd [0,0,4] [(1,Pt b1 0),(2,Pt b2 0),(8,Sl a1 c.queue.wait.length c1)] (JQ 9 (Z4 G a1 c1 c.queue.wait hs1) (fun v G1 L1 hl1 hp=>?_))))))))))
 obtain ⟨a4,c4,r1,rfl,hr1,rfl⟩:=hp
 refine Kd [0,0,7] [(1,Pt b1 0),(2,Pt b2 0)] [r1,[Sg b2 0 [I 0,Sl none 0 0,I 0,I 0,I 0,Sl none 0 0,Sl none 0 0]],[Sg b1 0 (Kn c a4 c4 a2 c2 a3 c3)]] (Jc (Ja (Je (Jb (Jd [0,6] [(1,Pt b1 0),(2,Pt b2 0),(13,Sl a2 c.heads.length c2)] (JQ 14 (YM G1 a2 c2 c.heads (hs2.mono hl1)) (fun v G2 L1 hl2 hp=>?_)))))))
 obtain ⟨a5,c5,r2,rfl,hr2,rfl⟩:=hp
 refine Kd [0,9] [(1,Pt b1 0),(2,Pt b2 0)] [r2,r1,[Sg b2 0 [I 0,Sl none 0 0,I 0,I 0,I 0,Sl none 0 0,Sl none 0 0]],[Sg b1 0 (Kn c a4 c4 a5 c5 a3 c3)]] (Jc (Ja (Je (Jb (Jd [0,8,0] [(1,Pt b1 0),(2,Pt b2 0),(18,I (c.books.length:Int))] (Jif (E:=Qm) (bytes:=24) 19 32 66 c.books.length ([]:List JV) ⟨rfl,rfl,fun G=>⟨_,_,rfl,RS.nil' Qo G⟩⟩ (by omega) (by omega) (by kernel_rfl) (fun a6 r3 hr3=>Jd [0] [(1,Pt b1 0),(2,Pt b2 0),(3,Sl a6 ((List.replicate c.books.length ([]:List JV)).length) c.books.length)] (Jc (Ja (Je (Jg [0,10,0,0] [(1,Pt b1 0),(2,Pt b2 0),(3,Sl a6 ((List.replicate c.books.length ([]:List JV)).length) c.books.length),(21,Sl a3 c.books.length c3),(22,I (c.books.length:Int)),(23,I 0)] (Jz ?_))))))))))))
 have hlm_hs3:c.books.length≤9223372036854775807:=Nat.le_trans (hs3).le (hs3).max
 refine Qc (σ:=Nat×Option Addr×Nat×List Ks×List (List JV)×Jt) (fun q_=>(Jt.le G2 q_.2.2.2.2.2)∧(q_.1≤c.books.length)∧(J9 Qm q_.2.2.2.2.2 q_.2.1 q_.2.2.1 q_.2.2.2.2.1 q_.2.2.2.1)∧(q_.2.2.2.2.1.length=c.books.length∧q_.2.2.2.2.1.take q_.1=c.books.take q_.1)∧(q_.2.2.1=q_.2.2.2.2.1.length)) (fun q_=>[(1,Pt b1 0),(2,Pt b2 0),(3,Sl q_.2.1 q_.2.2.2.2.1.length q_.2.2.1),(21,Sl a3 c.books.length c3),(22,I (c.books.length:Int)),(23,I (q_.1:Int))]) (fun q_=>q_.2.2.2.2.2) (fun q_=>[q_.2.2.2.1,r2,r1,[Sg b2 0 [I 0,Sl none 0 0,I 0,I 0,I 0,Sl none 0 0,Sl none 0 0]],[Sg b1 0 (Kn c a4 c4 a5 c5 a3 c3)]]) (fun q_=>c.books.length-q_.1) (0,a6,c.books.length,r3,(List.replicate c.books.length ([]:List JV)),G2) ⟨(Jt.le_refl _),(by (try dsimp only);exact Nat.zero_le _),hr3,⟨by simp,rfl⟩,(by (try dsimp only);simp)⟩ (fun q_ hs=>?_)
 obtain ⟨i,aw,cw,rw,xw,g⟩:=q_
 obtain ⟨hle,hi,hrw,hxw,hcw⟩:=hs
 dsimp only at hle hi hrw hxw hcw
 refine KQ (fr':=[(1,Pt b1 0),(2,Pt b2 0),(3,Sl aw xw.length cw),(21,Sl a3 c.books.length c3),(22,I (c.books.length:Int)),(23,I (i:Int))]) (L':=[rw,r2,r1,[Sg b2 0 [I 0,Sl none 0 0,I 0,I 0,I 0,Sl none 0 0,Sl none 0 0]],[Sg b1 0 (Kn c a4 c4 a5 c5 a3 c3)]]) rfl rfl (Jg [0] [(1,Pt b1 0),(2,Pt b2 0),(3,Sl aw xw.length cw),(21,Sl a3 c.books.length c3),(22,I (c.books.length:Int)),(23,I (i:Int)),(24,Bo (decide ((i:Int)<(c.books.length:Int))))] (Je (Jo (decide ((i:Int)<(c.books.length:Int))) (fun h1=>?_) (fun h1=>?_))))
 try simp only [BB] at h1
 refine Jm (Ja (Je (Jz (Je (Jb (Jd [0] [(1,Pt b1 0),(2,Pt b2 0),(3,Sl aw xw.length cw),(21,Sl a3 c.books.length c3),(22,I (c.books.length:Int)),(23,I (i:Int)),(25,I (i:Int))] ?_))))))
 obtain ⟨b3,o1,rfl⟩:=RS.addr (hs3.mono (Jt.le_trans (Jt.le_trans hl1 hl2) hle)) (k:=i) (by omega)
 obtain ⟨x1,hx1⟩:=Wh (l:=c.books) (k:=i) (by omega)
 obtain ⟨_,⟨a7,c6,rfl,hs4⟩,hc1⟩:=RS.get (hs3.mono (Jt.le_trans (Jt.le_trans hl1 hl2) hle)) hx1
 refine Kh (b:=b3) (off:=o1) (len:=c.books.length) (cap:=c3) (ik:=.i64) 26 66 1 i (by omega) (Ka 27 66 (cs:=[Sl a7 x1.length c6]) 0 (Sl a7 x1.length c6) hc1 (Jd [0,0] [(1,Pt b1 0),(2,Pt b2 0),(3,Sl aw xw.length cw),(4,I (i:Int)),(5,Sl a7 x1.length c6),(21,Sl (At b3 o1) c.books.length c3),(22,I (c.books.length:Int)),(23,I (i:Int))] (Jc (Ja (Jb (Jd [0,0,0] [(1,Pt b1 0),(2,Pt b2 0),(3,Sl aw xw.length cw),(21,Sl (At b3 o1) c.books.length c3),(22,I (c.books.length:Int)),(23,I (i:Int)),(28,Sl aw xw.length cw),(29,I (i:Int)),(30,Sl a7 x1.length c6)] (JQ 31 (Z3 g a7 c6 x1 hs4) (fun v G3 L1 hl3 hp=>?_))))))))
 obtain ⟨a8,c7,_,rfl,hr4,rfl⟩:=hp
 obtain ⟨_,hx2⟩:=Wh (l:=xw) (k:=i) (by omega)
 obtain ⟨b4,o2,_,_,⟨_,_,rfl,_⟩,ha1,_,_⟩:=J9.ix (hrw.mono hl3) hx2
 refine Qz (b:=b4) (off:=o2) (len:=xw.length) (cap:=cw) (ik:=.i64) 32 66 1 i ha1 (by omega) (Jd [] [(1,Pt b1 0),(2,Pt b2 0),(3,Sl aw xw.length cw),(21,Sl (At b3 o1) c.books.length c3),(22,I (c.books.length:Int)),(23,I (i:Int)),(28,Sl aw xw.length cw),(29,I (i:Int)),(30,Sl a7 x1.length c6),(31,Sl a8 x1.length c7),(32,Pt b4 (o2+i*1))] (YB (E:=Qo) 0 hr4 (by exact (hs4).fit) (fun G4 hl4 hs6=>Ys (b:=b4) (off:=o2) 1 (hrw.mono (Jt.le_trans hl3 hl4)) i x1 ha1 (by omega) (Sl a8 x1.length c7) [Sl a8 x1.length c7] ⟨a8,c7,rfl,hs6⟩ (fun r5 hr5=>?_))))
 have e1:xw.length=(xw.set i x1).length:=(List.length_set ..).symm
 refine J3 (fr':=[(1,Pt b1 0),(2,Pt b2 0),(3,Sl aw ((xw.set i x1).length) cw),(21,Sl (At b3 o1) c.books.length c3),(22,I (c.books.length:Int)),(23,I (i:Int)),(28,Sl aw ((xw.set i x1).length) cw),(29,I (i:Int)),(30,Sl a7 x1.length c6),(31,Sl a8 x1.length c7),(32,Pt b4 (o2+i*1))]) (L':=[[],r5,r2,r1,[Sg b2 0 [I 0,Sl none 0 0,I 0,I 0,I 0,Sl none 0 0,Sl none 0 0]],[Sg b1 0 [I c.queue.most,Sl a4 c.queue.wait.length c4,I c.batch,I c.every,I c.now,Sl a5 c.heads.length c5,Sl (At b3 o1) c.books.length c3]]]) (by simp only [Kn,KW,e1];first | done | rfl) (by rfl) (Jc (JM (Ja (Jb (Jd [0,0] [(1,Pt b1 0),(2,Pt b2 0),(3,Sl aw ((xw.set i x1).length) cw),(21,Sl (At b3 o1) c.books.length c3),(22,I (c.books.length:Int)),(23,I (IntKind.i64.wrap ((i:Int)+1)))] ?_)))))
 have e2:IntKind.i64.wrap ((i:Int)+1)=(i:Int)+1:=IntWalk.i64_in _ (by omega)
 refine J3 (fr':=[(1,Pt b1 0),(2,Pt b2 0),(3,Sl aw ((xw.set i x1).length) cw),(21,Sl (At b3 o1) c.books.length c3),(22,I (c.books.length:Int)),(23,I ((i:Int)+1))]) (L':=[[],r5,r2,r1,[Sg b2 0 [I 0,Sl none 0 0,I 0,I 0,I 0,Sl none 0 0,Sl none 0 0]],[Sg b1 0 [I c.queue.most,Sl a4 c.queue.wait.length c4,I c.batch,I c.every,I c.now,Sl a5 c.heads.length c5,Sl (At b3 o1) c.books.length c3]]]) (by simp only [Kn,KW,e2];first | done | rfl) (by rfl) ?_
 clear e2
 exact Jc (Q4 [r5,r2,r1,[Sg b2 0 [I 0,Sl none 0 0,I 0,I 0,I 0,Sl none 0 0,Sl none 0 0]],[Sg b1 0 (Kn c a4 c4 a5 c5 (At b3 o1) c3)]] (.cons _ (.cons_cons _ (.cons_cons _ (.cons_cons _ (.cons_cons _ (.cons_cons _ .slnil)))))) (Qg (i+1,aw,cw,r5,xw.set i x1,G4) ⟨(Jt.le_trans hle (Jt.le_trans hl3 hl4)),(by omega),hr5,⟨by simp only [List.length_set];exact hxw.1,JlC hxw.2 (by omega) hx1⟩,(by simp only [List.length_set];exact hcw)⟩ (by (try dsimp only);omega)))
 try simp only [BB] at h1
 refine K0 (J2 (Kf (JU (Ja (WM [0,0,11] [(1,Pt b1 0),(2,Pt b2 0)] [rw,r2,r1,[Sg b2 0 [I 0,Sl none 0 0,I 0,I 0,I 0,Sl none 0 0,Sl none 0 0]],[Sg b1 0 [I c.queue.most,Sl a4 c.queue.wait.length c4,I c.batch,I c.every,I c.now,Sl a5 c.heads.length c5,Sl aw xw.length cw]]] (WM [10,9] [(2,Pt b2 0)] [rw,r2,r1,[Sg b2 0 [I c.queue.most,Sl a4 c.queue.wait.length c4,I c.batch,I c.every,I c.now,Sl a5 c.heads.length c5,Sl aw xw.length cw]],[Sg b1 0 [I c.queue.most,Sl a4 c.queue.wait.length c4,I c.batch,I c.every,I c.now,Sl a5 c.heads.length c5,Sl aw xw.length cw]]] (Jk ?_)))))))
 subst hcw
 refine Wn (E:=QV) 2 (hr1.mono (Jt.le_trans hl2 hle)) (by exact (hs1).fit) (fun G5 hl5 hs7=>Wn (E:=KE) 1 (hr2.mono (Jt.le_trans hle hl5)) (by exact (hs2.mono hl1).fit) (fun G6 hl6 hs8=>Wn (E:=Qm) 0 (hrw.mono (Jt.le_trans hl5 hl6)) (by simp only [Qm];omega) (fun G7 hl7 hs9=>?_)))
 have hf1:c=(⟨c.queue,c.batch,c.every,c.now,c.heads,xw⟩:Kw):=by
  have e_:xw=c.books:=Jik hxw.1 hxw.2 (by omega);subst e_;rfl
 refine Jl [3] [.agg #[I c.queue.most,Sl a4 c.queue.wait.length c4,I c.batch,I c.every,I c.now,Sl a5 c.heads.length c5,Sl aw xw.length xw.length]] (JY [] (.cons _ (.cons _ (.cons _ (.cons _ (.cons _ .slnil))))) (Jt.le_trans (Jt.le_trans (Jt.le_trans (Jt.le_trans (Jt.le_trans hl1 hl2) hle) hl5) hl6) hl7) ?_)
 rw [hf1]
 try dsimp only
 exact ⟨a4,c4,a5,c5,aw,rfl,w1,(hs7.mono (Jt.le_trans hl6 hl7)),w2,w3,w4,(hs8.mono hl7),hs9,rfl⟩
set_option maxRecDepth 20000 in
theorem Jb8 (G:Jt) (vs_c:List Value) (c:Kw) (h_c:VE.R G vs_c c) (vs_a:List Value) (a:WT) (h_a:QV.R G vs_a a) :QF Tryz.prog 28 #[.agg vs_c.toArray,.agg vs_a.toArray] G [] (fun u G' L'=>∃ (a1:Option Addr) (c2:Nat) (a3:Option Addr) (c4:Nat) (a5:Option Addr) (c6:Nat),u=.tuple #[.agg #[I (((Kk c a).1).queue.most),Sl a1 ((((Kk c a).1).queue.wait).length) c2,I (((Kk c a).1).batch),I (((Kk c a).1).every),I (((Kk c a).1).now),Sl a3 ((((Kk c a).1).heads).length) c4,Sl a5 ((((Kk c a).1).books).length) c6],I ((Kk c a).2.1),I ((Kk c a).2.2)]∧(rI (((Kk c a).1).queue.most))∧(RS QV G' a1 c2 (((Kk c a).1).queue.wait))∧(rI (((Kk c a).1).batch))∧(rI (((Kk c a).1).every))∧(rI (((Kk c a).1).now))∧(RS KE G' a3 c4 (((Kk c a).1).heads))∧(RS Qm G' a5 c6 (((Kk c a).1).books))∧(rI ((Kk c a).2.1))∧L'=[]):=by
 obtain ⟨a1,c1,a2,c2,a3,c3,rfl,w1,hs1,w2,w3,w4,hs2,hs3⟩:=h_c
 obtain ⟨rfl,w5,w6,w7,w8⟩:=h_a
 refine JJ Tryz.func28 76 [(0,(KW c a1 c1 a2 c2 a3 c3)),(1,.agg #[Sr a.name,Sr a.value,U a.n,U a.tag])] rfl (fun w0 G0=>?_)
 refine Je (Jb (Ju 2 #[I c.queue.most,Sl a1 c.queue.wait.length c1,I c.batch,I c.every,I c.now,Sl a2 c.heads.length c2,Sl a3 c.books.length c3] 34 (fun b1=>Ju 3 #[Sr a.name,Sr a.value,U a.n,U a.tag] 83 (fun b2=>Ju 4 #[I 0,Sl none 0 0,I 0,I 0,I 0,Sl none 0 0,Sl none 0 0] 34 (fun b3=>Jd [0,0] [(2,Pt b1 0),(3,Pt b2 0),(4,Pt b3 0)] (Jc (Ja (Je (Je (Jb (Jd [6] [(2,Pt b1 0),(3,Pt b2 0),(4,Pt b3 0),(13,(KW c a1 c1 a2 c2 a3 c3))] (Ji 14 (I (J8 c)) (YP G (Kn c a1 c1 a2 c2 a3 c3) c (⟨a1,c1,a2,c2,a3,c3,rfl,w1,hs1,w2,w3,w4,hs2,hs3⟩)) (Jd [0] [(2,Pt b1 0),(3,Pt b2 0),(4,Pt b3 0),(7,I (J8 c))] (Jc (Ja (Jg [0,0] [(2,Pt b1 0),(3,Pt b2 0),(4,Pt b3 0),(7,I (J8 c)),(16,Bo (!decide (J8 c=0)))] (Jo (!decide (J8 c=0)) (fun h1=>?_) (fun h1=>?_))))))))))))))))))
 try simp only [BB] at h1
 refine Jg [0,0,3,0,0] [(4,Pt b3 0),(5,I 0),(6,I (J8 c))] (Jk (Jh ?_))
 have hf1:Kk c a=((⟨(⟨0,[]⟩:QL),0,0,0,[],[]⟩:Kw),0,J8 c):=by
  unfold Kk Zy;(rw [if_pos ‹_›];done)
 refine Jl [0,0,0] [.agg #[I 0,Sl none 0 0,I 0,I 0,I 0,Sl none 0 0,Sl none 0 0],I 0,I (J8 c)] (JY [] (.cons _ (.cons _ (.cons _ .slnil))) (Jt.le_refl _) ?_)
 rw [hf1]
 try dsimp only
 exact ⟨none,0,none,0,none,0,rfl,(by omega),(RS.nil' QV G),(by omega),(by omega),(by omega),(RS.nil' KE G),(RS.nil' Qm G),(by omega),rfl⟩
 try simp only [BB] at h1
 refine Jm (Ja (Je (Jb (Jd [0,6,4] [(2,Pt b1 0),(3,Pt b2 0),(4,Pt b3 0),(21,.agg #[I c.queue.most,Sl a1 c.queue.wait.length c1]),(22,.agg #[Sr a.name,Sr a.value,U a.n,U a.tag])] (JQ 23 (JfS G [I c.queue.most,Sl a1 c.queue.wait.length c1] c.queue (⟨a1,c1,rfl,w1,hs1⟩) [Sr a.name,Sr a.value,U a.n,U a.tag] a (⟨rfl,w5,w6,w7,w8⟩)) (fun v G1 L1 hl1 hp=>?_))))))
 obtain ⟨a4,c4,rfl,w9,hs4,rfl⟩:=hp
 refine Jd [0,0,0,0] [(2,Pt b1 0),(3,Pt b2 0),(4,Pt b3 0),(24,.agg #[I (((JB c.queue a).1).most),Sl a4 ((((JB c.queue a).1).wait).length) c4]),(25,I ((JB c.queue a).2.1)),(26,I ((JB c.queue a).2.2))] (Ju 8 #[I 0,Sl none 0 0] 30 (fun b4=>Kd [3,0,0] [(2,Pt b1 0),(3,Pt b2 0),(4,Pt b3 0),(8,Pt b4 0),(9,I ((JB c.queue a).2.1)),(10,I ((JB c.queue a).2.2))] [[Sg b4 0 [I (((JB c.queue a).1).most),Sl a4 ((((JB c.queue a).1).wait).length) c4]],[Sg b3 0 [I 0,Sl none 0 0,I 0,I 0,I 0,Sl none 0 0,Sl none 0 0]],[Sg b2 0 [Sr a.name,Sr a.value,U a.n,U a.tag]],[Sg b1 0 (Kn c a1 c1 a2 c2 a3 c3)]] (Jc (Ja (Je (Jz (Je (Jb (Jd [0,0,0] [(2,Pt b1 0),(3,Pt b2 0),(4,Pt b3 0),(8,Pt b4 0),(9,I ((JB c.queue a).2.1)),(10,I ((JB c.queue a).2.2)),(30,Bo (!decide ((JB c.queue a).2.2=0)))] (KD (!decide ((JB c.queue a).2.2=0)) (fun bb=>[(2,Pt b1 0),(3,Pt b2 0),(4,Pt b3 0),(8,Pt b4 0),(9,I ((JB c.queue a).2.1)),(10,I ((JB c.queue a).2.2)),(30,Bo bb)]) [0,0,0] [1,1,0] (fun bb=>[(2,Pt b1 0),(3,Pt b2 0),(4,Pt b3 0),(8,Pt b4 0),(9,I ((JB c.queue a).2.1)),(10,I ((JB c.queue a).2.2)),(33,Bo (bb && (!decide ((JB c.queue a).2.2=7))))]) (Jd [0] [(2,Pt b1 0),(3,Pt b2 0),(4,Pt b3 0),(8,Pt b4 0),(9,I ((JB c.queue a).2.1)),(10,I ((JB c.queue a).2.2)),(27,Bo ((!decide ((JB c.queue a).2.2=0)) && (!decide ((JB c.queue a).2.2=7))))] (Jc (Ja (Jo ((!decide ((JB c.queue a).2.2=0)) && (!decide ((JB c.queue a).2.2=7))) (fun h2=>?_) (fun h2=>?_)))))))))))))))
 try simp only [BB] at h2
 refine Jg [0,0,5,0,0] [(4,Pt b3 0),(5,I 0),(6,I ((JB c.queue a).2.2))] (Jk (Js (Jh ?_)))
 have hf2:Kk c a=((⟨(⟨0,[]⟩:QL),0,0,0,[],[]⟩:Kw),0,(JB c.queue a).2.2):=by
  unfold Kk Zy;(rw [if_neg (by simp_all)];simp_all;done)
 refine Jl [1,0,0] [.agg #[I 0,Sl none 0 0,I 0,I 0,I 0,Sl none 0 0,Sl none 0 0],I 0,I ((JB c.queue a).2.2)] (JY [] (.cons _ (.cons _ (.cons _ (.cons _ .slnil)))) hl1 ?_)
 rw [hf2]
 try dsimp only
 exact ⟨none,0,none,0,none,0,rfl,(by omega),(RS.nil' QV G1),(by omega),(by omega),(by omega),(RS.nil' KE G1),(RS.nil' Qm G1),(by omega),rfl⟩
 try simp only [BB] at h2
 refine Je (Jb (Jd [8] [(2,Pt b1 0),(3,Pt b2 0),(4,Pt b3 0),(8,Pt b4 0),(9,I ((JB c.queue a).2.1)),(10,I ((JB c.queue a).2.2)),(37,(KW c a1 c1 a2 c2 a3 c3))] (Ji 38 (Bo (WN c)) (Jc7 G1 (Kn c a1 c1 a2 c2 a3 c3) c (⟨a1,c1,a2,c2,a3,c3,rfl,w1,(hs1.mono hl1),w2,w3,w4,(hs2.mono hl1),(hs3.mono hl1)⟩)) (Jd [0] [(2,Pt b1 0),(3,Pt b2 0),(4,Pt b3 0),(8,Pt b4 0),(9,I ((JB c.queue a).2.1)),(10,I ((JB c.queue a).2.2)),(36,Bo (WN c))] (Jc (Ja (Jo (WN c) (fun h3=>?_) (fun h3=>?_))))))))
 try simp only [BB] at h3
 refine Jg [0,5,0,0] [(4,Pt b3 0),(5,I 0),(6,I 9)] (Jk (Js (Jh ?_)))
 have hf3:Kk c a=((⟨(⟨0,[]⟩:QL),0,0,0,[],[]⟩:Kw),0,9):=by
  unfold Kk Zy;(rw [if_neg (by simp_all)];simp_all;done)
 refine Jl [1,0,0] [.agg #[I 0,Sl none 0 0,I 0,I 0,I 0,Sl none 0 0,Sl none 0 0],I 0,I 9] (JY [] (.cons _ (.cons _ (.cons _ (.cons _ .slnil)))) hl1 ?_)
 rw [hf3]
 try dsimp only
 exact ⟨none,0,none,0,none,0,rfl,(by omega),(RS.nil' QV G1),(by omega),(by omega),(by omega),(RS.nil' KE G1),(RS.nil' Qm G1),(by omega),rfl⟩
 try simp only [BB] at h3
 refine Je (Jb (Jd [0,0,0] [(2,Pt b1 0),(3,Pt b2 0),(4,Pt b3 0),(8,Pt b4 0),(9,I ((JB c.queue a).2.1)),(43,Bo (decide ((JB c.queue a).2.2=7)))] (Wd (fun bb=>[(2,Pt b1 0),(3,Pt b2 0),(4,Pt b3 0),(8,Pt b4 0),(9,I ((JB c.queue a).2.1)),(43,Bo bb)]) (decide ((JB c.queue a).2.2=7)) (fun h4=>?_) (fun h4=>?_))))
 try simp only [BB] at h4
 refine Jd [1,1,1,1,1,1,0,0] [(2,Pt b1 0),(4,Pt b3 0),(8,Pt b4 0),(9,I ((JB c.queue a).2.1)),(40,Bo true)] (Jc (Ja (JZ (Jg [0,5,0,0] [(4,Pt b3 0),(5,I 0),(6,I 7)] (Jk (Js (Jh ?_)))))))
 have hf4:Kk c a=((⟨(⟨0,[]⟩:QL),0,0,0,[],[]⟩:Kw),0,7):=by
  unfold Kk Zy;(rw [if_neg (by simp_all)];simp_all;done)
 refine Jl [1,0,0] [.agg #[I 0,Sl none 0 0,I 0,I 0,I 0,Sl none 0 0,Sl none 0 0],I 0,I 7] (JY [] (.cons _ (.cons _ (.cons _ (.cons _ .slnil)))) hl1 ?_)
 rw [hf4]
 try dsimp only
 exact ⟨none,0,none,0,none,0,rfl,(by omega),(RS.nil' QV G1),(by omega),(by omega),(by omega),(RS.nil' KE G1),(RS.nil' Qm G1),(by omega),rfl⟩
 try simp only [BB] at h4
 refine Jd [8,0,6] [(2,Pt b1 0),(4,Pt b3 0),(8,Pt b4 0),(9,I ((JB c.queue a).2.1)),(43,Bo false),(44,(KW c a1 c1 a2 c2 a3 c3)),(46,Sr a.name)] (KH 47 1 #[Sr a.name] 9 (fun b5=>QQ (b:=b5) (o:=0) (cs:=[Sr a.name]) 0 (fun G2 hl2 hz1=>?_)))
 have hs5:RS ES G2 (At b5 0) 1 [a.name]:=RS.lit [[Sr a.name]] [a.name] ⟨⟨rfl,w5⟩,trivial⟩ hz1 (Nat.le_of_ble_eq_true rfl) (Nat.le_of_ble_eq_true rfl)
 refine Ji 48 (I (WI c ([a.name]))) (Ja3 G2 (Kn c a1 c1 a2 c2 a3 c3) c (⟨a1,c1,a2,c2,a3,c3,rfl,w1,(hs1.mono (Jt.le_trans hl1 hl2)),w2,w3,w4,(hs2.mono (Jt.le_trans hl1 hl2)),(hs3.mono (Jt.le_trans hl1 hl2))⟩) (At b5 0) 1 ([a.name]) hs5 (by (have q_:=ZR ‹_›;(try dsimp only);omega)) (by (have q_:=ZR ‹_›;(try dsimp only);omega)) (by (have q_:=ZR ‹_›;(try dsimp only);omega)) (by (have q_:=ZR ‹_›;(try dsimp only);omega)) (by (simp;done))) (Jd [0,0,0] [(2,Pt b1 0),(4,Pt b3 0),(8,Pt b4 0),(9,I ((JB c.queue a).2.1)),(40,Bo (decide (WI c ([a.name]) > 24)))] (Jc (Ja (Jo (decide (WI c ([a.name]) > 24)) (fun h5=>?_) (fun h5=>?_)))))
 try simp only [BB] at h5
 refine Jg [0,7,0,0] [(4,Pt b3 0),(5,I 0),(6,I 7)] (Jk (Js (Jh ?_)))
 have hf5:Kk c a=((⟨(⟨0,[]⟩:QL),0,0,0,[],[]⟩:Kw),0,7):=by
  unfold Kk Zy;(rw [if_neg (by simp_all)];simp_all;done)
 refine Jl [2,0,0] [.agg #[I 0,Sl none 0 0,I 0,I 0,I 0,Sl none 0 0,Sl none 0 0],I 0,I 7] (JY [] (.cons _ (.cons _ (.cons _ (.cons _ (.cons _ .slnil))))) (Jt.le_trans hl1 hl2) ?_)
 rw [hf5]
 try dsimp only
 exact ⟨none,0,none,0,none,0,rfl,(by omega),(RS.nil' QV G2),(by omega),(by omega),(by omega),(RS.nil' KE G2),(RS.nil' Qm G2),(by omega),rfl⟩
 try simp only [BB] at h5
 refine Jm (JM (Ja (Je (Jb (Jd [10] [(2,Pt b1 0),(4,Pt b3 0),(8,Pt b4 0),(9,I ((JB c.queue a).2.1)),(52,(KW c a1 c1 a2 c2 a3 c3))] (JQ 53 (Jc8 G2 (Kn c a1 c1 a2 c2 a3 c3) c (⟨a1,c1,a2,c2,a3,c3,rfl,w1,(hs1.mono (Jt.le_trans hl1 hl2)),w2,w3,w4,(hs2.mono (Jt.le_trans hl1 hl2)),(hs3.mono (Jt.le_trans hl1 hl2))⟩) (by (have q_:=ZR ‹_›;(try dsimp only);omega))) (fun v G3 L1 hl3 hp=>?_)))))))
 obtain ⟨a5,c5,a6,c6,a7,rfl,_,_,w11,w12,w13,hs7,hs8,rfl⟩:=hp
 refine Kd [11] [(2,Pt b1 0),(4,Pt b3 0),(8,Pt b4 0),(9,I ((JB c.queue a).2.1))] [[],[Sg b4 0 [I (((JB c.queue a).1).most),Sl a4 ((((JB c.queue a).1).wait).length) c4]],[Sg b3 0 [I 0,Sl none 0 0,I 0,I 0,I 0,Sl none 0 0,Sl none 0 0]],[Sg b2 0 [Sr a.name,Sr a.value,U a.n,U a.tag]],[Sg b1 0 (Kn c a5 c5 a6 c6 a7 c.books.length)]] (Jc (Ja (WM [4,0,11] [(2,Pt b1 0),(4,Pt b3 0),(9,I ((JB c.queue a).2.1))] [[],[Sg b4 0 [I (((JB c.queue a).1).most),Sl a4 ((((JB c.queue a).1).wait).length) c4]],[Sg b3 0 [I 0,Sl none 0 0,I 0,I 0,I 0,Sl none 0 0,Sl none 0 0]],[Sg b2 0 [Sr a.name,Sr a.value,U a.n,U a.tag]],[Sg b1 0 [I (((JB c.queue a).1).most),Sl a4 ((((JB c.queue a).1).wait).length) c4,I c.batch,I c.every,I c.now,Sl a6 c.heads.length c6,Sl a7 c.books.length c.books.length]]] (Je (Jb (Jd [0,0,10,0,10] [(2,Pt b1 0),(4,Pt b3 0),(57,I ((JB c.queue a).2.1)),(59,I c.batch),(61,I c.every)] (Ji 62 (.tuple #[I ((Qa ((JB c.queue a).2.1) c.batch c.every).1),I ((Qa ((JB c.queue a).2.1) c.batch c.every).2)]) (Jev G3 ((JB c.queue a).2.1) c.batch c.every) (Jd [0,0,0,0,0] [(2,Pt b1 0),(4,Pt b3 0),(11,I ((Qa ((JB c.queue a).2.1) c.batch c.every).1))] (Jc (Ja (Je ?_)))))))))))
 have e1:IntKind.i64.wrap (c.now-((c.now).tmod c.every))=c.now-((c.now).tmod c.every):=IntWalk.i64_in _ (by (have q_:=ZR ‹_›;have q10_:=Vs (n:=c.now) (e:=c.every) (by omega) (by omega);have q11_:=Jef (JB c.queue a).2.1 c.batch c.every;omega))
 have e2:IntKind.i64.wrap ((c.now-((c.now).tmod c.every))+((Qa ((JB c.queue a).2.1) c.batch c.every).1))=(c.now-((c.now).tmod c.every))+((Qa ((JB c.queue a).2.1) c.batch c.every).1):=IntWalk.i64_in _ (by (have q_:=ZR ‹_›;have q10_:=Vs (n:=c.now) (e:=c.every) (by omega) (by omega);have q11_:=Jef (JB c.queue a).2.1 c.batch c.every;omega))
 refine KB [11] (Wr [(0,.agg #[I (((JB c.queue a).1).most),Sl a4 ((((JB c.queue a).1).wait).length) c4,I c.batch,I c.every,I c.now,Sl a6 c.heads.length c6,Sl a7 c.books.length c.books.length]),(1,Pt b1 4),(2,I c.now),(3,Pt b1 4),(4,I c.now),(5,Pt b1 3),(6,I c.every),(7,I ((c.now).tmod c.every)),(8,I (c.now-((c.now).tmod c.every))),(9,I ((Qa ((JB c.queue a).2.1) c.batch c.every).1)),(10,I ((c.now-((c.now).tmod c.every))+((Qa ((JB c.queue a).2.1) c.batch c.every).1)))] (J1 [] [(0,10),(1,0),(2,10),(3,0),(4,10),(5,0),(6,10),(9,0)] [7,8,10] [11] (List.forall_mem_cons.2 ⟨?_,(List.forall_mem_cons.2 ⟨?_,(List.forall_mem_cons.2 ⟨?_,List.forall_mem_nil _⟩)⟩)⟩) (List.forall_mem_cons.2 ⟨?_,List.forall_mem_nil _⟩)))
 refine Jr 7 72 (I ((c.now).tmod c.every)) [(69,I c.now),(71,I c.every)] (fun X=>?_)
 exact JbS (k:=.i64) (x:=c.now) (y:=c.every) 72 false ((c.now).tmod c.every) (by (have q_:=ZR ‹_›;have q10_:=Vs (n:=c.now) (e:=c.every) (by omega) (by omega);have q11_:=Jef (JB c.queue a).2.1 c.batch c.every;omega)) rfl Jp
 refine Jr 8 73 (I (c.now-((c.now).tmod c.every))) [(67,I c.now),(72,I ((c.now).tmod c.every))] (fun X=>?_)
 exact K6 73 (I (IntKind.i64.wrap (c.now-((c.now).tmod c.every)))) (I (c.now-((c.now).tmod c.every))) (by simp only [e1]) Jp
 refine Jr 10 75 (I ((c.now-((c.now).tmod c.every))+((Qa ((JB c.queue a).2.1) c.batch c.every).1))) [(73,I (c.now-((c.now).tmod c.every))),(74,I ((Qa ((JB c.queue a).2.1) c.batch c.every).1))] (fun X=>?_)
 exact K6 75 (I (IntKind.i64.wrap ((c.now-((c.now).tmod c.every))+((Qa ((JB c.queue a).2.1) c.batch c.every).1)))) (I ((c.now-((c.now).tmod c.every))+((Qa ((JB c.queue a).2.1) c.batch c.every).1))) (by simp only [e2]) Jp
 refine JS 11 [(4,Pt b3 0),(65,.agg #[I (((JB c.queue a).1).most),Sl a4 ((((JB c.queue a).1).wait).length) c4,I c.batch,I c.every,I c.now,Sl a6 c.heads.length c6,Sl a7 c.books.length c.books.length])] (fun X=>?_)
 refine K2 2 [[],[Sg b4 0 [I (((JB c.queue a).1).most),Sl a4 ((((JB c.queue a).1).wait).length) c4]],[Sg b3 0 [I (((JB c.queue a).1).most),Sl a4 ((((JB c.queue a).1).wait).length) c4,I c.batch,I c.every,I c.now,Sl a6 c.heads.length c6,Sl a7 c.books.length c.books.length]],[Sg b2 0 [Sr a.name,Sr a.value,U a.n,U a.tag]],[Sg b1 0 [I (((JB c.queue a).1).most),Sl a4 ((((JB c.queue a).1).wait).length) c4,I c.batch,I c.every,I c.now,Sl a6 c.heads.length c6,Sl a7 c.books.length c.books.length]]] ?_
 have e3:IntKind.i64.wrap (c.now-((c.now).tmod c.every))=c.now-((c.now).tmod c.every):=IntWalk.i64_in _ (by (have q_:=ZR ‹_›;have q10_:=Vs (n:=c.now) (e:=c.every) (by omega) (by omega);have q11_:=Jef (JB c.queue a).2.1 c.batch c.every;omega))
 have e4:IntKind.i64.wrap ((c.now-((c.now).tmod c.every))+((Qa ((JB c.queue a).2.1) c.batch c.every).1))=(c.now-((c.now).tmod c.every))+((Qa ((JB c.queue a).2.1) c.batch c.every).1):=IntWalk.i64_in _ (by (have q_:=ZR ‹_›;have q10_:=Vs (n:=c.now) (e:=c.every) (by omega) (by omega);have q11_:=Jef (JB c.queue a).2.1 c.batch c.every;omega))
 refine Kp [(12,I ((c.now-((c.now).tmod c.every))+((Qa ((JB c.queue a).2.1) c.batch c.every).1))),(13,I 0)] (KA [0] [(1,0),(2,10),(3,0),(4,10),(5,0),(6,10),(9,0),(12,0),(13,0)] [7,8,10] [(4,Pt b3 0),(5,I ((c.now-((c.now).tmod c.every))+((Qa ((JB c.queue a).2.1) c.batch c.every).1))),(6,I 0)] (List.forall_mem_cons.2 ⟨?_,(List.forall_mem_cons.2 ⟨?_,(List.forall_mem_cons.2 ⟨?_,List.forall_mem_nil _⟩)⟩)⟩) ?_)
 refine Jr 7 72 (I ((c.now).tmod c.every)) [(69,I c.now),(71,I c.every)] (fun X=>?_)
 exact JbS (k:=.i64) (x:=c.now) (y:=c.every) 72 false ((c.now).tmod c.every) (by (have q_:=ZR ‹_›;have q10_:=Vs (n:=c.now) (e:=c.every) (by omega) (by omega);have q11_:=Jef (JB c.queue a).2.1 c.batch c.every;omega)) rfl Jp
 refine Jr 8 73 (I (c.now-((c.now).tmod c.every))) [(67,I c.now),(72,I ((c.now).tmod c.every))] (fun X=>?_)
 exact K6 73 (I (IntKind.i64.wrap (c.now-((c.now).tmod c.every)))) (I (c.now-((c.now).tmod c.every))) (by simp only [e3]) Jp
 refine Jr 10 75 (I ((c.now-((c.now).tmod c.every))+((Qa ((JB c.queue a).2.1) c.batch c.every).1))) [(73,I (c.now-((c.now).tmod c.every))),(74,I ((Qa ((JB c.queue a).2.1) c.batch c.every).1))] (fun X=>?_)
 exact K6 75 (I (IntKind.i64.wrap ((c.now-((c.now).tmod c.every))+((Qa ((JB c.queue a).2.1) c.batch c.every).1)))) (I ((c.now-((c.now).tmod c.every))+((Qa ((JB c.queue a).2.1) c.batch c.every).1))) (by simp only [e4]) Jp
 refine Ja (Jk ?_)
 have hf6:Kk c a=((⟨((JB c.queue a).1),c.batch,c.every,c.now,c.heads,c.books⟩:Kw),(c.now-((c.now).tmod c.every))+((Qa ((JB c.queue a).2.1) c.batch c.every).1),0):=by
  unfold Kk Zy;(rw [if_neg (by simp_all)];simp_all;done)
 refine Jl [2,0,0] [.agg #[I (((JB c.queue a).1).most),Sl a4 ((((JB c.queue a).1).wait).length) c4,I c.batch,I c.every,I c.now,Sl a6 c.heads.length c6,Sl a7 c.books.length c.books.length],I ((c.now-((c.now).tmod c.every))+((Qa ((JB c.queue a).2.1) c.batch c.every).1)),I 0] (JY [] (.cons _ (.cons _ (.cons _ (.cons _ (.cons _ .slnil))))) (Jt.le_trans (Jt.le_trans hl1 hl2) hl3) ?_)
 rw [hf6]
 try dsimp only
 exact ⟨a4,c4,a6,c6,a7,c.books.length,rfl,w9,(hs4.mono (Jt.le_trans hl2 hl3)),w11,w12,w13,hs7,hs8,(by (have q_:=ZR ‹_›;have q10_:=Vs (n:=c.now) (e:=c.every) (by omega) (by omega);have q11_:=Jef (JB c.queue a).2.1 c.batch c.every;omega)),rfl⟩
set_option maxRecDepth 20000 in
theorem JeN (G:Jt) (vs_c:List Value) (c:Kw) (h_c:VE.R G vs_c c) :QF Tryz.prog 29 #[.agg vs_c.toArray] G [] (fun u G' L'=>∃ (a1:Option Addr) (c2:Nat) (a3:Option Addr) (c4:Nat) (a5:Option Addr) (c6:Nat),u=.tuple #[.agg #[I (((J6 c).1).queue.most),Sl a1 ((((J6 c).1).queue.wait).length) c2,I (((J6 c).1).batch),I (((J6 c).1).every),I (((J6 c).1).now),Sl a3 ((((J6 c).1).heads).length) c4,Sl a5 ((((J6 c).1).books).length) c6],Bo ((J6 c).2.1),I ((J6 c).2.2)]∧(rI (((J6 c).1).queue.most))∧(RS QV G' a1 c2 (((J6 c).1).queue.wait))∧(rI (((J6 c).1).batch))∧(rI (((J6 c).1).every))∧(rI (((J6 c).1).now))∧(RS KE G' a3 c4 (((J6 c).1).heads))∧(RS Qm G' a5 c6 (((J6 c).1).books))∧L'=[]):=by
 obtain ⟨a1,c1,a2,c2,a3,c3,rfl,w1,hs1,w2,w3,w4,hs2,hs3⟩:=h_c
 refine JJ Tryz.func29 88 [(0,(KW c a1 c1 a2 c2 a3 c3))] rfl (fun w0 G0=>?_)
 refine Je (Jb (Ju 1 #[I c.queue.most,Sl a1 c.queue.wait.length c1,I c.batch,I c.every,I c.now,Sl a2 c.heads.length c2,Sl a3 c.books.length c3] 34 (fun b1=>Ju 2 #[I 0,Sl none 0 0,I 0,I 0,I 0,Sl none 0 0,Sl none 0 0] 34 (fun b2=>Jd [0,0] [(1,Pt b1 0),(2,Pt b2 0)] (Jc (Ja (Je (Je (Jb (Jd [4] [(1,Pt b1 0),(2,Pt b2 0),(14,(KW c a1 c1 a2 c2 a3 c3))] (Ji 15 (I (J8 c)) (YP G (Kn c a1 c1 a2 c2 a3 c3) c (⟨a1,c1,a2,c2,a3,c3,rfl,w1,hs1,w2,w3,w4,hs2,hs3⟩)) (Jd [0] [(1,Pt b1 0),(2,Pt b2 0),(5,I (J8 c))] (Jc (Ja (Jg [0,0] [(1,Pt b1 0),(2,Pt b2 0),(5,I (J8 c)),(17,Bo (!decide (J8 c=0)))] (Jo (!decide (J8 c=0)) (fun h1=>?_) (fun h1=>?_)))))))))))))))))
 try simp only [BB] at h1
 refine Jg [0,0,3,0,0] [(2,Pt b2 0),(3,Bo false),(4,I (J8 c))] (Jk (Jh ?_))
 have hf1:J6 c=((⟨(⟨0,[]⟩:QL),0,0,0,[],[]⟩:Kw),false,J8 c):=by
  unfold J6 Zy;(rw [if_pos ‹_›];done)
 refine Jl [0,0,0] [.agg #[I 0,Sl none 0 0,I 0,I 0,I 0,Sl none 0 0,Sl none 0 0],Bo false,I (J8 c)] (JY [] (.cons _ (.cons _ .slnil)) (Jt.le_refl _) ?_)
 rw [hf1]
 try dsimp only
 exact ⟨none,0,none,0,none,0,rfl,(by omega),(RS.nil' QV G),(by omega),(by omega),(by omega),(RS.nil' KE G),(RS.nil' Qm G),rfl⟩
 try simp only [BB] at h1
 refine Jm (Ja (Je (Jb (Jd [4] [(1,Pt b1 0),(2,Pt b2 0),(20,(KW c a1 c1 a2 c2 a3 c3))] (JQ 21 (Jc8 G (Kn c a1 c1 a2 c2 a3 c3) c (⟨a1,c1,a2,c2,a3,c3,rfl,w1,hs1,w2,w3,w4,hs2,hs3⟩) (by (have q_:=ZR ‹_›;(try dsimp only);omega))) (fun v G1 L1 hl1 hp=>?_))))))
 obtain ⟨a4,c4,a5,c5,a6,rfl,w5,hs4,w6,w7,w8,hs5,hs6,rfl⟩:=hp
 refine Kd [5] [(1,Pt b1 0),(2,Pt b2 0)] [[Sg b2 0 [I 0,Sl none 0 0,I 0,I 0,I 0,Sl none 0 0,Sl none 0 0]],[Sg b1 0 (Kn c a4 c4 a5 c5 a6 c.books.length)]] (Jc (Ja (Je (Je (Jb (Jd [4] [(1,Pt b1 0),(2,Pt b2 0),(22,(KW c a4 c4 a5 c5 a6 c.books.length))] (Ji 23 (Bo (WN c)) (Jc7 G1 (Kn c a4 c4 a5 c5 a6 c.books.length) c (⟨a4,c4,a5,c5,a6,c.books.length,rfl,w5,hs4,w6,w7,w8,hs5,hs6⟩)) (Jc (Ja (Jo (WN c) (fun h2=>?_) (fun h2=>?_)))))))))))
 try simp only [BB] at h2
 refine WM [4,3,0,0] [(2,Pt b2 0),(3,Bo false),(4,I 0)] [[Sg b2 0 (Kn c a4 c4 a5 c5 a6 c.books.length)],[Sg b1 0 (Kn c a4 c4 a5 c5 a6 c.books.length)]] (Jk (Jh ?_))
 have hf2:J6 c=(c,false,0):=by
  unfold J6 Zy;(rw [if_neg (by simp_all)];(rw [if_pos ‹_›];done))
 refine Jl [0,0,0] [(KW c a4 c4 a5 c5 a6 c.books.length),Bo false,I 0] (JY [] (.cons _ (.cons _ .slnil)) hl1 ?_)
 rw [hf2]
 try dsimp only
 exact ⟨a4,c4,a5,c5,a6,c.books.length,rfl,w5,hs4,w6,w7,w8,hs5,hs6,rfl⟩
 try simp only [BB] at h2
 refine Jm (Ja (WM [0,4,0,0,5] [(1,Pt b1 0),(2,Pt b2 0)] [[Sg b2 0 [I 0,Sl none 0 0,I 0,I 0,I 0,Sl none 0 0,Sl none 0 0]],[Sg b1 0 [I c.queue.most,Sl a4 c.queue.wait.length c4,I c.batch,I c.every,I (IntKind.i64.wrap (c.now+1)),Sl a5 c.heads.length c5,Sl a6 c.books.length c.books.length]]] ?_))
 have e1:IntKind.i64.wrap (c.now+1)=c.now+1:=IntWalk.i64_in _ (by (have q_:=ZR ‹_›;have q10_:=Vs (n:=c.now+1) (e:=c.every) (by omega) (by omega);omega))
 refine KQ (fr':=[(1,Pt b1 0),(2,Pt b2 0)]) (L':=[[Sg b2 0 [I 0,Sl none 0 0,I 0,I 0,I 0,Sl none 0 0,Sl none 0 0]],[Sg b1 0 [I c.queue.most,Sl a4 c.queue.wait.length c4,I c.batch,I c.every,I (c.now+1),Sl a5 c.heads.length c5,Sl a6 c.books.length c.books.length]]]) (by rfl) (by simp only [Kn,KW,e1];first | done | rfl) ?_
 clear e1
 refine Je (Je (Jb (Jd [0,4,0,4] [(1,Pt b1 0),(2,Pt b2 0),(30,I (c.now+1)),(32,I c.every)] (JbS (k:=.i64) (x:=c.now+1) (y:=c.every) 33 false ((c.now+1).tmod c.every) (by (have q_:=ZR ‹_›;have q10_:=Vs (n:=c.now+1) (e:=c.every) (by omega) (by omega);omega)) rfl (Jd [0] [(1,Pt b1 0),(2,Pt b2 0),(34,Bo (!decide ((c.now+1).tmod c.every=0)))] (Jc (Ja (Jo (!decide ((c.now+1).tmod c.every=0)) (fun h3=>?_) (fun h3=>?_)))))))))
 try simp only [BB] at h3
 refine WM [4,3,0,0] [(2,Pt b2 0),(3,Bo false),(4,I 0)] [[Sg b2 0 [I c.queue.most,Sl a4 c.queue.wait.length c4,I c.batch,I c.every,I (c.now+1),Sl a5 c.heads.length c5,Sl a6 c.books.length c.books.length]],[Sg b1 0 [I c.queue.most,Sl a4 c.queue.wait.length c4,I c.batch,I c.every,I (c.now+1),Sl a5 c.heads.length c5,Sl a6 c.books.length c.books.length]]] (Jk (Jh ?_))
 have hf3:J6 c=((⟨c.queue,c.batch,c.every,c.now+1,c.heads,c.books⟩:Kw),false,0):=by
  unfold J6 Zy;(rw [if_neg (by simp_all)];(rw [if_neg (by simp_all)];(rw [if_pos ‹_›];done)))
 refine Jl [0,0,0] [.agg #[I c.queue.most,Sl a4 c.queue.wait.length c4,I c.batch,I c.every,I (c.now+1),Sl a5 c.heads.length c5,Sl a6 c.books.length c.books.length],Bo false,I 0] (JY [] (.cons _ (.cons _ .slnil)) hl1 ?_)
 rw [hf3]
 try dsimp only
 exact ⟨a4,c4,a5,c5,a6,c.books.length,rfl,‹_›,hs4,‹_›,‹_›,(by have q_:=ZR ‹_›;(try dsimp only);omega),hs5,hs6,rfl⟩
 try simp only [BB] at h3
 refine Jm (Ja (Je (Jb (Jd [0,4,0,4] [(1,Pt b1 0),(2,Pt b2 0),(38,.agg #[I c.queue.most,Sl a4 c.queue.wait.length c4]),(40,I c.batch)] (JQ 41 (Jeu G1 [I c.queue.most,Sl a4 c.queue.wait.length c4] c.queue (⟨a4,c4,rfl,‹_›,hs4⟩) c.batch) (fun v G2 L1 hl2 hp=>?_))))))
 obtain ⟨a7,c6,a8,c7,rfl,w9,hs7,hs8,rfl⟩:=hp
 refine Jd [0,0,0,0] [(1,Pt b1 0),(2,Pt b2 0),(42,.agg #[I (((JK c.queue c.batch).1).most),Sl a7 ((((JK c.queue c.batch).1).wait).length) c6]),(43,Sl a8 (((JK c.queue c.batch).2.1).length) c7),(44,I ((JK c.queue c.batch).2.2))] (Ju 6 #[I 0,Sl none 0 0] 30 (fun b3=>Kd [3,0,0] [(1,Pt b1 0),(2,Pt b2 0),(6,Pt b3 0),(7,Sl a8 (((JK c.queue c.batch).2.1).length) c7)] [[Sg b3 0 [I (((JK c.queue c.batch).1).most),Sl a7 ((((JK c.queue c.batch).1).wait).length) c6]],[Sg b2 0 [I 0,Sl none 0 0,I 0,I 0,I 0,Sl none 0 0,Sl none 0 0]],[Sg b1 0 [I c.queue.most,Sl a4 c.queue.wait.length c4,I c.batch,I c.every,I (c.now+1),Sl a5 c.heads.length c5,Sl a6 c.books.length c.books.length]]] (Jc (Ja (Je (Jb (Jd [6] [(1,Pt b1 0),(2,Pt b2 0),(6,Pt b3 0),(7,Sl a8 (((JK c.queue c.batch).2.1).length) c7),(45,.agg #[I c.queue.most,Sl a4 c.queue.wait.length c4,I c.batch,I c.every,I (c.now+1),Sl a5 c.heads.length c5,Sl a6 c.books.length c.books.length])] (JQ 46 (Jed G2 [I c.queue.most,Sl a4 c.queue.wait.length c4,I c.batch,I c.every,I (c.now+1),Sl a5 c.heads.length c5,Sl a6 c.books.length c.books.length] (⟨c.queue,c.batch,c.every,c.now+1,c.heads,c.books⟩:Kw) (⟨a4,c4,a5,c5,a6,c.books.length,rfl,‹_›,(hs4.mono hl2),‹_›,‹_›,(by have q_:=ZR ‹_›;(try dsimp only);omega),(hs5.mono hl2),(hs6.mono hl2)⟩) (by (have q_:=ZR ‹_›;(try dsimp only);omega)) (by (have q_:=ZR ‹_›;(try dsimp only);omega))) (fun v G3 L1 hl3 hp=>?_)))))))))
 obtain ⟨a9,c8,rfl,hs9,rfl⟩:=hp
 refine JQ 47 (Z3 G3 a9 c8 (Qx (⟨c.queue,c.batch,c.every,c.now+1,c.heads,c.books⟩:Kw).books) hs9) (fun v G4 L1 hl4 hp=>?_)
 obtain ⟨a10,c9,r1,rfl,hr1,rfl⟩:=hp
 refine Jd [0] [(1,Pt b1 0),(2,Pt b2 0),(6,Pt b3 0),(7,Sl a8 (((JK c.queue c.batch).2.1).length) c7),(9,Sl a10 ((Qx (⟨c.queue,c.batch,c.every,c.now+1,c.heads,c.books⟩:Kw).books).length) c9)] (Jc (Ja (Je (Jg [0,0,0] [(1,Pt b1 0),(2,Pt b2 0),(6,Pt b3 0),(9,Sl a10 ((Qx (⟨c.queue,c.batch,c.every,c.now+1,c.heads,c.books⟩:Kw).books).length) c9),(48,Sl a8 (((JK c.queue c.batch).2.1).length) c7),(49,I (((JK c.queue c.batch).2.1).length:Int)),(50,I 0)] (Jz ?_)))))
 have hlm_hs8:((JK c.queue c.batch).2.1).length≤9223372036854775807:=Nat.le_trans (hs8).le (hs8).max
 refine Qc (σ:=Nat×Option Addr×Nat×List Ks×List JV×Jt) (fun q_=>(Jt.le G4 q_.2.2.2.2.2)∧(q_.1≤((JK c.queue c.batch).2.1).length)∧(J9 Qo q_.2.2.2.2.2 q_.2.1 q_.2.2.1 q_.2.2.2.2.1 q_.2.2.2.1)∧(q_.2.2.2.2.1=Vg (Qx c.books) ((JK c.queue c.batch).2.1.take q_.1)∧q_.2.2.2.2.1.length≤1000)) (fun q_=>[(1,Pt b1 0),(2,Pt b2 0),(6,Pt b3 0),(9,Sl q_.2.1 q_.2.2.2.2.1.length q_.2.2.1),(48,Sl a8 (((JK c.queue c.batch).2.1).length) c7),(49,I (((JK c.queue c.batch).2.1).length:Int)),(50,I (q_.1:Int))]) (fun q_=>q_.2.2.2.2.2) (fun q_=>[q_.2.2.2.1,[Sg b3 0 [I (((JK c.queue c.batch).1).most),Sl a7 ((((JK c.queue c.batch).1).wait).length) c6]],[Sg b2 0 [I 0,Sl none 0 0,I 0,I 0,I 0,Sl none 0 0,Sl none 0 0]],[Sg b1 0 [I c.queue.most,Sl a4 c.queue.wait.length c4,I c.batch,I c.every,I (c.now+1),Sl a5 c.heads.length c5,Sl a6 c.books.length c.books.length]]]) (fun q_=>((JK c.queue c.batch).2.1).length-q_.1) (0,a10,c9,r1,Qx (⟨c.queue,c.batch,c.every,c.now+1,c.heads,c.books⟩:Kw).books,G4) ⟨(Jt.le_refl _),(by (try dsimp only);exact Nat.zero_le _),hr1,⟨rfl,by have q_:=ZR ‹_›;(try dsimp only);omega⟩⟩ (fun q_ hs=>?_)
 obtain ⟨i,aw,cw,rw,xw,g⟩:=q_
 obtain ⟨hle,hi,hrw,hxw⟩:=hs
 dsimp only at hle hi hrw hxw
 refine KQ (fr':=[(1,Pt b1 0),(2,Pt b2 0),(6,Pt b3 0),(9,Sl aw xw.length cw),(48,Sl a8 (((JK c.queue c.batch).2.1).length) c7),(49,I (((JK c.queue c.batch).2.1).length:Int)),(50,I (i:Int))]) (L':=[rw,[Sg b3 0 [I (((JK c.queue c.batch).1).most),Sl a7 ((((JK c.queue c.batch).1).wait).length) c6]],[Sg b2 0 [I 0,Sl none 0 0,I 0,I 0,I 0,Sl none 0 0,Sl none 0 0]],[Sg b1 0 [I c.queue.most,Sl a4 c.queue.wait.length c4,I c.batch,I c.every,I (c.now+1),Sl a5 c.heads.length c5,Sl a6 c.books.length c.books.length]]]) rfl rfl (Jg [0] [(1,Pt b1 0),(2,Pt b2 0),(6,Pt b3 0),(9,Sl aw xw.length cw),(48,Sl a8 (((JK c.queue c.batch).2.1).length) c7),(49,I (((JK c.queue c.batch).2.1).length:Int)),(50,I (i:Int)),(51,Bo (decide ((i:Int)<(((JK c.queue c.batch).2.1).length:Int))))] (Je (Jo (decide ((i:Int)<(((JK c.queue c.batch).2.1).length:Int))) (fun h4=>?_) (fun h4=>?_))))
 try simp only [BB] at h4
 refine Jm (Ja (Je (Jz (Je (Jb ?_)))))
 obtain ⟨b4,o1,rfl⟩:=RS.addr (hs8.mono (Jt.le_trans (Jt.le_trans hl3 hl4) hle)) (k:=i) (by omega)
 obtain ⟨x1,hx1⟩:=Wh (l:=(JK c.queue c.batch).2.1) (k:=i) (by omega)
 obtain ⟨_,⟨rfl,w10,w11,_,_⟩,hc1⟩:=RS.get (hs8.mono (Jt.le_trans (Jt.le_trans hl3 hl4) hle)) hx1
 refine Kh (b:=b4) (off:=o1) (len:=((JK c.queue c.batch).2.1).length) (cap:=c7) (ik:=.i64) 52 83 4 i (by omega) (Ka 53 83 (cs:=[Sr x1.name,Sr x1.value,U x1.n,U x1.tag]) 0 (.agg #[Sr x1.name,Sr x1.value,U x1.n,U x1.tag]) hc1 (Ju 11 #[Sr ([]),Sr ([]),U 0,U 0] 83 (fun b5=>Kd [3] [(1,Pt b1 0),(2,Pt b2 0),(6,Pt b3 0),(9,Sl aw xw.length cw),(11,Pt b5 0),(48,Sl (At b4 o1) (((JK c.queue c.batch).2.1).length) c7),(49,I (((JK c.queue c.batch).2.1).length:Int)),(50,I (i:Int))] [[Sg b5 0 [Sr x1.name,Sr x1.value,U x1.n,U x1.tag]],rw,[Sg b3 0 [I (((JK c.queue c.batch).1).most),Sl a7 ((((JK c.queue c.batch).1).wait).length) c6]],[Sg b2 0 [I 0,Sl none 0 0,I 0,I 0,I 0,Sl none 0 0,Sl none 0 0]],[Sg b1 0 [I c.queue.most,Sl a4 c.queue.wait.length c4,I c.batch,I c.every,I (c.now+1),Sl a5 c.heads.length c5,Sl a6 c.books.length c.books.length]]] (Jc (Ja (Jb (Jd [0,0,2,0,2] [(1,Pt b1 0),(2,Pt b2 0),(6,Pt b3 0),(9,Sl aw xw.length cw),(48,Sl (At b4 o1) (((JK c.queue c.batch).2.1).length) c7),(49,I (((JK c.queue c.batch).2.1).length:Int)),(50,I (i:Int)),(55,Sl aw xw.length cw),(57,Sr x1.name),(59,Sr x1.value)] (YB (E:=Qo) 1 hrw (by (have q0_:=hxw.2;simp only [Qo];omega)) (fun G5 hl5 hs10=>JQ 60 (Jg3 G5 aw cw xw hs10 x1.name w10 x1.value w11) (fun v G6 L1 hl6 hp=>?_))))))))))
 obtain ⟨a11,c10,r2,rfl,hr2,rfl⟩:=hp
 refine Jd [0,0,0,0] [(1,Pt b1 0),(2,Pt b2 0),(6,Pt b3 0),(9,Sl a11 (((KN xw x1.name x1.value).1).length) c10),(48,Sl (At b4 o1) (((JK c.queue c.batch).2.1).length) c7),(49,I (((JK c.queue c.batch).2.1).length:Int)),(50,I (i:Int))] (Jc (JM (Ja (Jb (Jd [0,0] [(1,Pt b1 0),(2,Pt b2 0),(6,Pt b3 0),(9,Sl a11 (((KN xw x1.name x1.value).1).length) c10),(48,Sl (At b4 o1) (((JK c.queue c.batch).2.1).length) c7),(49,I (((JK c.queue c.batch).2.1).length:Int)),(50,I (IntKind.i64.wrap ((i:Int)+1)))] ?_)))))
 have e2:IntKind.i64.wrap ((i:Int)+1)=(i:Int)+1:=IntWalk.i64_in _ (by omega)
 refine J3 (fr':=[(1,Pt b1 0),(2,Pt b2 0),(6,Pt b3 0),(9,Sl a11 (((KN xw x1.name x1.value).1).length) c10),(48,Sl (At b4 o1) (((JK c.queue c.batch).2.1).length) c7),(49,I (((JK c.queue c.batch).2.1).length:Int)),(50,I ((i:Int)+1))]) (L':=[r2,[Sg b5 0 [Sr x1.name,Sr x1.value,U x1.n,U x1.tag]],[],[Sg b3 0 [I (((JK c.queue c.batch).1).most),Sl a7 ((((JK c.queue c.batch).1).wait).length) c6]],[Sg b2 0 [I 0,Sl none 0 0,I 0,I 0,I 0,Sl none 0 0,Sl none 0 0]],[Sg b1 0 [I c.queue.most,Sl a4 c.queue.wait.length c4,I c.batch,I c.every,I (c.now+1),Sl a5 c.heads.length c5,Sl a6 c.books.length c.books.length]]]) (by simp only [Kn,KW,e2];first | done | rfl) (by rfl) ?_
 clear e2
 exact Jc (Jj 0 (Jj 1 (Jj 2 (Q4 [r2,[Sg b3 0 [I (((JK c.queue c.batch).1).most),Sl a7 ((((JK c.queue c.batch).1).wait).length) c6]],[Sg b2 0 [I 0,Sl none 0 0,I 0,I 0,I 0,Sl none 0 0,Sl none 0 0]],[Sg b1 0 [I c.queue.most,Sl a4 c.queue.wait.length c4,I c.batch,I c.every,I (c.now+1),Sl a5 c.heads.length c5,Sl a6 c.books.length c.books.length]]] (.cons _ (.cons _ (.cons_cons _ (.cons_cons _ (.cons_cons _ (.cons_cons _ .slnil)))))) (Qg (i+1,a11,c10,r2,(KN xw x1.name x1.value).1,G6) ⟨(Jt.le_trans hle (Jt.le_trans hl5 hl6)),(by omega),hr2,⟨by rw [hxw.1];exact Jhk hx1,Nat.le_trans (Jg2 _ _ _) (by decide)⟩⟩ (by (try dsimp only);omega))))))
 try simp only [BB] at h4
 refine K0 (J2 (Kf (JU (Ja (Je (Jb (Jd [0] [(1,Pt b1 0),(2,Pt b2 0),(6,Pt b3 0),(9,Sl aw xw.length cw),(65,Sl aw xw.length cw)] (YB (E:=Qo) 0 hrw (by (have q0_:=hxw.2;simp only [Qo];omega)) (fun G7 hl7 hs11=>Ji 66 (.tuple #[U ((JO xw []).1),I ((JO xw []).2)]) (Jay G7 aw cw xw hs11) (Jd [0,0,0,0,0] [(1,Pt b1 0),(2,Pt b2 0),(6,Pt b3 0),(9,Sl aw xw.length cw),(12,U ((JO xw []).1))] (Jc (Ja (Je (KB [4,5,7,9] (Wr [(0,.agg #[I (((JK c.queue c.batch).1).most),Sl a7 ((((JK c.queue c.batch).1).wait).length) c6]),(1,Pt b1 6),(2,Sl a6 c.books.length c.books.length),(3,Sl aw xw.length cw),(6,Pt b1 0)] (J1 [] [(0,4),(1,0),(2,8),(3,0),(6,0)] [] [4] (List.forall_mem_nil _) (List.forall_mem_cons.2 ⟨?_,List.forall_mem_nil _⟩)))))))))))))))))
 refine JS 4 [(72,Sl aw xw.length cw)] (fun X=>?_)
 refine KH 73 1 #[Sl aw xw.length cw] 66 (fun b6=>JW [(4,Sl (At b6 0) 1 1)] (J1 [3] [(0,6),(1,0),(2,10),(6,0)] [] [5] (List.forall_mem_nil _) (List.forall_mem_cons.2 ⟨?_,List.forall_mem_nil _⟩)))
 refine JS 5 [(71,Sl a6 c.books.length c.books.length),(73,Sl (At b6 0) 1 1)] (fun X=>?_)
 refine Jig (E:=Qm) (b:=b6) (cs:=[Sl aw xw.length cw]) 74 66 0 xw (hs6.mono (Jt.le_trans (Jt.le_trans (Jt.le_trans (Jt.le_trans hl2 hl3) hl4) hle) hl7)) (⟨aw,cw,rfl,hs11⟩) (by (have q_:=ZR ‹_›;(try simp only [List.length_append,List.length_cons,List.length_nil]);omega)) (by (have q_:=ZR ‹_›;simp only [Qm,List.length_append,List.length_cons,List.length_nil];omega)) (fun a12 c11 r3 hr3=>JW [(5,Sl a12 ((c.books++[xw]).length) c11)] (J1 [1,2,3] [(0,8),(6,0)] [] [7] (List.forall_mem_nil _) (List.forall_mem_cons.2 ⟨?_,List.forall_mem_nil _⟩)))
 refine JS 7 [(69,.agg #[I (((JK c.queue c.batch).1).most),Sl a7 ((((JK c.queue c.batch).1).wait).length) c6]),(75,Pt b1 0)] (fun X=>?_)
 refine K2 5 [r3,[Sg b6 0 [Sl aw xw.length cw]],[],[Sg b3 0 [I (((JK c.queue c.batch).1).most),Sl a7 ((((JK c.queue c.batch).1).wait).length) c6]],[Sg b2 0 [I 0,Sl none 0 0,I 0,I 0,I 0,Sl none 0 0,Sl none 0 0]],[Sg b1 0 [I (((JK c.queue c.batch).1).most),Sl a7 ((((JK c.queue c.batch).1).wait).length) c6,I c.batch,I c.every,I (c.now+1),Sl a5 c.heads.length c5,Sl a6 c.books.length c.books.length]]] (Kp [(8,Pt b1 6)] (J1 [0,1,2,3,6] [(8,0)] [] [9] (List.forall_mem_nil _) (List.forall_mem_cons.2 ⟨?_,List.forall_mem_nil _⟩)))
 refine JS 9 [(74,Sl a12 ((c.books++[xw]).length) c11),(76,Pt b1 6)] (fun X=>?_)
 refine K2 5 [r3,[Sg b6 0 [Sl aw xw.length cw]],[],[Sg b3 0 [I (((JK c.queue c.batch).1).most),Sl a7 ((((JK c.queue c.batch).1).wait).length) c6]],[Sg b2 0 [I 0,Sl none 0 0,I 0,I 0,I 0,Sl none 0 0,Sl none 0 0]],[Sg b1 0 [I (((JK c.queue c.batch).1).most),Sl a7 ((((JK c.queue c.batch).1).wait).length) c6,I c.batch,I c.every,I (c.now+1),Sl a5 c.heads.length c5,Sl a12 ((c.books++[xw]).length) c11]]] (Kp [] (KA [0,1,2,3,6,8] [] [] [(1,Pt b1 0),(2,Pt b2 0),(12,U ((JO xw []).1))] (List.forall_mem_nil _) (Ja (Je (Jb (Jd [0,12,0,0,12] [(1,Pt b1 0),(2,Pt b2 0),(79,Sl a5 c.heads.length c5),(80,U ((JO xw []).1)),(82,I (c.now+1))] (JQ 83 (JeC G7 a5 c5 c.heads (hs5.mono (Jt.le_trans (Jt.le_trans (Jt.le_trans (Jt.le_trans hl2 hl3) hl4) hle) hl7)) ((JO xw []).1) (Yx _ _) (c.now+1) (by have q_:=ZR ‹_›;(try dsimp only);omega)) (fun v G8 L1 hl8 hp=>?_))))))))
 obtain ⟨a13,c12,r4,rfl,hr4,rfl⟩:=hp
 refine Kd [0,0,0,0,15] [(1,Pt b1 0),(2,Pt b2 0)] [r4,r3,[Sg b6 0 [Sl aw xw.length cw]],[],[Sg b3 0 [I (((JK c.queue c.batch).1).most),Sl a7 ((((JK c.queue c.batch).1).wait).length) c6]],[Sg b2 0 [I 0,Sl none 0 0,I 0,I 0,I 0,Sl none 0 0,Sl none 0 0]],[Sg b1 0 [I (((JK c.queue c.batch).1).most),Sl a7 ((((JK c.queue c.batch).1).wait).length) c6,I c.batch,I c.every,I (c.now+1),Sl a13 (((Qe c.heads ((JO xw []).1) (c.now+1)).1).length) c12,Sl a12 ((c.books++[xw]).length) c11]]] (Jc (Ja (WM [14,13,0,0] [(2,Pt b2 0),(3,Bo true),(4,I 0)] [r4,r3,[Sg b6 0 [Sl aw xw.length cw]],[],[Sg b3 0 [I (((JK c.queue c.batch).1).most),Sl a7 ((((JK c.queue c.batch).1).wait).length) c6]],[Sg b2 0 [I (((JK c.queue c.batch).1).most),Sl a7 ((((JK c.queue c.batch).1).wait).length) c6,I c.batch,I c.every,I (c.now+1),Sl a13 (((Qe c.heads ((JO xw []).1) (c.now+1)).1).length) c12,Sl a12 ((c.books++[xw]).length) c11]],[Sg b1 0 [I (((JK c.queue c.batch).1).most),Sl a7 ((((JK c.queue c.batch).1).wait).length) c6,I c.batch,I c.every,I (c.now+1),Sl a13 (((Qe c.heads ((JO xw []).1) (c.now+1)).1).length) c12,Sl a12 ((c.books++[xw]).length) c11]]] (Jk (Wn (E:=KE) 0 hr4 (by (have q_:=JeM c.heads ((JO xw []).1) (c.now+1);simp only [KE];omega)) (fun G9 hl9 hs12=>Wn (E:=Qm) 1 (hr3.mono (Jt.le_trans hl8 hl9)) (by (have q_:=ZR ‹_›;simp only [Qm,List.length_append,List.length_cons,List.length_nil];omega)) (fun G10 hl10 hs13=>?_)))))))
 have hf4:J6 c=((⟨((JK c.queue c.batch).1),c.batch,c.every,c.now+1,(Qe c.heads ((JO xw []).1) (c.now+1)).1,(c.books++[xw])⟩:Kw),true,0):=by
  unfold J6 Zy;(rw [if_neg (by simp_all)];(rw [if_neg (by simp_all)];(rw [if_neg (by simp_all)];have e_:xw=Zc c:=(by rw [hxw.1,List.take_of_length_le (by omega)];rfl);rw [← e_])))
 refine Jl [5,0,0] [.agg #[I (((JK c.queue c.batch).1).most),Sl a7 ((((JK c.queue c.batch).1).wait).length) c6,I c.batch,I c.every,I (c.now+1),Sl a13 (((Qe c.heads ((JO xw []).1) (c.now+1)).1).length) c12,Sl a12 ((c.books++[xw]).length) c11],Bo true,I 0] (JY [] (.cons _ (.cons _ (.cons _ (.cons _ (.cons _ (.cons _ (.cons _ .slnil))))))) (Jt.le_trans (Jt.le_trans (Jt.le_trans (Jt.le_trans (Jt.le_trans (Jt.le_trans (Jt.le_trans (Jt.le_trans hl1 hl2) hl3) hl4) hle) hl7) hl8) hl9) hl10) ?_)
 rw [hf4]
 try dsimp only
 exact ⟨a7,c6,a13,c12,a12,c11,rfl,w9,(hs7.mono (Jt.le_trans (Jt.le_trans (Jt.le_trans (Jt.le_trans (Jt.le_trans (Jt.le_trans hl3 hl4) hle) hl7) hl8) hl9) hl10)),‹_›,‹_›,(by have q_:=ZR ‹_›;(try dsimp only);omega),(hs12.mono hl10),hs13,rfl⟩
end Go.Proofs.YtnnlpbjdignhaaaGreatDoor
