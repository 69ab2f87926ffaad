import Derived.Test.YtnnlpbjdignhaaaGreatDoorThClerk
namespace Go.Proofs.YtnnlpbjdignhaaaGreatDoor
open Go.Tx
set_option linter.unusedVariables false
set_option linter.unusedSimpArgs false
open Go.Tx Go.Proofs
theorem JqB {α:Type} {x b:List α} {i:Nat} {v:α} (h:x.take i = b.take i) (hi:i < x.length) (hv:b[i]? = some v):(x.set i v).take (i + 1) = b.take (i + 1):=by
 rw [List.take_add_one,List.take_set_of_le (Nat.le_refl _),h,List.take_add_one,hv,List.getElem?_set_self hi]
theorem Jnt {α:Type} {x b:List α} {i:Nat} (hl:x.length = b.length) (h:x.take i = b.take i) (hi:b.length ≤ i):x = b:=by
 rw [List.take_of_length_le (by omega),List.take_of_length_le hi] at h;exact h
def JcQ (c:JaD):Bool:=decide ((c.heads.length:Int) = 40) || decide (c.now = 1000000000)
def Jat (c:JaD) (a:Jc5):JaD × Int × Int:=if ¬ J4 c = 0 then (Jdq,0,J4 c) else if ¬ (JB c.queue a).2.2 = 0 ∧ ¬ (JB c.queue a).2.2 = 7 then (Jdq,0,(JB c.queue a).2.2) else if JcQ c = true then (Jdq,0,9) else if (JB c.queue a).2.2 = 7 ∨ Jcv c [a.name] > 24 then (Jdq,0,7) else (⟨(JB c.queue a).1,c.batch,c.every,c.now,c.heads,c.books⟩,c.now - c.now.tmod c.every + (Ja4 (JB c.queue a).2.1 c.batch c.every).1,0)
def Jf3 (b:List J0) (l:List Jc5):List J0:=l.foldl (fun b a=>(Ja3 b a.name a.value).1) b
theorem Jms {b:List J0} {l:List Jc5} {i:Nat} {a:Jc5} (h:l[i]? = some a):(Ja3 (Jf3 b (l.take i)) a.name a.value).1 = Jf3 b (l.take (i + 1)):=by
 unfold Jf3;rw [List.take_add_one,h];simp [List.foldl_append]
def JeV (c:JaD):List J0:=Jf3 (Jbt c.books) (JG c.queue c.batch).2.1
def Jad (c:JaD):JaD × Bool × Int:=if ¬ J4 c = 0 then (Jdq,false,J4 c) else if JcQ c = true then (c,false,0) else if ¬ (c.now + 1).tmod c.every = 0 then (⟨c.queue,c.batch,c.every,c.now + 1,c.heads,c.books⟩,false,0) else (⟨(JG c.queue c.batch).1,c.batch,c.every,c.now + 1,(Ja6 c.heads (JO (JeV c) []).1 (c.now + 1)).1,c.books ++ [JeV c]⟩,true,0)
theorem Jmt {b:List J0} (h:Jda b):(Ja0 b).Nodup:=by
 unfold Ja0
 refine List.pairwise_map.2 (h.pair.imp fun {x y} hxy e=>?_)
 rw [JdO.2 e] at hxy;omega
theorem Jf4 {b:List J0} {s:List UInt8}:s ∈ Ja0 b ↔ ∃ x ∈ b,x.name = s:=by unfold Ja0;simp
theorem Jdi {b:List Jc5} {s:List UInt8}:s ∈ JbD b ↔ ∃ x ∈ b,x.name = s:=by unfold JbD;simp
theorem Jmu {b:List J0} {name value:List UInt8} (h:Jda b) (hr:Jax name value = 0) (hf:name ∈ Ja0 b ∨ b.length < 24):(Ja3 b name value).2 = 0:=by
 have hp:=(Jqw hr).2.2
 have e1:Jr b name = ((bsF b name JbO).1,(bsF b name JbO).2,0):=by
  unfold Jr;rw [if_neg (by rw [Ja5.2 h];simp),if_neg (by rw [hp];simp)]
 have e2:JcL b name value = 0:=by
  unfold JcL
  rw [e1,if_neg (by simp),if_neg (by rw [hr];simp),if_neg]
  rintro ⟨q1,q2⟩
  rcases hf with hf | hf
  ·
   have:=(Jp6 h name).2 (Jf4.1 hf)
   rw [this] at q1;cases q1
  ·
   omega
 unfold Ja3
 rw [if_neg (by omega)]
theorem JkI {b:List J0} {name value:List UInt8} (h:(Ja3 b name value).2 = 0) {s:List UInt8}:s ∈ Ja0 (Ja3 b name value).1 ↔ s = name ∨ s ∈ Ja0 b:=by
 obtain ⟨_,_,_,q⟩:=Jha h
 rw [Jf4,Jf4]
 constructor
 ·
  rintro ⟨x,hx,rfl⟩
  rcases (q x).1 hx with e | ⟨e,_⟩
  ·
   exact .inl (by rw [e])
  ·
   exact .inr ⟨x,e,rfl⟩
 ·
  rintro (rfl | ⟨x,hx,rfl⟩)
  ·
   exact ⟨_,(q _).2 (.inl rfl),rfl⟩
  ·
   by_cases e:x.name = name
   ·
    exact ⟨_,(q _).2 (.inl rfl),e.symm⟩
   ·
    exact ⟨x,(q x).2 (.inr ⟨hx,e⟩),rfl⟩
theorem Jpi {a:Jc5} (h:Jar a = 0):Jax a.name a.value = 0:=h
theorem JkJ:∀ (l:List Jc5) (b:List J0),Jda b → (∀ a ∈ l,Jar a = 0) → nn (Ja0 b ++ JbD l) ≤ 24 →
  Jda (Jf3 b l) ∧ (∀ s,s ∈ Ja0 (Jf3 b l) ↔ s ∈ Ja0 b ∨ s ∈ JbD l)
 | [],b,h,_,_=>⟨h,fun s=>by simp [Jf3,JbD]⟩
 | a :: l,b,h,hr,hn=>by
  have ha:=Jpi (hr a (by simp))
  have hf:a.name ∈ Ja0 b ∨ b.length < 24:=by
   by_cases e:a.name ∈ Ja0 b
   ·
    exact .inl e
   ·
    right
    have h1:(a.name :: Ja0 b).Nodup:=List.nodup_cons.2 ⟨e,Jmt h⟩
    have h2:=Jqx h1
    have h3:nn (a.name :: Ja0 b) ≤ nn (Ja0 b ++ JbD (a :: l)):=JhC fun x hx=>by
     rcases List.mem_cons.1 hx with rfl | hx
     ·
      exact List.mem_append.2 (.inr (Jdi.2 ⟨a,by simp,rfl⟩))
     ·
      exact List.mem_append.2 (.inl hx)
    simp only [List.length_cons] at h2
    have:(Ja0 b).length = b.length:=by simp [Ja0]
    omega
  have hs:=Jmu h ha hf
  have hok:=(Jha hs).2.2.1
  have hmem:∀ s,s ∈ Ja0 (Ja3 b a.name a.value).1 ++ JbD l → s ∈ Ja0 b ++ JbD (a :: l):=fun s hs'=>by
   rcases List.mem_append.1 hs' with q | q
   ·
    rcases (JkI hs).1 q with rfl | q
    ·
     exact List.mem_append.2 (.inr (Jdi.2 ⟨a,by simp,rfl⟩))
    ·
     exact List.mem_append.2 (.inl q)
   ·
    exact List.mem_append.2 (.inr (by simp only [JbD,List.map_cons,List.mem_cons];exact .inr q))
  obtain ⟨q1,q2⟩:=JkJ l _ hok (fun x hx=>hr x (by simp [hx])) (Nat.le_trans (JhC hmem) hn)
  refine ⟨q1,fun s=>?_⟩
  show s ∈ Ja0 (Jf3 (Ja3 b a.name a.value).1 l) ↔ _
  rw [q2 s,JkI hs]
  simp only [JbD,List.map_cons,List.mem_cons]
  constructor
  ·
   rintro ((h | h) | h)
   ·
    exact .inr (.inl h)
   ·
    exact .inl h
   ·
    exact .inr (.inr h)
  ·
   rintro (h | h | h)
   ·
    exact .inl (.inr h)
   ·
    exact .inl (.inl h)
   ·
    exact .inr h
theorem JcP.last {c:JaD} (h:JcP c):c.books[c.books.length - 1]? = some (Jbt c.books):=by
 have:=h.len;have:=h.chain.len1
 have hl:c.books.length - 1 < c.books.length:=by omega
 unfold Jbt;rw [List.getElem?_eq_getElem hl];rfl
theorem JcP.book {c:JaD} (h:JcP c) {k:Nat} {x:List J0} (hx:c.books[k]? = some x):Jda x:=(Jhc (h.root k x hx).1).1
theorem JcP.bds {c:JaD} (h:JcP c):0 < c.books.length ∧ c.books.length ≤ 1000 ∧ (Jbt c.books).length ≤ 1000 ∧ c.queue.wait.length ≤ 1000 ∧ 1 ≤ c.heads.length ∧ c.heads.length ≤ 40:=by
 have h1:=JaY.1 h.queue
 have:=h.len;have:=h.chain.len1;have:=h.chain.len
 have:=(h.book h.last).len
 omega
theorem JdK {c:JaD} (h:J4 c = 0):(0 < c.books.length ∧ c.books.length ≤ 1000 ∧ (Jbt c.books).length ≤ 1000 ∧ c.queue.wait.length ≤ 1000 ∧ 1 ≤ c.heads.length ∧ c.heads.length ≤ 40) ∧ (0 ≤ c.now ∧ c.now ≤ 1000000000) ∧ (1 ≤ c.batch ∧ c.batch ≤ 30) ∧ 1 ≤ c.every ∧ c.every ≤ 1000 :=
 let q:=JdB.1 h
 ⟨q.bds,q.now,q.batch,q.every⟩
theorem Jiy {c:JaD} {a:Jc5} (h:(Jat c a).2.2 = 0):JcP c ∧ (JB c.queue a).2.2 = 0 ∧ JcQ c = false ∧ nn (JfA c [a.name]) ≤ 24 ∧ Jat c a = (⟨(JB c.queue a).1,c.batch,c.every,c.now,c.heads,c.books⟩,c.now - c.now.tmod c.every + (Ja4 (JB c.queue a).2.1 c.batch c.every).1,0):=by
 unfold Jat at h ⊢
 split at h
 ·
  contradiction
 split at h
 ·
  rename_i h1 h2;exact absurd h h2.1
 split at h
 ·
  cases h
 split at h
 ·
  cases h
 ·
  rename_i h1 h2 h3 h4
  rw [if_neg h1,if_neg h2,if_neg h3,if_neg h4]
  simp only [not_or] at h4
  have h5:=h4.2;unfold Jcv at h5
  exact ⟨JdB.1 (Decidable.not_not.1 h1),by apply Decidable.byContradiction;intro hc;exact h2 ⟨hc,h4.1⟩,by simpa using h3,by omega,rfl⟩
theorem JjF {c:JaD} {a:Jc5} (h:(Jat c a).2.2 = 0):JcP (Jat c a).1:=by
 obtain ⟨ok,hq,_,hn,e⟩:=Jiy h
 rw [e]
 obtain ⟨_,_,_,e2⟩:=Jir hq
 refine ⟨Jjp hq,ok.batch,ok.every,ok.now,ok.chain,ok.first,ok.len,ok.at_,ok.root,?_⟩
 refine Nat.le_trans (JhC fun x hx=>?_) hn
 unfold JfA at hx ⊢
 rw [e2] at hx
 simp only [JbD,List.map_append,List.map_cons,List.map_nil,List.mem_append,List.mem_singleton,List.not_mem_nil,or_false] at hx ⊢
 rcases hx with h | h | h
 ·
  exact .inl (.inl h)
 ·
  exact .inl (.inr h)
 ·
  exact .inr h
theorem JqC {c:JaD} (h:JcP c) (hc:JcQ c = false) {r:Int} (hr:r < 2305843009213693951):(Ja6 c.heads r (c.now + 1)).2 = 0 ∧ Ja6 c.heads r (c.now + 1) = (c.heads ++ [(Jx (JcO c.heads) r (c.now + 1)).1],0) ∧ (Jx (JcO c.heads) r (c.now + 1)).2 = 0:=by
 unfold JcQ at hc
 simp only [Bool.or_eq_false_iff,decide_eq_false_iff_not] at hc
 have hn:=h.now
 have he:(Jx (JcO c.heads) r (c.now + 1)).2 = 0:=by
  have hk:JC (JcO c.heads) = 0:=h.chain.ok _ (List.mem_of_getElem? h.chain.last)
  have hl:=h.chain.lastE
  have hf:=h.first
  have hlen:=h.chain.len
  have ha:=h.at_
  have hb:=JlY (JcO c.heads)
  have hb2:=JcW hk
  unfold Jx
  have:JdN (JcO c.heads) r (c.now + 1) = 0:=by
   unfold JdN
   rw [if_neg (by omega),if_neg (by omega),if_neg (by omega)]
   unfold JC
   simp only
   rw [if_neg (by omega),if_neg (by omega)]
  rw [if_neg (by omega)]
 have hg:Jdp c.heads r (c.now + 1) = 0:=by
  unfold Jdp
  rw [if_neg (by rw [Jbe.2 h.chain];simp),if_neg (by exact_mod_cast hc.1),he]
 refine ⟨?_,?_,he⟩ <;> (unfold Ja6;rw [if_neg (by omega)])
theorem Jkb (l:List JS) (r t:Int):(Ja6 l r t).1.length ≤ 40:=by
 by_cases h:(Ja6 l r t).2 = 0
 ·
  obtain ⟨_,h2,_,h4⟩:=Jhx h
  rw [h4];simp;omega
 ·
  rw [Jj0 h];simp
theorem JgT {c:JaD} (h:JcP c):(JG c.queue c.batch).2.2 = 0 ∧ JG c.queue c.batch = ((⟨c.queue.most,c.queue.wait.drop (Jby c.batch c.queue.wait)⟩:JbC),c.queue.wait.take (Jby c.batch c.queue.wait),(0:Int)):=by
 have hq:=h.queue;have hb:=h.batch
 constructor <;> (unfold JG;rw [if_neg (by omega),if_neg (by omega)])
theorem Jmv {c:JaD} (h:JcP c):Jda (JeV c) ∧ (∀ s,s ∈ Ja0 (JeV c) ↔ s ∈ Ja0 (Jbt c.books) ∨ s ∈ JbD (c.queue.wait.take (Jby c.batch c.queue.wait))):=by
 unfold JeV
 rw [(JgT h).2]
 refine JkJ _ _ (h.book h.last) (fun a ha=>(JaY.1 h.queue).2.2.2 a (List.mem_of_mem_take ha)) (Nat.le_trans (JhC fun x hx=>?_) h.names)
 unfold JfA
 rcases List.mem_append.1 hx with q | q
 ·
  simp [q]
 ·
  obtain ⟨a,ha,rfl⟩:=Jdi.1 q
  have:a.name ∈ JbD c.queue.wait:=Jdi.2 ⟨a,List.mem_of_mem_take ha,rfl⟩
  simp [this]
theorem Jnu (l:List (List J0)) (x:List J0):Jbt (l ++ [x]) = x:=by unfold Jbt;simp
theorem Jnv {l:List JS} (h:1 ≤ l.length) (m:List JS):Jck (l ++ m) = Jck l:=by
 unfold Jck;rw [List.getElem?_append_left (by omega)]
theorem Jnw (l:List JS) (x:JS):JcO (l ++ [x]) = x:=by unfold JcO;simp
structure Ticked (c d:JaD):Prop where
 ok:JcP d
 batch:d.batch = c.batch
 every:d.every = c.every
 heads:∃ m,d.heads = c.heads ++ m
 books:∃ m,d.books = c.books ++ m
theorem JhE {c:JaD} (h:JcP c):(Jad c).2.2 = 0 ∧ Ticked c (Jad c).1:=by
 have h0:=JdB.2 h
 unfold Jad
 rw [if_neg (by omega)]
 by_cases h1:JcQ c = true
 ·
  rw [if_pos h1];exact ⟨rfl,h,rfl,rfl,⟨[],by simp⟩,⟨[],by simp⟩⟩
 rw [if_neg h1]
 have h1':JcQ c = false:=by simpa using h1
 have hnow:c.now + 1 ≤ 1000000000:=by
  have:=h.now;unfold JcQ at h1';simp only [Bool.or_eq_false_iff,decide_eq_false_iff_not] at h1';omega
 by_cases h2:(c.now + 1).tmod c.every = 0
 ·
  rw [if_neg (by omega)]
  obtain ⟨t1,t2⟩:=Jmv h
  have hroot:=Jjx (q:=[]) t1 (by simp) (by simp)
  have hb:=Jix (Jai (JeV c) []) []
  have hr:(JO (JeV c) []).1 < 2305843009213693951:=by rw [hroot];exact hb.2
  obtain ⟨g1,g2,g3⟩:=JqC h h1' hr
  obtain ⟨k1,k2⟩:=Jnm g3
  obtain ⟨u1,u2⟩:=JgT h
  have hlen1:=h.chain.len1
  have hlt:c.heads.length < 40:=(Jhx g1).2.1
  rw [g2]
  have hbk:=h.len
  have hnx:=(Jfx g3).2.2.2.1
  refine ⟨rfl,⟨JiN u1,h.batch,h.every,⟨by have:=h.now;show 0 ≤ c.now + 1;omega,hnow⟩,h.chain.snoc hlt k2 k1,?_,?_,?_,?_,?_⟩,rfl,rfl,⟨_,rfl⟩,⟨_,rfl⟩⟩
  ·
   show (Jck (c.heads ++ _)).epoch = 0;rw [Jnv hlen1];exact h.first
  ·
   simp only [List.length_append,List.length_cons,List.length_nil];omega
  ·
   show (JcO (c.heads ++ _)).at_ ≤ c.now + 1;rw [Jnw,hnx];exact Int.le_refl _
  ·
   intro k x hx
   simp only at hx ⊢
   by_cases hk:k < c.books.length
   ·
    rw [List.getElem?_append_left hk] at hx
    rw [List.getElem?_append_left (by omega)]
    exact h.root k x hx
   ·
    rw [List.getElem?_append_right (by omega)] at hx
    have hk2:k - c.books.length = 0:=by
     have:=(List.getElem?_eq_some_iff.1 hx).1;simp at this;omega
    rw [hk2] at hx
    simp only [List.getElem?_cons_zero,Option.some.injEq] at hx
    subst hx
    rw [List.getElem?_append_right (by omega),show k - c.heads.length = 0 by omega]
    refine ⟨by rw [hroot],?_⟩
    show _ = (Jx _ _ _).1.root
    rw [hnx]
  ·
   refine Nat.le_trans (JhC fun x hx=>?_) h.names
   unfold JfA at hx ⊢
   simp only [Jnu,List.append_nil] at hx ⊢
   rw [u2] at hx
   rcases List.mem_append.1 hx with q | q
   ·
    rcases (t2 x).1 q with q | q
    ·
     exact List.mem_append.2 (.inl q)
    ·
     obtain ⟨a,ha,rfl⟩:=Jdi.1 q
     exact List.mem_append.2 (.inr (Jdi.2 ⟨a,List.mem_of_mem_take ha,rfl⟩))
   ·
    obtain ⟨a,ha,rfl⟩:=Jdi.1 q
    exact List.mem_append.2 (.inr (Jdi.2 ⟨a,List.mem_of_mem_drop ha,rfl⟩))
 ·
  rw [if_pos h2]
  refine ⟨rfl,⟨h.queue,h.batch,h.every,⟨by have:=h.now;show 0 ≤ c.now + 1;omega,hnow⟩,h.chain,h.first,h.len,?_,h.root,h.names⟩,rfl,rfl,⟨[],by simp⟩,⟨[],by simp⟩⟩
  have:=h.at_;show (JcO c.heads).at_ ≤ c.now + 1;omega
theorem JgU {c:JaD} (h:JcP c):((Jad c).1.now = c.now ∧ JcQ c = true) ∨ (JcQ c = false ∧ (Jad c).1.now = c.now + 1):=by
 have h0:=JdB.2 h
 unfold Jad
 rw [if_neg (by omega)]
 by_cases h1:JcQ c = true
 ·
  rw [if_pos h1];exact .inl ⟨rfl,h1⟩
 ·
  rw [if_neg h1]
  refine .inr ⟨by simpa using h1,?_⟩
  split <;> rfl
theorem Jrr {n e:Int} (h:0 ≤ n):n.tmod e = n % e:=Int.tmod_eq_emod_of_nonneg h
theorem Je6 {n e:Int} (h:0 ≤ n) (he:1 ≤ e):0 ≤ n.tmod e ∧ n.tmod e ≤ n ∧ n.tmod e < e:=by
 rw [Jrr h]
 have h2:=Int.emod_nonneg n (show e ≠ 0 by omega)
 have h3:=Int.emod_lt_of_pos n (show 0 < e by omega)
 have h1:=Int.emod_add_mul_ediv n e
 have h4:0 ≤ e * (n / e):=Int.mul_nonneg (by omega) (Int.ediv_nonneg h (by omega))
 omega
theorem JjG (a b e:Int):0 ≤ (Ja4 a b e).1 ∧ (Ja4 a b e).1 ≤ 31000:=by
 unfold Ja4
 split
 ·
  simp
 ·
  have h1:=JiX (a:=a) (b:=b) (by omega) (by omega)
  have h2:=JnY (a:=a.tdiv b + 1) (b:=e) (by omega) (by omega)
  simp only;omega
theorem Jiz (G:Jt) (vs_c:List Value) (c:JaD) (h_c:Jfj.R G vs_c c) :Con Tryz.prog 55 #[.agg vs_c.toArray] G [] (fun u G' L'=>u = Bo (JcQ c)):=by
 obtain ⟨a1,c1,a2,c2,a3,c3,rfl,_,_,_,_,_,_,_⟩:=h_c
 refine JL Tryz.func55 12 [(0,(JaL c a1 c1 a2 c2 a3 c3))] rfl (fun w0 G0=>?_)
 refine Je (Jb ?_)
 refine Ju 1 #[I c.queue.most,Sl a1 c.queue.wait.length c1,I c.batch,I c.every,I c.now,Sl a2 c.heads.length c2,Sl a3 c.books.length c3] 34 (fun b1=>?_)
 refine Jd [0] [(1,Pt b1 0)] (Jc (Ja (Je (Jb ?_))))
 refine Jd [0,2,0,0,0] [(1,Pt b1 0),(7,Bo (decide ((c.heads.length:Int) = 40)))] ?_
 refine Jay (decide ((c.heads.length:Int) = 40)) (fun bb=>[(1,Pt b1 0),(7,Bo bb)]) [1,1,1,0] [0,2,0,0] (fun bb=>[(11,Bo (bb || (decide (c.now = 1000000000))))]) ?_
 refine Jd [0] [(2,Bo ((decide ((c.heads.length:Int) = 40)) || (decide (c.now = 1000000000))))] (Jc (Ja (Jk ?_)))
 refine Jl [0] [Bo ((decide ((c.heads.length:Int) = 40)) || (decide (c.now = 1000000000)))] (Jw (Jt.le_refl _) ?_)
 have hf_:(JcQ c) = ((decide ((c.heads.length:Int) = 40)) || (decide (c.now = 1000000000))):=by
  rfl
 · (try rw [hf_]);(simp only [JM];done)
theorem JiA (G:Jt) (vs_c:List Value) (c:JaD) (h_c:Jfj.R G vs_c c) (hb:c.books.length ≤ 1000):Con Tryz.prog 56 #[.agg vs_c.toArray] G [] (fun u G' L'=>∃ (a1:Option Addr) (c2:Nat) (a3:Option Addr) (c4:Nat) (a5:Option Addr),u = .agg #[I c.queue.most,Sl a1 c.queue.wait.length c2,I c.batch,I c.every,I c.now,Sl a3 c.heads.length c4,Sl a5 c.books.length c.books.length] ∧ (rI c.queue.most) ∧ (RS JbL G' a1 c2 c.queue.wait) ∧ (rI c.batch) ∧ (rI c.every) ∧ (rI c.now) ∧ (RS Jaz G' a3 c4 c.heads) ∧ (RS Jbd G' a5 c.books.length c.books) ∧ L' = []):=by
 obtain ⟨a1,c1,a2,c2,a3,c3,rfl,w1,hs1,w2,w3,w4,hs2,hs3⟩:=h_c
 refine JL Tryz.func56 37 [(0,(JaL c a1 c1 a2 c2 a3 c3))] rfl (fun w0 G0=>?_)
 refine Je (Jb ?_)
 refine Ju 1 #[I c.queue.most,Sl a1 c.queue.wait.length c1,I c.batch,I c.every,I c.now,Sl a2 c.heads.length c2,Sl a3 c.books.length c3] 34 (fun b1=>?_)
 refine Ju 2 #[I 0,Sl none 0 0,I 0,I 0,I 0,Sl none 0 0,Sl none 0 0] 34 (fun b2=>?_)
 refine Jc (Ja (Je (Jb ?_)))
 refine Jd [0,0,4] [(1,Pt b1 0),(2,Pt b2 0),(8,Sl a1 c.queue.wait.length c1)] ?_
 refine JN 9 (JdX G a1 c1 c.queue.wait hs1) (fun v G1 L1 hl1 hp=>?_)
 obtain ⟨a4,c4,r1,rfl,hr1,rfl⟩:=hp
 refine Jaa [0,0,7] [(1,Pt b1 0),(2,Pt b2 0)] [r1,[Sg b2 0 [I 0,Sl none 0 0,I 0,I 0,I 0,Sl none 0 0,Sl none 0 0]],[Sg b1 0 (Jal c a4 c4 a2 c2 a3 c3)]] (Jc (Ja (Je (Jb ?_))))
 refine Jd [0,6] [(1,Pt b1 0),(2,Pt b2 0),(13,Sl a2 c.heads.length c2)] ?_
 refine JN 14 (Jez G1 a2 c2 c.heads (hs2.mono hl1)) (fun v G2 L1 hl2 hp=>?_)
 obtain ⟨a5,c5,r2,rfl,hr2,rfl⟩:=hp
 refine Jaa [0,9] [(1,Pt b1 0),(2,Pt b2 0)] [r2,r1,[Sg b2 0 [I 0,Sl none 0 0,I 0,I 0,I 0,Sl none 0 0,Sl none 0 0]],[Sg b1 0 (Jal c a4 c4 a5 c5 a3 c3)]] (Jc (Ja (Je (Jb ?_))))
 refine Jd [0,8,0] [(1,Pt b1 0),(2,Pt b2 0),(18,I (c.books.length:Int))] ?_
 refine Jno (E:=Jbd) (bytes:=24) 19 32 66 c.books.length ([]:List J0) ⟨rfl,rfl,fun G=>⟨_,_,rfl,RS.nil' Jbh G⟩⟩ (by omega) (by omega) (by kernel_rfl) (fun a6 r3 hr3=>?_)
 refine Jd [0] [(1,Pt b1 0),(2,Pt b2 0),(3,Sl a6 ((List.replicate c.books.length ([]:List J0)).length) c.books.length)] (Jc (Ja (Je ?_)))
 refine Jg [0,10,0,0] [(1,Pt b1 0),(2,Pt b2 0),(3,Sl a6 ((List.replicate c.books.length ([]:List J0)).length) c.books.length),(21,Sl a3 c.books.length c3),(22,I (c.books.length:Int)),(23,I 0)] (Jy ?_)
 have hlm_hs3:c.books.length ≤ 9223372036854775807:=Nat.le_trans (hs3).le (hs3).max
 refine Ja8 (σ:=Nat × Option Addr × Nat × List Seg × List (List J0) × Jt) (fun q_=>(Jt.le G2 q_.2.2.2.2.2) ∧ (q_.1 ≤ c.books.length) ∧ (J8 Jbd q_.2.2.2.2.2 q_.2.1 q_.2.2.1 q_.2.2.2.2.1 q_.2.2.2.1) ∧ (q_.2.2.2.2.1.length = c.books.length ∧ q_.2.2.2.2.1.take q_.1 = c.books.take q_.1) ∧ (q_.2.2.1 = q_.2.2.2.2.1.length)) (fun q_=>[(1,Pt b1 0),(2,Pt b2 0),(3,Sl q_.2.1 q_.2.2.2.2.1.length q_.2.2.1),(21,Sl a3 c.books.length c3),(22,I (c.books.length:Int)),(23,I (q_.1:Int))]) (fun q_=>q_.2.2.2.2.2) (fun q_=>[q_.2.2.2.1,r2,r1,[Sg b2 0 [I 0,Sl none 0 0,I 0,I 0,I 0,Sl none 0 0,Sl none 0 0]],[Sg b1 0 (Jal c a4 c4 a5 c5 a3 c3)]]) (fun q_=>c.books.length - q_.1) (0,a6,c.books.length,r3,(List.replicate c.books.length ([]:List J0)),G2) ⟨(Jt.le_refl _),(by (try dsimp only);exact Nat.zero_le _),hr3,⟨by simp,rfl⟩,(by (try dsimp only);simp)⟩ (fun q_ hs=>?_)
 obtain ⟨i,aw,cw,rw,xw,g⟩:=q_
 obtain ⟨hle,hi,hrw,hxw,hcw⟩:=hs
 dsimp only at hle hi hrw hxw hcw
 refine JaJ (fr':=[(1,Pt b1 0),(2,Pt b2 0),(3,Sl aw xw.length cw),(21,Sl a3 c.books.length c3),(22,I (c.books.length:Int)),(23,I (i:Int))]) (L':=[rw,r2,r1,[Sg b2 0 [I 0,Sl none 0 0,I 0,I 0,I 0,Sl none 0 0,Sl none 0 0]],[Sg b1 0 (Jal c a4 c4 a5 c5 a3 c3)]]) rfl rfl ?_
 refine Jg [0] [(1,Pt b1 0),(2,Pt b2 0),(3,Sl aw xw.length cw),(21,Sl a3 c.books.length c3),(22,I (c.books.length:Int)),(23,I (i:Int)),(24,Bo (decide ((i:Int) < (c.books.length:Int))))] (Je ?_)
 refine Jo (decide ((i:Int) < (c.books.length:Int))) (fun h1=>?_) (fun h1=>?_)
 try simp only [BB] at h1
 refine Jn (Ja (Je (Jy (Je (Jb ?_)))))
 refine Jd [0] [(1,Pt b1 0),(2,Pt b2 0),(3,Sl aw xw.length cw),(21,Sl a3 c.books.length c3),(22,I (c.books.length:Int)),(23,I (i:Int)),(25,I (i:Int))] ?_
 obtain ⟨b3,o1,rfl⟩:=RS.addr (hs3.mono (Jt.le_trans (Jt.le_trans hl1 hl2) hle)) (k:=i) (by omega)
 obtain ⟨x1,hx1⟩:=Jb1 (l:=c.books) (k:=i) (by omega)
 obtain ⟨_,⟨a7,c6,rfl,hs4⟩,hc1⟩:=RS.get (hs3.mono (Jt.le_trans (Jt.le_trans hl1 hl2) hle)) hx1
 refine Jac (b:=b3) (off:=o1) (len:=c.books.length) (cap:=c3) (ik:=.i64) 26 66 1 i (by omega) ?_
 refine J6 27 66 (cs:=[Sl a7 x1.length c6]) 0 (Sl a7 x1.length c6) hc1 ?_
 refine Jd [0,0] [(1,Pt b1 0),(2,Pt b2 0),(3,Sl aw xw.length cw),(4,I (i:Int)),(5,Sl a7 x1.length c6),(21,Sl (At b3 o1) c.books.length c3),(22,I (c.books.length:Int)),(23,I (i:Int))] (Jc (Ja (Jb ?_)))
 refine Jd [0,0,0] [(1,Pt b1 0),(2,Pt b2 0),(3,Sl aw xw.length cw),(21,Sl (At b3 o1) c.books.length c3),(22,I (c.books.length:Int)),(23,I (i:Int)),(28,Sl aw xw.length cw),(29,I (i:Int)),(30,Sl a7 x1.length c6)] ?_
 refine JN 31 (JdW g a7 c6 x1 hs4) (fun v G3 L1 hl3 hp=>?_)
 obtain ⟨a8,c7,_,rfl,hr4,rfl⟩:=hp
 obtain ⟨_,hx2⟩:=Jb1 (l:=xw) (k:=i) (by omega)
 obtain ⟨b4,o2,_,_,⟨_,_,rfl,_⟩,ha1,_,_⟩:=J8.ix (hrw.mono hl3) hx2
 refine Jbo (b:=b4) (off:=o2) (len:=xw.length) (cap:=cw) (ik:=.i64) 32 66 1 i ha1 (by omega) ?_
 refine Jd [] [(1,Pt b1 0),(2,Pt b2 0),(3,Sl aw xw.length cw),(21,Sl (At b3 o1) c.books.length c3),(22,I (c.books.length:Int)),(23,I (i:Int)),(28,Sl aw xw.length cw),(29,I (i:Int)),(30,Sl a7 x1.length c6),(31,Sl a8 x1.length c7),(32,Pt b4 (o2 + i * 1))] ?_
 refine Jer (E:=Jbh) 0 hr4 (by exact (hs4).fit) (fun G4 hl4 hs6=>?_)
 refine Jeg (b:=b4) (off:=o2) 1 (hrw.mono (Jt.le_trans hl3 hl4)) i x1 ha1 (by omega) (Sl a8 x1.length c7) [Sl a8 x1.length c7] ⟨a8,c7,rfl,hs6⟩ (fun r5 hr5=>?_)
 have e1:xw.length = (xw.set i x1).length:=(List.length_set ..).symm
 refine J1 (fr':=[(1,Pt b1 0),(2,Pt b2 0),(3,Sl aw ((xw.set i x1).length) cw),(21,Sl (At b3 o1) c.books.length c3),(22,I (c.books.length:Int)),(23,I (i:Int)),(28,Sl aw ((xw.set i x1).length) cw),(29,I (i:Int)),(30,Sl a7 x1.length c6),(31,Sl a8 x1.length c7),(32,Pt b4 (o2 + i * 1))]) (L':=[[],r5,r2,r1,[Sg b2 0 [I 0,Sl none 0 0,I 0,I 0,I 0,Sl none 0 0,Sl none 0 0]],[Sg b1 0 [I c.queue.most,Sl a4 c.queue.wait.length c4,I c.batch,I c.every,I c.now,Sl a5 c.heads.length c5,Sl (At b3 o1) c.books.length c3]]]) (by simp only [Jal,JaL,e1];first | done | rfl) (by rfl) ?_
 refine Jc (JK (Ja (Jb ?_)))
 refine Jd [0,0] [(1,Pt b1 0),(2,Pt b2 0),(3,Sl aw ((xw.set i x1).length) cw),(21,Sl (At b3 o1) c.books.length c3),(22,I (c.books.length:Int)),(23,I (IntKind.i64.wrap ((i:Int) + 1)))] ?_
 have e2:IntKind.i64.wrap ((i:Int) + 1) = (i:Int) + 1:=IntWalk.i64_in _ (by omega)
 refine J1 (fr':=[(1,Pt b1 0),(2,Pt b2 0),(3,Sl aw ((xw.set i x1).length) cw),(21,Sl (At b3 o1) c.books.length c3),(22,I (c.books.length:Int)),(23,I ((i:Int) + 1))]) (L':=[[],r5,r2,r1,[Sg b2 0 [I 0,Sl none 0 0,I 0,I 0,I 0,Sl none 0 0,Sl none 0 0]],[Sg b1 0 [I c.queue.most,Sl a4 c.queue.wait.length c4,I c.batch,I c.every,I c.now,Sl a5 c.heads.length c5,Sl (At b3 o1) c.books.length c3]]]) (by simp only [Jal,JaL,e2];first | done | rfl) (by rfl) ?_
 clear e2
 refine Jc ?_
 refine JbT [r5,r2,r1,[Sg b2 0 [I 0,Sl none 0 0,I 0,I 0,I 0,Sl none 0 0,Sl none 0 0]],[Sg b1 0 (Jal c a4 c4 a5 c5 (At b3 o1) c3)]] (.cons _ (.cons_cons _ (.cons_cons _ (.cons_cons _ (.cons_cons _ (.cons_cons _ .slnil)))))) ?_
 exact Jba (i + 1,aw,cw,r5,xw.set i x1,G4) ⟨(Jt.le_trans hle (Jt.le_trans hl3 hl4)),(by omega),hr5,⟨by simp only [List.length_set];exact hxw.1,JqB hxw.2 (by omega) hx1⟩,(by simp only [List.length_set];exact hcw)⟩ (by (try dsimp only);omega)
 try simp only [BB] at h1
 refine JaT (J2 (Jaf (JW (Ja ?_))))
 refine JcA [0,0,11] [(1,Pt b1 0),(2,Pt b2 0)] [rw,r2,r1,[Sg b2 0 [I 0,Sl none 0 0,I 0,I 0,I 0,Sl none 0 0,Sl none 0 0]],[Sg b1 0 [I c.queue.most,Sl a4 c.queue.wait.length c4,I c.batch,I c.every,I c.now,Sl a5 c.heads.length c5,Sl aw xw.length cw]]] ?_
 refine JcA [10,9] [(2,Pt b2 0)] [rw,r2,r1,[Sg b2 0 [I c.queue.most,Sl a4 c.queue.wait.length c4,I c.batch,I c.every,I c.now,Sl a5 c.heads.length c5,Sl aw xw.length cw]],[Sg b1 0 [I c.queue.most,Sl a4 c.queue.wait.length c4,I c.batch,I c.every,I c.now,Sl a5 c.heads.length c5,Sl aw xw.length cw]]] ?_
 refine Jk ?_
 subst hcw
 refine Jcb (E:=JbL) 2 (hr1.mono (Jt.le_trans hl2 hle)) (by exact (hs1).fit) (fun G5 hl5 hs7=>?_)
 refine Jcb (E:=Jaz) 1 (hr2.mono (Jt.le_trans hle hl5)) (by exact (hs2.mono hl1).fit) (fun G6 hl6 hs8=>?_)
 refine Jcb (E:=Jbd) 0 (hrw.mono (Jt.le_trans hl5 hl6)) (by simp only [Jbd];omega) (fun G7 hl7 hs9=>?_)
 have hf1:c = (⟨c.queue,c.batch,c.every,c.now,c.heads,xw⟩:JaD):=by
  have e_:xw = c.books:=Jnt hxw.1 hxw.2 (by omega);subst e_;rfl
 refine Jl [3] [.agg #[I c.queue.most,Sl a4 c.queue.wait.length c4,I c.batch,I c.every,I c.now,Sl a5 c.heads.length c5,Sl aw xw.length xw.length]] (JY [] (.cons _ (.cons _ (.cons _ (.cons _ (.cons _ .slnil))))) (Jt.le_trans (Jt.le_trans (Jt.le_trans (Jt.le_trans (Jt.le_trans hl1 hl2) hle) hl5) hl6) hl7) ?_)
 rw [hf1]
 try dsimp only
 exact ⟨a4,c4,a5,c5,aw,rfl,w1,(hs7.mono (Jt.le_trans hl6 hl7)),w2,w3,w4,(hs8.mono hl7),hs9,rfl⟩
set_option maxRecDepth 20000 in
theorem JhF (G:Jt) (vs_c:List Value) (c:JaD) (h_c:Jfj.R G vs_c c) (vs_a:List Value) (a:Jc5) (h_a:JbL.R G vs_a a) :Con Tryz.prog 28 #[.agg vs_c.toArray,.agg vs_a.toArray] G [] (fun u G' L'=>∃ (a1:Option Addr) (c2:Nat) (a3:Option Addr) (c4:Nat) (a5:Option Addr) (c6:Nat),u = .tuple #[.agg #[I (((Jat c a).1).queue.most),Sl a1 ((((Jat c a).1).queue.wait).length) c2,I (((Jat c a).1).batch),I (((Jat c a).1).every),I (((Jat c a).1).now),Sl a3 ((((Jat c a).1).heads).length) c4,Sl a5 ((((Jat c a).1).books).length) c6],I ((Jat c a).2.1),I ((Jat c a).2.2)] ∧ (rI (((Jat c a).1).queue.most)) ∧ (RS JbL G' a1 c2 (((Jat c a).1).queue.wait)) ∧ (rI (((Jat c a).1).batch)) ∧ (rI (((Jat c a).1).every)) ∧ (rI (((Jat c a).1).now)) ∧ (RS Jaz G' a3 c4 (((Jat c a).1).heads)) ∧ (RS Jbd G' a5 c6 (((Jat c a).1).books)) ∧ (rI ((Jat c a).2.1)) ∧ L' = []):=by
 obtain ⟨a1,c1,a2,c2,a3,c3,rfl,w1,hs1,w2,w3,w4,hs2,hs3⟩:=h_c
 obtain ⟨rfl,w5,w6,w7,w8⟩:=h_a
 refine JL Tryz.func28 76 [(0,(JaL c a1 c1 a2 c2 a3 c3)),(1,.agg #[Sr a.name,Sr a.value,U a.n,U a.tag])] rfl (fun w0 G0=>?_)
 refine Je (Jb ?_)
 refine Ju 2 #[I c.queue.most,Sl a1 c.queue.wait.length c1,I c.batch,I c.every,I c.now,Sl a2 c.heads.length c2,Sl a3 c.books.length c3] 34 (fun b1=>?_)
 refine Ju 3 #[Sr a.name,Sr a.value,U a.n,U a.tag] 83 (fun b2=>?_)
 refine Ju 4 #[I 0,Sl none 0 0,I 0,I 0,I 0,Sl none 0 0,Sl none 0 0] 34 (fun b3=>?_)
 refine Jd [0,0] [(2,Pt b1 0),(3,Pt b2 0),(4,Pt b3 0)] (Jc (Ja (Je (Je (Jb ?_)))))
 refine Jd [6] [(2,Pt b1 0),(3,Pt b2 0),(4,Pt b3 0),(13,(JaL c a1 c1 a2 c2 a3 c3))] ?_
 refine Ji 14 (I (J4 c)) (Jd3 G (Jal c a1 c1 a2 c2 a3 c3) c (⟨a1,c1,a2,c2,a3,c3,rfl,w1,hs1,w2,w3,w4,hs2,hs3⟩)) ?_
 refine Jd [0] [(2,Pt b1 0),(3,Pt b2 0),(4,Pt b3 0),(7,I (J4 c))] (Jc (Ja ?_))
 refine Jg [0,0] [(2,Pt b1 0),(3,Pt b2 0),(4,Pt b3 0),(7,I (J4 c)),(16,Bo (!decide (J4 c = 0)))] ?_
 refine Jo (!decide (J4 c = 0)) (fun h1=>?_) (fun h1=>?_)
 try simp only [BB] at h1
 refine Jg [0,0,3,0,0] [(4,Pt b3 0),(5,I 0),(6,I (J4 c))] (Jk (Jh ?_))
 have hf1:Jat c a = ((⟨(⟨0,[]⟩:JbC),0,0,0,[],[]⟩:JaD),0,J4 c):=by
  unfold Jat Jdq;(rw [if_pos ‹_›];done)
 refine Jl [0,0,0] [.agg #[I 0,Sl none 0 0,I 0,I 0,I 0,Sl none 0 0,Sl none 0 0],I 0,I (J4 c)] (JY [] (.cons _ (.cons _ (.cons _ .slnil))) (Jt.le_refl _) ?_)
 rw [hf1]
 try dsimp only
 exact ⟨none,0,none,0,none,0,rfl,(by omega),(RS.nil' JbL G),(by omega),(by omega),(by omega),(RS.nil' Jaz G),(RS.nil' Jbd G),(by omega),rfl⟩
 try simp only [BB] at h1
 refine Jn (Ja (Je (Jb ?_)))
 refine Jd [0,6,4] [(2,Pt b1 0),(3,Pt b2 0),(4,Pt b3 0),(21,.agg #[I c.queue.most,Sl a1 c.queue.wait.length c1]),(22,.agg #[Sr a.name,Sr a.value,U a.n,U a.tag])] ?_
 refine JN 23 (Jlc G [I c.queue.most,Sl a1 c.queue.wait.length c1] c.queue (⟨a1,c1,rfl,w1,hs1⟩) [Sr a.name,Sr a.value,U a.n,U a.tag] a (⟨rfl,w5,w6,w7,w8⟩)) (fun v G1 L1 hl1 hp=>?_)
 obtain ⟨a4,c4,rfl,w9,hs4,rfl⟩:=hp
 refine Jd [0,0,0,0] [(2,Pt b1 0),(3,Pt b2 0),(4,Pt b3 0),(24,.agg #[I (((JB c.queue a).1).most),Sl a4 ((((JB c.queue a).1).wait).length) c4]),(25,I ((JB c.queue a).2.1)),(26,I ((JB c.queue a).2.2))] ?_
 refine Ju 8 #[I 0,Sl none 0 0] 30 (fun b4=>?_)
 refine Jaa [3,0,0] [(2,Pt b1 0),(3,Pt b2 0),(4,Pt b3 0),(8,Pt b4 0),(9,I ((JB c.queue a).2.1)),(10,I ((JB c.queue a).2.2))] [[Sg b4 0 [I (((JB c.queue a).1).most),Sl a4 ((((JB c.queue a).1).wait).length) c4]],[Sg b3 0 [I 0,Sl none 0 0,I 0,I 0,I 0,Sl none 0 0,Sl none 0 0]],[Sg b2 0 [Sr a.name,Sr a.value,U a.n,U a.tag]],[Sg b1 0 (Jal c a1 c1 a2 c2 a3 c3)]] (Jc (Ja (Je (Jy (Je (Jb ?_))))))
 refine Jd [0,0,0] [(2,Pt b1 0),(3,Pt b2 0),(4,Pt b3 0),(8,Pt b4 0),(9,I ((JB c.queue a).2.1)),(10,I ((JB c.queue a).2.2)),(30,Bo (!decide ((JB c.queue a).2.2 = 0)))] ?_
 refine Jay (!decide ((JB c.queue a).2.2 = 0)) (fun bb=>[(2,Pt b1 0),(3,Pt b2 0),(4,Pt b3 0),(8,Pt b4 0),(9,I ((JB c.queue a).2.1)),(10,I ((JB c.queue a).2.2)),(30,Bo bb)]) [0,0,0] [1,1,0] (fun bb=>[(2,Pt b1 0),(3,Pt b2 0),(4,Pt b3 0),(8,Pt b4 0),(9,I ((JB c.queue a).2.1)),(10,I ((JB c.queue a).2.2)),(33,Bo (bb && (!decide ((JB c.queue a).2.2 = 7))))]) ?_
 refine Jd [0] [(2,Pt b1 0),(3,Pt b2 0),(4,Pt b3 0),(8,Pt b4 0),(9,I ((JB c.queue a).2.1)),(10,I ((JB c.queue a).2.2)),(27,Bo ((!decide ((JB c.queue a).2.2 = 0)) && (!decide ((JB c.queue a).2.2 = 7))))] (Jc (Ja ?_))
 refine Jo ((!decide ((JB c.queue a).2.2 = 0)) && (!decide ((JB c.queue a).2.2 = 7))) (fun h2=>?_) (fun h2=>?_)
 try simp only [BB] at h2
 refine Jg [0,0,5,0,0] [(4,Pt b3 0),(5,I 0),(6,I ((JB c.queue a).2.2))] (Jk (Js (Jh ?_)))
 have hf2:Jat c a = ((⟨(⟨0,[]⟩:JbC),0,0,0,[],[]⟩:JaD),0,(JB c.queue a).2.2):=by
  unfold Jat Jdq;(rw [if_neg (by simp_all)];simp_all;done)
 refine Jl [1,0,0] [.agg #[I 0,Sl none 0 0,I 0,I 0,I 0,Sl none 0 0,Sl none 0 0],I 0,I ((JB c.queue a).2.2)] (JY [] (.cons _ (.cons _ (.cons _ (.cons _ .slnil)))) hl1 ?_)
 rw [hf2]
 try dsimp only
 exact ⟨none,0,none,0,none,0,rfl,(by omega),(RS.nil' JbL G1),(by omega),(by omega),(by omega),(RS.nil' Jaz G1),(RS.nil' Jbd G1),(by omega),rfl⟩
 try simp only [BB] at h2
 refine Je (Jb ?_)
 refine Jd [8] [(2,Pt b1 0),(3,Pt b2 0),(4,Pt b3 0),(8,Pt b4 0),(9,I ((JB c.queue a).2.1)),(10,I ((JB c.queue a).2.2)),(37,(JaL c a1 c1 a2 c2 a3 c3))] ?_
 refine Ji 38 (Bo (JcQ c)) (Jiz G1 (Jal c a1 c1 a2 c2 a3 c3) c (⟨a1,c1,a2,c2,a3,c3,rfl,w1,(hs1.mono hl1),w2,w3,w4,(hs2.mono hl1),(hs3.mono hl1)⟩)) ?_
 refine Jd [0] [(2,Pt b1 0),(3,Pt b2 0),(4,Pt b3 0),(8,Pt b4 0),(9,I ((JB c.queue a).2.1)),(10,I ((JB c.queue a).2.2)),(36,Bo (JcQ c))] (Jc (Ja ?_))
 refine Jo (JcQ c) (fun h3=>?_) (fun h3=>?_)
 try simp only [BB] at h3
 refine Jg [0,5,0,0] [(4,Pt b3 0),(5,I 0),(6,I 9)] (Jk (Js (Jh ?_)))
 have hf3:Jat c a = ((⟨(⟨0,[]⟩:JbC),0,0,0,[],[]⟩:JaD),0,9):=by
  unfold Jat Jdq;(rw [if_neg (by simp_all)];simp_all;done)
 refine Jl [1,0,0] [.agg #[I 0,Sl none 0 0,I 0,I 0,I 0,Sl none 0 0,Sl none 0 0],I 0,I 9] (JY [] (.cons _ (.cons _ (.cons _ (.cons _ .slnil)))) hl1 ?_)
 rw [hf3]
 try dsimp only
 exact ⟨none,0,none,0,none,0,rfl,(by omega),(RS.nil' JbL G1),(by omega),(by omega),(by omega),(RS.nil' Jaz G1),(RS.nil' Jbd G1),(by omega),rfl⟩
 try simp only [BB] at h3
 refine Je (Jb ?_)
 refine Jd [0,0,0] [(2,Pt b1 0),(3,Pt b2 0),(4,Pt b3 0),(8,Pt b4 0),(9,I ((JB c.queue a).2.1)),(43,Bo (decide ((JB c.queue a).2.2 = 7)))] ?_
 refine Jb8 (fun bb=>[(2,Pt b1 0),(3,Pt b2 0),(4,Pt b3 0),(8,Pt b4 0),(9,I ((JB c.queue a).2.1)),(43,Bo bb)]) (decide ((JB c.queue a).2.2 = 7)) (fun h4=>?_) (fun h4=>?_)
 try simp only [BB] at h4
 refine Jd [1,1,1,1,1,1,0,0] [(2,Pt b1 0),(4,Pt b3 0),(8,Pt b4 0),(9,I ((JB c.queue a).2.1)),(40,Bo true)] (Jc (Ja ?_))
 refine JT ?_
 refine Jg [0,5,0,0] [(4,Pt b3 0),(5,I 0),(6,I 7)] (Jk (Js (Jh ?_)))
 have hf4:Jat c a = ((⟨(⟨0,[]⟩:JbC),0,0,0,[],[]⟩:JaD),0,7):=by
  unfold Jat Jdq;(rw [if_neg (by simp_all)];simp_all;done)
 refine Jl [1,0,0] [.agg #[I 0,Sl none 0 0,I 0,I 0,I 0,Sl none 0 0,Sl none 0 0],I 0,I 7] (JY [] (.cons _ (.cons _ (.cons _ (.cons _ .slnil)))) hl1 ?_)
 rw [hf4]
 try dsimp only
 exact ⟨none,0,none,0,none,0,rfl,(by omega),(RS.nil' JbL G1),(by omega),(by omega),(by omega),(RS.nil' Jaz G1),(RS.nil' Jbd G1),(by omega),rfl⟩
 try simp only [BB] at h4
 refine Jd [8,0,6] [(2,Pt b1 0),(4,Pt b3 0),(8,Pt b4 0),(9,I ((JB c.queue a).2.1)),(43,Bo false),(44,(JaL c a1 c1 a2 c2 a3 c3)),(46,Sr a.name)] ?_
 refine JaB 47 1 #[Sr a.name] 9 (fun b5=>?_)
 refine JbH (b:=b5) (o:=0) (cs:=[Sr a.name]) 0 (fun G2 hl2 hz1=>?_)
 have hs5:RS ES G2 (At b5 0) 1 [a.name]:=RS.lit [[Sr a.name]] [a.name] ⟨⟨rfl,w5⟩,trivial⟩ hz1 (Nat.le_of_ble_eq_true rfl) (Nat.le_of_ble_eq_true rfl)
 refine Ji 48 (I (Jcv c ([a.name]))) (Jgt G2 (Jal c a1 c1 a2 c2 a3 c3) c (⟨a1,c1,a2,c2,a3,c3,rfl,w1,(hs1.mono (Jt.le_trans hl1 hl2)),w2,w3,w4,(hs2.mono (Jt.le_trans hl1 hl2)),(hs3.mono (Jt.le_trans hl1 hl2))⟩) (At b5 0) 1 ([a.name]) hs5 (by (have q_:=JdK ‹_›;(try dsimp only);omega)) (by (have q_:=JdK ‹_›;(try dsimp only);omega)) (by (have q_:=JdK ‹_›;(try dsimp only);omega)) (by (have q_:=JdK ‹_›;(try dsimp only);omega)) (by (simp;done))) ?_
 refine Jd [0,0,0] [(2,Pt b1 0),(4,Pt b3 0),(8,Pt b4 0),(9,I ((JB c.queue a).2.1)),(40,Bo (decide (Jcv c ([a.name]) > 24)))] (Jc (Ja ?_))
 refine Jo (decide (Jcv c ([a.name]) > 24)) (fun h5=>?_) (fun h5=>?_)
 try simp only [BB] at h5
 refine Jg [0,7,0,0] [(4,Pt b3 0),(5,I 0),(6,I 7)] (Jk (Js (Jh ?_)))
 have hf5:Jat c a = ((⟨(⟨0,[]⟩:JbC),0,0,0,[],[]⟩:JaD),0,7):=by
  unfold Jat Jdq;(rw [if_neg (by simp_all)];simp_all;done)
 refine Jl [2,0,0] [.agg #[I 0,Sl none 0 0,I 0,I 0,I 0,Sl none 0 0,Sl none 0 0],I 0,I 7] (JY [] (.cons _ (.cons _ (.cons _ (.cons _ (.cons _ .slnil))))) (Jt.le_trans hl1 hl2) ?_)
 rw [hf5]
 try dsimp only
 exact ⟨none,0,none,0,none,0,rfl,(by omega),(RS.nil' JbL G2),(by omega),(by omega),(by omega),(RS.nil' Jaz G2),(RS.nil' Jbd G2),(by omega),rfl⟩
 try simp only [BB] at h5
 refine Jn (JK (Ja (Je (Jb ?_))))
 refine Jd [10] [(2,Pt b1 0),(4,Pt b3 0),(8,Pt b4 0),(9,I ((JB c.queue a).2.1)),(52,(JaL c a1 c1 a2 c2 a3 c3))] ?_
 refine JN 53 (JiA G2 (Jal c a1 c1 a2 c2 a3 c3) c (⟨a1,c1,a2,c2,a3,c3,rfl,w1,(hs1.mono (Jt.le_trans hl1 hl2)),w2,w3,w4,(hs2.mono (Jt.le_trans hl1 hl2)),(hs3.mono (Jt.le_trans hl1 hl2))⟩) (by (have q_:=JdK ‹_›;(try dsimp only);omega))) (fun v G3 L1 hl3 hp=>?_)
 obtain ⟨a5,c5,a6,c6,a7,rfl,_,_,w11,w12,w13,hs7,hs8,rfl⟩:=hp
 refine Jaa [11] [(2,Pt b1 0),(4,Pt b3 0),(8,Pt b4 0),(9,I ((JB c.queue a).2.1))] [[],[Sg b4 0 [I (((JB c.queue a).1).most),Sl a4 ((((JB c.queue a).1).wait).length) c4]],[Sg b3 0 [I 0,Sl none 0 0,I 0,I 0,I 0,Sl none 0 0,Sl none 0 0]],[Sg b2 0 [Sr a.name,Sr a.value,U a.n,U a.tag]],[Sg b1 0 (Jal c a5 c5 a6 c6 a7 c.books.length)]] (Jc (Ja ?_))
 refine JcA [4,0,11] [(2,Pt b1 0),(4,Pt b3 0),(9,I ((JB c.queue a).2.1))] [[],[Sg b4 0 [I (((JB c.queue a).1).most),Sl a4 ((((JB c.queue a).1).wait).length) c4]],[Sg b3 0 [I 0,Sl none 0 0,I 0,I 0,I 0,Sl none 0 0,Sl none 0 0]],[Sg b2 0 [Sr a.name,Sr a.value,U a.n,U a.tag]],[Sg b1 0 [I (((JB c.queue a).1).most),Sl a4 ((((JB c.queue a).1).wait).length) c4,I c.batch,I c.every,I c.now,Sl a6 c.heads.length c6,Sl a7 c.books.length c.books.length]]] ?_
 refine Je (Jb ?_)
 refine Jd [0,0,10,0,10] [(2,Pt b1 0),(4,Pt b3 0),(57,I ((JB c.queue a).2.1)),(59,I c.batch),(61,I c.every)] ?_
 refine Ji 62 (.tuple #[I ((Ja4 ((JB c.queue a).2.1) c.batch c.every).1),I ((Ja4 ((JB c.queue a).2.1) c.batch c.every).2)]) (JjV G3 ((JB c.queue a).2.1) c.batch c.every) ?_
 refine Jd [0,0,0,0,0] [(2,Pt b1 0),(4,Pt b3 0),(11,I ((Ja4 ((JB c.queue a).2.1) c.batch c.every).1))] (Jc (Ja (Je ?_)))
 have e1:IntKind.i64.wrap (c.now - ((c.now).tmod c.every)) = c.now - ((c.now).tmod c.every):=IntWalk.i64_in _ (by (have q_:=JdK ‹_›;have q10_:=Je6 (n:=c.now) (e:=c.every) (by omega) (by omega);have q11_:=JjG (JB c.queue a).2.1 c.batch c.every;omega))
 have e2:IntKind.i64.wrap ((c.now - ((c.now).tmod c.every)) + ((Ja4 ((JB c.queue a).2.1) c.batch c.every).1)) = (c.now - ((c.now).tmod c.every)) + ((Ja4 ((JB c.queue a).2.1) c.batch c.every).1):=IntWalk.i64_in _ (by (have q_:=JdK ‹_›;have q10_:=Je6 (n:=c.now) (e:=c.every) (by omega) (by omega);have q11_:=JjG (JB c.queue a).2.1 c.batch c.every;omega))
 refine Jau [11] ?_
 refine Jb6 [(0,.agg #[I (((JB c.queue a).1).most),Sl a4 ((((JB c.queue a).1).wait).length) c4,I c.batch,I c.every,I c.now,Sl a6 c.heads.length c6,Sl a7 c.books.length c.books.length]),(1,Pt b1 4),(2,I c.now),(3,Pt b1 4),(4,I c.now),(5,Pt b1 3),(6,I c.every),(7,I ((c.now).tmod c.every)),(8,I (c.now - ((c.now).tmod c.every))),(9,I ((Ja4 ((JB c.queue a).2.1) c.batch c.every).1)),(10,I ((c.now - ((c.now).tmod c.every)) + ((Ja4 ((JB c.queue a).2.1) c.batch c.every).1)))] ?_
 refine JZ [] [(0,10),(1,0),(2,10),(3,0),(4,10),(5,0),(6,10),(9,0)] [7,8,10] [11] (List.forall_mem_cons.2 ⟨?_,(List.forall_mem_cons.2 ⟨?_,(List.forall_mem_cons.2 ⟨?_,List.forall_mem_nil _⟩)⟩)⟩) (List.forall_mem_cons.2 ⟨?_,List.forall_mem_nil _⟩)
 refine Jq 7 72 (I ((c.now).tmod c.every)) [(69,I c.now),(71,I c.every)] (fun X=>?_)
 exact Jhk (k:=.i64) (x:=c.now) (y:=c.every) 72 false ((c.now).tmod c.every) (by (have q_:=JdK ‹_›;have q10_:=Je6 (n:=c.now) (e:=c.every) (by omega) (by omega);have q11_:=JjG (JB c.queue a).2.1 c.batch c.every;omega)) rfl Jm
 refine Jq 8 73 (I (c.now - ((c.now).tmod c.every))) [(67,I c.now),(72,I ((c.now).tmod c.every))] (fun X=>?_)
 exact JaI 73 (I (IntKind.i64.wrap (c.now - ((c.now).tmod c.every)))) (I (c.now - ((c.now).tmod c.every))) (by simp only [e1]) Jm
 refine Jq 10 75 (I ((c.now - ((c.now).tmod c.every)) + ((Ja4 ((JB c.queue a).2.1) c.batch c.every).1))) [(73,I (c.now - ((c.now).tmod c.every))),(74,I ((Ja4 ((JB c.queue a).2.1) c.batch c.every).1))] (fun X=>?_)
 exact JaI 75 (I (IntKind.i64.wrap ((c.now - ((c.now).tmod c.every)) + ((Ja4 ((JB c.queue a).2.1) c.batch c.every).1)))) (I ((c.now - ((c.now).tmod c.every)) + ((Ja4 ((JB c.queue a).2.1) c.batch c.every).1))) (by simp only [e2]) Jm
 refine JP 11 [(4,Pt b3 0),(65,.agg #[I (((JB c.queue a).1).most),Sl a4 ((((JB c.queue a).1).wait).length) c4,I c.batch,I c.every,I c.now,Sl a6 c.heads.length c6,Sl a7 c.books.length c.books.length])] (fun X=>?_)
 refine JaU 2 [[],[Sg b4 0 [I (((JB c.queue a).1).most),Sl a4 ((((JB c.queue a).1).wait).length) c4]],[Sg b3 0 [I (((JB c.queue a).1).most),Sl a4 ((((JB c.queue a).1).wait).length) c4,I c.batch,I c.every,I c.now,Sl a6 c.heads.length c6,Sl a7 c.books.length c.books.length]],[Sg b2 0 [Sr a.name,Sr a.value,U a.n,U a.tag]],[Sg b1 0 [I (((JB c.queue a).1).most),Sl a4 ((((JB c.queue a).1).wait).length) c4,I c.batch,I c.every,I c.now,Sl a6 c.heads.length c6,Sl a7 c.books.length c.books.length]]] ?_
 have e3:IntKind.i64.wrap (c.now - ((c.now).tmod c.every)) = c.now - ((c.now).tmod c.every):=IntWalk.i64_in _ (by (have q_:=JdK ‹_›;have q10_:=Je6 (n:=c.now) (e:=c.every) (by omega) (by omega);have q11_:=JjG (JB c.queue a).2.1 c.batch c.every;omega))
 have e4:IntKind.i64.wrap ((c.now - ((c.now).tmod c.every)) + ((Ja4 ((JB c.queue a).2.1) c.batch c.every).1)) = (c.now - ((c.now).tmod c.every)) + ((Ja4 ((JB c.queue a).2.1) c.batch c.every).1):=IntWalk.i64_in _ (by (have q_:=JdK ‹_›;have q10_:=Je6 (n:=c.now) (e:=c.every) (by omega) (by omega);have q11_:=JjG (JB c.queue a).2.1 c.batch c.every;omega))
 refine Jao [(12,I ((c.now - ((c.now).tmod c.every)) + ((Ja4 ((JB c.queue a).2.1) c.batch c.every).1))),(13,I 0)] ?_
 refine Jav [0] [(1,0),(2,10),(3,0),(4,10),(5,0),(6,10),(9,0),(12,0),(13,0)] [7,8,10] [(4,Pt b3 0),(5,I ((c.now - ((c.now).tmod c.every)) + ((Ja4 ((JB c.queue a).2.1) c.batch c.every).1))),(6,I 0)] (List.forall_mem_cons.2 ⟨?_,(List.forall_mem_cons.2 ⟨?_,(List.forall_mem_cons.2 ⟨?_,List.forall_mem_nil _⟩)⟩)⟩) ?_
 refine Jq 7 72 (I ((c.now).tmod c.every)) [(69,I c.now),(71,I c.every)] (fun X=>?_)
 exact Jhk (k:=.i64) (x:=c.now) (y:=c.every) 72 false ((c.now).tmod c.every) (by (have q_:=JdK ‹_›;have q10_:=Je6 (n:=c.now) (e:=c.every) (by omega) (by omega);have q11_:=JjG (JB c.queue a).2.1 c.batch c.every;omega)) rfl Jm
 refine Jq 8 73 (I (c.now - ((c.now).tmod c.every))) [(67,I c.now),(72,I ((c.now).tmod c.every))] (fun X=>?_)
 exact JaI 73 (I (IntKind.i64.wrap (c.now - ((c.now).tmod c.every)))) (I (c.now - ((c.now).tmod c.every))) (by simp only [e3]) Jm
 refine Jq 10 75 (I ((c.now - ((c.now).tmod c.every)) + ((Ja4 ((JB c.queue a).2.1) c.batch c.every).1))) [(73,I (c.now - ((c.now).tmod c.every))),(74,I ((Ja4 ((JB c.queue a).2.1) c.batch c.every).1))] (fun X=>?_)
 exact JaI 75 (I (IntKind.i64.wrap ((c.now - ((c.now).tmod c.every)) + ((Ja4 ((JB c.queue a).2.1) c.batch c.every).1)))) (I ((c.now - ((c.now).tmod c.every)) + ((Ja4 ((JB c.queue a).2.1) c.batch c.every).1))) (by simp only [e4]) Jm
 refine Ja (Jk ?_)
 have hf6:Jat c a = ((⟨((JB c.queue a).1),c.batch,c.every,c.now,c.heads,c.books⟩:JaD),(c.now - ((c.now).tmod c.every)) + ((Ja4 ((JB c.queue a).2.1) c.batch c.every).1),0):=by
  unfold Jat Jdq;(rw [if_neg (by simp_all)];simp_all;done)
 refine Jl [2,0,0] [.agg #[I (((JB c.queue a).1).most),Sl a4 ((((JB c.queue a).1).wait).length) c4,I c.batch,I c.every,I c.now,Sl a6 c.heads.length c6,Sl a7 c.books.length c.books.length],I ((c.now - ((c.now).tmod c.every)) + ((Ja4 ((JB c.queue a).2.1) c.batch c.every).1)),I 0] (JY [] (.cons _ (.cons _ (.cons _ (.cons _ (.cons _ .slnil))))) (Jt.le_trans (Jt.le_trans hl1 hl2) hl3) ?_)
 rw [hf6]
 try dsimp only
 exact ⟨a4,c4,a6,c6,a7,c.books.length,rfl,w9,(hs4.mono (Jt.le_trans hl2 hl3)),w11,w12,w13,hs7,hs8,(by (have q_:=JdK ‹_›;have q10_:=Je6 (n:=c.now) (e:=c.every) (by omega) (by omega);have q11_:=JjG (JB c.queue a).2.1 c.batch c.every;omega)),rfl⟩
set_option maxRecDepth 20000 in
theorem Jkc (G:Jt) (vs_c:List Value) (c:JaD) (h_c:Jfj.R G vs_c c) :Con Tryz.prog 29 #[.agg vs_c.toArray] G [] (fun u G' L'=>∃ (a1:Option Addr) (c2:Nat) (a3:Option Addr) (c4:Nat) (a5:Option Addr) (c6:Nat),u = .tuple #[.agg #[I (((Jad c).1).queue.most),Sl a1 ((((Jad c).1).queue.wait).length) c2,I (((Jad c).1).batch),I (((Jad c).1).every),I (((Jad c).1).now),Sl a3 ((((Jad c).1).heads).length) c4,Sl a5 ((((Jad c).1).books).length) c6],Bo ((Jad c).2.1),I ((Jad c).2.2)] ∧ (rI (((Jad c).1).queue.most)) ∧ (RS JbL G' a1 c2 (((Jad c).1).queue.wait)) ∧ (rI (((Jad c).1).batch)) ∧ (rI (((Jad c).1).every)) ∧ (rI (((Jad c).1).now)) ∧ (RS Jaz G' a3 c4 (((Jad c).1).heads)) ∧ (RS Jbd G' a5 c6 (((Jad c).1).books)) ∧ L' = []):=by
 obtain ⟨a1,c1,a2,c2,a3,c3,rfl,w1,hs1,w2,w3,w4,hs2,hs3⟩:=h_c
 refine JL Tryz.func29 88 [(0,(JaL c a1 c1 a2 c2 a3 c3))] rfl (fun w0 G0=>?_)
 refine Je (Jb ?_)
 refine Ju 1 #[I c.queue.most,Sl a1 c.queue.wait.length c1,I c.batch,I c.every,I c.now,Sl a2 c.heads.length c2,Sl a3 c.books.length c3] 34 (fun b1=>?_)
 refine Ju 2 #[I 0,Sl none 0 0,I 0,I 0,I 0,Sl none 0 0,Sl none 0 0] 34 (fun b2=>?_)
 refine Jd [0,0] [(1,Pt b1 0),(2,Pt b2 0)] (Jc (Ja (Je (Je (Jb ?_)))))
 refine Jd [4] [(1,Pt b1 0),(2,Pt b2 0),(14,(JaL c a1 c1 a2 c2 a3 c3))] ?_
 refine Ji 15 (I (J4 c)) (Jd3 G (Jal c a1 c1 a2 c2 a3 c3) c (⟨a1,c1,a2,c2,a3,c3,rfl,w1,hs1,w2,w3,w4,hs2,hs3⟩)) ?_
 refine Jd [0] [(1,Pt b1 0),(2,Pt b2 0),(5,I (J4 c))] (Jc (Ja ?_))
 refine Jg [0,0] [(1,Pt b1 0),(2,Pt b2 0),(5,I (J4 c)),(17,Bo (!decide (J4 c = 0)))] ?_
 refine Jo (!decide (J4 c = 0)) (fun h1=>?_) (fun h1=>?_)
 try simp only [BB] at h1
 refine Jg [0,0,3,0,0] [(2,Pt b2 0),(3,Bo false),(4,I (J4 c))] (Jk (Jh ?_))
 have hf1:Jad c = ((⟨(⟨0,[]⟩:JbC),0,0,0,[],[]⟩:JaD),false,J4 c):=by
  unfold Jad Jdq;(rw [if_pos ‹_›];done)
 refine Jl [0,0,0] [.agg #[I 0,Sl none 0 0,I 0,I 0,I 0,Sl none 0 0,Sl none 0 0],Bo false,I (J4 c)] (JY [] (.cons _ (.cons _ .slnil)) (Jt.le_refl _) ?_)
 rw [hf1]
 try dsimp only
 exact ⟨none,0,none,0,none,0,rfl,(by omega),(RS.nil' JbL G),(by omega),(by omega),(by omega),(RS.nil' Jaz G),(RS.nil' Jbd G),rfl⟩
 try simp only [BB] at h1
 refine Jn (Ja (Je (Jb ?_)))
 refine Jd [4] [(1,Pt b1 0),(2,Pt b2 0),(20,(JaL c a1 c1 a2 c2 a3 c3))] ?_
 refine JN 21 (JiA G (Jal c a1 c1 a2 c2 a3 c3) c (⟨a1,c1,a2,c2,a3,c3,rfl,w1,hs1,w2,w3,w4,hs2,hs3⟩) (by (have q_:=JdK ‹_›;(try dsimp only);omega))) (fun v G1 L1 hl1 hp=>?_)
 obtain ⟨a4,c4,a5,c5,a6,rfl,w5,hs4,w6,w7,w8,hs5,hs6,rfl⟩:=hp
 refine Jaa [5] [(1,Pt b1 0),(2,Pt b2 0)] [[Sg b2 0 [I 0,Sl none 0 0,I 0,I 0,I 0,Sl none 0 0,Sl none 0 0]],[Sg b1 0 (Jal c a4 c4 a5 c5 a6 c.books.length)]] (Jc (Ja (Je (Je (Jb ?_)))))
 refine Jd [4] [(1,Pt b1 0),(2,Pt b2 0),(22,(JaL c a4 c4 a5 c5 a6 c.books.length))] ?_
 refine Ji 23 (Bo (JcQ c)) (Jiz G1 (Jal c a4 c4 a5 c5 a6 c.books.length) c (⟨a4,c4,a5,c5,a6,c.books.length,rfl,w5,hs4,w6,w7,w8,hs5,hs6⟩)) ?_
 refine Jc (Ja ?_)
 refine Jo (JcQ c) (fun h2=>?_) (fun h2=>?_)
 try simp only [BB] at h2
 refine JcA [4,3,0,0] [(2,Pt b2 0),(3,Bo false),(4,I 0)] [[Sg b2 0 (Jal c a4 c4 a5 c5 a6 c.books.length)],[Sg b1 0 (Jal c a4 c4 a5 c5 a6 c.books.length)]] ?_
 refine Jk (Jh ?_)
 have hf2:Jad c = (c,false,0):=by
  unfold Jad Jdq;(rw [if_neg (by simp_all)];(rw [if_pos ‹_›];done))
 refine Jl [0,0,0] [(JaL c a4 c4 a5 c5 a6 c.books.length),Bo false,I 0] (JY [] (.cons _ (.cons _ .slnil)) hl1 ?_)
 rw [hf2]
 try dsimp only
 exact ⟨a4,c4,a5,c5,a6,c.books.length,rfl,w5,hs4,w6,w7,w8,hs5,hs6,rfl⟩
 try simp only [BB] at h2
 refine Jn (Ja ?_)
 refine JcA [0,4,0,0,5] [(1,Pt b1 0),(2,Pt b2 0)] [[Sg b2 0 [I 0,Sl none 0 0,I 0,I 0,I 0,Sl none 0 0,Sl none 0 0]],[Sg b1 0 [I c.queue.most,Sl a4 c.queue.wait.length c4,I c.batch,I c.every,I (IntKind.i64.wrap (c.now + 1)),Sl a5 c.heads.length c5,Sl a6 c.books.length c.books.length]]] ?_
 have e1:IntKind.i64.wrap (c.now + 1) = c.now + 1:=IntWalk.i64_in _ (by (have q_:=JdK ‹_›;have q10_:=Je6 (n:=c.now + 1) (e:=c.every) (by omega) (by omega);omega))
 refine JaJ (fr':=[(1,Pt b1 0),(2,Pt b2 0)]) (L':=[[Sg b2 0 [I 0,Sl none 0 0,I 0,I 0,I 0,Sl none 0 0,Sl none 0 0]],[Sg b1 0 [I c.queue.most,Sl a4 c.queue.wait.length c4,I c.batch,I c.every,I (c.now + 1),Sl a5 c.heads.length c5,Sl a6 c.books.length c.books.length]]]) (by rfl) (by simp only [Jal,JaL,e1];first | done | rfl) ?_
 clear e1
 refine Je (Je (Jb ?_))
 refine Jd [0,4,0,4] [(1,Pt b1 0),(2,Pt b2 0),(30,I (c.now + 1)),(32,I c.every)] ?_
 refine Jhk (k:=.i64) (x:=c.now + 1) (y:=c.every) 33 false ((c.now + 1).tmod c.every) (by (have q_:=JdK ‹_›;have q10_:=Je6 (n:=c.now + 1) (e:=c.every) (by omega) (by omega);omega)) rfl ?_
 refine Jd [0] [(1,Pt b1 0),(2,Pt b2 0),(34,Bo (!decide ((c.now + 1).tmod c.every = 0)))] (Jc (Ja ?_))
 refine Jo (!decide ((c.now + 1).tmod c.every = 0)) (fun h3=>?_) (fun h3=>?_)
 try simp only [BB] at h3
 refine JcA [4,3,0,0] [(2,Pt b2 0),(3,Bo false),(4,I 0)] [[Sg b2 0 [I c.queue.most,Sl a4 c.queue.wait.length c4,I c.batch,I c.every,I (c.now + 1),Sl a5 c.heads.length c5,Sl a6 c.books.length c.books.length]],[Sg b1 0 [I c.queue.most,Sl a4 c.queue.wait.length c4,I c.batch,I c.every,I (c.now + 1),Sl a5 c.heads.length c5,Sl a6 c.books.length c.books.length]]] ?_
 refine Jk (Jh ?_)
 have hf3:Jad c = ((⟨c.queue,c.batch,c.every,c.now + 1,c.heads,c.books⟩:JaD),false,0):=by
  unfold Jad Jdq;(rw [if_neg (by simp_all)];(rw [if_neg (by simp_all)];(rw [if_pos ‹_›];done)))
 refine Jl [0,0,0] [.agg #[I c.queue.most,Sl a4 c.queue.wait.length c4,I c.batch,I c.every,I (c.now + 1),Sl a5 c.heads.length c5,Sl a6 c.books.length c.books.length],Bo false,I 0] (JY [] (.cons _ (.cons _ .slnil)) hl1 ?_)
 rw [hf3]
 try dsimp only
 exact ⟨a4,c4,a5,c5,a6,c.books.length,rfl,‹_›,hs4,‹_›,‹_›,(by have q_:=JdK ‹_›;(try dsimp only);omega),hs5,hs6,rfl⟩
 try simp only [BB] at h3
 refine Jn (Ja (Je (Jb ?_)))
 refine Jd [0,4,0,4] [(1,Pt b1 0),(2,Pt b2 0),(38,.agg #[I c.queue.most,Sl a4 c.queue.wait.length c4]),(40,I c.batch)] ?_
 refine JN 41 (JjU G1 [I c.queue.most,Sl a4 c.queue.wait.length c4] c.queue (⟨a4,c4,rfl,‹_›,hs4⟩) c.batch) (fun v G2 L1 hl2 hp=>?_)
 obtain ⟨a7,c6,a8,c7,rfl,w9,hs7,hs8,rfl⟩:=hp
 refine Jd [0,0,0,0] [(1,Pt b1 0),(2,Pt b2 0),(42,.agg #[I (((JG c.queue c.batch).1).most),Sl a7 ((((JG c.queue c.batch).1).wait).length) c6]),(43,Sl a8 (((JG c.queue c.batch).2.1).length) c7),(44,I ((JG c.queue c.batch).2.2))] ?_
 refine Ju 6 #[I 0,Sl none 0 0] 30 (fun b3=>?_)
 refine Jaa [3,0,0] [(1,Pt b1 0),(2,Pt b2 0),(6,Pt b3 0),(7,Sl a8 (((JG c.queue c.batch).2.1).length) c7)] [[Sg b3 0 [I (((JG c.queue c.batch).1).most),Sl a7 ((((JG c.queue c.batch).1).wait).length) c6]],[Sg b2 0 [I 0,Sl none 0 0,I 0,I 0,I 0,Sl none 0 0,Sl none 0 0]],[Sg b1 0 [I c.queue.most,Sl a4 c.queue.wait.length c4,I c.batch,I c.every,I (c.now + 1),Sl a5 c.heads.length c5,Sl a6 c.books.length c.books.length]]] (Jc (Ja (Je (Jb ?_))))
 refine Jd [6] [(1,Pt b1 0),(2,Pt b2 0),(6,Pt b3 0),(7,Sl a8 (((JG c.queue c.batch).2.1).length) c7),(45,.agg #[I c.queue.most,Sl a4 c.queue.wait.length c4,I c.batch,I c.every,I (c.now + 1),Sl a5 c.heads.length c5,Sl a6 c.books.length c.books.length])] ?_
 refine JN 46 (JjD G2 [I c.queue.most,Sl a4 c.queue.wait.length c4,I c.batch,I c.every,I (c.now + 1),Sl a5 c.heads.length c5,Sl a6 c.books.length c.books.length] (⟨c.queue,c.batch,c.every,c.now + 1,c.heads,c.books⟩:JaD) (⟨a4,c4,a5,c5,a6,c.books.length,rfl,‹_›,(hs4.mono hl2),‹_›,‹_›,(by have q_:=JdK ‹_›;(try dsimp only);omega),(hs5.mono hl2),(hs6.mono hl2)⟩) (by (have q_:=JdK ‹_›;(try dsimp only);omega)) (by (have q_:=JdK ‹_›;(try dsimp only);omega))) (fun v G3 L1 hl3 hp=>?_)
 obtain ⟨a9,c8,rfl,hs9,rfl⟩:=hp
 refine JN 47 (JdW G3 a9 c8 (Jbt (⟨c.queue,c.batch,c.every,c.now + 1,c.heads,c.books⟩:JaD).books) hs9) (fun v G4 L1 hl4 hp=>?_)
 obtain ⟨a10,c9,r1,rfl,hr1,rfl⟩:=hp
 refine Jd [0] [(1,Pt b1 0),(2,Pt b2 0),(6,Pt b3 0),(7,Sl a8 (((JG c.queue c.batch).2.1).length) c7),(9,Sl a10 ((Jbt (⟨c.queue,c.batch,c.every,c.now + 1,c.heads,c.books⟩:JaD).books).length) c9)] (Jc (Ja (Je ?_)))
 refine Jg [0,0,0] [(1,Pt b1 0),(2,Pt b2 0),(6,Pt b3 0),(9,Sl a10 ((Jbt (⟨c.queue,c.batch,c.every,c.now + 1,c.heads,c.books⟩:JaD).books).length) c9),(48,Sl a8 (((JG c.queue c.batch).2.1).length) c7),(49,I (((JG c.queue c.batch).2.1).length:Int)),(50,I 0)] (Jy ?_)
 have hlm_hs8:((JG c.queue c.batch).2.1).length ≤ 9223372036854775807:=Nat.le_trans (hs8).le (hs8).max
 refine Ja8 (σ:=Nat × Option Addr × Nat × List Seg × List J0 × Jt) (fun q_=>(Jt.le G4 q_.2.2.2.2.2) ∧ (q_.1 ≤ ((JG c.queue c.batch).2.1).length) ∧ (J8 Jbh q_.2.2.2.2.2 q_.2.1 q_.2.2.1 q_.2.2.2.2.1 q_.2.2.2.1) ∧ (q_.2.2.2.2.1 = Jf3 (Jbt c.books) ((JG c.queue c.batch).2.1.take q_.1) ∧ q_.2.2.2.2.1.length ≤ 1000)) (fun q_=>[(1,Pt b1 0),(2,Pt b2 0),(6,Pt b3 0),(9,Sl q_.2.1 q_.2.2.2.2.1.length q_.2.2.1),(48,Sl a8 (((JG c.queue c.batch).2.1).length) c7),(49,I (((JG c.queue c.batch).2.1).length:Int)),(50,I (q_.1:Int))]) (fun q_=>q_.2.2.2.2.2) (fun q_=>[q_.2.2.2.1,[Sg b3 0 [I (((JG c.queue c.batch).1).most),Sl a7 ((((JG c.queue c.batch).1).wait).length) c6]],[Sg b2 0 [I 0,Sl none 0 0,I 0,I 0,I 0,Sl none 0 0,Sl none 0 0]],[Sg b1 0 [I c.queue.most,Sl a4 c.queue.wait.length c4,I c.batch,I c.every,I (c.now + 1),Sl a5 c.heads.length c5,Sl a6 c.books.length c.books.length]]]) (fun q_=>((JG c.queue c.batch).2.1).length - q_.1) (0,a10,c9,r1,Jbt (⟨c.queue,c.batch,c.every,c.now + 1,c.heads,c.books⟩:JaD).books,G4) ⟨(Jt.le_refl _),(by (try dsimp only);exact Nat.zero_le _),hr1,⟨rfl,by have q_:=JdK ‹_›;(try dsimp only);omega⟩⟩ (fun q_ hs=>?_)
 obtain ⟨i,aw,cw,rw,xw,g⟩:=q_
 obtain ⟨hle,hi,hrw,hxw⟩:=hs
 dsimp only at hle hi hrw hxw
 refine JaJ (fr':=[(1,Pt b1 0),(2,Pt b2 0),(6,Pt b3 0),(9,Sl aw xw.length cw),(48,Sl a8 (((JG c.queue c.batch).2.1).length) c7),(49,I (((JG c.queue c.batch).2.1).length:Int)),(50,I (i:Int))]) (L':=[rw,[Sg b3 0 [I (((JG c.queue c.batch).1).most),Sl a7 ((((JG c.queue c.batch).1).wait).length) c6]],[Sg b2 0 [I 0,Sl none 0 0,I 0,I 0,I 0,Sl none 0 0,Sl none 0 0]],[Sg b1 0 [I c.queue.most,Sl a4 c.queue.wait.length c4,I c.batch,I c.every,I (c.now + 1),Sl a5 c.heads.length c5,Sl a6 c.books.length c.books.length]]]) rfl rfl ?_
 refine Jg [0] [(1,Pt b1 0),(2,Pt b2 0),(6,Pt b3 0),(9,Sl aw xw.length cw),(48,Sl a8 (((JG c.queue c.batch).2.1).length) c7),(49,I (((JG c.queue c.batch).2.1).length:Int)),(50,I (i:Int)),(51,Bo (decide ((i:Int) < (((JG c.queue c.batch).2.1).length:Int))))] (Je ?_)
 refine Jo (decide ((i:Int) < (((JG c.queue c.batch).2.1).length:Int))) (fun h4=>?_) (fun h4=>?_)
 try simp only [BB] at h4
 refine Jn (Ja (Je (Jy (Je (Jb ?_)))))
 obtain ⟨b4,o1,rfl⟩:=RS.addr (hs8.mono (Jt.le_trans (Jt.le_trans hl3 hl4) hle)) (k:=i) (by omega)
 obtain ⟨x1,hx1⟩:=Jb1 (l:=(JG c.queue c.batch).2.1) (k:=i) (by omega)
 obtain ⟨_,⟨rfl,w10,w11,_,_⟩,hc1⟩:=RS.get (hs8.mono (Jt.le_trans (Jt.le_trans hl3 hl4) hle)) hx1
 refine Jac (b:=b4) (off:=o1) (len:=((JG c.queue c.batch).2.1).length) (cap:=c7) (ik:=.i64) 52 83 4 i (by omega) ?_
 refine J6 53 83 (cs:=[Sr x1.name,Sr x1.value,U x1.n,U x1.tag]) 0 (.agg #[Sr x1.name,Sr x1.value,U x1.n,U x1.tag]) hc1 ?_
 refine Ju 11 #[Sr ([]),Sr ([]),U 0,U 0] 83 (fun b5=>?_)
 refine Jaa [3] [(1,Pt b1 0),(2,Pt b2 0),(6,Pt b3 0),(9,Sl aw xw.length cw),(11,Pt b5 0),(48,Sl (At b4 o1) (((JG c.queue c.batch).2.1).length) c7),(49,I (((JG c.queue c.batch).2.1).length:Int)),(50,I (i:Int))] [[Sg b5 0 [Sr x1.name,Sr x1.value,U x1.n,U x1.tag]],rw,[Sg b3 0 [I (((JG c.queue c.batch).1).most),Sl a7 ((((JG c.queue c.batch).1).wait).length) c6]],[Sg b2 0 [I 0,Sl none 0 0,I 0,I 0,I 0,Sl none 0 0,Sl none 0 0]],[Sg b1 0 [I c.queue.most,Sl a4 c.queue.wait.length c4,I c.batch,I c.every,I (c.now + 1),Sl a5 c.heads.length c5,Sl a6 c.books.length c.books.length]]] (Jc (Ja (Jb ?_)))
 refine Jd [0,0,2,0,2] [(1,Pt b1 0),(2,Pt b2 0),(6,Pt b3 0),(9,Sl aw xw.length cw),(48,Sl (At b4 o1) (((JG c.queue c.batch).2.1).length) c7),(49,I (((JG c.queue c.batch).2.1).length:Int)),(50,I (i:Int)),(55,Sl aw xw.length cw),(57,Sr x1.name),(59,Sr x1.value)] ?_
 refine Jer (E:=Jbh) 1 hrw (by (have q0_:=hxw.2;simp only [Jbh];omega)) (fun G5 hl5 hs10=>?_)
 refine JN 60 (Jmc G5 aw cw xw hs10 x1.name w10 x1.value w11) (fun v G6 L1 hl6 hp=>?_)
 obtain ⟨a11,c10,r2,rfl,hr2,rfl⟩:=hp
 refine Jd [0,0,0,0] [(1,Pt b1 0),(2,Pt b2 0),(6,Pt b3 0),(9,Sl a11 (((Ja3 xw x1.name x1.value).1).length) c10),(48,Sl (At b4 o1) (((JG c.queue c.batch).2.1).length) c7),(49,I (((JG c.queue c.batch).2.1).length:Int)),(50,I (i:Int))] (Jc (JK (Ja (Jb ?_))))
 refine Jd [0,0] [(1,Pt b1 0),(2,Pt b2 0),(6,Pt b3 0),(9,Sl a11 (((Ja3 xw x1.name x1.value).1).length) c10),(48,Sl (At b4 o1) (((JG c.queue c.batch).2.1).length) c7),(49,I (((JG c.queue c.batch).2.1).length:Int)),(50,I (IntKind.i64.wrap ((i:Int) + 1)))] ?_
 have e2:IntKind.i64.wrap ((i:Int) + 1) = (i:Int) + 1:=IntWalk.i64_in _ (by omega)
 refine J1 (fr':=[(1,Pt b1 0),(2,Pt b2 0),(6,Pt b3 0),(9,Sl a11 (((Ja3 xw x1.name x1.value).1).length) c10),(48,Sl (At b4 o1) (((JG c.queue c.batch).2.1).length) c7),(49,I (((JG c.queue c.batch).2.1).length:Int)),(50,I ((i:Int) + 1))]) (L':=[r2,[Sg b5 0 [Sr x1.name,Sr x1.value,U x1.n,U x1.tag]],[],[Sg b3 0 [I (((JG c.queue c.batch).1).most),Sl a7 ((((JG c.queue c.batch).1).wait).length) c6]],[Sg b2 0 [I 0,Sl none 0 0,I 0,I 0,I 0,Sl none 0 0,Sl none 0 0]],[Sg b1 0 [I c.queue.most,Sl a4 c.queue.wait.length c4,I c.batch,I c.every,I (c.now + 1),Sl a5 c.heads.length c5,Sl a6 c.books.length c.books.length]]]) (by simp only [Jal,JaL,e2];first | done | rfl) (by rfl) ?_
 clear e2
 refine Jc ?_
 refine Jj 0 ?_
 refine Jj 1 ?_
 refine Jj 2 ?_
 refine JbT [r2,[Sg b3 0 [I (((JG c.queue c.batch).1).most),Sl a7 ((((JG c.queue c.batch).1).wait).length) c6]],[Sg b2 0 [I 0,Sl none 0 0,I 0,I 0,I 0,Sl none 0 0,Sl none 0 0]],[Sg b1 0 [I c.queue.most,Sl a4 c.queue.wait.length c4,I c.batch,I c.every,I (c.now + 1),Sl a5 c.heads.length c5,Sl a6 c.books.length c.books.length]]] (.cons _ (.cons _ (.cons_cons _ (.cons_cons _ (.cons_cons _ (.cons_cons _ .slnil)))))) ?_
 exact Jba (i + 1,a11,c10,r2,(Ja3 xw x1.name x1.value).1,G6) ⟨(Jt.le_trans hle (Jt.le_trans hl5 hl6)),(by omega),hr2,⟨by rw [hxw.1];exact Jms hx1,Nat.le_trans (Jmb _ _ _) (by decide)⟩⟩ (by (try dsimp only);omega)
 try simp only [BB] at h4
 refine JaT (J2 (Jaf (JW (Ja (Je (Jb ?_))))))
 refine Jd [0] [(1,Pt b1 0),(2,Pt b2 0),(6,Pt b3 0),(9,Sl aw xw.length cw),(65,Sl aw xw.length cw)] ?_
 refine Jer (E:=Jbh) 0 hrw (by (have q0_:=hxw.2;simp only [Jbh];omega)) (fun G7 hl7 hs11=>?_)
 refine Ji 66 (.tuple #[U ((JO xw []).1),I ((JO xw []).2)]) (Jf1 G7 aw cw xw hs11) ?_
 refine Jd [0,0,0,0,0] [(1,Pt b1 0),(2,Pt b2 0),(6,Pt b3 0),(9,Sl aw xw.length cw),(12,U ((JO xw []).1))] (Jc (Ja (Je ?_)))
 refine Jau [4,5,7,9] ?_
 refine Jb6 [(0,.agg #[I (((JG c.queue c.batch).1).most),Sl a7 ((((JG c.queue c.batch).1).wait).length) c6]),(1,Pt b1 6),(2,Sl a6 c.books.length c.books.length),(3,Sl aw xw.length cw),(6,Pt b1 0)] ?_
 refine JZ [] [(0,4),(1,0),(2,8),(3,0),(6,0)] [] [4] (List.forall_mem_nil _) (List.forall_mem_cons.2 ⟨?_,List.forall_mem_nil _⟩)
 refine JP 4 [(72,Sl aw xw.length cw)] (fun X=>?_)
 refine JaB 73 1 #[Sl aw xw.length cw] 66 (fun b6=>?_)
 refine JU [(4,Sl (At b6 0) 1 1)] ?_
 refine JZ [3] [(0,6),(1,0),(2,10),(6,0)] [] [5] (List.forall_mem_nil _) (List.forall_mem_cons.2 ⟨?_,List.forall_mem_nil _⟩)
 refine JP 5 [(71,Sl a6 c.books.length c.books.length),(73,Sl (At b6 0) 1 1)] (fun X=>?_)
 refine Jnp (E:=Jbd) (b:=b6) (cs:=[Sl aw xw.length cw]) 74 66 0 xw (hs6.mono (Jt.le_trans (Jt.le_trans (Jt.le_trans (Jt.le_trans hl2 hl3) hl4) hle) hl7)) (⟨aw,cw,rfl,hs11⟩) (by (have q_:=JdK ‹_›;(try simp only [List.length_append,List.length_cons,List.length_nil]);omega)) (by (have q_:=JdK ‹_›;simp only [Jbd,List.length_append,List.length_cons,List.length_nil];omega)) (fun a12 c11 r3 hr3=>?_)
 refine JU [(5,Sl a12 ((c.books ++ [xw]).length) c11)] ?_
 refine JZ [1,2,3] [(0,8),(6,0)] [] [7] (List.forall_mem_nil _) (List.forall_mem_cons.2 ⟨?_,List.forall_mem_nil _⟩)
 refine JP 7 [(69,.agg #[I (((JG c.queue c.batch).1).most),Sl a7 ((((JG c.queue c.batch).1).wait).length) c6]),(75,Pt b1 0)] (fun X=>?_)
 refine JaU 5 [r3,[Sg b6 0 [Sl aw xw.length cw]],[],[Sg b3 0 [I (((JG c.queue c.batch).1).most),Sl a7 ((((JG c.queue c.batch).1).wait).length) c6]],[Sg b2 0 [I 0,Sl none 0 0,I 0,I 0,I 0,Sl none 0 0,Sl none 0 0]],[Sg b1 0 [I (((JG c.queue c.batch).1).most),Sl a7 ((((JG c.queue c.batch).1).wait).length) c6,I c.batch,I c.every,I (c.now + 1),Sl a5 c.heads.length c5,Sl a6 c.books.length c.books.length]]] ?_
 refine Jao [(8,Pt b1 6)] ?_
 refine JZ [0,1,2,3,6] [(8,0)] [] [9] (List.forall_mem_nil _) (List.forall_mem_cons.2 ⟨?_,List.forall_mem_nil _⟩)
 refine JP 9 [(74,Sl a12 ((c.books ++ [xw]).length) c11),(76,Pt b1 6)] (fun X=>?_)
 refine JaU 5 [r3,[Sg b6 0 [Sl aw xw.length cw]],[],[Sg b3 0 [I (((JG c.queue c.batch).1).most),Sl a7 ((((JG c.queue c.batch).1).wait).length) c6]],[Sg b2 0 [I 0,Sl none 0 0,I 0,I 0,I 0,Sl none 0 0,Sl none 0 0]],[Sg b1 0 [I (((JG c.queue c.batch).1).most),Sl a7 ((((JG c.queue c.batch).1).wait).length) c6,I c.batch,I c.every,I (c.now + 1),Sl a5 c.heads.length c5,Sl a12 ((c.books ++ [xw]).length) c11]]] ?_
 refine Jao [] ?_
 refine Jav [0,1,2,3,6,8] [] [] [(1,Pt b1 0),(2,Pt b2 0),(12,U ((JO xw []).1))] (List.forall_mem_nil _) ?_
 refine Ja (Je (Jb ?_))
 refine Jd [0,12,0,0,12] [(1,Pt b1 0),(2,Pt b2 0),(79,Sl a5 c.heads.length c5),(80,U ((JO xw []).1)),(82,I (c.now + 1))] ?_
 refine JN 83 (Jj1 G7 a5 c5 c.heads (hs5.mono (Jt.le_trans (Jt.le_trans (Jt.le_trans (Jt.le_trans hl2 hl3) hl4) hle) hl7)) ((JO xw []).1) (Jel _ _) (c.now + 1) (by have q_:=JdK ‹_›;(try dsimp only);omega)) (fun v G8 L1 hl8 hp=>?_)
 obtain ⟨a13,c12,r4,rfl,hr4,rfl⟩:=hp
 refine Jaa [0,0,0,0,15] [(1,Pt b1 0),(2,Pt b2 0)] [r4,r3,[Sg b6 0 [Sl aw xw.length cw]],[],[Sg b3 0 [I (((JG c.queue c.batch).1).most),Sl a7 ((((JG c.queue c.batch).1).wait).length) c6]],[Sg b2 0 [I 0,Sl none 0 0,I 0,I 0,I 0,Sl none 0 0,Sl none 0 0]],[Sg b1 0 [I (((JG c.queue c.batch).1).most),Sl a7 ((((JG c.queue c.batch).1).wait).length) c6,I c.batch,I c.every,I (c.now + 1),Sl a13 (((Ja6 c.heads ((JO xw []).1) (c.now + 1)).1).length) c12,Sl a12 ((c.books ++ [xw]).length) c11]]] (Jc (Ja ?_))
 refine JcA [14,13,0,0] [(2,Pt b2 0),(3,Bo true),(4,I 0)] [r4,r3,[Sg b6 0 [Sl aw xw.length cw]],[],[Sg b3 0 [I (((JG c.queue c.batch).1).most),Sl a7 ((((JG c.queue c.batch).1).wait).length) c6]],[Sg b2 0 [I (((JG c.queue c.batch).1).most),Sl a7 ((((JG c.queue c.batch).1).wait).length) c6,I c.batch,I c.every,I (c.now + 1),Sl a13 (((Ja6 c.heads ((JO xw []).1) (c.now + 1)).1).length) c12,Sl a12 ((c.books ++ [xw]).length) c11]],[Sg b1 0 [I (((JG c.queue c.batch).1).most),Sl a7 ((((JG c.queue c.batch).1).wait).length) c6,I c.batch,I c.every,I (c.now + 1),Sl a13 (((Ja6 c.heads ((JO xw []).1) (c.now + 1)).1).length) c12,Sl a12 ((c.books ++ [xw]).length) c11]]] ?_
 refine Jk ?_
 refine Jcb (E:=Jaz) 0 hr4 (by (have q_:=Jkb c.heads ((JO xw []).1) (c.now + 1);simp only [Jaz];omega)) (fun G9 hl9 hs12=>?_)
 refine Jcb (E:=Jbd) 1 (hr3.mono (Jt.le_trans hl8 hl9)) (by (have q_:=JdK ‹_›;simp only [Jbd,List.length_append,List.length_cons,List.length_nil];omega)) (fun G10 hl10 hs13=>?_)
 have hf4:Jad c = ((⟨((JG c.queue c.batch).1),c.batch,c.every,c.now + 1,(Ja6 c.heads ((JO xw []).1) (c.now + 1)).1,(c.books ++ [xw])⟩:JaD),true,0):=by
  unfold Jad Jdq;(rw [if_neg (by simp_all)];(rw [if_neg (by simp_all)];(rw [if_neg (by simp_all)];have e_:xw = JeV c:=(by rw [hxw.1,List.take_of_length_le (by omega)];rfl);rw [← e_])))
 refine Jl [5,0,0] [.agg #[I (((JG c.queue c.batch).1).most),Sl a7 ((((JG c.queue c.batch).1).wait).length) c6,I c.batch,I c.every,I (c.now + 1),Sl a13 (((Ja6 c.heads ((JO xw []).1) (c.now + 1)).1).length) c12,Sl a12 ((c.books ++ [xw]).length) c11],Bo true,I 0] (JY [] (.cons _ (.cons _ (.cons _ (.cons _ (.cons _ (.cons _ (.cons _ .slnil))))))) (Jt.le_trans (Jt.le_trans (Jt.le_trans (Jt.le_trans (Jt.le_trans (Jt.le_trans (Jt.le_trans (Jt.le_trans hl1 hl2) hl3) hl4) hle) hl7) hl8) hl9) hl10) ?_)
 rw [hf4]
 try dsimp only
 exact ⟨a7,c6,a13,c12,a12,c11,rfl,w9,(hs7.mono (Jt.le_trans (Jt.le_trans (Jt.le_trans (Jt.le_trans (Jt.le_trans (Jt.le_trans hl3 hl4) hle) hl7) hl8) hl9) hl10)),‹_›,‹_›,(by have q_:=JdK ‹_›;(try dsimp only);omega),(hs12.mono hl10),hs13,rfl⟩
end Go.Proofs.YtnnlpbjdignhaaaGreatDoor
