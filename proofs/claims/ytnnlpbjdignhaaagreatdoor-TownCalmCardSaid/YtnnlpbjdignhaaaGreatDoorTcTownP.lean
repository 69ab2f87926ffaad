import Derived.Test.YtnnlpbjdignhaaaGreatDoorTcCalmN
import Derived.Test.YtnnlpbjdignhaaaGreatDoorTcPollN
import Derived.Test.YtnnlpbjdignhaaaGreatDoorTcNet
namespace Go.Proofs.YtnnlpbjdignhaaaGreatDoor
open Go.Tx
set_option linter.unusedVariables false
set_option linter.unusedSimpArgs false
open Go.Tx Go.Proofs
structure JC where
 town:QU
 reach:Int
 fates:List (List Int)
 events:List Ym
deriving DecidableEq
def Wt (t:JC) (k:Int):Bool:=decide (k ≥ 0) && decide (k<t.town.owners.length)
abbrev QN (t:JC) (kind who n a:Int):JC:=⟨t.town,t.reach,t.fates,t.events++[⟨kind,who,n,a⟩]⟩
def Jje (t:JC):List Int:=if t.fates.length > 0 then t.fates[0]?.getD [] else [1]
def QX (t:JC) (l:JP):JC:=⟨⟨t.town.clerk,t.town.owners,t.town.polls,if (Kj t.town.net l (Jje t)).2=0 then (Kj t.town.net l (Jje t)).1 else t.town.net⟩,t.reach,t.fates.drop 1,t.events⟩
theorem JlJ {t:JC} (h:¬ 0<t.fates.length) (l:JP):QX t l=⟨⟨t.town.clerk,t.town.owners,t.town.polls,if (Kj t.town.net l [1]).2=0 then (Kj t.town.net l [1]).1 else t.town.net⟩,t.reach,t.fates,t.events⟩:=by
 have h0:t.fates=[]:=List.eq_nil_of_length_eq_zero (by omega)
 unfold QX Jje
 rw [h0];rfl
theorem JlK {t:JC} (h:0<t.fates.length) {f:List Int} (hf:t.fates[0]? = some f) (l:JP):QX t l=⟨⟨t.town.clerk,t.town.owners,t.town.polls,if (Kj t.town.net l f).2=0 then (Kj t.town.net l f).1 else t.town.net⟩,t.reach,t.fates.drop 1,t.events⟩:=by
 unfold QX Jje
 rw [if_pos h,hf];rfl
def Jn (t:JC) (k:Int):KP:=t.town.owners[k.toNat]?.getD Y2
def K8 (t:JC) (k:Int):QT:=t.town.polls[k.toNat]?.getD YV
theorem Yb {t:JC} {n:Nat} (h:n<t.town.owners.length):t.town.owners[n]? = some (Jn t (n:Int)):=by unfold Jn;rw [Int.toNat_natCast,List.getElem?_eq_getElem h];rfl
theorem Jej {t:JC} {n:Nat} (h:n<t.town.polls.length):t.town.polls[n]? = some (K8 t (n:Int)):=by unfold K8;rw [Int.toNat_natCast,List.getElem?_eq_getElem h];rfl
def Qp (t:JC) (d:Qd):JC :=
 if Wt t d.who=false then t
 else if ¬ (JE (Jn t d.who) d.value).2.2=0∨ZH (JE (Jn t d.who) d.value).1.key (JE (Jn t d.who) d.value).2.1=false then t
 else if ¬ (Kk t.town.clerk (JE (Jn t d.who) d.value).2.1).2.2=0 then t
 else ⟨⟨(Kk t.town.clerk (JE (Jn t d.who) d.value).2.1).1,t.town.owners.set d.who.toNat (JE (Jn t d.who) d.value).1,t.town.polls,t.town.net⟩,t.reach,t.fates,t.events++[⟨1,d.who,(Jn t d.who).wanted.length,(Kk t.town.clerk (JE (Jn t d.who) d.value).2.1).2.1⟩]⟩
theorem tWant0 {t:JC} {d:Qd} (h:Wt t d.who=false):Qp t d=t:=by unfold Qp;rw [if_pos h]
theorem tWant1 {t:JC} {d:Qd} {k:Int} (hk:d.who=k) (h0:Wt t d.who=true) (h:¬ (JE (Jn t k) d.value).2.2=0):Qp t d=t:=by
 subst hk;unfold Qp;rw [if_neg (by rw [h0];simp),if_pos (.inl h)]
theorem tWant2 {t:JC} {d:Qd} {k:Int} (hk:d.who=k) (h0:Wt t d.who=true) (h:ZH (JE (Jn t k) d.value).1.key (JE (Jn t k) d.value).2.1=false):Qp t d=t:=by
 subst hk;unfold Qp;rw [if_neg (by rw [h0];simp),if_pos (.inr h)]
theorem tWant3 {t:JC} {d:Qd} {k:Int} (hk:d.who=k) (h0:Wt t d.who=true) (h:¬ (Kk t.town.clerk (JE (Jn t k) d.value).2.1).2.2=0):Qp t d=t:=by
 subst hk;unfold Qp;rw [if_neg (by rw [h0];simp)]
 split
 ·
  rfl
 ·
  rfl
theorem tWant4 {t:JC} {d:Qd} {k:Int} {n:Nat} (hk:d.who=k) (hn:k=(n:Int)) (h0:Wt t d.who=true) (h1:(JE (Jn t k) d.value).2.2=0) (h2:ZH (JE (Jn t k) d.value).1.key (JE (Jn t k) d.value).2.1=true) (h3:(Kk t.town.clerk (JE (Jn t k) d.value).2.1).2.2=0) :
  Qp t d=QN ⟨⟨(Kk t.town.clerk (JE (Jn t k) d.value).2.1).1,t.town.owners.set n (JE (Jn t k) d.value).1,t.town.polls,t.town.net⟩,t.reach,t.fates,t.events⟩ 1 k (Jn t k).wanted.length (Kk t.town.clerk (JE (Jn t k) d.value).2.1).2.1:=by
 subst hk;unfold Qp
 rw [if_neg (by rw [h0];simp),if_neg (by rw [h2];simp [h1]),if_neg (by simpa using h3)]
 unfold QN;rw [show d.who.toNat=n by omega]
def WE (t:JC) (l:JP):JC:=⟨⟨t.town.clerk,t.town.owners.set l.to_.toNat (Jx (Jn t l.to_) l.heads l.reply).1,if (Jx (Jn t l.to_) l.heads l.reply).2.1=0∨(Jx (Jn t l.to_) l.heads l.reply).2.1=1 then t.town.polls.set l.to_.toNat (QS (K8 t l.to_) t.town.clerk.now).1 else t.town.polls,t.town.net⟩,t.reach,t.fates,t.events++[⟨2,l.to_,(Jx (Jn t l.to_) l.heads l.reply).2.1,(Jx (Jn t l.to_) l.heads l.reply).1.head.epoch⟩]⟩
def minI (a b:Int):Int:=if b<a then b else a
def maxI (a b:Int):Int:=if b > a then b else a
def WB (t:JC):Int:=(t.town.clerk.heads.length:Int)-1
def Q2 (t:JC) (l:JP):Int:=maxI (minI l.since (WB t)) 0
def ZN (t:JC) (l:JP):Int:=minI (Q2 t l+t.reach-1) (WB t)
def KF (t:JC) (l:JP):JC:=if Wt t l.from_=false then t else QX t ⟨l.from_,0,0,0,(QK t.town.clerk (Q2 t l) (ZN t l)).1,(Kl t.town.clerk (Jn t l.from_).name (ZN t l)).1⟩
def VO (t:JC) (k:Int):JC:=QX ⟨⟨t.town.clerk,t.town.owners,t.town.polls.set k.toNat (Kr (K8 t k) t.town.clerk.now).1,t.town.net⟩,t.reach,t.fates,t.events⟩ ⟨-1,k,(Jn t k).head.epoch+1,0,[],JcJ⟩
def Wv (t:JC) (k:Int):JC :=
 if ¬ (Kr (K8 t k) t.town.clerk.now).2=0 then t
 else if Jai (Kr (K8 t k) t.town.clerk.now).1=true∧Jai (K8 t k)=false then QN (VO t k) 3 k 0 t.town.clerk.now else VO t k
def ZY (t:JC):JC:=⟨⟨(J6 t.town.clerk).1,t.town.owners,t.town.polls,(JX t.town.net).1⟩,t.reach,t.fates,t.events⟩
def Zr (t:JC) (l:JP):JC:=if l.to_<0 then KF t l else WE t l
def WP (t:JC) (l:List JP):JC:=l.foldl Zr t
def JaK (t:JC) (n:Nat):JC:=(List.range n).foldl (fun t (k:Nat)=>Wv t (k:Int)) t
def Q8 (t:JC):JC:=if (J6 t.town.clerk).1.now=t.town.clerk.now then t else JaK (WP (ZY t) (JX t.town.net).2.1) (WP (ZY t) (JX t.town.net).2.1).town.owners.length
def Jhs (l:JP) (k:Int):JP:=⟨k,l.from_,l.since,l.due,l.heads,l.reply⟩
def JeP (t:JC) (d:Qd):JC:=if Wt t d.who=false then t else ⟨⟨t.town.clerk,t.town.owners,t.town.polls,if (Kj t.town.net (Jhs d.letter d.who) [1]).2=0 then (Kj t.town.net (Jhs d.letter d.who) [1]).1 else t.town.net⟩,t.reach,t.fates,t.events⟩
def ZJ (t:JC) (d:Qd):JC:=if d.kind=1 then Qp t d else if d.kind=2 then ⟨t.town,t.reach,t.fates++[d.fates],t.events⟩ else if d.kind=3 then JeP t d else if d.kind=4 then Q8 t else t
structure ZZ (t u:JC) (k:Nat):Prop where
 ev:∃ m,u.events=t.events++m∧m.length≤k
 own:u.town.owners.length=t.town.owners.length
 polls:u.town.polls.length=t.town.polls.length
 reach:u.reach=t.reach
theorem ZZ.refl (t:JC) (k:Nat):ZZ t t k:=⟨⟨[],by simp,by simp⟩,rfl,rfl,rfl⟩
theorem ZZ.trans {t u v:JC} {j k:Nat} (h:ZZ t u j) (h2:ZZ u v k):ZZ t v (j+k):=by
 obtain ⟨m,e,l⟩:=h.ev;obtain ⟨n,e2,l2⟩:=h2.ev
 exact ⟨⟨m++n,by rw [e2,e,List.append_assoc],by simp;omega⟩,h2.own.trans h.own,h2.polls.trans h.polls,h2.reach.trans h.reach⟩
theorem ZZ.mono {t u:JC} {j k:Nat} (h:ZZ t u j) (hk:j≤k):ZZ t u k:=by
 obtain ⟨m,e,l⟩:=h.ev
 exact ⟨⟨m,e,Nat.le_trans l hk⟩,h.own,h.polls,h.reach⟩
theorem ZZ.len {t u:JC} {k:Nat} (h:ZZ t u k):u.events.length≤t.events.length+k∧t.events.length≤u.events.length:=by
 obtain ⟨m,e,l⟩:=h.ev;rw [e];simp;omega
theorem g_send (t:JC) (l:JP):ZZ t (QX t l) 0:=⟨⟨[],by simp [QX],by simp⟩,rfl,rfl,rfl⟩
theorem JlL (t:JC) (d:Qd):ZZ t (Qp t d) 1:=by
 unfold Qp
 split
 ·
  exact ZZ.refl t 1
 split
 ·
  exact ZZ.refl t 1
 split
 ·
  exact ZZ.refl t 1
 ·
  exact ⟨⟨_,rfl,by simp⟩,by simp,rfl,rfl⟩
theorem JlM (t:JC) (l:JP):ZZ t (KF t l) 0:=by
 unfold KF
 split
 ·
  exact ZZ.refl t 0
 ·
  exact g_send t _
theorem g_see (t:JC) (l:JP):ZZ t (WE t l) 1:=by
 refine ⟨⟨_,rfl,by simp⟩,by simp [WE],?_,rfl⟩
 unfold WE;simp only
 split <;> simp
theorem JlN (t:JC) (k:Int):ZZ t (VO t k) 0:=⟨⟨[],by simp [VO,QX],by simp⟩,rfl,by simp [VO,QX],rfl⟩
theorem g_ask (t:JC) (k:Int):ZZ t (Wv t k) 1:=by
 unfold Wv
 split
 ·
  exact ZZ.refl t 1
 split
 ·
  refine (JlN t k).trans (k:=1) ⟨⟨_,rfl,by simp⟩,rfl,rfl,rfl⟩
 ·
  exact (JlN t k).mono (by omega)
theorem Jek (t:JC) (l:JP):ZZ t (Zr t l) 1:=by
 unfold Zr
 split
 ·
  exact (JlM t l).mono (by omega)
 ·
  exact g_see t l
theorem JcL:∀ (l:List JP) (t:JC),ZZ t (WP t l) l.length
 | [],t=>ZZ.refl t 0
 | x::l,t=>by
  have:=(Jek t x).trans (JcL l (Zr t x))
  exact this.mono (by simp;omega)
theorem JeQ (t:JC) (l:List JP) (x:JP):WP t (l++[x])=Zr (WP t l) x:=by simp [WP,List.foldl_append]
theorem Jby {t:JC} {l:List JP} {i:Nat} {x:JP} (h:l[i]? = some x):Zr (WP t (l.take i)) x=WP t (l.take (i+1)):=by
 rw [List.take_add_one,h,← JeQ];rfl
theorem Y4 (t:JC) (n:Nat):Wv (JaK t n) (n:Int)=JaK t (n+1):=by simp [JaK,List.range_succ,List.foldl_append]
theorem Jgh (t:JC):∀ n,ZZ t (JaK t n) n
 | 0=>ZZ.refl t 0
 | n+1=>by rw [← Y4];exact (Jgh t n).trans (g_ask _ _)
theorem Jht (n:Yh):(JX n).2.1.length≤60:=by
 unfold JX
 split
 ·
  simp
 split
 ·
  simp
 ·
  rename_i h1 h2
  have:=QG (Decidable.not_not.1 h1)
  have h3:=List.length_filter_le (fun l:JP=>decide (l.due=n.now+1)) n.way
  simp only;omega
theorem g_tick {t:JC} (h:t.town.owners.length≤4):ZZ t (Q8 t) 64:=by
 unfold Q8
 split
 ·
  exact ZZ.refl t 64
 ·
  have h1:ZZ t (ZY t) 0:=⟨⟨[],by simp [ZY],by simp⟩,rfl,rfl,rfl⟩
  have h2:=h1.trans (JcL (JX t.town.net).2.1 (ZY t))
  have h3:=h2.trans (Jgh (WP (ZY t) (JX t.town.net).2.1) (WP (ZY t) (JX t.town.net).2.1).town.owners.length)
  have h4:=Jht t.town.net
  exact h3.mono (by rw [h2.own];omega)
theorem g_say (t:JC) (d:Qd):ZZ t (JeP t d) 0:=by
 unfold JeP
 split
 ·
  exact ZZ.refl t 0
 ·
  exact ⟨⟨[],by simp,by simp⟩,rfl,rfl,rfl⟩
theorem g_do {t:JC} (h:t.town.owners.length≤4) (d:Qd):ZZ t (ZJ t d) 64:=by
 unfold ZJ
 split
 ·
  exact (JlL t d).mono (by omega)
 split
 ·
  exact ⟨⟨[],by simp,by simp⟩,rfl,rfl,rfl⟩
 split
 ·
  exact (g_say t d).mono (by omega)
 split
 ·
  exact g_tick h
 ·
  exact ZZ.refl t 64
def Wj (t:JC):Prop:=∀ l∈t.town.net.way,l.to_<t.town.owners.length
theorem Jdd {n:Yh} {l x:JP} {f:List Int} (hk:(Kj n l f).2=0) (h:x∈(Kj n l f).1.way):x∈n.way∨x.to_=l.to_:=by
 unfold Kj at hk h
 split at h
 ·
  simp [Ja5] at h
 split at h
 ·
  simp [Ja5] at h
 split at h
 ·
  simp [Ja5] at h
 ·
  simp only [List.mem_append,List.mem_map] at h
  rcases h with h | ⟨k,_,rfl⟩
  ·
   exact .inl h
  ·
   exact .inr rfl
theorem Jde {n:Yh} {x:JP} (h:x∈(JX n).1.way):x∈n.way:=by
 unfold JX at h
 split at h
 ·
  simp [Ja5] at h
 split at h
 ·
  simp [Ja5] at h
 ·
  exact (List.mem_filter.1 h).1
theorem Ja6 {n:Yh} {x:JP} (h:x∈(JX n).2.1):x∈n.way:=by
 unfold JX at h
 split at h
 ·
  simp at h
 split at h
 ·
  simp at h
 ·
  exact (List.mem_filter.1 h).1
theorem JlO {t:JC} {l:JP} (h:Wj t) (hl:l.to_<t.town.owners.length):Wj (QX t l):=by
 intro x hx
 unfold QX at hx ⊢
 simp only at hx ⊢
 split at hx
 ·
  rename_i hk
  rcases Jdd hk hx with h2 | h2
  ·
   exact h x h2
  ·
   omega
 ·
  exact h x hx
theorem Yc {t:JC} {k:Int}:Wt t k=true ↔ 0≤k∧k<t.town.owners.length:=by unfold Wt;simp
theorem w_want {t:JC} (h:Wj t) (d:Qd):Wj (Qp t d):=by
 unfold Qp
 split
 ·
  exact h
 split
 ·
  exact h
 split
 ·
  exact h
 ·
  intro x hx;have:=h x hx;simpa using this
theorem JlP {t:JC} (h:Wj t) (l:JP):Wj (KF t l):=by
 unfold KF
 split
 ·
  exact h
 ·
  rename_i h1
  exact JlO h (Yc.1 (by simpa using h1)).2
theorem w_see {t:JC} (h:Wj t) (l:JP):Wj (WE t l):=by
 intro x hx;have:=h x hx;simpa [WE] using this
theorem JlQ {t:JC} (h:Wj t) (k:Int):Wj (VO t k):=by
 unfold VO
 exact JlO (t:=⟨⟨t.town.clerk,t.town.owners,t.town.polls.set k.toNat (Kr (K8 t k) t.town.clerk.now).1,t.town.net⟩,t.reach,t.fates,t.events⟩) h (by simp only;omega)
theorem w_ask {t:JC} (h:Wj t) (k:Int):Wj (Wv t k):=by
 unfold Wv
 split
 ·
  exact h
 split
 ·
  exact JlQ h k
 ·
  exact JlQ h k
theorem JlR {t:JC} (h:Wj t) (l:JP):Wj (Zr t l):=by
 unfold Zr
 split
 ·
  exact JlP h l
 ·
  exact w_see h l
theorem JcM:∀ (l:List JP) {t:JC},Wj t→Wj (WP t l)
 | [],_,h=>h
 | x::l,t,h=>JcM l (JlR h x)
theorem Jiq {t:JC} (h:Wj t):∀ n,Wj (JaK t n)
 | 0=>h
 | n+1=>by rw [← Y4];exact w_ask (Jiq h n) _
theorem Jjf {t:JC} (h:Wj t):Wj (ZY t):=fun x hx=>h x (Jde hx)
theorem w_tick {t:JC} (h:Wj t):Wj (Q8 t):=by
 unfold Q8
 split
 ·
  exact h
 ·
  exact Jiq (JcM _ (Jjf h)) _
theorem w_say {t:JC} (h:Wj t) (d:Qd):Wj (JeP t d):=by
 unfold JeP
 split
 ·
  exact h
 ·
  rename_i h1
  have h2:=(Yc.1 (by simpa using h1:Wt t d.who=true)).2
  intro x hx
  simp only at hx ⊢
  split at hx
  ·
   rename_i hk
   rcases Jdd hk hx with h3 | h3
   ·
    exact h x h3
   ·
    rw [h3];exact h2
  ·
   exact h x hx
theorem w_do {t:JC} (h:Wj t) (d:Qd):Wj (ZJ t d):=by
 unfold ZJ
 split
 ·
  exact w_want h d
 split
 ·
  exact h
 split
 ·
  exact w_say h d
 split
 ·
  exact w_tick h
 ·
  exact h
def JaL (t:JC) (l:List Qd):JC:=l.foldl ZJ t
theorem Jkm {t:JC} {l:List Qd} {i:Nat} {d:Qd} (h:l[i]? = some d):ZJ (JaL t (l.take i)) d=JaL t (l.take (i+1)):=by
 unfold JaL;rw [List.take_add_one,h];simp [List.foldl_append]
def nmE:List (List UInt8)→List (List UInt8)→Int
 | _,[]=>0
 | p,n::l=>if Kt n=false∨(p.any fun x=>decide (n=x))=true then 3 else nmE (p++[n]) l
def Zs (s:KI) (h:JR):List KP:=(s.names.zip s.keys).map fun x=>(JF x.1 x.2 h).1
def Ql (s:KI):Int:=if ¬ (JN s.most s.batch s.every).2=0 then (JN s.most s.batch s.every).2 else if s.names.length > 4 then 2 else if ¬ s.keys.length=s.names.length then 3 else if ¬ nmE [] s.names=0 then nmE [] s.names else if ¬ (KL s.least s.top s.lost).2=0 then (KL s.least s.top s.lost).2 else if s.reach<1∨s.reach > 40 then 4 else 0
def Qq (s:KI):JC:=⟨⟨(JN s.most s.batch s.every).1,Zs s (QW (JN s.most s.batch s.every).1.heads),List.replicate (Zs s (QW (JN s.most s.batch s.every).1.heads)).length (KL s.least s.top s.lost).1,⟨0,[]⟩⟩,s.reach,[],[]⟩
def Jbz (s:KI) (l:List Qd):Int:=if ¬ Ql s=0 then Ql s else if l.length > 200 then 2 else 0
def Jjg:QU:=⟨Zy,[],[],⟨0,[]⟩⟩
def Kz (s:KI) (l:List Qd):QU×List Ym×Int:=if ¬ Jbz s l=0 then (Jjg,[],Jbz s l) else ((JaL (Qq s) l).town,(JaL (Qq s) l).events,0)
theorem Jbi {s:KI} (h:Ql s=0):s.names.length≤4∧s.keys.length=s.names.length∧nmE [] s.names=0∧(JN s.most s.batch s.every).2=0∧(KL s.least s.top s.lost).2=0∧1≤s.reach∧s.reach≤40:=by
 unfold Ql at h
 split at h
 ·
  contradiction
 split at h
 ·
  cases h
 split at h
 ·
  cases h
 split at h
 ·
  contradiction
 split at h
 ·
  contradiction
 split at h
 ·
  cases h
 ·
  rename_i h1 h2 h3 h4 h5 h6
  exact ⟨by omega,Decidable.not_not.1 h3,Decidable.not_not.1 h4,Decidable.not_not.1 h1,Decidable.not_not.1 h5,by omega,by omega⟩
theorem Jcd {s:KI} (h:Ql s=0) (x:JR):(Zs s x).length=s.names.length:=by
 have:=Jbi h
 unfold Zs;rw [List.length_map,List.length_zip];omega
theorem JmF {s:KI} {l:List Qd} (h:(Kz s l).2.2=0):Ql s=0∧l.length≤200∧Kz s l=((JaL (Qq s) l).town,(JaL (Qq s) l).events,0):=by
 unfold Kz at h ⊢
 split at h
 ·
  contradiction
 ·
  rename_i h1
  rw [if_neg h1]
  have h2:=Decidable.not_not.1 h1
  unfold Jbz at h2
  split at h2
  ·
   contradiction
  split at h2
  ·
   cases h2
  ·
   rename_i a b;exact ⟨Decidable.not_not.1 a,by omega,rfl⟩
theorem JlS {s:KI} {l:List Qd} (h:¬ (Kz s l).2.2=0):Kz s l=(Jjg,[],Jbz s l):=by
 unfold Kz at h ⊢
 split
 ·
  rfl
 ·
  rename_i h1;rw [if_neg h1] at h;exact absurd rfl h
structure Zz (s:KI) (t:JC):Prop where
 clerk:Wb t.town.clerk
 net:K5 t.town.net=0
 now:t.town.net.now=t.town.clerk.now
 own:∀ (i:Nat) o,t.town.owners[i]? = some o→J5 o=0∧s.names[i]? = some o.name∧s.keys[i]? = some o.key
 poll:∀ (i:Nat) p,t.town.polls[i]? = some p→Km p=0
theorem Jjh {n:Yh} (h:K5 n=0):∀ l∈n.way,n.now<l.due:=by
 unfold K5 at h
 split at h
 ·
  cases h
 split at h
 ·
  cases h
 split at h
 ·
  cases h
 ·
  rename_i h3
  intro l hl
  have:¬ Jdm l n=true:=fun e=>h3 (List.any_eq_true.2 ⟨l,hl,e⟩)
  unfold Jdm at this
  simp at this;omega
theorem Jir {n:Yh} (h1:0≤n.now) (h2:n.now≤1000000000) (h3:n.way.length≤60) (h4:∀ l∈n.way,n.now<l.due):K5 n=0:=by
 unfold K5
 rw [if_neg (by omega),if_neg (by omega),if_neg]
 rw [List.any_eq_true]
 rintro ⟨l,hl,e⟩
 have:=h4 l hl
 unfold Jdm at e
 simp at e;omega
theorem Y6 {n:Yh} {l:JP} {f:List Int} (h:(Kj n l f).2=0):K5 (Kj n l f).1=0∧(Kj n l f).1.now=n.now:=by
 unfold Kj at h ⊢
 split at h
 ·
  contradiction
 split at h
 ·
  cases h
 split at h
 ·
  cases h
 ·
  rename_i h1 h2 h3
  rw [if_neg h1,if_neg h2,if_neg h3]
  have hc:=QG (Decidable.not_not.1 h1)
  have ha:=Jjh (Decidable.not_not.1 h1)
  refine ⟨Jir (by simp only;omega) (by simp only;omega) (by simp only [List.length_append,List.length_map];omega) (fun x hx=>?_),rfl⟩
  simp only [List.mem_append,List.mem_map] at hx
  rcases hx with hx | ⟨k,hk,rfl⟩
  ·
   exact ha x hx
  ·
   have:¬ YS k=true:=fun e=>h2 (List.any_eq_true.2 ⟨k,hk,e⟩)
   unfold YS at this
   simp at this
   show n.now<n.now+k
   omega
theorem JbA {n:Yh} (h:K5 n=0) (hn:¬ n.now=1000000000):K5 (JX n).1=0∧(JX n).1.now=n.now+1:=by
 have hc:=QG h
 have ha:=Jjh h
 unfold JX
 rw [if_neg (by omega),if_neg hn]
 refine ⟨Jir (by simp only;omega) (by simp only;omega) ?_ (fun x hx=>?_),rfl⟩
 ·
  have:=List.length_filter_le (fun l:JP=>!decide (l.due=n.now+1)) n.way
  simp only;omega
 ·
  have hx':=List.mem_filter.1 hx
  have h1:=ha x hx'.1
  have h2:¬ x.due=n.now+1:=by simpa using hx'.2
  simp only;omega
theorem V1 {α:Type} {l:List α} {k i:Nat} {v x:α} (h:(l.set k v)[i]? = some x):(k=i∧x=v∧k<l.length)∨(k ≠ i∧l[i]? = some x):=by
 by_cases e:k=i
 ·
  subst e
  have hl:=(List.getElem?_eq_some_iff.1 h).1
  rw [List.length_set] at hl
  rw [List.getElem?_set_self hl] at h
  exact .inl ⟨rfl,(Option.some.inj h).symm,hl⟩
 ·
  rw [List.getElem?_set_ne e] at h;exact .inr ⟨e,h⟩
theorem Yd {t:JC} {k:Int} (h:k.toNat<t.town.owners.length):t.town.owners[k.toNat]? = some (Jn t k):=by unfold Jn;rw [List.getElem?_eq_getElem h];rfl
theorem Jis {t:JC} {k:Int} (h:k.toNat<t.town.polls.length):t.town.polls[k.toNat]? = some (K8 t k):=by unfold K8;rw [List.getElem?_eq_getElem h];rfl
theorem JlT {s:KI} {t:JC} (h:Zz s t) (l:JP):Zz s (QX t l):=by
 refine ⟨h.clerk,?_,?_,h.own,h.poll⟩ <;> (unfold QX;simp only;split)
 ·
  rename_i hk;exact (Y6 hk).1
 ·
  exact h.net
 ·
  rename_i hk;rw [(Y6 hk).2];exact h.now
 ·
  exact h.now
theorem i_want {s:KI} {t:JC} (h:Zz s t) (d:Qd):Zz s (Qp t d):=by
 unfold Qp
 split
 ·
  exact h
 rename_i h0
 split
 ·
  exact h
 split
 ·
  exact h
 ·
  rename_i h1 h2
  simp only [not_or,Bool.not_eq_false] at h1
  have hw:=Decidable.not_not.1 h1.1
  have ha:=Decidable.not_not.1 h2
  have hd:=Yc.1 (by simpa using h0:Wt t d.who=true)
  obtain ⟨w1,w2,w3,w4,w5⟩:=Vo hw
  have hnow:(Kk t.town.clerk (JE (Jn t d.who) d.value).2.1).1.now=t.town.clerk.now:=by rw [(Vd ha).2.2.2.2]
  refine ⟨YQ ha,h.net,by simp only;rw [hnow];exact h.now,fun i o ho=>?_,h.poll⟩
  rcases V1 ho with ⟨rfl,rfl,_⟩ | ⟨_,ho⟩
  ·
   obtain ⟨q1,q2,q3⟩:=h.own _ _ (Yd (k:=d.who) (by omega))
   refine ⟨w5.1,?_,?_⟩ <;> rw [w4]
   ·
    exact q2
   ·
    exact q3
  ·
   exact h.own i o ho
theorem Jfp {o:KP} {l:List JR} {r:WC} (h:J5 o=0):J5 (Jx o l r).1=0∧(Jx o l r).1.name=o.name∧(Jx o l r).1.key=o.key∧(Jx o l r).1.wanted=o.wanted:=by
 by_cases hv:(JH o l r).1=0
 ·
  have e:Jx o l r=(⟨o.name,o.key,r.head,o.wanted,(JH o l r).2⟩,0,0):=by unfold Jx;rw [if_neg (by omega),if_pos hv]
  have h1:(Jx o l r).2.2=0:=by rw [e]
  have h2:(Jx o l r).2.1=0:=by rw [e]
  exact ⟨(Jd7 h1 h2).2.2.2.2.1,by rw [e],by rw [e],by rw [e]⟩
 ·
  have e:Jx o l r=(o,(JH o l r).1,0):=by unfold Jx;rw [if_neg (by omega),if_neg hv]
  rw [e];exact ⟨h,rfl,rfl,rfl⟩
theorem Jdf {p:QT} {now:Int} (h:Km p=0) (h1:0≤now) (h2:now≤1000000000):Km (QS p now).1=0:=by
 have hp:=(W8 p).1 h
 have ha:Ku p now=0:=(JbN p now).2 ⟨hp,h1,h2⟩
 unfold QS
 rw [if_neg (by omega)]
 simp only
 rw [W8]
 unfold YA at hp ⊢
 unfold K1
 simp only
 (repeat' split) <;> omega
theorem i_see {s:KI} {t:JC} (h:Zz s t) {l:JP} (h0:0≤l.to_) (h1:l.to_<t.town.owners.length):Zz s (WE t l):=by
 refine ⟨h.clerk,h.net,h.now,fun i o ho=>?_,fun i p hp=>?_⟩
 ·
  rcases V1 ho with ⟨rfl,rfl,_⟩ | ⟨_,ho⟩
  ·
   obtain ⟨q1,q2,q3⟩:=h.own _ _ (Yd (k:=l.to_) (by omega))
   obtain ⟨k1,k2,k3,_⟩:=Jfp (l:=l.heads) (r:=l.reply) q1
   exact ⟨k1,by rw [k2];exact q2,by rw [k3];exact q3⟩
  ·
   exact h.own i o ho
 ·
  unfold WE at hp
  simp only at hp
  split at hp
  ·
   rcases V1 hp with ⟨rfl,rfl,hl⟩ | ⟨_,hp⟩
   ·
    exact Jdf (h.poll _ _ (Jis hl)) h.clerk.now.1 h.clerk.now.2
   ·
    exact h.poll i p hp
  ·
   exact h.poll i p hp
theorem JlU {s:KI} {t:JC} (h:Zz s t) (l:JP):Zz s (KF t l):=by
 unfold KF
 split
 ·
  exact h
 ·
  exact JlT h _
theorem JlV {s:KI} {t:JC} (h:Zz s t) {l:JP} (h1:l.to_<t.town.owners.length):Zz s (Zr t l):=by
 unfold Zr
 split
 ·
  exact JlU h l
 ·
  exact i_see h (by omega) h1
theorem JcN {s:KI}:∀ (l:List JP) {t:JC},Zz s t→(∀ x∈l,x.to_<t.town.owners.length)→Zz s (WP t l)
 | [],_,h,_=>h
 | x::l,t,h,hl=>JcN l (JlV h (hl x (by simp))) (fun y hy=>by rw [(Jek t x).own];exact hl y (by simp [hy]))
theorem i_sent {s:KI} {t:JC} (h:Zz s t) {k:Int} (hk:(Kr (K8 t k) t.town.clerk.now).2=0):Zz s (VO t k):=by
 unfold VO
 refine JlT (t:=⟨⟨t.town.clerk,t.town.owners,t.town.polls.set k.toNat (Kr (K8 t k) t.town.clerk.now).1,t.town.net⟩,t.reach,t.fates,t.events⟩) ⟨h.clerk,h.net,h.now,h.own,fun i p hp=>?_⟩ _
 rcases V1 hp with ⟨rfl,rfl,_⟩ | ⟨_,hp⟩
 ·
  have:=Jc9 hk;omega
 ·
  exact h.poll i p hp
theorem i_ask {s:KI} {t:JC} (h:Zz s t) (k:Int):Zz s (Wv t k):=by
 unfold Wv
 split
 ·
  exact h
 rename_i h1
 have h2:=i_sent h (Decidable.not_not.1 h1)
 split
 ·
  exact ⟨h2.clerk,h2.net,h2.now,h2.own,h2.poll⟩
 ·
  exact h2
theorem Jit {s:KI} {t:JC} (h:Zz s t):∀ n,Zz s (JaK t n)
 | 0=>h
 | n+1=>by rw [← Y4];exact i_ask (Jit h n) _
theorem i_tick {s:KI} {t:JC} (h:Zz s t) (hw:Wj t):Zz s (Q8 t):=by
 unfold Q8
 split
 ·
  exact h
 ·
  rename_i h1
  obtain ⟨t0,tk⟩:=YR h.clerk
  have hn:WN t.town.clerk=false∧(J6 t.town.clerk).1.now=t.town.clerk.now+1:=by
   rcases Jbt h.clerk with q | q
   ·
    exact absurd q.1 h1
   ·
    exact q
  have hne:¬ t.town.net.now=1000000000:=by
   rw [h.now]
   have:=hn.1;unfold WN at this
   simp only [Bool.or_eq_false_iff,decide_eq_false_iff_not] at this
   exact this.2
  obtain ⟨n1,n2⟩:=JbA h.net hne
  have hT:Zz s (ZY t):=⟨tk.ok,n1,by show (JX t.town.net).1.now=(J6 t.town.clerk).1.now;rw [n2,hn.2,h.now],h.own,h.poll⟩
  exact Jit (JcN _ hT (fun x hx=>hw x (Ja6 hx))) _
theorem i_do {s:KI} {t:JC} (h:Zz s t) (hw:Wj t) (d:Qd):Zz s (ZJ t d):=by
 unfold ZJ
 split
 ·
  exact i_want h d
 split
 ·
  exact ⟨h.clerk,h.net,h.now,h.own,h.poll⟩
 split
 ·
  unfold JeP
  split
  ·
   exact h
  ·
   refine ⟨h.clerk,?_,?_,h.own,h.poll⟩ <;> (simp only;split)
   ·
    rename_i hk;exact (Y6 hk).1
   ·
    exact h.net
   ·
    rename_i hk;rw [(Y6 hk).2];exact h.now
   ·
    exact h.now
 split
 ·
  exact i_tick h hw
 ·
  exact h
theorem VP {m b e:Int} (h:(JN m b e).2=0):Wb (JN m b e).1∧(JN m b e).1.now=0∧(JN m b e).1.books=[[]]∧(JN m b e).1.queue.wait=[]∧(JN m b e).1.heads.length=1:=by
 unfold JN at h ⊢
 split at h
 ·
  cases h
 ·
  rename_i h1
  rw [if_neg h1]
  simp only [not_or,Bool.not_eq_false] at h1
  obtain ⟨a1,a2,a3⟩:=h1
  have b1:=Y3.1 a1;have b2:=Y3.1 a2;have b3:=Y3.1 a3
  have hT:QP []:=⟨by simp,by simp,by simp⟩
  have hroot:=YZ (q:=[]) hT (by simp) (by simp)
  have hb:=VZ (J0 [] []) []
  have hc:JD ⟨0,(JO [] []).1,0,0⟩=0:=by
   rw [hroot];unfold JD;simp only
   rw [if_neg (by omega),if_neg (by simp)]
  have hf:KU (JO [] []).1 0=(⟨0,(JO [] []).1,0,0⟩,0):=by unfold KU;rw [if_neg (by omega)]
  rw [hf]
  refine ⟨⟨K4.2 ⟨by simp only;omega,by simp only;omega,by simp;omega,by simp⟩,b2,b3,⟨by simp,by simp⟩,⟨by simp,by simp,?_,?_⟩,rfl,rfl,by simp [WA],?_,?_⟩,rfl,rfl,rfl,rfl⟩
  ·
   intro x hx;simp at hx;rw [hx];exact hc
  ·
   intro k x y hx hy;have:=(List.getElem?_eq_some_iff.1 hy).1;simp at this
  ·
   intro k x hx
   have hk:k=0:=by have:=(List.getElem?_eq_some_iff.1 hx).1;simp at this;exact this
   subst hk
   simp at hx
   subst hx
   exact ⟨by rw [hroot],by simp⟩
  ·
   simp [Vq,Qx,KM,Qi,nn,dd]
theorem Jgi:∀ (l p:List (List UInt8)),nmE p l=0→(∀ n∈l,Kt n=true)∧l.Nodup∧∀ n∈l,n ∉ p
 | [],_,_=>by simp
 | n::l,p,h=>by
  unfold nmE at h
  split at h
  ·
   cases h
  ·
   rename_i h1
   simp only [not_or,Bool.not_eq_false] at h1
   obtain ⟨q1,q2,q3⟩:=Jgi l (p++[n]) h
   have hn:n ∉ p:=fun hp=>h1.2 (List.any_eq_true.2 ⟨n,hp,by simp⟩)
   refine ⟨fun x hx=>?_,List.nodup_cons.2 ⟨fun hx=>(q3 n hx) (by simp),q2⟩,fun x hx=>?_⟩
   ·
    rcases List.mem_cons.1 hx with rfl | hx
    ·
     exact h1.1
    ·
     exact q1 x hx
   ·
    rcases List.mem_cons.1 hx with rfl | hx
    ·
     exact hn
    ·
     exact fun hp=>q3 x hx (by simp [hp])
theorem Vt {s:KI} {h:JR} {i:Nat} {o:KP} (hh:JD h=0) (hn:nmE [] s.names=0) (ho:(Zs s h)[i]? = some o):J5 o=0∧s.names[i]? = some o.name∧s.keys[i]? = some o.key∧o.head=h∧o.wanted=[]∧o.had=0:=by
 unfold Zs at ho
 rw [List.getElem?_map,Option.map_eq_some_iff] at ho
 obtain ⟨⟨n,k⟩,hz,rfl⟩:=ho
 rw [List.getElem?_zip_eq_some] at hz
 obtain ⟨z1,z2⟩:=hz
 have hp:=(Jgi _ _ hn).1 n (List.mem_of_getElem? z1)
 have hc:J5 ⟨n,k,h,[],0⟩=0:=KZ.2 ⟨hp,hh,by simp,by simp,by simp,by simp⟩
 have e:JF n k h=(⟨n,k,h,[],0⟩,0):=by unfold JF;rw [if_neg (by omega)]
 simp only [e]
 exact ⟨hc,z1,z2,by simp⟩
theorem Jdg {s:KI} (h:Ql s=0):Zz s (Qq s)∧Wj (Qq s)∧(Qq s).town.owners.length=s.names.length∧(Qq s).town.polls.length=s.names.length:=by
 obtain ⟨b1,b2,b3,b4,b5,b6,b7⟩:=Jbi h
 obtain ⟨c1,c2,c3,c4,c5⟩:=VP b4
 have hf:JD (QW (JN s.most s.batch s.every).1.heads)=0:=c1.chain.ok _ (List.mem_of_getElem? c1.chain.first)
 refine ⟨⟨c1,?_,?_,?_,?_⟩,?_,Jcd h _,?_⟩
 ·
  show K5 ⟨0,[]⟩=0;exact Jir (by simp) (by simp) (by simp) (by simp)
 ·
  show (0:Int)=(JN s.most s.batch s.every).1.now;exact c2.symm
 ·
  intro i o ho
  obtain ⟨q1,q2,q3,_⟩:=Vt hf b3 ho
  exact ⟨q1,q2,q3⟩
 ·
  intro i p hp
  have:=List.mem_of_getElem? hp
  have:=(List.mem_replicate.1 this).2
  rw [this]
  obtain ⟨q1,q2⟩:=Jei b5
  rw [q2];exact JaD q1
 ·
  intro l hl;simp [Qq] at hl
 ·
  show (List.replicate _ _).length=_;rw [List.length_replicate];exact Jcd h _
abbrev JT (x:JC) (a0:Option Addr) (c0:Nat) (a1:Option Addr) (c1:Nat) (a2:Option Addr) (c2:Nat) (a3:Option Addr) (c3:Nat) (a4:Option Addr) (c4:Nat) (a5:Option Addr) (c5:Nat) (a6:Option Addr) (c6:Nat) (a7:Option Addr) (c7:Nat):List Value:=[I x.town.clerk.queue.most,Sl a0 x.town.clerk.queue.wait.length c0,I x.town.clerk.batch,I x.town.clerk.every,I x.town.clerk.now,Sl a1 x.town.clerk.heads.length c1,Sl a2 x.town.clerk.books.length c2,Sl a3 x.town.owners.length c3,Sl a4 x.town.polls.length c4,I x.town.net.now,Sl a5 x.town.net.way.length c5,I x.reach,Sl a6 x.fates.length c6,Sl a7 x.events.length c7]
abbrev vTownT (x:JC) (a0:Option Addr) (c0:Nat) (a1:Option Addr) (c1:Nat) (a2:Option Addr) (c2:Nat) (a3:Option Addr) (c3:Nat) (a4:Option Addr) (c4:Nat) (a5:Option Addr) (c5:Nat) (a6:Option Addr) (c6:Nat) (a7:Option Addr) (c7:Nat):Value:=.agg #[I x.town.clerk.queue.most,Sl a0 x.town.clerk.queue.wait.length c0,I x.town.clerk.batch,I x.town.clerk.every,I x.town.clerk.now,Sl a1 x.town.clerk.heads.length c1,Sl a2 x.town.clerk.books.length c2,Sl a3 x.town.owners.length c3,Sl a4 x.town.polls.length c4,I x.town.net.now,Sl a5 x.town.net.way.length c5,I x.reach,Sl a6 x.fates.length c6,Sl a7 x.events.length c7]
end Go.Proofs.YtnnlpbjdignhaaaGreatDoor
