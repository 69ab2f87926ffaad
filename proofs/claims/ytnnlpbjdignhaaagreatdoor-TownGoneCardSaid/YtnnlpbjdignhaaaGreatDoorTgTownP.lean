import Derived.Test.YtnnlpbjdignhaaaGreatDoorTgCalmN
import Derived.Test.YtnnlpbjdignhaaaGreatDoorTgPollN
import Derived.Test.YtnnlpbjdignhaaaGreatDoorTgNet
namespace Go.Proofs.YtnnlpbjdignhaaaGreatDoor
open Go.Tx
set_option linter.unusedVariables false
set_option linter.unusedSimpArgs false
open Go.Tx Go.Proofs
structure JA where
 town:QU
 reach:Int
 fates:List (List Int)
 events:List Yr
deriving DecidableEq
def Wv (t:JA) (k:Int):Bool:=decide (k ≥ 0) && decide (k<t.town.owners.length)
abbrev QP (t:JA) (kind who n a:Int):JA:=⟨t.town,t.reach,t.fates,t.events++[⟨kind,who,n,a⟩]⟩
def Jjm (t:JA):List Int:=if t.fates.length > 0 then t.fates[0]?.getD [] else [1]
def QW (t:JA) (l:JI):JA:=⟨⟨t.town.clerk,t.town.owners,t.town.polls,if (Kh t.town.net l (Jjm t)).2=0 then (Kh t.town.net l (Jjm t)).1 else t.town.net⟩,t.reach,t.fates.drop 1,t.events⟩
theorem Jiy {t:JA} (h:¬ 0<t.fates.length) (l:JI):QW t l=⟨⟨t.town.clerk,t.town.owners,t.town.polls,if (Kh t.town.net l [1]).2=0 then (Kh t.town.net l [1]).1 else t.town.net⟩,t.reach,t.fates,t.events⟩:=by
 have h0:t.fates=[]:=List.eq_nil_of_length_eq_zero (by omega)
 unfold QW Jjm
 rw [h0];rfl
theorem JlR {t:JA} (h:0<t.fates.length) {f:List Int} (hf:t.fates[0]? = some f) (l:JI):QW t l=⟨⟨t.town.clerk,t.town.owners,t.town.polls,if (Kh t.town.net l f).2=0 then (Kh t.town.net l f).1 else t.town.net⟩,t.reach,t.fates.drop 1,t.events⟩:=by
 unfold QW Jjm
 rw [if_pos h,hf];rfl
def Jm (t:JA) (k:Int):KO:=t.town.owners[k.toNat]?.getD Y8
def KR (t:JA) (k:Int):QF:=t.town.polls[k.toNat]?.getD Y1
theorem Yh {t:JA} {n:Nat} (h:n<t.town.owners.length):t.town.owners[n]? = some (Jm t (n:Int)):=by unfold Jm;rw [Int.toNat_natCast,List.getElem?_eq_getElem h];rfl
theorem Jes {t:JA} {n:Nat} (h:n<t.town.polls.length):t.town.polls[n]? = some (KR t (n:Int)):=by unfold KR;rw [Int.toNat_natCast,List.getElem?_eq_getElem h];rfl
def Qo (t:JA) (d:Qb):JA :=
 if Wv t d.who=false then t
 else if ¬ (JD (Jm t d.who) d.value).2.2=0∨ZK (JD (Jm t d.who) d.value).1.key (JD (Jm t d.who) d.value).2.1=false then t
 else if ¬ (Kk t.town.clerk (JD (Jm t d.who) d.value).2.1).2.2=0 then t
 else ⟨⟨(Kk t.town.clerk (JD (Jm t d.who) d.value).2.1).1,t.town.owners.set d.who.toNat (JD (Jm t d.who) d.value).1,t.town.polls,t.town.net⟩,t.reach,t.fates,t.events++[⟨1,d.who,(Jm t d.who).wanted.length,(Kk t.town.clerk (JD (Jm t d.who) d.value).2.1).2.1⟩]⟩
theorem tWant0 {t:JA} {d:Qb} (h:Wv t d.who=false):Qo t d=t:=by unfold Qo;rw [if_pos h]
theorem tWant1 {t:JA} {d:Qb} {k:Int} (hk:d.who=k) (h0:Wv t d.who=true) (h:¬ (JD (Jm t k) d.value).2.2=0):Qo t d=t:=by
 subst hk;unfold Qo;rw [if_neg (by rw [h0];simp),if_pos (.inl h)]
theorem tWant2 {t:JA} {d:Qb} {k:Int} (hk:d.who=k) (h0:Wv t d.who=true) (h:ZK (JD (Jm t k) d.value).1.key (JD (Jm t k) d.value).2.1=false):Qo t d=t:=by
 subst hk;unfold Qo;rw [if_neg (by rw [h0];simp),if_pos (.inr h)]
theorem tWant3 {t:JA} {d:Qb} {k:Int} (hk:d.who=k) (h0:Wv t d.who=true) (h:¬ (Kk t.town.clerk (JD (Jm t k) d.value).2.1).2.2=0):Qo t d=t:=by
 subst hk;unfold Qo;rw [if_neg (by rw [h0];simp)]
 split
 ·
  rfl
 ·
  rfl
theorem tWant4 {t:JA} {d:Qb} {k:Int} {n:Nat} (hk:d.who=k) (hn:k=(n:Int)) (h0:Wv t d.who=true) (h1:(JD (Jm t k) d.value).2.2=0) (h2:ZK (JD (Jm t k) d.value).1.key (JD (Jm t k) d.value).2.1=true) (h3:(Kk t.town.clerk (JD (Jm t k) d.value).2.1).2.2=0) :
  Qo t d=QP ⟨⟨(Kk t.town.clerk (JD (Jm t k) d.value).2.1).1,t.town.owners.set n (JD (Jm t k) d.value).1,t.town.polls,t.town.net⟩,t.reach,t.fates,t.events⟩ 1 k (Jm t k).wanted.length (Kk t.town.clerk (JD (Jm t k) d.value).2.1).2.1:=by
 subst hk;unfold Qo
 rw [if_neg (by rw [h0];simp),if_neg (by rw [h2];simp [h1]),if_neg (by simpa using h3)]
 unfold QP;rw [show d.who.toNat=n by omega]
def Wx (t:JA) (l:JI):JA:=⟨⟨t.town.clerk,t.town.owners.set l.to_.toNat (Jx (Jm t l.to_) l.heads l.reply).1,if (Jx (Jm t l.to_) l.heads l.reply).2.1=0∨(Jx (Jm t l.to_) l.heads l.reply).2.1=1 then t.town.polls.set l.to_.toNat (Qn (KR t l.to_) t.town.clerk.now).1 else t.town.polls,t.town.net⟩,t.reach,t.fates,t.events++[⟨2,l.to_,(Jx (Jm t l.to_) l.heads l.reply).2.1,(Jx (Jm t l.to_) l.heads l.reply).1.head.epoch⟩]⟩
def minI (a b:Int):Int:=if b<a then b else a
def maxI (a b:Int):Int:=if b > a then b else a
def WD (t:JA):Int:=(t.town.clerk.heads.length:Int)-1
def Q0 (t:JA) (l:JI):Int:=maxI (minI l.since (WD t)) 0
def ZA (t:JA) (l:JI):Int:=minI (Q0 t l+t.reach-1) (WD t)
def KC (t:JA) (l:JI):JA:=if Wv t l.from_=false then t else QW t ⟨l.from_,0,0,0,(QH t.town.clerk (Q0 t l) (ZA t l)).1,(Kl t.town.clerk (Jm t l.from_).name (ZA t l)).1⟩
def Vn (t:JA) (k:Int):JA:=QW ⟨⟨t.town.clerk,t.town.owners,t.town.polls.set k.toNat (Kn (KR t k) t.town.clerk.now).1,t.town.net⟩,t.reach,t.fates,t.events⟩ ⟨-1,k,(Jm t k).head.epoch+1,0,[],JbT⟩
def Wo (t:JA) (k:Int):JA :=
 if ¬ (Kn (KR t k) t.town.clerk.now).2=0 then t
 else if Vh (Kn (KR t k) t.town.clerk.now).1=true∧Vh (KR t k)=false then QP (Vn t k) 3 k 0 t.town.clerk.now else Vn t k
def ZM (t:JA):JA:=⟨⟨(J1 t.town.clerk).1,t.town.owners,t.town.polls,(JR t.town.net).1⟩,t.reach,t.fates,t.events⟩
def W9 (t:JA) (l:JI):JA:=if l.to_<0 then KC t l else Wx t l
def WL (t:JA) (l:List JI):JA:=l.foldl W9 t
def Jaq (t:JA) (n:Nat):JA:=(List.range n).foldl (fun t (k:Nat)=>Wo t (k:Int)) t
def Q6 (t:JA):JA:=if (J1 t.town.clerk).1.now=t.town.clerk.now then t else Jaq (WL (ZM t) (JR t.town.net).2.1) (WL (ZM t) (JR t.town.net).2.1).town.owners.length
def JhB (l:JI) (k:Int):JI:=⟨k,l.from_,l.since,l.due,l.heads,l.reply⟩
def JeY (t:JA) (d:Qb):JA:=if Wv t d.who=false then t else ⟨⟨t.town.clerk,t.town.owners,t.town.polls,if (Kh t.town.net (JhB d.letter d.who) [1]).2=0 then (Kh t.town.net (JhB d.letter d.who) [1]).1 else t.town.net⟩,t.reach,t.fates,t.events⟩
def ZD (t:JA) (d:Qb):JA:=if d.kind=1 then Qo t d else if d.kind=2 then ⟨t.town,t.reach,t.fates++[d.fates],t.events⟩ else if d.kind=3 then JeY t d else if d.kind=4 then Q6 t else t
structure Z2 (t u:JA) (k:Nat):Prop where
 ev:∃ m,u.events=t.events++m∧m.length≤k
 own:u.town.owners.length=t.town.owners.length
 polls:u.town.polls.length=t.town.polls.length
 reach:u.reach=t.reach
theorem Z2.refl (t:JA) (k:Nat):Z2 t t k:=⟨⟨[],by simp,by simp⟩,rfl,rfl,rfl⟩
theorem Z2.trans {t u v:JA} {j k:Nat} (h:Z2 t u j) (h2:Z2 u v k):Z2 t v (j+k):=by
 obtain ⟨m,e,l⟩:=h.ev;obtain ⟨n,e2,l2⟩:=h2.ev
 exact ⟨⟨m++n,by rw [e2,e,List.append_assoc],by simp;omega⟩,h2.own.trans h.own,h2.polls.trans h.polls,h2.reach.trans h.reach⟩
theorem Z2.mono {t u:JA} {j k:Nat} (h:Z2 t u j) (hk:j≤k):Z2 t u k:=by
 obtain ⟨m,e,l⟩:=h.ev
 exact ⟨⟨m,e,Nat.le_trans l hk⟩,h.own,h.polls,h.reach⟩
theorem Z2.len {t u:JA} {k:Nat} (h:Z2 t u k):u.events.length≤t.events.length+k∧t.events.length≤u.events.length:=by
 obtain ⟨m,e,l⟩:=h.ev;rw [e];simp;omega
theorem g_send (t:JA) (l:JI):Z2 t (QW t l) 0:=⟨⟨[],by simp [QW],by simp⟩,rfl,rfl,rfl⟩
theorem JlS (t:JA) (d:Qb):Z2 t (Qo t d) 1:=by
 unfold Qo
 split
 ·
  exact Z2.refl t 1
 split
 ·
  exact Z2.refl t 1
 split
 ·
  exact Z2.refl t 1
 ·
  exact ⟨⟨_,rfl,by simp⟩,by simp,rfl,rfl⟩
theorem JlT (t:JA) (l:JI):Z2 t (KC t l) 0:=by
 unfold KC
 split
 ·
  exact Z2.refl t 0
 ·
  exact g_send t _
theorem g_see (t:JA) (l:JI):Z2 t (Wx t l) 1:=by
 refine ⟨⟨_,rfl,by simp⟩,by simp [Wx],?_,rfl⟩
 unfold Wx;simp only
 split <;> simp
theorem JlU (t:JA) (k:Int):Z2 t (Vn t k) 0:=⟨⟨[],by simp [Vn,QW],by simp⟩,rfl,by simp [Vn,QW],rfl⟩
theorem g_ask (t:JA) (k:Int):Z2 t (Wo t k) 1:=by
 unfold Wo
 split
 ·
  exact Z2.refl t 1
 split
 ·
  refine (JlU t k).trans (k:=1) ⟨⟨_,rfl,by simp⟩,rfl,rfl,rfl⟩
 ·
  exact (JlU t k).mono (by omega)
theorem Jcl (t:JA) (l:JI):Z2 t (W9 t l) 1:=by
 unfold W9
 split
 ·
  exact (JlT t l).mono (by omega)
 ·
  exact g_see t l
theorem JcU:∀ (l:List JI) (t:JA),Z2 t (WL t l) l.length
 | [],t=>Z2.refl t 0
 | x::l,t=>by
  have:=(Jcl t x).trans (JcU l (W9 t x))
  exact this.mono (by simp;omega)
theorem JeZ (t:JA) (l:List JI) (x:JI):WL t (l++[x])=W9 (WL t l) x:=by simp [WL,List.foldl_append]
theorem JbF {t:JA} {l:List JI} {i:Nat} {x:JI} (h:l[i]? = some x):W9 (WL t (l.take i)) x=WL t (l.take (i+1)):=by
 rw [List.take_add_one,h,← JeZ];rfl
theorem YH (t:JA) (n:Nat):Wo (Jaq t n) (n:Int)=Jaq t (n+1):=by simp [Jaq,List.range_succ,List.foldl_append]
theorem Jet (t:JA):∀ n,Z2 t (Jaq t n) n
 | 0=>Z2.refl t 0
 | n+1=>by rw [← YH];exact (Jet t n).trans (g_ask _ _)
theorem JhC (n:Z5):(JR n).2.1.length≤60:=by
 unfold JR
 split
 ·
  simp
 split
 ·
  simp
 ·
  rename_i h1 h2
  have:=QJ (Decidable.not_not.1 h1)
  have h3:=List.length_filter_le (fun l:JI=>decide (l.due=n.now+1)) n.way
  simp only;omega
theorem g_tick {t:JA} (h:t.town.owners.length≤4):Z2 t (Q6 t) 64:=by
 unfold Q6
 split
 ·
  exact Z2.refl t 64
 ·
  have h1:Z2 t (ZM t) 0:=⟨⟨[],by simp [ZM],by simp⟩,rfl,rfl,rfl⟩
  have h2:=h1.trans (JcU (JR t.town.net).2.1 (ZM t))
  have h3:=h2.trans (Jet (WL (ZM t) (JR t.town.net).2.1) (WL (ZM t) (JR t.town.net).2.1).town.owners.length)
  have h4:=JhC t.town.net
  exact h3.mono (by rw [h2.own];omega)
theorem g_say (t:JA) (d:Qb):Z2 t (JeY t d) 0:=by
 unfold JeY
 split
 ·
  exact Z2.refl t 0
 ·
  exact ⟨⟨[],by simp,by simp⟩,rfl,rfl,rfl⟩
theorem g_do {t:JA} (h:t.town.owners.length≤4) (d:Qb):Z2 t (ZD t d) 64:=by
 unfold ZD
 split
 ·
  exact (JlS t d).mono (by omega)
 split
 ·
  exact ⟨⟨[],by simp,by simp⟩,rfl,rfl,rfl⟩
 split
 ·
  exact (g_say t d).mono (by omega)
 split
 ·
  exact g_tick h
 ·
  exact Z2.refl t 64
def Wa (t:JA):Prop:=∀ l∈t.town.net.way,l.to_<t.town.owners.length
theorem Jdl {n:Z5} {l x:JI} {f:List Int} (hk:(Kh n l f).2=0) (h:x∈(Kh n l f).1.way):x∈n.way∨x.to_=l.to_:=by
 unfold Kh at hk h
 split at h
 ·
  simp [Jbd] at h
 split at h
 ·
  simp [Jbd] at h
 split at h
 ·
  simp [Jbd] at h
 ·
  simp only [List.mem_append,List.mem_map] at h
  rcases h with h | ⟨k,_,rfl⟩
  ·
   exact .inl h
  ·
   exact .inr rfl
theorem Jdm {n:Z5} {x:JI} (h:x∈(JR n).1.way):x∈n.way:=by
 unfold JR at h
 split at h
 ·
  simp [Jbd] at h
 split at h
 ·
  simp [Jbd] at h
 ·
  exact (List.mem_filter.1 h).1
theorem VT {n:Z5} {x:JI} (h:x∈(JR n).2.1):x∈n.way:=by
 unfold JR at h
 split at h
 ·
  simp at h
 split at h
 ·
  simp at h
 ·
  exact (List.mem_filter.1 h).1
theorem JlV {t:JA} {l:JI} (h:Wa t) (hl:l.to_<t.town.owners.length):Wa (QW t l):=by
 intro x hx
 unfold QW at hx ⊢
 simp only at hx ⊢
 split at hx
 ·
  rename_i hk
  rcases Jdl hk hx with h2 | h2
  ·
   exact h x h2
  ·
   omega
 ·
  exact h x hx
theorem ZS {t:JA} {k:Int}:Wv t k=true ↔ 0≤k∧k<t.town.owners.length:=by unfold Wv;simp
theorem w_want {t:JA} (h:Wa t) (d:Qb):Wa (Qo t d):=by
 unfold Qo
 split
 ·
  exact h
 split
 ·
  exact h
 split
 ·
  exact h
 ·
  intro x hx;have:=h x hx;simpa using this
theorem JlW {t:JA} (h:Wa t) (l:JI):Wa (KC t l):=by
 unfold KC
 split
 ·
  exact h
 ·
  rename_i h1
  exact JlV h (ZS.1 (by simpa using h1)).2
theorem w_see {t:JA} (h:Wa t) (l:JI):Wa (Wx t l):=by
 intro x hx;have:=h x hx;simpa [Wx] using this
theorem JlX {t:JA} (h:Wa t) (k:Int):Wa (Vn t k):=by
 unfold Vn
 exact JlV (t:=⟨⟨t.town.clerk,t.town.owners,t.town.polls.set k.toNat (Kn (KR t k) t.town.clerk.now).1,t.town.net⟩,t.reach,t.fates,t.events⟩) h (by simp only;omega)
theorem w_ask {t:JA} (h:Wa t) (k:Int):Wa (Wo t k):=by
 unfold Wo
 split
 ·
  exact h
 split
 ·
  exact JlX h k
 ·
  exact JlX h k
theorem JlY {t:JA} (h:Wa t) (l:JI):Wa (W9 t l):=by
 unfold W9
 split
 ·
  exact JlW h l
 ·
  exact w_see h l
theorem JcV:∀ (l:List JI) {t:JA},Wa t→Wa (WL t l)
 | [],_,h=>h
 | x::l,t,h=>JcV l (JlY h x)
theorem Jiz {t:JA} (h:Wa t):∀ n,Wa (Jaq t n)
 | 0=>h
 | n+1=>by rw [← YH];exact w_ask (Jiz h n) _
theorem Jjn {t:JA} (h:Wa t):Wa (ZM t):=fun x hx=>h x (Jdm hx)
theorem w_tick {t:JA} (h:Wa t):Wa (Q6 t):=by
 unfold Q6
 split
 ·
  exact h
 ·
  exact Jiz (JcV _ (Jjn h)) _
theorem w_say {t:JA} (h:Wa t) (d:Qb):Wa (JeY t d):=by
 unfold JeY
 split
 ·
  exact h
 ·
  rename_i h1
  have h2:=(ZS.1 (by simpa using h1:Wv t d.who=true)).2
  intro x hx
  simp only at hx ⊢
  split at hx
  ·
   rename_i hk
   rcases Jdl hk hx with h3 | h3
   ·
    exact h x h3
   ·
    rw [h3];exact h2
  ·
   exact h x hx
theorem w_do {t:JA} (h:Wa t) (d:Qb):Wa (ZD t d):=by
 unfold ZD
 split
 ·
  exact w_want h d
 split
 ·
  exact h
 split
 ·
  exact w_say h d
 split
 ·
  exact w_tick h
 ·
  exact h
def JaS (t:JA) (l:List Qb):JA:=l.foldl ZD t
theorem Jku {t:JA} {l:List Qb} {i:Nat} {d:Qb} (h:l[i]? = some d):ZD (JaS t (l.take i)) d=JaS t (l.take (i+1)):=by
 unfold JaS;rw [List.take_add_one,h];simp [List.foldl_append]
def nmE:List (List UInt8)→List (List UInt8)→Int
 | _,[]=>0
 | p,n::l=>if Kt n=false∨(p.any fun x=>decide (n=x))=true then 3 else nmE (p++[n]) l
def Zt (s:KK) (h:JS):List KO:=(s.names.zip s.keys).map fun x=>(JF x.1 x.2 h).1
def Qm (s:KK):Int:=if ¬ (JO s.most s.batch s.every).2=0 then (JO s.most s.batch s.every).2 else if s.names.length > 4 then 2 else if ¬ s.keys.length=s.names.length then 3 else if ¬ nmE [] s.names=0 then nmE [] s.names else if ¬ (KH s.least s.top s.lost).2=0 then (KH s.least s.top s.lost).2 else if s.reach<1∨s.reach > 40 then 4 else 0
def Qd (s:KK):JA:=⟨⟨(JO s.most s.batch s.every).1,Zt s (QX (JO s.most s.batch s.every).1.heads),List.replicate (Zt s (QX (JO s.most s.batch s.every).1.heads)).length (KH s.least s.top s.lost).1,⟨0,[]⟩⟩,s.reach,[],[]⟩
def Jcm (s:KK) (l:List Qb):Int:=if ¬ Qm s=0 then Qm s else if l.length > 200 then 2 else 0
def JlZ:QU:=⟨Zz,[],[],⟨0,[]⟩⟩
def K6 (s:KK) (l:List Qb):QU×List Yr×Int:=if ¬ Jcm s l=0 then (JlZ,[],Jcm s l) else ((JaS (Qd s) l).town,(JaS (Qd s) l).events,0)
theorem Jar {s:KK} (h:Qm s=0):s.names.length≤4∧s.keys.length=s.names.length∧nmE [] s.names=0∧(JO s.most s.batch s.every).2=0∧(KH s.least s.top s.lost).2=0∧1≤s.reach∧s.reach≤40:=by
 unfold Qm at h
 split at h
 ·
  contradiction
 split at h
 ·
  cases h
 split at h
 ·
  cases h
 split at h
 ·
  contradiction
 split at h
 ·
  contradiction
 split at h
 ·
  cases h
 ·
  rename_i h1 h2 h3 h4 h5 h6
  exact ⟨by omega,Decidable.not_not.1 h3,Decidable.not_not.1 h4,Decidable.not_not.1 h1,Decidable.not_not.1 h5,by omega,by omega⟩
theorem Jcn {s:KK} (h:Qm s=0) (x:JS):(Zt s x).length=s.names.length:=by
 have:=Jar h
 unfold Zt;rw [List.length_map,List.length_zip];omega
theorem JmN {s:KK} {l:List Qb} (h:(K6 s l).2.2=0):Qm s=0∧l.length≤200∧K6 s l=((JaS (Qd s) l).town,(JaS (Qd s) l).events,0):=by
 unfold K6 at h ⊢
 split at h
 ·
  contradiction
 ·
  rename_i h1
  rw [if_neg h1]
  have h2:=Decidable.not_not.1 h1
  unfold Jcm at h2
  split at h2
  ·
   contradiction
  split at h2
  ·
   cases h2
  ·
   rename_i a b;exact ⟨Decidable.not_not.1 a,by omega,rfl⟩
structure ZB (s:KK) (t:JA):Prop where
 clerk:Q8 t.town.clerk
 net:K1 t.town.net=0
 now:t.town.net.now=t.town.clerk.now
 own:∀ (i:Nat) o,t.town.owners[i]? = some o→J6 o=0∧s.names[i]? = some o.name∧s.keys[i]? = some o.key
 poll:∀ (i:Nat) p,t.town.polls[i]? = some p→Km p=0
theorem Jjo {n:Z5} (h:K1 n=0):∀ l∈n.way,n.now<l.due:=by
 unfold K1 at h
 split at h
 ·
  cases h
 split at h
 ·
  cases h
 split at h
 ·
  cases h
 ·
  rename_i h3
  intro l hl
  have:¬ Jdu l n=true:=fun e=>h3 (List.any_eq_true.2 ⟨l,hl,e⟩)
  unfold Jdu at this
  simp at this;omega
theorem JiA {n:Z5} (h1:0≤n.now) (h2:n.now≤1000000000) (h3:n.way.length≤60) (h4:∀ l∈n.way,n.now<l.due):K1 n=0:=by
 unfold K1
 rw [if_neg (by omega),if_neg (by omega),if_neg]
 rw [List.any_eq_true]
 rintro ⟨l,hl,e⟩
 have:=h4 l hl
 unfold Jdu at e
 simp at e;omega
theorem ZZ {n:Z5} {l:JI} {f:List Int} (h:(Kh n l f).2=0):K1 (Kh n l f).1=0∧(Kh n l f).1.now=n.now:=by
 unfold Kh at h ⊢
 split at h
 ·
  contradiction
 split at h
 ·
  cases h
 split at h
 ·
  cases h
 ·
  rename_i h1 h2 h3
  rw [if_neg h1,if_neg h2,if_neg h3]
  have hc:=QJ (Decidable.not_not.1 h1)
  have ha:=Jjo (Decidable.not_not.1 h1)
  refine ⟨JiA (by simp only;omega) (by simp only;omega) (by simp only [List.length_append,List.length_map];omega) (fun x hx=>?_),rfl⟩
  simp only [List.mem_append,List.mem_map] at hx
  rcases hx with hx | ⟨k,hk,rfl⟩
  ·
   exact ha x hx
  ·
   have:¬ YB k=true:=fun e=>h2 (List.any_eq_true.2 ⟨k,hk,e⟩)
   unfold YB at this
   simp at this
   show n.now<n.now+k
   omega
theorem Jah {n:Z5} (h:K1 n=0) (hn:¬ n.now=1000000000):K1 (JR n).1=0∧(JR n).1.now=n.now+1:=by
 have hc:=QJ h
 have ha:=Jjo h
 unfold JR
 rw [if_neg (by omega),if_neg hn]
 refine ⟨JiA (by simp only;omega) (by simp only;omega) ?_ (fun x hx=>?_),rfl⟩
 ·
  have:=List.length_filter_le (fun l:JI=>!decide (l.due=n.now+1)) n.way
  simp only;omega
 ·
  have hx':=List.mem_filter.1 hx
  have h1:=ha x hx'.1
  have h2:¬ x.due=n.now+1:=by simpa using hx'.2
  simp only;omega
theorem YC {α:Type} {l:List α} {k i:Nat} {v x:α} (h:(l.set k v)[i]? = some x):(k=i∧x=v∧k<l.length)∨(k ≠ i∧l[i]? = some x):=by
 by_cases e:k=i
 ·
  subst e
  have hl:=(List.getElem?_eq_some_iff.1 h).1
  rw [List.length_set] at hl
  rw [List.getElem?_set_self hl] at h
  exact .inl ⟨rfl,(Option.some.inj h).symm,hl⟩
 ·
  rw [List.getElem?_set_ne e] at h;exact .inr ⟨e,h⟩
theorem Yi {t:JA} {k:Int} (h:k.toNat<t.town.owners.length):t.town.owners[k.toNat]? = some (Jm t k):=by unfold Jm;rw [List.getElem?_eq_getElem h];rfl
theorem JbV {t:JA} {k:Int} (h:k.toNat<t.town.polls.length):t.town.polls[k.toNat]? = some (KR t k):=by unfold KR;rw [List.getElem?_eq_getElem h];rfl
theorem Jl0 {s:KK} {t:JA} (h:ZB s t) (l:JI):ZB s (QW t l):=by
 refine ⟨h.clerk,?_,?_,h.own,h.poll⟩ <;> (unfold QW;simp only;split)
 ·
  rename_i hk;exact (ZZ hk).1
 ·
  exact h.net
 ·
  rename_i hk;rw [(ZZ hk).2];exact h.now
 ·
  exact h.now
theorem i_want {s:KK} {t:JA} (h:ZB s t) (d:Qb):ZB s (Qo t d):=by
 unfold Qo
 split
 ·
  exact h
 rename_i h0
 split
 ·
  exact h
 split
 ·
  exact h
 ·
  rename_i h1 h2
  simp only [not_or,Bool.not_eq_false] at h1
  have hw:=Decidable.not_not.1 h1.1
  have ha:=Decidable.not_not.1 h2
  have hd:=ZS.1 (by simpa using h0:Wv t d.who=true)
  obtain ⟨w1,w2,w3,w4,w5⟩:=Vt hw
  have hnow:(Kk t.town.clerk (JD (Jm t d.who) d.value).2.1).1.now=t.town.clerk.now:=by rw [(YL ha).2.2.2.2]
  refine ⟨Ye ha,h.net,by simp only;rw [hnow];exact h.now,fun i o ho=>?_,h.poll⟩
  rcases YC ho with ⟨rfl,rfl,_⟩ | ⟨_,ho⟩
  ·
   obtain ⟨q1,q2,q3⟩:=h.own _ _ (Yi (k:=d.who) (by omega))
   refine ⟨w5.1,?_,?_⟩ <;> rw [w4]
   ·
    exact q2
   ·
    exact q3
  ·
   exact h.own i o ho
theorem Jfx {o:KO} {l:List JS} {r:WE} (h:J6 o=0):J6 (Jx o l r).1=0∧(Jx o l r).1.name=o.name∧(Jx o l r).1.key=o.key∧(Jx o l r).1.wanted=o.wanted:=by
 by_cases hv:(JH o l r).1=0
 ·
  have e:Jx o l r=(⟨o.name,o.key,r.head,o.wanted,(JH o l r).2⟩,0,0):=by unfold Jx;rw [if_neg (by omega),if_pos hv]
  have h1:(Jx o l r).2.2=0:=by rw [e]
  have h2:(Jx o l r).2.1=0:=by rw [e]
  exact ⟨(Jeg h1 h2).2.2.2.2.1,by rw [e],by rw [e],by rw [e]⟩
 ·
  have e:Jx o l r=(o,(JH o l r).1,0):=by unfold Jx;rw [if_neg (by omega),if_neg hv]
  rw [e];exact ⟨h,rfl,rfl,rfl⟩
theorem Jbe {p:QF} {now:Int} (h:Km p=0) (h1:0≤now) (h2:now≤1000000000):Km (Qn p now).1=0:=by
 have hp:=(Wu p).1 h
 have ha:Ku p now=0:=(JaM p now).2 ⟨hp,h1,h2⟩
 unfold Qn
 rw [if_neg (by omega)]
 simp only
 rw [Wu]
 unfold Yf at hp ⊢
 unfold KV
 simp only
 (repeat' split) <;> omega
theorem i_see {s:KK} {t:JA} (h:ZB s t) {l:JI} (h0:0≤l.to_) (h1:l.to_<t.town.owners.length):ZB s (Wx t l):=by
 refine ⟨h.clerk,h.net,h.now,fun i o ho=>?_,fun i p hp=>?_⟩
 ·
  rcases YC ho with ⟨rfl,rfl,_⟩ | ⟨_,ho⟩
  ·
   obtain ⟨q1,q2,q3⟩:=h.own _ _ (Yi (k:=l.to_) (by omega))
   obtain ⟨k1,k2,k3,_⟩:=Jfx (l:=l.heads) (r:=l.reply) q1
   exact ⟨k1,by rw [k2];exact q2,by rw [k3];exact q3⟩
  ·
   exact h.own i o ho
 ·
  unfold Wx at hp
  simp only at hp
  split at hp
  ·
   rcases YC hp with ⟨rfl,rfl,hl⟩ | ⟨_,hp⟩
   ·
    exact Jbe (h.poll _ _ (JbV hl)) h.clerk.now.1 h.clerk.now.2
   ·
    exact h.poll i p hp
  ·
   exact h.poll i p hp
theorem Jl1 {s:KK} {t:JA} (h:ZB s t) (l:JI):ZB s (KC t l):=by
 unfold KC
 split
 ·
  exact h
 ·
  exact Jl0 h _
theorem Jl2 {s:KK} {t:JA} (h:ZB s t) {l:JI} (h1:l.to_<t.town.owners.length):ZB s (W9 t l):=by
 unfold W9
 split
 ·
  exact Jl1 h l
 ·
  exact i_see h (by omega) h1
theorem JcW {s:KK}:∀ (l:List JI) {t:JA},ZB s t→(∀ x∈l,x.to_<t.town.owners.length)→ZB s (WL t l)
 | [],_,h,_=>h
 | x::l,t,h,hl=>JcW l (Jl2 h (hl x (by simp))) (fun y hy=>by rw [(Jcl t x).own];exact hl y (by simp [hy]))
theorem i_sent {s:KK} {t:JA} (h:ZB s t) {k:Int} (hk:(Kn (KR t k) t.town.clerk.now).2=0):ZB s (Vn t k):=by
 unfold Vn
 refine Jl0 (t:=⟨⟨t.town.clerk,t.town.owners,t.town.polls.set k.toNat (Kn (KR t k) t.town.clerk.now).1,t.town.net⟩,t.reach,t.fates,t.events⟩) ⟨h.clerk,h.net,h.now,h.own,fun i p hp=>?_⟩ _
 rcases YC hp with ⟨rfl,rfl,_⟩ | ⟨_,hp⟩
 ·
  have:=Jbc hk;omega
 ·
  exact h.poll i p hp
theorem i_ask {s:KK} {t:JA} (h:ZB s t) (k:Int):ZB s (Wo t k):=by
 unfold Wo
 split
 ·
  exact h
 rename_i h1
 have h2:=i_sent h (Decidable.not_not.1 h1)
 split
 ·
  exact ⟨h2.clerk,h2.net,h2.now,h2.own,h2.poll⟩
 ·
  exact h2
theorem JiB {s:KK} {t:JA} (h:ZB s t):∀ n,ZB s (Jaq t n)
 | 0=>h
 | n+1=>by rw [← YH];exact i_ask (JiB h n) _
theorem i_tick {s:KK} {t:JA} (h:ZB s t) (hw:Wa t):ZB s (Q6 t):=by
 unfold Q6
 split
 ·
  exact h
 ·
  rename_i h1
  obtain ⟨t0,tk⟩:=Yo h.clerk
  have hn:WP t.town.clerk=false∧(J1 t.town.clerk).1.now=t.town.clerk.now+1:=by
   rcases Jaf h.clerk with q | q
   ·
    exact absurd q.1 h1
   ·
    exact q
  have hne:¬ t.town.net.now=1000000000:=by
   rw [h.now]
   have:=hn.1;unfold WP at this
   simp only [Bool.or_eq_false_iff,decide_eq_false_iff_not] at this
   exact this.2
  obtain ⟨n1,n2⟩:=Jah h.net hne
  have hT:ZB s (ZM t):=⟨tk.ok,n1,by show (JR t.town.net).1.now=(J1 t.town.clerk).1.now;rw [n2,hn.2,h.now],h.own,h.poll⟩
  exact JiB (JcW _ hT (fun x hx=>hw x (VT hx))) _
theorem i_do {s:KK} {t:JA} (h:ZB s t) (hw:Wa t) (d:Qb):ZB s (ZD t d):=by
 unfold ZD
 split
 ·
  exact i_want h d
 split
 ·
  exact ⟨h.clerk,h.net,h.now,h.own,h.poll⟩
 split
 ·
  unfold JeY
  split
  ·
   exact h
  ·
   refine ⟨h.clerk,?_,?_,h.own,h.poll⟩ <;> (simp only;split)
   ·
    rename_i hk;exact (ZZ hk).1
   ·
    exact h.net
   ·
    rename_i hk;rw [(ZZ hk).2];exact h.now
   ·
    exact h.now
 split
 ·
  exact i_tick h hw
 ·
  exact h
theorem YY {m b e:Int} (h:(JO m b e).2=0):Q8 (JO m b e).1∧(JO m b e).1.now=0∧(JO m b e).1.books=[[]]∧(JO m b e).1.queue.wait=[]∧(JO m b e).1.heads.length=1:=by
 unfold JO at h ⊢
 split at h
 ·
  cases h
 ·
  rename_i h1
  rw [if_neg h1]
  simp only [not_or,Bool.not_eq_false] at h1
  obtain ⟨a1,a2,a3⟩:=h1
  have b1:=Y9.1 a1;have b2:=Y9.1 a2;have b3:=Y9.1 a3
  have hT:QR []:=⟨by simp,by simp,by simp⟩
  have hroot:=Y5 (q:=[]) hT (by simp) (by simp)
  have hb:=V4 (J0 [] []) []
  have hc:JE ⟨0,(JP [] []).1,0,0⟩=0:=by
   rw [hroot];unfold JE;simp only
   rw [if_neg (by omega),if_neg (by simp)]
  have hf:KU (JP [] []).1 0=(⟨0,(JP [] []).1,0,0⟩,0):=by unfold KU;rw [if_neg (by omega)]
  rw [hf]
  refine ⟨⟨K5.2 ⟨by simp only;omega,by simp only;omega,by simp;omega,by simp⟩,b2,b3,⟨by simp,by simp⟩,⟨by simp,by simp,?_,?_⟩,rfl,rfl,by simp [WC],?_,?_⟩,rfl,rfl,rfl,rfl⟩
  ·
   intro x hx;simp at hx;rw [hx];exact hc
  ·
   intro k x y hx hy;have:=(List.getElem?_eq_some_iff.1 hy).1;simp at this
  ·
   intro k x hx
   have hk:k=0:=by have:=(List.getElem?_eq_some_iff.1 hx).1;simp at this;exact this
   subst hk
   simp at hx
   subst hx
   exact ⟨by rw [hroot],by simp⟩
  ·
   simp [Vv,Qy,KL,Qj,nn,dd]
theorem Jgr:∀ (l p:List (List UInt8)),nmE p l=0→(∀ n∈l,Kt n=true)∧l.Nodup∧∀ n∈l,n ∉ p
 | [],_,_=>by simp
 | n::l,p,h=>by
  unfold nmE at h
  split at h
  ·
   cases h
  ·
   rename_i h1
   simp only [not_or,Bool.not_eq_false] at h1
   obtain ⟨q1,q2,q3⟩:=Jgr l (p++[n]) h
   have hn:n ∉ p:=fun hp=>h1.2 (List.any_eq_true.2 ⟨n,hp,by simp⟩)
   refine ⟨fun x hx=>?_,List.nodup_cons.2 ⟨fun hx=>(q3 n hx) (by simp),q2⟩,fun x hx=>?_⟩
   ·
    rcases List.mem_cons.1 hx with rfl | hx
    ·
     exact h1.1
    ·
     exact q1 x hx
   ·
    rcases List.mem_cons.1 hx with rfl | hx
    ·
     exact hn
    ·
     exact fun hp=>q3 x hx (by simp [hp])
theorem Vy {s:KK} {h:JS} {i:Nat} {o:KO} (hh:JE h=0) (hn:nmE [] s.names=0) (ho:(Zt s h)[i]? = some o):J6 o=0∧s.names[i]? = some o.name∧s.keys[i]? = some o.key∧o.head=h∧o.wanted=[]∧o.had=0:=by
 unfold Zt at ho
 rw [List.getElem?_map,Option.map_eq_some_iff] at ho
 obtain ⟨⟨n,k⟩,hz,rfl⟩:=ho
 rw [List.getElem?_zip_eq_some] at hz
 obtain ⟨z1,z2⟩:=hz
 have hp:=(Jgr _ _ hn).1 n (List.mem_of_getElem? z1)
 have hc:J6 ⟨n,k,h,[],0⟩=0:=K0.2 ⟨hp,hh,by simp,by simp,by simp,by simp⟩
 have e:JF n k h=(⟨n,k,h,[],0⟩,0):=by unfold JF;rw [if_neg (by omega)]
 simp only [e]
 exact ⟨hc,z1,z2,by simp⟩
theorem Jdn {s:KK} (h:Qm s=0):ZB s (Qd s)∧Wa (Qd s)∧(Qd s).town.owners.length=s.names.length∧(Qd s).town.polls.length=s.names.length:=by
 obtain ⟨b1,b2,b3,b4,b5,b6,b7⟩:=Jar h
 obtain ⟨c1,c2,c3,c4,c5⟩:=YY b4
 have hf:JE (QX (JO s.most s.batch s.every).1.heads)=0:=c1.chain.ok _ (List.mem_of_getElem? c1.chain.first)
 refine ⟨⟨c1,?_,?_,?_,?_⟩,?_,Jcn h _,?_⟩
 ·
  show K1 ⟨0,[]⟩=0;exact JiA (by simp) (by simp) (by simp) (by simp)
 ·
  show (0:Int)=(JO s.most s.batch s.every).1.now;exact c2.symm
 ·
  intro i o ho
  obtain ⟨q1,q2,q3,_⟩:=Vy hf b3 ho
  exact ⟨q1,q2,q3⟩
 ·
  intro i p hp
  have:=List.mem_of_getElem? hp
  have:=(List.mem_replicate.1 this).2
  rw [this]
  obtain ⟨q1,q2⟩:=JbU b5
  rw [q2];exact JaL q1
 ·
  intro l hl;simp [Qd] at hl
 ·
  show (List.replicate _ _).length=_;rw [List.length_replicate];exact Jcn h _
abbrev JU (x:JA) (a0:Option Addr) (c0:Nat) (a1:Option Addr) (c1:Nat) (a2:Option Addr) (c2:Nat) (a3:Option Addr) (c3:Nat) (a4:Option Addr) (c4:Nat) (a5:Option Addr) (c5:Nat) (a6:Option Addr) (c6:Nat) (a7:Option Addr) (c7:Nat):List Value:=[I x.town.clerk.queue.most,Sl a0 x.town.clerk.queue.wait.length c0,I x.town.clerk.batch,I x.town.clerk.every,I x.town.clerk.now,Sl a1 x.town.clerk.heads.length c1,Sl a2 x.town.clerk.books.length c2,Sl a3 x.town.owners.length c3,Sl a4 x.town.polls.length c4,I x.town.net.now,Sl a5 x.town.net.way.length c5,I x.reach,Sl a6 x.fates.length c6,Sl a7 x.events.length c7]
abbrev vTownT (x:JA) (a0:Option Addr) (c0:Nat) (a1:Option Addr) (c1:Nat) (a2:Option Addr) (c2:Nat) (a3:Option Addr) (c3:Nat) (a4:Option Addr) (c4:Nat) (a5:Option Addr) (c5:Nat) (a6:Option Addr) (c6:Nat) (a7:Option Addr) (c7:Nat):Value:=.agg #[I x.town.clerk.queue.most,Sl a0 x.town.clerk.queue.wait.length c0,I x.town.clerk.batch,I x.town.clerk.every,I x.town.clerk.now,Sl a1 x.town.clerk.heads.length c1,Sl a2 x.town.clerk.books.length c2,Sl a3 x.town.owners.length c3,Sl a4 x.town.polls.length c4,I x.town.net.now,Sl a5 x.town.net.way.length c5,I x.reach,Sl a6 x.fates.length c6,Sl a7 x.events.length c7]
end Go.Proofs.YtnnlpbjdignhaaaGreatDoor
