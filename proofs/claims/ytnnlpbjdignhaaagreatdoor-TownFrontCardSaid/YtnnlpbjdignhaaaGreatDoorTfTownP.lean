import Derived.Test.YtnnlpbjdignhaaaGreatDoorTfCalmN
import Derived.Test.YtnnlpbjdignhaaaGreatDoorTfPollN
import Derived.Test.YtnnlpbjdignhaaaGreatDoorTfNet
namespace Go.Proofs.YtnnlpbjdignhaaaGreatDoor
open Go.Tx
set_option linter.unusedVariables false
set_option linter.unusedSimpArgs false
open Go.Tx Go.Proofs
structure JG where
 town:QN
 reach:Int
 fates:List (List Int)
 events:List Vn
deriving DecidableEq
def Wy (t:JG) (k:Int):Bool:=decide (k ≥ 0) && decide (k<t.town.owners.length)
abbrev QH (t:JG) (kind who n a:Int):JG:=⟨t.town,t.reach,t.fates,t.events++[⟨kind,who,n,a⟩]⟩
def Jiq (t:JG):List Int:=if t.fates.length > 0 then t.fates[0]?.getD [] else [1]
def QV (t:JG) (l:JV):JG:=⟨⟨t.town.clerk,t.town.owners,t.town.polls,if (Kl t.town.net l (Jiq t)).2=0 then (Kl t.town.net l (Jiq t)).1 else t.town.net⟩,t.reach,t.fates.drop 1,t.events⟩
theorem JkQ {t:JG} (h:¬ 0<t.fates.length) (l:JV):QV t l=⟨⟨t.town.clerk,t.town.owners,t.town.polls,if (Kl t.town.net l [1]).2=0 then (Kl t.town.net l [1]).1 else t.town.net⟩,t.reach,t.fates,t.events⟩:=by
 have h0:t.fates=[]:=List.eq_nil_of_length_eq_zero (by omega)
 unfold QV Jiq
 rw [h0];rfl
theorem JkR {t:JG} (h:0<t.fates.length) {f:List Int} (hf:t.fates[0]? = some f) (l:JV):QV t l=⟨⟨t.town.clerk,t.town.owners,t.town.polls,if (Kl t.town.net l f).2=0 then (Kl t.town.net l f).1 else t.town.net⟩,t.reach,t.fates.drop 1,t.events⟩:=by
 unfold QV Jiq
 rw [if_pos h,hf];rfl
def Jp (t:JG) (k:Int):KX:=t.town.owners[k.toNat]?.getD YM
def K4 (t:JG) (k:Int):QL:=t.town.polls[k.toNat]?.getD YH
theorem Z4 {t:JG} {n:Nat} (h:n<t.town.owners.length):t.town.owners[n]? = some (Jp t (n:Int)):=by unfold Jp;rw [Int.toNat_natCast,List.getElem?_eq_getElem h];rfl
theorem JdP {t:JG} {n:Nat} (h:n<t.town.polls.length):t.town.polls[n]? = some (K4 t (n:Int)):=by unfold K4;rw [Int.toNat_natCast,List.getElem?_eq_getElem h];rfl
def QT (t:JG) (d:QM):JG :=
 if Wy t d.who=false then t
 else if ¬ (JJ (Jp t d.who) d.value).2.2=0∨Zx (JJ (Jp t d.who) d.value).1.key (JJ (Jp t d.who) d.value).2.1=false then t
 else if ¬ (Ku t.town.clerk (JJ (Jp t d.who) d.value).2.1).2.2=0 then t
 else ⟨⟨(Ku t.town.clerk (JJ (Jp t d.who) d.value).2.1).1,t.town.owners.set d.who.toNat (JJ (Jp t d.who) d.value).1,t.town.polls,t.town.net⟩,t.reach,t.fates,t.events++[⟨1,d.who,(Jp t d.who).wanted.length,(Ku t.town.clerk (JJ (Jp t d.who) d.value).2.1).2.1⟩]⟩
theorem tWant0 {t:JG} {d:QM} (h:Wy t d.who=false):QT t d=t:=by unfold QT;rw [if_pos h]
theorem tWant1 {t:JG} {d:QM} {k:Int} (hk:d.who=k) (h0:Wy t d.who=true) (h:¬ (JJ (Jp t k) d.value).2.2=0):QT t d=t:=by
 subst hk;unfold QT;rw [if_neg (by rw [h0];simp),if_pos (.inl h)]
theorem tWant2 {t:JG} {d:QM} {k:Int} (hk:d.who=k) (h0:Wy t d.who=true) (h:Zx (JJ (Jp t k) d.value).1.key (JJ (Jp t k) d.value).2.1=false):QT t d=t:=by
 subst hk;unfold QT;rw [if_neg (by rw [h0];simp),if_pos (.inr h)]
theorem tWant3 {t:JG} {d:QM} {k:Int} (hk:d.who=k) (h0:Wy t d.who=true) (h:¬ (Ku t.town.clerk (JJ (Jp t k) d.value).2.1).2.2=0):QT t d=t:=by
 subst hk;unfold QT;rw [if_neg (by rw [h0];simp)]
 split
 ·
  rfl
 ·
  rfl
theorem tWant4 {t:JG} {d:QM} {k:Int} {n:Nat} (hk:d.who=k) (hn:k=(n:Int)) (h0:Wy t d.who=true) (h1:(JJ (Jp t k) d.value).2.2=0) (h2:Zx (JJ (Jp t k) d.value).1.key (JJ (Jp t k) d.value).2.1=true) (h3:(Ku t.town.clerk (JJ (Jp t k) d.value).2.1).2.2=0) :
  QT t d=QH ⟨⟨(Ku t.town.clerk (JJ (Jp t k) d.value).2.1).1,t.town.owners.set n (JJ (Jp t k) d.value).1,t.town.polls,t.town.net⟩,t.reach,t.fates,t.events⟩ 1 k (Jp t k).wanted.length (Ku t.town.clerk (JJ (Jp t k) d.value).2.1).2.1:=by
 subst hk;unfold QT
 rw [if_neg (by rw [h0];simp),if_neg (by rw [h2];simp [h1]),if_neg (by simpa using h3)]
 unfold QH;rw [show d.who.toNat=n by omega]
def WE (t:JG) (l:JV):JG:=⟨⟨t.town.clerk,t.town.owners.set l.to_.toNat (Jz (Jp t l.to_) l.heads l.reply).1,if (Jz (Jp t l.to_) l.heads l.reply).2.1=0∨(Jz (Jp t l.to_) l.heads l.reply).2.1=1 then t.town.polls.set l.to_.toNat (QK (K4 t l.to_) t.town.clerk.now).1 else t.town.polls,t.town.net⟩,t.reach,t.fates,t.events++[⟨2,l.to_,(Jz (Jp t l.to_) l.heads l.reply).2.1,(Jz (Jp t l.to_) l.heads l.reply).1.head.epoch⟩]⟩
def minI (a b:Int):Int:=if b<a then b else a
def maxI (a b:Int):Int:=if b > a then b else a
def Wz (t:JG):Int:=(t.town.clerk.heads.length:Int)-1
def Wj (t:JG) (l:JV):Int:=maxI (minI l.since (Wz t)) 0
def Yb (t:JG) (l:JV):Int:=minI (Wj t l+t.reach-1) (Wz t)
def KG (t:JG) (l:JV):JG:=if Wy t l.from_=false then t else QV t ⟨l.from_,0,0,0,(W3 t.town.clerk (Wj t l) (Yb t l)).1,(QD t.town.clerk (Jp t l.from_).name (Yb t l)).1⟩
def VU (t:JG) (k:Int):JG:=QV ⟨⟨t.town.clerk,t.town.owners,t.town.polls.set k.toNat (Kp (K4 t k) t.town.clerk.now).1,t.town.net⟩,t.reach,t.fates,t.events⟩ ⟨-1,k,(Jp t k).head.epoch+1,0,[],Jci⟩
def Wq (t:JG) (k:Int):JG :=
 if ¬ (Kp (K4 t k) t.town.clerk.now).2=0 then t
 else if VT (Kp (K4 t k) t.town.clerk.now).1=true∧VT (K4 t k)=false then QH (VU t k) 3 k 0 t.town.clerk.now else VU t k
def Yq (t:JG):JG:=⟨⟨(Kc t.town.clerk).1,t.town.owners,t.town.polls,(JX t.town.net).1⟩,t.reach,t.fates,t.events⟩
def ZS (t:JG) (l:JV):JG:=if l.to_<0 then KG t l else WE t l
def WP (t:JG) (l:List JV):JG:=l.foldl ZS t
def JaE (t:JG) (n:Nat):JG:=(List.range n).foldl (fun t (k:Nat)=>Wq t (k:Int)) t
def Q7 (t:JG):JG:=if (Kc t.town.clerk).1.now=t.town.clerk.now then t else JaE (WP (Yq t) (JX t.town.net).2.1) (WP (Yq t) (JX t.town.net).2.1).town.owners.length
def JgK (l:JV) (k:Int):JV:=⟨k,l.from_,l.since,l.due,l.heads,l.reply⟩
def Jek (t:JG) (d:QM):JG:=if Wy t d.who=false then t else ⟨⟨t.town.clerk,t.town.owners,t.town.polls,if (Kl t.town.net (JgK d.letter d.who) [1]).2=0 then (Kl t.town.net (JgK d.letter d.who) [1]).1 else t.town.net⟩,t.reach,t.fates,t.events⟩
def ZC (t:JG) (d:QM):JG:=if d.kind=1 then QT t d else if d.kind=2 then ⟨t.town,t.reach,t.fates++[d.fates],t.events⟩ else if d.kind=3 then Jek t d else if d.kind=4 then Q7 t else t
structure ZI (t u:JG) (k:Nat):Prop where
 ev:∃ m,u.events=t.events++m∧m.length≤k
 own:u.town.owners.length=t.town.owners.length
 polls:u.town.polls.length=t.town.polls.length
 reach:u.reach=t.reach
theorem ZI.refl (t:JG) (k:Nat):ZI t t k:=⟨⟨[],by simp,by simp⟩,rfl,rfl,rfl⟩
theorem ZI.trans {t u v:JG} {j k:Nat} (h:ZI t u j) (h2:ZI u v k):ZI t v (j+k):=by
 obtain ⟨m,e,l⟩:=h.ev;obtain ⟨n,e2,l2⟩:=h2.ev
 exact ⟨⟨m++n,by rw [e2,e,List.append_assoc],by simp;omega⟩,h2.own.trans h.own,h2.polls.trans h.polls,h2.reach.trans h.reach⟩
theorem ZI.mono {t u:JG} {j k:Nat} (h:ZI t u j) (hk:j≤k):ZI t u k:=by
 obtain ⟨m,e,l⟩:=h.ev
 exact ⟨⟨m,e,Nat.le_trans l hk⟩,h.own,h.polls,h.reach⟩
theorem ZI.len {t u:JG} {k:Nat} (h:ZI t u k):u.events.length≤t.events.length+k∧t.events.length≤u.events.length:=by
 obtain ⟨m,e,l⟩:=h.ev;rw [e];simp;omega
theorem g_send (t:JG) (l:JV):ZI t (QV t l) 0:=⟨⟨[],by simp [QV],by simp⟩,rfl,rfl,rfl⟩
theorem g_want (t:JG) (d:QM):ZI t (QT t d) 1:=by
 unfold QT
 split
 ·
  exact ZI.refl t 1
 split
 ·
  exact ZI.refl t 1
 split
 ·
  exact ZI.refl t 1
 ·
  exact ⟨⟨_,rfl,by simp⟩,by simp,rfl,rfl⟩
theorem JkS (t:JG) (l:JV):ZI t (KG t l) 0:=by
 unfold KG
 split
 ·
  exact ZI.refl t 0
 ·
  exact g_send t _
theorem g_see (t:JG) (l:JV):ZI t (WE t l) 1:=by
 refine ⟨⟨_,rfl,by simp⟩,by simp [WE],?_,rfl⟩
 unfold WE;simp only
 split <;> simp
theorem JkT (t:JG) (k:Int):ZI t (VU t k) 0:=⟨⟨[],by simp [VU,QV],by simp⟩,rfl,by simp [VU,QV],rfl⟩
theorem g_ask (t:JG) (k:Int):ZI t (Wq t k) 1:=by
 unfold Wq
 split
 ·
  exact ZI.refl t 1
 split
 ·
  refine (JkT t k).trans (k:=1) ⟨⟨_,rfl,by simp⟩,rfl,rfl,rfl⟩
 ·
  exact (JkT t k).mono (by omega)
theorem JgL (t:JG) (l:JV):ZI t (ZS t l) 1:=by
 unfold ZS
 split
 ·
  exact (JkS t l).mono (by omega)
 ·
  exact g_see t l
theorem Jcj:∀ (l:List JV) (t:JG),ZI t (WP t l) l.length
 | [],t=>ZI.refl t 0
 | x::l,t=>by
  have:=(JgL t x).trans (Jcj l (ZS t x))
  exact this.mono (by simp;omega)
theorem Jel (t:JG) (l:List JV) (x:JV):WP t (l++[x])=ZS (WP t l) x:=by simp [WP,List.foldl_append]
theorem Ja8 {t:JG} {l:List JV} {i:Nat} {x:JV} (h:l[i]? = some x):ZS (WP t (l.take i)) x=WP t (l.take (i+1)):=by
 rw [List.take_add_one,h,← Jel];rfl
theorem Vy (t:JG) (n:Nat):Wq (JaE t n) (n:Int)=JaE t (n+1):=by simp [JaE,List.range_succ,List.foldl_append]
theorem JhH (t:JG):∀ n,ZI t (JaE t n) n
 | 0=>ZI.refl t 0
 | n+1=>by rw [← Vy];exact (JhH t n).trans (g_ask _ _)
theorem JgM (n:Yc):(JX n).2.1.length≤60:=by
 unfold JX
 split
 ·
  simp
 split
 ·
  simp
 ·
  rename_i h1 h2
  have:=Qx (Decidable.not_not.1 h1)
  have h3:=List.length_filter_le (fun l:JV=>decide (l.due=n.now+1)) n.way
  simp only;omega
theorem g_tick {t:JG} (h:t.town.owners.length≤4):ZI t (Q7 t) 64:=by
 unfold Q7
 split
 ·
  exact ZI.refl t 64
 ·
  have h1:ZI t (Yq t) 0:=⟨⟨[],by simp [Yq],by simp⟩,rfl,rfl,rfl⟩
  have h2:=h1.trans (Jcj (JX t.town.net).2.1 (Yq t))
  have h3:=h2.trans (JhH (WP (Yq t) (JX t.town.net).2.1) (WP (Yq t) (JX t.town.net).2.1).town.owners.length)
  have h4:=JgM t.town.net
  exact h3.mono (by rw [h2.own];omega)
theorem g_say (t:JG) (d:QM):ZI t (Jek t d) 0:=by
 unfold Jek
 split
 ·
  exact ZI.refl t 0
 ·
  exact ⟨⟨[],by simp,by simp⟩,rfl,rfl,rfl⟩
theorem g_do {t:JG} (h:t.town.owners.length≤4) (d:QM):ZI t (ZC t d) 64:=by
 unfold ZC
 split
 ·
  exact (g_want t d).mono (by omega)
 split
 ·
  exact ⟨⟨[],by simp,by simp⟩,rfl,rfl,rfl⟩
 split
 ·
  exact (g_say t d).mono (by omega)
 split
 ·
  exact g_tick h
 ·
  exact ZI.refl t 64
def Wo (t:JG):Prop:=∀ l∈t.town.net.way,l.to_<t.town.owners.length
theorem JcM {n:Yc} {l x:JV} {f:List Int} (hk:(Kl n l f).2=0) (h:x∈(Kl n l f).1.way):x∈n.way∨x.to_=l.to_:=by
 unfold Kl at hk h
 split at h
 ·
  simp [JaD] at h
 split at h
 ·
  simp [JaD] at h
 split at h
 ·
  simp [JaD] at h
 ·
  simp only [List.mem_append,List.mem_map] at h
  rcases h with h | ⟨k,_,rfl⟩
  ·
   exact .inl h
  ·
   exact .inr rfl
theorem JgN {n:Yc} {x:JV} (h:x∈(JX n).1.way):x∈n.way:=by
 unfold JX at h
 split at h
 ·
  simp [JaD] at h
 split at h
 ·
  simp [JaD] at h
 ·
  exact (List.mem_filter.1 h).1
theorem JdQ {n:Yc} {x:JV} (h:x∈(JX n).2.1):x∈n.way:=by
 unfold JX at h
 split at h
 ·
  simp at h
 split at h
 ·
  simp at h
 ·
  exact (List.mem_filter.1 h).1
theorem JkU {t:JG} {l:JV} (h:Wo t) (hl:l.to_<t.town.owners.length):Wo (QV t l):=by
 intro x hx
 unfold QV at hx ⊢
 simp only at hx ⊢
 split at hx
 ·
  rename_i hk
  rcases JcM hk hx with h2 | h2
  ·
   exact h x h2
  ·
   omega
 ·
  exact h x hx
theorem Vz {t:JG} {k:Int}:Wy t k=true ↔ 0≤k∧k<t.town.owners.length:=by unfold Wy;simp
theorem w_want {t:JG} (h:Wo t) (d:QM):Wo (QT t d):=by
 unfold QT
 split
 ·
  exact h
 split
 ·
  exact h
 split
 ·
  exact h
 ·
  intro x hx;have:=h x hx;simpa using this
theorem JkV {t:JG} (h:Wo t) (l:JV):Wo (KG t l):=by
 unfold KG
 split
 ·
  exact h
 ·
  rename_i h1
  exact JkU h (Vz.1 (by simpa using h1)).2
theorem w_see {t:JG} (h:Wo t) (l:JV):Wo (WE t l):=by
 intro x hx;have:=h x hx;simpa [WE] using this
theorem JkW {t:JG} (h:Wo t) (k:Int):Wo (VU t k):=by
 unfold VU
 exact JkU (t:=⟨⟨t.town.clerk,t.town.owners,t.town.polls.set k.toNat (Kp (K4 t k) t.town.clerk.now).1,t.town.net⟩,t.reach,t.fates,t.events⟩) h (by simp only;omega)
theorem w_ask {t:JG} (h:Wo t) (k:Int):Wo (Wq t k):=by
 unfold Wq
 split
 ·
  exact h
 split
 ·
  exact JkW h k
 ·
  exact JkW h k
theorem JkX {t:JG} (h:Wo t) (l:JV):Wo (ZS t l):=by
 unfold ZS
 split
 ·
  exact JkV h l
 ·
  exact w_see h l
theorem Jck:∀ (l:List JV) {t:JG},Wo t→Wo (WP t l)
 | [],_,h=>h
 | x::l,t,h=>Jck l (JkX h x)
theorem JhI {t:JG} (h:Wo t):∀ n,Wo (JaE t n)
 | 0=>h
 | n+1=>by rw [← Vy];exact w_ask (JhI h n) _
theorem Jir {t:JG} (h:Wo t):Wo (Yq t):=fun x hx=>h x (JgN hx)
theorem w_tick {t:JG} (h:Wo t):Wo (Q7 t):=by
 unfold Q7
 split
 ·
  exact h
 ·
  exact JhI (Jck _ (Jir h)) _
theorem w_say {t:JG} (h:Wo t) (d:QM):Wo (Jek t d):=by
 unfold Jek
 split
 ·
  exact h
 ·
  rename_i h1
  have h2:=(Vz.1 (by simpa using h1:Wy t d.who=true)).2
  intro x hx
  simp only at hx ⊢
  split at hx
  ·
   rename_i hk
   rcases JcM hk hx with h3 | h3
   ·
    exact h x h3
   ·
    rw [h3];exact h2
  ·
   exact h x hx
theorem w_do {t:JG} (h:Wo t) (d:QM):Wo (ZC t d):=by
 unfold ZC
 split
 ·
  exact w_want h d
 split
 ·
  exact h
 split
 ·
  exact w_say h d
 split
 ·
  exact w_tick h
 ·
  exact h
def Y0 (t:JG) (l:List QM):JG:=l.foldl ZC t
theorem Jju {t:JG} {l:List QM} {i:Nat} {d:QM} (h:l[i]? = some d):ZC (Y0 t (l.take i)) d=Y0 t (l.take (i+1)):=by
 unfold Y0;rw [List.take_add_one,h];simp [List.foldl_append]
theorem JkY:∀ (l:List QM) {t:JG},t.town.owners.length≤4→ZI t (Y0 t l) (64*l.length)
 | [],t,_=>ZI.refl t 0
 | d::l,t,h=>by
  have h1:=g_do h d
  have h2:=JkY l (t:=ZC t d) (by rw [h1.own];exact h)
  exact (h1.trans h2).mono (by simp;omega)
def nmE:List (List UInt8)→List (List UInt8)→Int
 | _,[]=>0
 | p,n::l=>if KD n=false∨(p.any fun x=>decide (n=x))=true then 3 else nmE (p++[n]) l
def W4 (s:KI) (h:JU):List KX:=(s.names.zip s.keys).map fun x=>(JE x.1 x.2 h).1
def Qh (s:KI):Int:=if ¬ (JP s.most s.batch s.every).2=0 then (JP s.most s.batch s.every).2 else if s.names.length > 4 then 2 else if ¬ s.keys.length=s.names.length then 3 else if ¬ nmE [] s.names=0 then nmE [] s.names else if ¬ (KE s.least s.top s.lost).2=0 then (KE s.least s.top s.lost).2 else if s.reach<1∨s.reach > 40 then 4 else 0
def Qa (s:KI):JG:=⟨⟨(JP s.most s.batch s.every).1,W4 s (Wm (JP s.most s.batch s.every).1.heads),List.replicate (W4 s (Wm (JP s.most s.batch s.every).1.heads)).length (KE s.least s.top s.lost).1,⟨0,[]⟩⟩,s.reach,[],[]⟩
def Jaj (s:KI) (l:List QM):Int:=if ¬ Qh s=0 then Qh s else if l.length > 200 then 2 else 0
def Jis:QN:=⟨Zo,[],[],⟨0,[]⟩⟩
def JC (s:KI) (l:List QM):QN×List Vn×Int:=if ¬ Jaj s l=0 then (Jis,[],Jaj s l) else ((Y0 (Qa s) l).town,(Y0 (Qa s) l).events,0)
theorem JaP {s:KI} (h:Qh s=0):s.names.length≤4∧s.keys.length=s.names.length∧nmE [] s.names=0∧(JP s.most s.batch s.every).2=0∧(KE s.least s.top s.lost).2=0∧1≤s.reach∧s.reach≤40:=by
 unfold Qh at h
 split at h
 ·
  contradiction
 split at h
 ·
  cases h
 split at h
 ·
  cases h
 split at h
 ·
  contradiction
 split at h
 ·
  contradiction
 split at h
 ·
  cases h
 ·
  rename_i h1 h2 h3 h4 h5 h6
  exact ⟨by omega,Decidable.not_not.1 h3,Decidable.not_not.1 h4,Decidable.not_not.1 h1,Decidable.not_not.1 h5,by omega,by omega⟩
theorem Jae {s:KI} (h:Qh s=0) (x:JU):(W4 s x).length=s.names.length:=by
 have:=JaP h
 unfold W4;rw [List.length_map,List.length_zip];omega
theorem JlD {s:KI} {l:List QM} (h:(JC s l).2.2=0):Qh s=0∧l.length≤200∧JC s l=((Y0 (Qa s) l).town,(Y0 (Qa s) l).events,0):=by
 unfold JC at h ⊢
 split at h
 ·
  contradiction
 ·
  rename_i h1
  rw [if_neg h1]
  have h2:=Decidable.not_not.1 h1
  unfold Jaj at h2
  split at h2
  ·
   contradiction
  split at h2
  ·
   cases h2
  ·
   rename_i a b;exact ⟨Decidable.not_not.1 a,by omega,rfl⟩
theorem JkZ {s:KI} {l:List QM} (h:¬ (JC s l).2.2=0):JC s l=(Jis,[],Jaj s l):=by
 unfold JC at h ⊢
 split
 ·
  rfl
 ·
  rename_i h1;rw [if_neg h1] at h;exact absurd rfl h
theorem JaQ {s:KI} {l:List QM} {k:Nat} (h:(JC s l).2.2=0) (hk:k≤l.length):(JC s (l.take k)).2.2=0∧(JC s (l.take k)).2.1.length≤(JC s l).2.1.length∧(JC s l).2.1.take (JC s (l.take k)).2.1.length=(JC s (l.take k)).2.1:=by
 obtain ⟨h1,h2,h3⟩:=JlD h
 have hk2:Jaj s (l.take k)=0:=by unfold Jaj;rw [if_neg (by omega),if_neg (by rw [List.length_take];omega)]
 have e:JC s (l.take k)=((Y0 (Qa s) (l.take k)).town,(Y0 (Qa s) (l.take k)).events,0):=by unfold JC;rw [if_neg (by omega)]
 have hb:=JaP h1
 have h4:(Qa s).town.owners.length≤4:=by show (W4 s _).length≤4;rw [Jae h1];exact hb.1
 have hg:=JkY (l.take k) h4
 have hsplit:Y0 (Qa s) l=Y0 (Y0 (Qa s) (l.take k)) (l.drop k):=by
  unfold Y0;rw [← List.foldl_append,List.take_append_drop]
 obtain ⟨m,em,_⟩:=(JkY (l.drop k) (t:=Y0 (Qa s) (l.take k)) (by rw [hg.own];exact h4)).ev
 rw [e,h3,hsplit,em]
 exact ⟨rfl,by simp,by simp⟩
structure Zp (s:KI) (t:JG):Prop where
 clerk:WR t.town.clerk
 net:KY t.town.net=0
 now:t.town.net.now=t.town.clerk.now
 own:∀ (i:Nat) o,t.town.owners[i]? = some o→J5 o=0∧s.names[i]? = some o.name∧s.keys[i]? = some o.key
 poll:∀ (i:Nat) p,t.town.polls[i]? = some p→Kk p=0
theorem Jit {n:Yc} (h:KY n=0):∀ l∈n.way,n.now<l.due:=by
 unfold KY at h
 split at h
 ·
  cases h
 split at h
 ·
  cases h
 split at h
 ·
  cases h
 ·
  rename_i h3
  intro l hl
  have:¬ JcU l n=true:=fun e=>h3 (List.any_eq_true.2 ⟨l,hl,e⟩)
  unfold JcU at this
  simp at this;omega
theorem JhJ {n:Yc} (h1:0≤n.now) (h2:n.now≤1000000000) (h3:n.way.length≤60) (h4:∀ l∈n.way,n.now<l.due):KY n=0:=by
 unfold KY
 rw [if_neg (by omega),if_neg (by omega),if_neg]
 rw [List.any_eq_true]
 rintro ⟨l,hl,e⟩
 have:=h4 l hl
 unfold JcU at e
 simp at e;omega
theorem YQ {n:Yc} {l:JV} {f:List Int} (h:(Kl n l f).2=0):KY (Kl n l f).1=0∧(Kl n l f).1.now=n.now:=by
 unfold Kl at h ⊢
 split at h
 ·
  contradiction
 split at h
 ·
  cases h
 split at h
 ·
  cases h
 ·
  rename_i h1 h2 h3
  rw [if_neg h1,if_neg h2,if_neg h3]
  have hc:=Qx (Decidable.not_not.1 h1)
  have ha:=Jit (Decidable.not_not.1 h1)
  refine ⟨JhJ (by simp only;omega) (by simp only;omega) (by simp only [List.length_append,List.length_map];omega) (fun x hx=>?_),rfl⟩
  simp only [List.mem_append,List.mem_map] at hx
  rcases hx with hx | ⟨k,hk,rfl⟩
  ·
   exact ha x hx
  ·
   have:¬ YF k=true:=fun e=>h2 (List.any_eq_true.2 ⟨k,hk,e⟩)
   unfold YF at this
   simp at this
   show n.now<n.now+k
   omega
theorem Ja9 {n:Yc} (h:KY n=0) (hn:¬ n.now=1000000000):KY (JX n).1=0∧(JX n).1.now=n.now+1:=by
 have hc:=Qx h
 have ha:=Jit h
 unfold JX
 rw [if_neg (by omega),if_neg hn]
 refine ⟨JhJ (by simp only;omega) (by simp only;omega) ?_ (fun x hx=>?_),rfl⟩
 ·
  have:=List.length_filter_le (fun l:JV=>!decide (l.due=n.now+1)) n.way
  simp only;omega
 ·
  have hx':=List.mem_filter.1 hx
  have h1:=ha x hx'.1
  have h2:¬ x.due=n.now+1:=by simpa using hx'.2
  simp only;omega
theorem Jdb {α:Type} {l:List α} {k i:Nat} {v x:α} (h:(l.set k v)[i]? = some x):(k=i∧x=v∧k<l.length)∨(k ≠ i∧l[i]? = some x):=by
 by_cases e:k=i
 ·
  subst e
  have hl:=(List.getElem?_eq_some_iff.1 h).1
  rw [List.length_set] at hl
  rw [List.getElem?_set_self hl] at h
  exact .inl ⟨rfl,(Option.some.inj h).symm,hl⟩
 ·
  rw [List.getElem?_set_ne e] at h;exact .inr ⟨e,h⟩
theorem JcN {t:JG} {k:Int} (h:k.toNat<t.town.owners.length):t.town.owners[k.toNat]? = some (Jp t k):=by unfold Jp;rw [List.getElem?_eq_getElem h];rfl
theorem JhK {t:JG} {k:Int} (h:k.toNat<t.town.polls.length):t.town.polls[k.toNat]? = some (K4 t k):=by unfold K4;rw [List.getElem?_eq_getElem h];rfl
theorem Jk0 {s:KI} {t:JG} (h:Zp s t) (l:JV):Zp s (QV t l):=by
 refine ⟨h.clerk,?_,?_,h.own,h.poll⟩ <;> (unfold QV;simp only;split)
 ·
  rename_i hk;exact (YQ hk).1
 ·
  exact h.net
 ·
  rename_i hk;rw [(YQ hk).2];exact h.now
 ·
  exact h.now
theorem i_want {s:KI} {t:JG} (h:Zp s t) (d:QM):Zp s (QT t d):=by
 unfold QT
 split
 ·
  exact h
 rename_i h0
 split
 ·
  exact h
 split
 ·
  exact h
 ·
  rename_i h1 h2
  simp only [not_or,Bool.not_eq_false] at h1
  have hw:=Decidable.not_not.1 h1.1
  have ha:=Decidable.not_not.1 h2
  have hd:=Vz.1 (by simpa using h0:Wy t d.who=true)
  obtain ⟨w1,w2,w3,w4,w5⟩:=Jfu hw
  have hnow:(Ku t.town.clerk (JJ (Jp t d.who) d.value).2.1).1.now=t.town.clerk.now:=by rw [(JcF ha).2.2.2.2]
  refine ⟨JdL ha,h.net,by simp only;rw [hnow];exact h.now,fun i o ho=>?_,h.poll⟩
  rcases Jdb ho with ⟨rfl,rfl,_⟩ | ⟨_,ho⟩
  ·
   obtain ⟨q1,q2,q3⟩:=h.own _ _ (JcN (k:=d.who) (by omega))
   refine ⟨w5.1,?_,?_⟩ <;> rw [w4]
   ·
    exact q2
   ·
    exact q3
  ·
   exact h.own i o ho
theorem Jjv {o:KX} {l:List JU} {r:Wv} (h:J5 o=0):J5 (Jz o l r).1=0∧(Jz o l r).1.name=o.name∧(Jz o l r).1.key=o.key∧(Jz o l r).1.wanted=o.wanted:=by
 by_cases hv:(JT o l r).1=0
 ·
  have e:Jz o l r=(⟨o.name,o.key,r.head,o.wanted,(JT o l r).2⟩,0,0):=by unfold Jz;rw [if_neg (by omega),if_pos hv]
  have h1:(Jz o l r).2.2=0:=by rw [e]
  have h2:(Jz o l r).2.1=0:=by rw [e]
  exact ⟨(JkF h1 h2).2.2.2.2.1,by rw [e],by rw [e],by rw [e]⟩
 ·
  have e:Jz o l r=(o,(JT o l r).1,0):=by unfold Jz;rw [if_neg (by omega),if_neg hv]
  rw [e];exact ⟨h,rfl,rfl,rfl⟩
theorem JcO {p:QL} {now:Int} (h:Kk p=0) (h1:0≤now) (h2:now≤1000000000):Kk (QK p now).1=0:=by
 have hp:=(W0 p).1 h
 have ha:Ks p now=0:=(Jbn p now).2 ⟨hp,h1,h2⟩
 unfold QK
 rw [if_neg (by omega)]
 simp only
 rw [W0]
 unfold Yp at hp ⊢
 unfold KT
 simp only
 (repeat' split) <;> omega
theorem i_see {s:KI} {t:JG} (h:Zp s t) {l:JV} (h0:0≤l.to_) (h1:l.to_<t.town.owners.length):Zp s (WE t l):=by
 refine ⟨h.clerk,h.net,h.now,fun i o ho=>?_,fun i p hp=>?_⟩
 ·
  rcases Jdb ho with ⟨rfl,rfl,_⟩ | ⟨_,ho⟩
  ·
   obtain ⟨q1,q2,q3⟩:=h.own _ _ (JcN (k:=l.to_) (by omega))
   obtain ⟨k1,k2,k3,_⟩:=Jjv (l:=l.heads) (r:=l.reply) q1
   exact ⟨k1,by rw [k2];exact q2,by rw [k3];exact q3⟩
  ·
   exact h.own i o ho
 ·
  unfold WE at hp
  simp only at hp
  split at hp
  ·
   rcases Jdb hp with ⟨rfl,rfl,hl⟩ | ⟨_,hp⟩
   ·
    exact JcO (h.poll _ _ (JhK hl)) h.clerk.now.1 h.clerk.now.2
   ·
    exact h.poll i p hp
  ·
   exact h.poll i p hp
theorem Jk1 {s:KI} {t:JG} (h:Zp s t) (l:JV):Zp s (KG t l):=by
 unfold KG
 split
 ·
  exact h
 ·
  exact Jk0 h _
theorem Jk2 {s:KI} {t:JG} (h:Zp s t) {l:JV} (h1:l.to_<t.town.owners.length):Zp s (ZS t l):=by
 unfold ZS
 split
 ·
  exact Jk1 h l
 ·
  exact i_see h (by omega) h1
theorem Jcl {s:KI}:∀ (l:List JV) {t:JG},Zp s t→(∀ x∈l,x.to_<t.town.owners.length)→Zp s (WP t l)
 | [],_,h,_=>h
 | x::l,t,h,hl=>Jcl l (Jk2 h (hl x (by simp))) (fun y hy=>by rw [(JgL t x).own];exact hl y (by simp [hy]))
theorem i_sent {s:KI} {t:JG} (h:Zp s t) {k:Int} (hk:(Kp (K4 t k) t.town.clerk.now).2=0):Zp s (VU t k):=by
 unfold VU
 refine Jk0 (t:=⟨⟨t.town.clerk,t.town.owners,t.town.polls.set k.toNat (Kp (K4 t k) t.town.clerk.now).1,t.town.net⟩,t.reach,t.fates,t.events⟩) ⟨h.clerk,h.net,h.now,h.own,fun i p hp=>?_⟩ _
 rcases Jdb hp with ⟨rfl,rfl,_⟩ | ⟨_,hp⟩
 ·
  have:=JcI hk;omega
 ·
  exact h.poll i p hp
theorem i_ask {s:KI} {t:JG} (h:Zp s t) (k:Int):Zp s (Wq t k):=by
 unfold Wq
 split
 ·
  exact h
 rename_i h1
 have h2:=i_sent h (Decidable.not_not.1 h1)
 split
 ·
  exact ⟨h2.clerk,h2.net,h2.now,h2.own,h2.poll⟩
 ·
  exact h2
theorem JhL {s:KI} {t:JG} (h:Zp s t):∀ n,Zp s (JaE t n)
 | 0=>h
 | n+1=>by rw [← Vy];exact i_ask (JhL h n) _
theorem i_tick {s:KI} {t:JG} (h:Zp s t) (hw:Wo t):Zp s (Q7 t):=by
 unfold Q7
 split
 ·
  exact h
 ·
  rename_i h1
  obtain ⟨t0,tk⟩:=JbL h.clerk
  have hn:WS t.town.clerk=false∧(Kc t.town.clerk).1.now=t.town.clerk.now+1:=by
   rcases Ja3 h.clerk with q | q
   ·
    exact absurd q.1 h1
   ·
    exact q
  have hne:¬ t.town.net.now=1000000000:=by
   rw [h.now]
   have:=hn.1;unfold WS at this
   simp only [Bool.or_eq_false_iff,decide_eq_false_iff_not] at this
   exact this.2
  obtain ⟨n1,n2⟩:=Ja9 h.net hne
  have hT:Zp s (Yq t):=⟨tk.ok,n1,by show (JX t.town.net).1.now=(Kc t.town.clerk).1.now;rw [n2,hn.2,h.now],h.own,h.poll⟩
  exact JhL (Jcl _ hT (fun x hx=>hw x (JdQ hx))) _
theorem i_do {s:KI} {t:JG} (h:Zp s t) (hw:Wo t) (d:QM):Zp s (ZC t d):=by
 unfold ZC
 split
 ·
  exact i_want h d
 split
 ·
  exact ⟨h.clerk,h.net,h.now,h.own,h.poll⟩
 split
 ·
  unfold Jek
  split
  ·
   exact h
  ·
   refine ⟨h.clerk,?_,?_,h.own,h.poll⟩ <;> (simp only;split)
   ·
    rename_i hk;exact (YQ hk).1
   ·
    exact h.net
   ·
    rename_i hk;rw [(YQ hk).2];exact h.now
   ·
    exact h.now
 split
 ·
  exact i_tick h hw
 ·
  exact h
theorem JaF {m b e:Int} (h:(JP m b e).2=0):WR (JP m b e).1∧(JP m b e).1.now=0∧(JP m b e).1.books=[[]]∧(JP m b e).1.queue.wait=[]∧(JP m b e).1.heads.length=1:=by
 unfold JP at h ⊢
 split at h
 ·
  cases h
 ·
  rename_i h1
  rw [if_neg h1]
  simp only [not_or,Bool.not_eq_false] at h1
  obtain ⟨a1,a2,a3⟩:=h1
  have b1:=YN.1 a1;have b2:=YN.1 a2;have b3:=YN.1 a3
  have hT:W9 []:=⟨by simp,by simp,by simp⟩
  have hroot:=JdD (q:=[]) hT (by simp) (by simp)
  have hb:=JcE (Kg [] []) []
  have hc:JD ⟨0,(JQ [] []).1,0,0⟩=0:=by
   rw [hroot];unfold JD;simp only
   rw [if_neg (by omega),if_neg (by simp)]
  have hf:KM (JQ [] []).1 0=(⟨0,(JQ [] []).1,0,0⟩,0):=by unfold KM;rw [if_neg (by omega)]
  rw [hf]
  refine ⟨⟨K0.2 ⟨by simp only;omega,by simp only;omega,by simp;omega,by simp⟩,b2,b3,⟨by simp,by simp⟩,⟨by simp,by simp,?_,?_⟩,rfl,rfl,by simp [WQ],?_,?_⟩,rfl,rfl,rfl,rfl⟩
  ·
   intro x hx;simp at hx;rw [hx];exact hc
  ·
   intro k x y hx hy;have:=(List.getElem?_eq_some_iff.1 hy).1;simp at this
  ·
   intro k x hx
   have hk:k=0:=by have:=(List.getElem?_eq_some_iff.1 hx).1;simp at this;exact this
   subst hk
   simp at hx
   subst hx
   exact ⟨by rw [hroot],by simp⟩
  ·
   simp [VH,Qu,K2,QG,nn,dd]
theorem Jiu:∀ (l p:List (List UInt8)),nmE p l=0→(∀ n∈l,KD n=true)∧l.Nodup∧∀ n∈l,n ∉ p
 | [],_,_=>by simp
 | n::l,p,h=>by
  unfold nmE at h
  split at h
  ·
   cases h
  ·
   rename_i h1
   simp only [not_or,Bool.not_eq_false] at h1
   obtain ⟨q1,q2,q3⟩:=Jiu l (p++[n]) h
   have hn:n ∉ p:=fun hp=>h1.2 (List.any_eq_true.2 ⟨n,hp,by simp⟩)
   refine ⟨fun x hx=>?_,List.nodup_cons.2 ⟨fun hx=>(q3 n hx) (by simp),q2⟩,fun x hx=>?_⟩
   ·
    rcases List.mem_cons.1 hx with rfl | hx
    ·
     exact h1.1
    ·
     exact q1 x hx
   ·
    rcases List.mem_cons.1 hx with rfl | hx
    ·
     exact hn
    ·
     exact fun hp=>q3 x hx (by simp [hp])
theorem JfD {s:KI} {h:JU} {i:Nat} {o:KX} (hh:JD h=0) (hn:nmE [] s.names=0) (ho:(W4 s h)[i]? = some o):J5 o=0∧s.names[i]? = some o.name∧s.keys[i]? = some o.key∧o.head=h∧o.wanted=[]∧o.had=0:=by
 unfold W4 at ho
 rw [List.getElem?_map,Option.map_eq_some_iff] at ho
 obtain ⟨⟨n,k⟩,hz,rfl⟩:=ho
 rw [List.getElem?_zip_eq_some] at hz
 obtain ⟨z1,z2⟩:=hz
 have hp:=(Jiu _ _ hn).1 n (List.mem_of_getElem? z1)
 have hc:J5 ⟨n,k,h,[],0⟩=0:=K1.2 ⟨hp,hh,by simp,by simp,by simp,by simp⟩
 have e:JE n k h=(⟨n,k,h,[],0⟩,0):=by unfold JE;rw [if_neg (by omega)]
 simp only [e]
 exact ⟨hc,z1,z2,by simp⟩
theorem JgO {s:KI} (h:Qh s=0):Zp s (Qa s)∧Wo (Qa s)∧(Qa s).town.owners.length=s.names.length∧(Qa s).town.polls.length=s.names.length:=by
 obtain ⟨b1,b2,b3,b4,b5,b6,b7⟩:=JaP h
 obtain ⟨c1,c2,c3,c4,c5⟩:=JaF b4
 have hf:JD (Wm (JP s.most s.batch s.every).1.heads)=0:=c1.chain.ok _ (List.mem_of_getElem? c1.chain.first)
 refine ⟨⟨c1,?_,?_,?_,?_⟩,?_,Jae h _,?_⟩
 ·
  show KY ⟨0,[]⟩=0;exact JhJ (by simp) (by simp) (by simp) (by simp)
 ·
  show (0:Int)=(JP s.most s.batch s.every).1.now;exact c2.symm
 ·
  intro i o ho
  obtain ⟨q1,q2,q3,_⟩:=JfD hf b3 ho
  exact ⟨q1,q2,q3⟩
 ·
  intro i p hp
  have:=List.mem_of_getElem? hp
  have:=(List.mem_replicate.1 this).2
  rw [this]
  obtain ⟨q1,q2⟩:=JdO b5
  rw [q2];exact Jac q1
 ·
  intro l hl;simp [Qa] at hl
 ·
  show (List.replicate _ _).length=_;rw [List.length_replicate];exact Jae h _
abbrev JR (x:JG) (a0:Option Addr) (c0:Nat) (a1:Option Addr) (c1:Nat) (a2:Option Addr) (c2:Nat) (a3:Option Addr) (c3:Nat) (a4:Option Addr) (c4:Nat) (a5:Option Addr) (c5:Nat) (a6:Option Addr) (c6:Nat) (a7:Option Addr) (c7:Nat):List Value:=[I x.town.clerk.queue.most,Sl a0 x.town.clerk.queue.wait.length c0,I x.town.clerk.batch,I x.town.clerk.every,I x.town.clerk.now,Sl a1 x.town.clerk.heads.length c1,Sl a2 x.town.clerk.books.length c2,Sl a3 x.town.owners.length c3,Sl a4 x.town.polls.length c4,I x.town.net.now,Sl a5 x.town.net.way.length c5,I x.reach,Sl a6 x.fates.length c6,Sl a7 x.events.length c7]
abbrev vTownT (x:JG) (a0:Option Addr) (c0:Nat) (a1:Option Addr) (c1:Nat) (a2:Option Addr) (c2:Nat) (a3:Option Addr) (c3:Nat) (a4:Option Addr) (c4:Nat) (a5:Option Addr) (c5:Nat) (a6:Option Addr) (c6:Nat) (a7:Option Addr) (c7:Nat):Value:=.agg #[I x.town.clerk.queue.most,Sl a0 x.town.clerk.queue.wait.length c0,I x.town.clerk.batch,I x.town.clerk.every,I x.town.clerk.now,Sl a1 x.town.clerk.heads.length c1,Sl a2 x.town.clerk.books.length c2,Sl a3 x.town.owners.length c3,Sl a4 x.town.polls.length c4,I x.town.net.now,Sl a5 x.town.net.way.length c5,I x.reach,Sl a6 x.fates.length c6,Sl a7 x.events.length c7]
end Go.Proofs.YtnnlpbjdignhaaaGreatDoor
