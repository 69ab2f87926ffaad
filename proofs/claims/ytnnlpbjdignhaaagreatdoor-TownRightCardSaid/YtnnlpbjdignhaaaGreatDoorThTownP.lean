import Derived.Test.YtnnlpbjdignhaaaGreatDoorThCalmN
import Derived.Test.YtnnlpbjdignhaaaGreatDoorThPollN
import Derived.Test.YtnnlpbjdignhaaaGreatDoorThNet
namespace Go.Proofs.YtnnlpbjdignhaaaGreatDoor
open Go.Tx
set_option linter.unusedVariables false
set_option linter.unusedSimpArgs false
open Go.Tx Go.Proofs
structure JF where
 town:JbK
 reach:Int
 fates:List (List Int)
 events:List Jgj
deriving DecidableEq
def Jcw (t:JF) (k:Int):Bool:=decide (k ≥ 0) && decide (k < t.town.owners.length)
abbrev JbF (t:JF) (kind who n a:Int):JF:=⟨t.town,t.reach,t.fates,t.events ++ [⟨kind,who,n,a⟩]⟩
def Jog (t:JF):List Int:=if t.fates.length > 0 then t.fates[0]?.getD [] else [1]
def JbS (t:JF) (l:JV):JF:=⟨⟨t.town.clerk,t.town.owners,t.town.polls,if (Jam t.town.net l (Jog t)).2 = 0 then (Jam t.town.net l (Jog t)).1 else t.town.net⟩,t.reach,t.fates.drop 1,t.events⟩
theorem JqG {t:JF} (h:¬ 0 < t.fates.length) (l:JV):JbS t l = ⟨⟨t.town.clerk,t.town.owners,t.town.polls,if (Jam t.town.net l [1]).2 = 0 then (Jam t.town.net l [1]).1 else t.town.net⟩,t.reach,t.fates,t.events⟩:=by
 have h0:t.fates = []:=List.eq_nil_of_length_eq_zero (by omega)
 unfold JbS Jog
 rw [h0];rfl
theorem JqH {t:JF} (h:0 < t.fates.length) {f:List Int} (hf:t.fates[0]? = some f) (l:JV):JbS t l = ⟨⟨t.town.clerk,t.town.owners,t.town.polls,if (Jam t.town.net l f).2 = 0 then (Jam t.town.net l f).1 else t.town.net⟩,t.reach,t.fates.drop 1,t.events⟩:=by
 unfold JbS Jog
 rw [if_pos h,hf];rfl
def Jp (t:JF) (k:Int):JaX:=t.town.owners[k.toNat]?.getD JeJ
def Ja2 (t:JF) (k:Int):JbJ:=t.town.polls[k.toNat]?.getD JeE
theorem Jd5 {t:JF} {n:Nat} (h:n < t.town.owners.length):t.town.owners[n]? = some (Jp t (n:Int)):=by unfold Jp;rw [Int.toNat_natCast,List.getElem?_eq_getElem h];rfl
theorem JjJ {t:JF} {n:Nat} (h:n < t.town.polls.length):t.town.polls[n]? = some (Ja2 t (n:Int)):=by unfold Ja2;rw [Int.toNat_natCast,List.getElem?_eq_getElem h];rfl
def JbQ (t:JF) (d:JbE):JF :=
 if Jcw t d.who = false then t
 else if ¬ (JJ (Jp t d.who) d.value).2.2 = 0 ∨ Jdx (JJ (Jp t d.who) d.value).1.key (JJ (Jp t d.who) d.value).2.1 = false then t
 else if ¬ (Jat t.town.clerk (JJ (Jp t d.who) d.value).2.1).2.2 = 0 then t
 else ⟨⟨(Jat t.town.clerk (JJ (Jp t d.who) d.value).2.1).1,t.town.owners.set d.who.toNat (JJ (Jp t d.who) d.value).1,t.town.polls,t.town.net⟩,t.reach,t.fates,t.events ++ [⟨1,d.who,(Jp t d.who).wanted.length,(Jat t.town.clerk (JJ (Jp t d.who) d.value).2.1).2.1⟩]⟩
theorem tWant0 {t:JF} {d:JbE} (h:Jcw t d.who = false):JbQ t d = t:=by unfold JbQ;rw [if_pos h]
theorem tWant1 {t:JF} {d:JbE} {k:Int} (hk:d.who = k) (h0:Jcw t d.who = true) (h:¬ (JJ (Jp t k) d.value).2.2 = 0):JbQ t d = t:=by
 subst hk;unfold JbQ;rw [if_neg (by rw [h0];simp),if_pos (.inl h)]
theorem tWant2 {t:JF} {d:JbE} {k:Int} (hk:d.who = k) (h0:Jcw t d.who = true) (h:Jdx (JJ (Jp t k) d.value).1.key (JJ (Jp t k) d.value).2.1 = false):JbQ t d = t:=by
 subst hk;unfold JbQ;rw [if_neg (by rw [h0];simp),if_pos (.inr h)]
theorem tWant3 {t:JF} {d:JbE} {k:Int} (hk:d.who = k) (h0:Jcw t d.who = true) (h:¬ (Jat t.town.clerk (JJ (Jp t k) d.value).2.1).2.2 = 0):JbQ t d = t:=by
 subst hk;unfold JbQ;rw [if_neg (by rw [h0];simp)]
 split
 ·
  rfl
 ·
  rfl
theorem tWant4 {t:JF} {d:JbE} {k:Int} {n:Nat} (hk:d.who = k) (hn:k = (n:Int)) (h0:Jcw t d.who = true) (h1:(JJ (Jp t k) d.value).2.2 = 0) (h2:Jdx (JJ (Jp t k) d.value).1.key (JJ (Jp t k) d.value).2.1 = true) (h3:(Jat t.town.clerk (JJ (Jp t k) d.value).2.1).2.2 = 0) :
  JbQ t d = JbF ⟨⟨(Jat t.town.clerk (JJ (Jp t k) d.value).2.1).1,t.town.owners.set n (JJ (Jp t k) d.value).1,t.town.polls,t.town.net⟩,t.reach,t.fates,t.events⟩ 1 k (Jp t k).wanted.length (Jat t.town.clerk (JJ (Jp t k) d.value).2.1).2.1:=by
 subst hk;unfold JbQ
 rw [if_neg (by rw [h0];simp),if_neg (by rw [h2];simp [h1]),if_neg (by simpa using h3)]
 unfold JbF;rw [show d.who.toNat = n by omega]
def JcC (t:JF) (l:JV):JF:=⟨⟨t.town.clerk,t.town.owners.set l.to_.toNat (Jz (Jp t l.to_) l.heads l.reply).1,if (Jz (Jp t l.to_) l.heads l.reply).2.1 = 0 ∨ (Jz (Jp t l.to_) l.heads l.reply).2.1 = 1 then t.town.polls.set l.to_.toNat (JbI (Ja2 t l.to_) t.town.clerk.now).1 else t.town.polls,t.town.net⟩,t.reach,t.fates,t.events ++ [⟨2,l.to_,(Jz (Jp t l.to_) l.heads l.reply).2.1,(Jz (Jp t l.to_) l.heads l.reply).1.head.epoch⟩]⟩
def minI (a b:Int):Int:=if b < a then b else a
def maxI (a b:Int):Int:=if b > a then b else a
def Jcx (t:JF):Int:=(t.town.clerk.heads.length:Int) - 1
def Jch (t:JF) (l:JV):Int:=maxI (minI l.since (Jcx t)) 0
def Jea (t:JF) (l:JV):Int:=minI (Jch t l + t.reach - 1) (Jcx t)
def JaG (t:JF) (l:JV):JF:=if Jcw t l.from_ = false then t else JbS t ⟨l.from_,0,0,0,(Jc2 t.town.clerk (Jch t l) (Jea t l)).1,(JbB t.town.clerk (Jp t l.from_).name (Jea t l)).1⟩
def JfM (t:JF) (k:Int):JF:=JbS ⟨⟨t.town.clerk,t.town.owners,t.town.polls.set k.toNat (Jaq (Ja2 t k) t.town.clerk.now).1,t.town.net⟩,t.reach,t.fates,t.events⟩ ⟨-1,k,(Jp t k).head.epoch + 1,0,[],Jib⟩
def Jcn (t:JF) (k:Int):JF :=
 if ¬ (Jaq (Ja2 t k) t.town.clerk.now).2 = 0 then t
 else if JfL (Jaq (Ja2 t k) t.town.clerk.now).1 = true ∧ JfL (Ja2 t k) = false then JbF (JfM t k) 3 k 0 t.town.clerk.now else JfM t k
def Jeo (t:JF):JF:=⟨⟨(Jad t.town.clerk).1,t.town.owners,t.town.polls,(JX t.town.net).1⟩,t.reach,t.fates,t.events⟩
def JdT (t:JF) (l:JV):JF:=if l.to_ < 0 then JaG t l else JcC t l
def JcN (t:JF) (l:List JV):JF:=l.foldl JdT t
def Jgw (t:JF) (n:Nat):JF:=(List.range n).foldl (fun t (k:Nat)=>Jcn t (k:Int)) t
def Jb5 (t:JF):JF:=if (Jad t.town.clerk).1.now = t.town.clerk.now then t else Jgw (JcN (Jeo t) (JX t.town.net).2.1) (JcN (Jeo t) (JX t.town.net).2.1).town.owners.length
def JmB (l:JV) (k:Int):JV:=⟨k,l.from_,l.since,l.due,l.heads,l.reply⟩
def Jke (t:JF) (d:JbE):JF:=if Jcw t d.who = false then t else ⟨⟨t.town.clerk,t.town.owners,t.town.polls,if (Jam t.town.net (JmB d.letter d.who) [1]).2 = 0 then (Jam t.town.net (JmB d.letter d.who) [1]).1 else t.town.net⟩,t.reach,t.fates,t.events⟩
def tDo (t:JF) (d:JbE):JF:=if d.kind = 1 then JbQ t d else if d.kind = 2 then ⟨t.town,t.reach,t.fates ++ [d.fates],t.events⟩ else if d.kind = 3 then Jke t d else if d.kind = 4 then Jb5 t else t
structure JdH (t u:JF) (k:Nat):Prop where
 ev:∃ m,u.events = t.events ++ m ∧ m.length ≤ k
 own:u.town.owners.length = t.town.owners.length
 polls:u.town.polls.length = t.town.polls.length
 reach:u.reach = t.reach
theorem JdH.refl (t:JF) (k:Nat):JdH t t k:=⟨⟨[],by simp,by simp⟩,rfl,rfl,rfl⟩
theorem JdH.trans {t u v:JF} {j k:Nat} (h:JdH t u j) (h2:JdH u v k):JdH t v (j + k):=by
 obtain ⟨m,e,l⟩:=h.ev;obtain ⟨n,e2,l2⟩:=h2.ev
 exact ⟨⟨m ++ n,by rw [e2,e,List.append_assoc],by simp;omega⟩,h2.own.trans h.own,h2.polls.trans h.polls,h2.reach.trans h.reach⟩
theorem JdH.mono {t u:JF} {j k:Nat} (h:JdH t u j) (hk:j ≤ k):JdH t u k:=by
 obtain ⟨m,e,l⟩:=h.ev
 exact ⟨⟨m,e,Nat.le_trans l hk⟩,h.own,h.polls,h.reach⟩
theorem JdH.len {t u:JF} {k:Nat} (h:JdH t u k):u.events.length ≤ t.events.length + k ∧ t.events.length ≤ u.events.length:=by
 obtain ⟨m,e,l⟩:=h.ev;rw [e];simp;omega
theorem g_send (t:JF) (l:JV):JdH t (JbS t l) 0:=⟨⟨[],by simp [JbS],by simp⟩,rfl,rfl,rfl⟩
theorem g_want (t:JF) (d:JbE):JdH t (JbQ t d) 1:=by
 unfold JbQ
 split
 ·
  exact JdH.refl t 1
 split
 ·
  exact JdH.refl t 1
 split
 ·
  exact JdH.refl t 1
 ·
  exact ⟨⟨_,rfl,by simp⟩,by simp,rfl,rfl⟩
theorem JqI (t:JF) (l:JV):JdH t (JaG t l) 0:=by
 unfold JaG
 split
 ·
  exact JdH.refl t 0
 ·
  exact g_send t _
theorem g_see (t:JF) (l:JV):JdH t (JcC t l) 1:=by
 refine ⟨⟨_,rfl,by simp⟩,by simp [JcC],?_,rfl⟩
 unfold JcC;simp only
 split <;> simp
theorem JqJ (t:JF) (k:Int):JdH t (JfM t k) 0:=⟨⟨[],by simp [JfM,JbS],by simp⟩,rfl,by simp [JfM,JbS],rfl⟩
theorem g_ask (t:JF) (k:Int):JdH t (Jcn t k) 1:=by
 unfold Jcn
 split
 ·
  exact JdH.refl t 1
 split
 ·
  refine (JqJ t k).trans (k:=1) ⟨⟨_,rfl,by simp⟩,rfl,rfl,rfl⟩
 ·
  exact (JqJ t k).mono (by omega)
theorem JmC (t:JF) (l:JV):JdH t (JdT t l) 1:=by
 unfold JdT
 split
 ·
  exact (JqI t l).mono (by omega)
 ·
  exact g_see t l
theorem Jic:∀ (l:List JV) (t:JF),JdH t (JcN t l) l.length
 | [],t=>JdH.refl t 0
 | x :: l,t=>by
  have:=(JmC t x).trans (Jic l (JdT t x))
  exact this.mono (by simp;omega)
theorem Jkf (t:JF) (l:List JV) (x:JV):JcN t (l ++ [x]) = JdT (JcN t l) x:=by simp [JcN,List.foldl_append]
theorem JgZ {t:JF} {l:List JV} {i:Nat} {x:JV} (h:l[i]? = some x):JdT (JcN t (l.take i)) x = JcN t (l.take (i + 1)):=by
 rw [List.take_add_one,h,← Jkf];rfl
theorem Jfr (t:JF) (n:Nat):Jcn (Jgw t n) (n:Int) = Jgw t (n + 1):=by simp [Jgw,List.range_succ,List.foldl_append]
theorem Jnx (t:JF):∀ n,JdH t (Jgw t n) n
 | 0=>JdH.refl t 0
 | n + 1=>by rw [← Jfr];exact (Jnx t n).trans (g_ask _ _)
theorem JmD (n:Jeb):(JX n).2.1.length ≤ 60:=by
 unfold JX
 split
 ·
  simp
 split
 ·
  simp
 ·
  rename_i h1 h2
  have:=Jbw (Decidable.not_not.1 h1)
  have h3:=List.length_filter_le (fun l:JV=>decide (l.due = n.now + 1)) n.way
  simp only;omega
theorem g_tick {t:JF} (h:t.town.owners.length ≤ 4):JdH t (Jb5 t) 64:=by
 unfold Jb5
 split
 ·
  exact JdH.refl t 64
 ·
  have h1:JdH t (Jeo t) 0:=⟨⟨[],by simp [Jeo],by simp⟩,rfl,rfl,rfl⟩
  have h2:=h1.trans (Jic (JX t.town.net).2.1 (Jeo t))
  have h3:=h2.trans (Jnx (JcN (Jeo t) (JX t.town.net).2.1) (JcN (Jeo t) (JX t.town.net).2.1).town.owners.length)
  have h4:=JmD t.town.net
  exact h3.mono (by rw [h2.own];omega)
theorem g_say (t:JF) (d:JbE):JdH t (Jke t d) 0:=by
 unfold Jke
 split
 ·
  exact JdH.refl t 0
 ·
  exact ⟨⟨[],by simp,by simp⟩,rfl,rfl,rfl⟩
theorem g_do {t:JF} (h:t.town.owners.length ≤ 4) (d:JbE):JdH t (tDo t d) 64:=by
 unfold tDo
 split
 ·
  exact (g_want t d).mono (by omega)
 split
 ·
  exact ⟨⟨[],by simp,by simp⟩,rfl,rfl,rfl⟩
 split
 ·
  exact (g_say t d).mono (by omega)
 split
 ·
  exact g_tick h
 ·
  exact JdH.refl t 64
def Jcg (t:JF):Prop:=∀ l ∈ t.town.net.way,l.to_ < t.town.owners.length
theorem JiF {n:Jeb} {l x:JV} {f:List Int} (hk:(Jam n l f).2 = 0) (h:x ∈ (Jam n l f).1.way):x ∈ n.way ∨ x.to_ = l.to_:=by
 unfold Jam at hk h
 split at h
 ·
  simp [Jgv] at h
 split at h
 ·
  simp [Jgv] at h
 split at h
 ·
  simp [Jgv] at h
 ·
  simp only [List.mem_append,List.mem_map] at h
  rcases h with h | ⟨k,_,rfl⟩
  ·
   exact .inl h
  ·
   exact .inr rfl
theorem JmE {n:Jeb} {x:JV} (h:x ∈ (JX n).1.way):x ∈ n.way:=by
 unfold JX at h
 split at h
 ·
  simp [Jgv] at h
 split at h
 ·
  simp [Jgv] at h
 ·
  exact (List.mem_filter.1 h).1
theorem JjK {n:Jeb} {x:JV} (h:x ∈ (JX n).2.1):x ∈ n.way:=by
 unfold JX at h
 split at h
 ·
  simp at h
 split at h
 ·
  simp at h
 ·
  exact (List.mem_filter.1 h).1
theorem JqK {t:JF} {l:JV} (h:Jcg t) (hl:l.to_ < t.town.owners.length):Jcg (JbS t l):=by
 intro x hx
 unfold JbS at hx ⊢
 simp only at hx ⊢
 split at hx
 ·
  rename_i hk
  rcases JiF hk hx with h2 | h2
  ·
   exact h x h2
  ·
   omega
 ·
  exact h x hx
theorem Jfs {t:JF} {k:Int}:Jcw t k = true ↔ 0 ≤ k ∧ k < t.town.owners.length:=by unfold Jcw;simp
theorem w_want {t:JF} (h:Jcg t) (d:JbE):Jcg (JbQ t d):=by
 unfold JbQ
 split
 ·
  exact h
 split
 ·
  exact h
 split
 ·
  exact h
 ·
  intro x hx;have:=h x hx;simpa using this
theorem JqL {t:JF} (h:Jcg t) (l:JV):Jcg (JaG t l):=by
 unfold JaG
 split
 ·
  exact h
 ·
  rename_i h1
  exact JqK h (Jfs.1 (by simpa using h1)).2
theorem w_see {t:JF} (h:Jcg t) (l:JV):Jcg (JcC t l):=by
 intro x hx;have:=h x hx;simpa [JcC] using this
theorem JqM {t:JF} (h:Jcg t) (k:Int):Jcg (JfM t k):=by
 unfold JfM
 exact JqK (t:=⟨⟨t.town.clerk,t.town.owners,t.town.polls.set k.toNat (Jaq (Ja2 t k) t.town.clerk.now).1,t.town.net⟩,t.reach,t.fates,t.events⟩) h (by simp only;omega)
theorem w_ask {t:JF} (h:Jcg t) (k:Int):Jcg (Jcn t k):=by
 unfold Jcn
 split
 ·
  exact h
 split
 ·
  exact JqM h k
 ·
  exact JqM h k
theorem JqN {t:JF} (h:Jcg t) (l:JV):Jcg (JdT t l):=by
 unfold JdT
 split
 ·
  exact JqL h l
 ·
  exact w_see h l
theorem Jid:∀ (l:List JV) {t:JF},Jcg t → Jcg (JcN t l)
 | [],_,h=>h
 | x :: l,t,h=>Jid l (JqN h x)
theorem Jny {t:JF} (h:Jcg t):∀ n,Jcg (Jgw t n)
 | 0=>h
 | n + 1=>by rw [← Jfr];exact w_ask (Jny h n) _
theorem Joh {t:JF} (h:Jcg t):Jcg (Jeo t):=fun x hx=>h x (JmE hx)
theorem w_tick {t:JF} (h:Jcg t):Jcg (Jb5 t):=by
 unfold Jb5
 split
 ·
  exact h
 ·
  exact Jny (Jid _ (Joh h)) _
theorem w_say {t:JF} (h:Jcg t) (d:JbE):Jcg (Jke t d):=by
 unfold Jke
 split
 ·
  exact h
 ·
  rename_i h1
  have h2:=(Jfs.1 (by simpa using h1:Jcw t d.who = true)).2
  intro x hx
  simp only at hx ⊢
  split at hx
  ·
   rename_i hk
   rcases JiF hk hx with h3 | h3
   ·
    exact h x h3
   ·
    rw [h3];exact h2
  ·
   exact h x hx
theorem w_do {t:JF} (h:Jcg t) (d:JbE):Jcg (tDo t d):=by
 unfold tDo
 split
 ·
  exact w_want h d
 split
 ·
  exact h
 split
 ·
  exact w_say h d
 split
 ·
  exact w_tick h
 ·
  exact h
def Jf8 (t:JF) (l:List JbE):JF:=l.foldl tDo t
theorem Jpk {t:JF} {l:List JbE} {i:Nat} {d:JbE} (h:l[i]? = some d):tDo (Jf8 t (l.take i)) d = Jf8 t (l.take (i + 1)):=by
 unfold Jf8;rw [List.take_add_one,h];simp [List.foldl_append]
theorem g_dos:∀ (l:List JbE) {t:JF},t.town.owners.length ≤ 4 → JdH t (Jf8 t l) (64 * l.length)
 | [],t,_=>JdH.refl t 0
 | d :: l,t,h=>by
  have h1:=g_do h d
  have h2:=g_dos l (t:=tDo t d) (by rw [h1.own];exact h)
  exact (h1.trans h2).mono (by simp;omega)
def nmE:List (List UInt8) → List (List UInt8) → Int
 | _,[]=>0
 | p,n :: l=>if JaC n = false ∨ (p.any fun x=>decide (n = x)) = true then 3 else nmE (p ++ [n]) l
def Jdj (s:JaE) (h:JS):List JaX:=(s.names.zip s.keys).map fun x=>(JD x.1 x.2 h).1
def Jbf (s:JaE):Int:=if ¬ (Jak s.most s.batch s.every).2 = 0 then (Jak s.most s.batch s.every).2 else if s.names.length > 4 then 2 else if ¬ s.keys.length = s.names.length then 3 else if ¬ nmE [] s.names = 0 then nmE [] s.names else if ¬ (JbW s.least s.top s.lost).2 = 0 then (JbW s.least s.top s.lost).2 else if s.reach < 1 ∨ s.reach > 40 then 4 else 0
def Jbp (s:JaE):JF:=⟨⟨(Jak s.most s.batch s.every).1,Jdj s (Jck (Jak s.most s.batch s.every).1.heads),List.replicate (Jdj s (Jck (Jak s.most s.batch s.every).1.heads)).length (JbW s.least s.top s.lost).1,⟨0,[]⟩⟩,s.reach,[],[]⟩
def Jg0 (s:JaE) (l:List JbE):Int:=if ¬ Jbf s = 0 then Jbf s else if l.length > 200 then 2 else 0
def Joi:JbK:=⟨Jdq,[],[],⟨0,[]⟩⟩
def J5 (s:JaE) (l:List JbE):JbK × List Jgj × Int:=if ¬ Jg0 s l = 0 then (Joi,[],Jg0 s l) else ((Jf8 (Jbp s) l).town,(Jf8 (Jbp s) l).events,0)
theorem JgI {s:JaE} (h:Jbf s = 0):s.names.length ≤ 4 ∧ s.keys.length = s.names.length ∧ nmE [] s.names = 0 ∧ (Jak s.most s.batch s.every).2 = 0 ∧ (JbW s.least s.top s.lost).2 = 0 ∧ 1 ≤ s.reach ∧ s.reach ≤ 40:=by
 unfold Jbf at h
 split at h
 ·
  contradiction
 split at h
 ·
  cases h
 split at h
 ·
  cases h
 split at h
 ·
  contradiction
 split at h
 ·
  contradiction
 split at h
 ·
  cases h
 ·
  rename_i h1 h2 h3 h4 h5 h6
  exact ⟨by omega,Decidable.not_not.1 h3,Decidable.not_not.1 h4,Decidable.not_not.1 h1,Decidable.not_not.1 h5,by omega,by omega⟩
theorem JhH {s:JaE} (h:Jbf s = 0) (x:JS):(Jdj s x).length = s.names.length:=by
 have:=JgI h
 unfold Jdj;rw [List.length_map,List.length_zip];omega
theorem Jrs {s:JaE} {l:List JbE} (h:(J5 s l).2.2 = 0):Jbf s = 0 ∧ l.length ≤ 200 ∧ J5 s l = ((Jf8 (Jbp s) l).town,(Jf8 (Jbp s) l).events,0):=by
 unfold J5 at h ⊢
 split at h
 ·
  contradiction
 ·
  rename_i h1
  rw [if_neg h1]
  have h2:=Decidable.not_not.1 h1
  unfold Jg0 at h2
  split at h2
  ·
   contradiction
  split at h2
  ·
   cases h2
  ·
   rename_i a b;exact ⟨Decidable.not_not.1 a,by omega,rfl⟩
theorem JqO {s:JaE} {l:List JbE} (h:¬ (J5 s l).2.2 = 0):J5 s l = (Joi,[],Jg0 s l):=by
 unfold J5 at h ⊢
 split
 ·
  rfl
 ·
  rename_i h1;rw [if_neg h1] at h;exact absurd rfl h
structure Jc7 (s:JaE) (t:JF):Prop where
 clerk:JcP t.town.clerk
 net:JaF t.town.net = 0
 now:t.town.net.now = t.town.clerk.now
 own:∀ (i:Nat) o,t.town.owners[i]? = some o → JH o = 0 ∧ s.names[i]? = some o.name ∧ s.keys[i]? = some o.key
 poll:∀ (i:Nat) p,t.town.polls[i]? = some p → Jab p = 0
theorem Joj {n:Jeb} (h:JaF n = 0):∀ l ∈ n.way,n.now < l.due:=by
 unfold JaF at h
 split at h
 ·
  cases h
 split at h
 ·
  cases h
 split at h
 ·
  cases h
 ·
  rename_i h3
  intro l hl
  have:¬ JiO l n = true:=fun e=>h3 (List.any_eq_true.2 ⟨l,hl,e⟩)
  unfold JiO at this
  simp at this;omega
theorem Jnz {n:Jeb} (h1:0 ≤ n.now) (h2:n.now ≤ 1000000000) (h3:n.way.length ≤ 60) (h4:∀ l ∈ n.way,n.now < l.due):JaF n = 0:=by
 unfold JaF
 rw [if_neg (by omega),if_neg (by omega),if_neg]
 rw [List.any_eq_true]
 rintro ⟨l,hl,e⟩
 have:=h4 l hl
 unfold JiO at e
 simp at e;omega
theorem JeO {n:Jeb} {l:JV} {f:List Int} (h:(Jam n l f).2 = 0):JaF (Jam n l f).1 = 0 ∧ (Jam n l f).1.now = n.now:=by
 unfold Jam at h ⊢
 split at h
 ·
  contradiction
 split at h
 ·
  cases h
 split at h
 ·
  cases h
 ·
  rename_i h1 h2 h3
  rw [if_neg h1,if_neg h2,if_neg h3]
  have hc:=Jbw (Decidable.not_not.1 h1)
  have ha:=Joj (Decidable.not_not.1 h1)
  refine ⟨Jnz (by simp only;omega) (by simp only;omega) (by simp only [List.length_append,List.length_map];omega) (fun x hx=>?_),rfl⟩
  simp only [List.mem_append,List.mem_map] at hx
  rcases hx with hx | ⟨k,hk,rfl⟩
  ·
   exact ha x hx
  ·
   have:¬ JeC k = true:=fun e=>h2 (List.any_eq_true.2 ⟨k,hk,e⟩)
   unfold JeC at this
   simp at this
   show n.now < n.now + k
   omega
theorem Jg1 {n:Jeb} (h:JaF n = 0) (hn:¬ n.now = 1000000000):JaF (JX n).1 = 0 ∧ (JX n).1.now = n.now + 1:=by
 have hc:=Jbw h
 have ha:=Joj h
 unfold JX
 rw [if_neg (by omega),if_neg hn]
 refine ⟨Jnz (by simp only;omega) (by simp only;omega) ?_ (fun x hx=>?_),rfl⟩
 ·
  have:=List.length_filter_le (fun l:JV=>!decide (l.due = n.now + 1)) n.way
  simp only;omega
 ·
  have hx':=List.mem_filter.1 hx
  have h1:=ha x hx'.1
  have h2:¬ x.due = n.now + 1:=by simpa using hx'.2
  simp only;omega
theorem Ji5 {α:Type} {l:List α} {k i:Nat} {v x:α} (h:(l.set k v)[i]? = some x):(k = i ∧ x = v ∧ k < l.length) ∨ (k ≠ i ∧ l[i]? = some x):=by
 by_cases e:k = i
 ·
  subst e
  have hl:=(List.getElem?_eq_some_iff.1 h).1
  rw [List.length_set] at hl
  rw [List.getElem?_set_self hl] at h
  exact .inl ⟨rfl,(Option.some.inj h).symm,hl⟩
 ·
  rw [List.getElem?_set_ne e] at h;exact .inr ⟨e,h⟩
theorem JiG {t:JF} {k:Int} (h:k.toNat < t.town.owners.length):t.town.owners[k.toNat]? = some (Jp t k):=by unfold Jp;rw [List.getElem?_eq_getElem h];rfl
theorem JnA {t:JF} {k:Int} (h:k.toNat < t.town.polls.length):t.town.polls[k.toNat]? = some (Ja2 t k):=by unfold Ja2;rw [List.getElem?_eq_getElem h];rfl
theorem JqP {s:JaE} {t:JF} (h:Jc7 s t) (l:JV):Jc7 s (JbS t l):=by
 refine ⟨h.clerk,?_,?_,h.own,h.poll⟩ <;> (unfold JbS;simp only;split)
 ·
  rename_i hk;exact (JeO hk).1
 ·
  exact h.net
 ·
  rename_i hk;rw [(JeO hk).2];exact h.now
 ·
  exact h.now
theorem i_want {s:JaE} {t:JF} (h:Jc7 s t) (d:JbE):Jc7 s (JbQ t d):=by
 unfold JbQ
 split
 ·
  exact h
 rename_i h0
 split
 ·
  exact h
 split
 ·
  exact h
 ·
  rename_i h1 h2
  simp only [not_or,Bool.not_eq_false] at h1
  have hw:=Decidable.not_not.1 h1.1
  have ha:=Decidable.not_not.1 h2
  have hd:=Jfs.1 (by simpa using h0:Jcw t d.who = true)
  obtain ⟨w1,w2,w3,w4,w5⟩:=Jlm hw
  have hnow:(Jat t.town.clerk (JJ (Jp t d.who) d.value).2.1).1.now = t.town.clerk.now:=by rw [(Jiy ha).2.2.2.2]
  refine ⟨JjF ha,h.net,by simp only;rw [hnow];exact h.now,fun i o ho=>?_,h.poll⟩
  rcases Ji5 ho with ⟨rfl,rfl,_⟩ | ⟨_,ho⟩
  ·
   obtain ⟨q1,q2,q3⟩:=h.own _ _ (JiG (k:=d.who) (by omega))
   refine ⟨w5.1,?_,?_⟩ <;> rw [w4]
   ·
    exact q2
   ·
    exact q3
  ·
   exact h.own i o ho
theorem Jpl {o:JaX} {l:List JS} {r:Jct} (h:JH o = 0):JH (Jz o l r).1 = 0 ∧ (Jz o l r).1.name = o.name ∧ (Jz o l r).1.key = o.key ∧ (Jz o l r).1.wanted = o.wanted:=by
 by_cases hv:(JR o l r).1 = 0
 ·
  have e:Jz o l r = (⟨o.name,o.key,r.head,o.wanted,(JR o l r).2⟩,0,0):=by unfold Jz;rw [if_neg (by omega),if_pos hv]
  have h1:(Jz o l r).2.2 = 0:=by rw [e]
  have h2:(Jz o l r).2.1 = 0:=by rw [e]
  exact ⟨(Jqv h1 h2).2.2.2.2.1,by rw [e],by rw [e],by rw [e]⟩
 ·
  have e:Jz o l r = (o,(JR o l r).1,0):=by unfold Jz;rw [if_neg (by omega),if_neg hv]
  rw [e];exact ⟨h,rfl,rfl,rfl⟩
theorem JiH {p:JbJ} {now:Int} (h:Jab p = 0) (h1:0 ≤ now) (h2:now ≤ 1000000000):Jab (JbI p now).1 = 0:=by
 have hp:=(JcY p).1 h
 have ha:Jas p now = 0:=(Jhf p now).2 ⟨hp,h1,h2⟩
 unfold JbI
 rw [if_neg (by omega)]
 simp only
 rw [JcY]
 unfold Jen at hp ⊢
 unfold JaS
 simp only
 (repeat' split) <;> omega
theorem i_see {s:JaE} {t:JF} (h:Jc7 s t) {l:JV} (h0:0 ≤ l.to_) (h1:l.to_ < t.town.owners.length):Jc7 s (JcC t l):=by
 refine ⟨h.clerk,h.net,h.now,fun i o ho=>?_,fun i p hp=>?_⟩
 ·
  rcases Ji5 ho with ⟨rfl,rfl,_⟩ | ⟨_,ho⟩
  ·
   obtain ⟨q1,q2,q3⟩:=h.own _ _ (JiG (k:=l.to_) (by omega))
   obtain ⟨k1,k2,k3,_⟩:=Jpl (l:=l.heads) (r:=l.reply) q1
   exact ⟨k1,by rw [k2];exact q2,by rw [k3];exact q3⟩
  ·
   exact h.own i o ho
 ·
  unfold JcC at hp
  simp only at hp
  split at hp
  ·
   rcases Ji5 hp with ⟨rfl,rfl,hl⟩ | ⟨_,hp⟩
   ·
    exact JiH (h.poll _ _ (JnA hl)) h.clerk.now.1 h.clerk.now.2
   ·
    exact h.poll i p hp
  ·
   exact h.poll i p hp
theorem JqQ {s:JaE} {t:JF} (h:Jc7 s t) (l:JV):Jc7 s (JaG t l):=by
 unfold JaG
 split
 ·
  exact h
 ·
  exact JqP h _
theorem JqR {s:JaE} {t:JF} (h:Jc7 s t) {l:JV} (h1:l.to_ < t.town.owners.length):Jc7 s (JdT t l):=by
 unfold JdT
 split
 ·
  exact JqQ h l
 ·
  exact i_see h (by omega) h1
theorem Jie {s:JaE}:∀ (l:List JV) {t:JF},Jc7 s t → (∀ x ∈ l,x.to_ < t.town.owners.length) → Jc7 s (JcN t l)
 | [],_,h,_=>h
 | x :: l,t,h,hl=>Jie l (JqR h (hl x (by simp))) (fun y hy=>by rw [(JmC t x).own];exact hl y (by simp [hy]))
theorem i_sent {s:JaE} {t:JF} (h:Jc7 s t) {k:Int} (hk:(Jaq (Ja2 t k) t.town.clerk.now).2 = 0):Jc7 s (JfM t k):=by
 unfold JfM
 refine JqP (t:=⟨⟨t.town.clerk,t.town.owners,t.town.polls.set k.toNat (Jaq (Ja2 t k) t.town.clerk.now).1,t.town.net⟩,t.reach,t.fates,t.events⟩) ⟨h.clerk,h.net,h.now,h.own,fun i p hp=>?_⟩ _
 rcases Ji5 hp with ⟨rfl,rfl,_⟩ | ⟨_,hp⟩
 ·
  have:=JiB hk;omega
 ·
  exact h.poll i p hp
theorem i_ask {s:JaE} {t:JF} (h:Jc7 s t) (k:Int):Jc7 s (Jcn t k):=by
 unfold Jcn
 split
 ·
  exact h
 rename_i h1
 have h2:=i_sent h (Decidable.not_not.1 h1)
 split
 ·
  exact ⟨h2.clerk,h2.net,h2.now,h2.own,h2.poll⟩
 ·
  exact h2
theorem JnB {s:JaE} {t:JF} (h:Jc7 s t):∀ n,Jc7 s (Jgw t n)
 | 0=>h
 | n + 1=>by rw [← Jfr];exact i_ask (JnB h n) _
theorem i_tick {s:JaE} {t:JF} (h:Jc7 s t) (hw:Jcg t):Jc7 s (Jb5 t):=by
 unfold Jb5
 split
 ·
  exact h
 ·
  rename_i h1
  obtain ⟨t0,tk⟩:=JhE h.clerk
  have hn:JcQ t.town.clerk = false ∧ (Jad t.town.clerk).1.now = t.town.clerk.now + 1:=by
   rcases JgU h.clerk with q | q
   ·
    exact absurd q.1 h1
   ·
    exact q
  have hne:¬ t.town.net.now = 1000000000:=by
   rw [h.now]
   have:=hn.1;unfold JcQ at this
   simp only [Bool.or_eq_false_iff,decide_eq_false_iff_not] at this
   exact this.2
  obtain ⟨n1,n2⟩:=Jg1 h.net hne
  have hT:Jc7 s (Jeo t):=⟨tk.ok,n1,by show (JX t.town.net).1.now = (Jad t.town.clerk).1.now;rw [n2,hn.2,h.now],h.own,h.poll⟩
  exact JnB (Jie _ hT (fun x hx=>hw x (JjK hx))) _
theorem i_do {s:JaE} {t:JF} (h:Jc7 s t) (hw:Jcg t) (d:JbE):Jc7 s (tDo t d):=by
 unfold tDo
 split
 ·
  exact i_want h d
 split
 ·
  exact ⟨h.clerk,h.net,h.now,h.own,h.poll⟩
 split
 ·
  unfold Jke
  split
  ·
   exact h
  ·
   refine ⟨h.clerk,?_,?_,h.own,h.poll⟩ <;> (simp only;split)
   ·
    rename_i hk;exact (JeO hk).1
   ·
    exact h.net
   ·
    rename_i hk;rw [(JeO hk).2];exact h.now
   ·
    exact h.now
 split
 ·
  exact i_tick h hw
 ·
  exact h
theorem i_dos {s:JaE}:∀ (l:List JbE) {t:JF},Jc7 s t → Jcg t → Jc7 s (Jf8 t l)
 | [],_,h,_=>h
 | d :: l,_,h,hw=>i_dos l (i_do h hw d) (w_do hw d)
theorem Jgx {m b e:Int} (h:(Jak m b e).2 = 0):JcP (Jak m b e).1 ∧ (Jak m b e).1.now = 0 ∧ (Jak m b e).1.books = [[]] ∧ (Jak m b e).1.queue.wait = [] ∧ (Jak m b e).1.heads.length = 1:=by
 unfold Jak at h ⊢
 split at h
 ·
  cases h
 ·
  rename_i h1
  rw [if_neg h1]
  simp only [not_or,Bool.not_eq_false] at h1
  obtain ⟨a1,a2,a3⟩:=h1
  have b1:=JeK.1 a1;have b2:=JeK.1 a2;have b3:=JeK.1 a3
  have hT:Jda []:=⟨by simp,by simp,by simp⟩
  have hroot:=Jjx (q:=[]) hT (by simp) (by simp)
  have hb:=Jix (Jai [] []) []
  have hc:JC ⟨0,(JO [] []).1,0,0⟩ = 0:=by
   rw [hroot];unfold JC;simp only
   rw [if_neg (by omega),if_neg (by simp)]
  have hf:JaN (JO [] []).1 0 = (⟨0,(JO [] []).1,0,0⟩,0):=by unfold JaN;rw [if_neg (by omega)]
  rw [hf]
  refine ⟨⟨JaY.2 ⟨by simp only;omega,by simp only;omega,by simp;omega,by simp⟩,b2,b3,⟨by simp,by simp⟩,⟨by simp,by simp,?_,?_⟩,rfl,rfl,by simp [JcO],?_,?_⟩,rfl,rfl,rfl,rfl⟩
  ·
   intro x hx;simp at hx;rw [hx];exact hc
  ·
   intro k x y hx hy;have:=(List.getElem?_eq_some_iff.1 hy).1;simp at this
  ·
   intro k x hx
   have hk:k = 0:=by have:=(List.getElem?_eq_some_iff.1 hx).1;simp at this;exact this
   subst hk
   simp at hx
   subst hx
   exact ⟨by rw [hroot],by simp⟩
  ·
   simp [JfA,Jbt,Ja0,JbD,nn,dd]
theorem Jok:∀ (l p:List (List UInt8)),nmE p l = 0 → (∀ n ∈ l,JaC n = true) ∧ l.Nodup ∧ ∀ n ∈ l,n ∉ p
 | [],_,_=>by simp
 | n :: l,p,h=>by
  unfold nmE at h
  split at h
  ·
   cases h
  ·
   rename_i h1
   simp only [not_or,Bool.not_eq_false] at h1
   obtain ⟨q1,q2,q3⟩:=Jok l (p ++ [n]) h
   have hn:n ∉ p:=fun hp=>h1.2 (List.any_eq_true.2 ⟨n,hp,by simp⟩)
   refine ⟨fun x hx=>?_,List.nodup_cons.2 ⟨fun hx=>(q3 n hx) (by simp),q2⟩,fun x hx=>?_⟩
   ·
    rcases List.mem_cons.1 hx with rfl | hx
    ·
     exact h1.1
    ·
     exact q1 x hx
   ·
    rcases List.mem_cons.1 hx with rfl | hx
    ·
     exact hn
    ·
     exact fun hp=>q3 x hx (by simp [hp])
theorem Jlv {s:JaE} {h:JS} {i:Nat} {o:JaX} (hh:JC h = 0) (hn:nmE [] s.names = 0) (ho:(Jdj s h)[i]? = some o):JH o = 0 ∧ s.names[i]? = some o.name ∧ s.keys[i]? = some o.key ∧ o.head = h ∧ o.wanted = [] ∧ o.had = 0:=by
 unfold Jdj at ho
 rw [List.getElem?_map,Option.map_eq_some_iff] at ho
 obtain ⟨⟨n,k⟩,hz,rfl⟩:=ho
 rw [List.getElem?_zip_eq_some] at hz
 obtain ⟨z1,z2⟩:=hz
 have hp:=(Jok _ _ hn).1 n (List.mem_of_getElem? z1)
 have hc:JH ⟨n,k,h,[],0⟩ = 0:=JaZ.2 ⟨hp,hh,by simp,by simp,by simp,by simp⟩
 have e:JD n k h = (⟨n,k,h,[],0⟩,0):=by unfold JD;rw [if_neg (by omega)]
 simp only [e]
 exact ⟨hc,z1,z2,by simp⟩
theorem JiI {s:JaE} (h:Jbf s = 0):Jc7 s (Jbp s) ∧ Jcg (Jbp s) ∧ (Jbp s).town.owners.length = s.names.length ∧ (Jbp s).town.polls.length = s.names.length:=by
 obtain ⟨b1,b2,b3,b4,b5,b6,b7⟩:=JgI h
 obtain ⟨c1,c2,c3,c4,c5⟩:=Jgx b4
 have hf:JC (Jck (Jak s.most s.batch s.every).1.heads) = 0:=c1.chain.ok _ (List.mem_of_getElem? c1.chain.first)
 refine ⟨⟨c1,?_,?_,?_,?_⟩,?_,JhH h _,?_⟩
 ·
  show JaF ⟨0,[]⟩ = 0;exact Jnz (by simp) (by simp) (by simp) (by simp)
 ·
  show (0:Int) = (Jak s.most s.batch s.every).1.now;exact c2.symm
 ·
  intro i o ho
  obtain ⟨q1,q2,q3,_⟩:=Jlv hf b3 ho
  exact ⟨q1,q2,q3⟩
 ·
  intro i p hp
  have:=List.mem_of_getElem? hp
  have:=(List.mem_replicate.1 this).2
  rw [this]
  obtain ⟨q1,q2⟩:=JjI b5
  rw [q2];exact Jf5 q1
 ·
  intro l hl;simp [Jbp] at hl
 ·
  show (List.replicate _ _).length = _;rw [List.length_replicate];exact JhH h _
theorem JdP {s:JaE} {l:List JbE} (h:(J5 s l).2.2 = 0):J4 (J5 s l).1.clerk = 0 ∧ JaF (J5 s l).1.net = 0 ∧ (J5 s l).1.net.now = (J5 s l).1.clerk.now ∧ (J5 s l).1.owners.length = s.names.length ∧ (J5 s l).1.polls.length = s.names.length ∧ s.keys.length = s.names.length ∧
  (∀ (i:Nat) o,(J5 s l).1.owners[i]? = some o → JH o = 0 ∧ s.names[i]? = some o.name ∧ s.keys[i]? = some o.key) ∧ ∀ (i:Nat) p,(J5 s l).1.polls[i]? = some p → Jab p = 0:=by
 obtain ⟨h1,h2,h3⟩:=Jrs h
 obtain ⟨b1,b2,b3,b4⟩:=JiI h1
 have hi:=i_dos l b1 b2
 have hb:=JgI h1
 have hg:=g_dos l (t:=Jbp s) (by rw [b3];exact hb.1)
 rw [h3]
 exact ⟨JdB.2 hi.clerk,hi.net,hi.now,hg.own.trans b3,hg.polls.trans b4,hb.2.1,hi.own,hi.poll⟩
abbrev JQ (x:JF) (a0:Option Addr) (c0:Nat) (a1:Option Addr) (c1:Nat) (a2:Option Addr) (c2:Nat) (a3:Option Addr) (c3:Nat) (a4:Option Addr) (c4:Nat) (a5:Option Addr) (c5:Nat) (a6:Option Addr) (c6:Nat) (a7:Option Addr) (c7:Nat):List Value:=[I x.town.clerk.queue.most,Sl a0 x.town.clerk.queue.wait.length c0,I x.town.clerk.batch,I x.town.clerk.every,I x.town.clerk.now,Sl a1 x.town.clerk.heads.length c1,Sl a2 x.town.clerk.books.length c2,Sl a3 x.town.owners.length c3,Sl a4 x.town.polls.length c4,I x.town.net.now,Sl a5 x.town.net.way.length c5,I x.reach,Sl a6 x.fates.length c6,Sl a7 x.events.length c7]
abbrev vTownT (x:JF) (a0:Option Addr) (c0:Nat) (a1:Option Addr) (c1:Nat) (a2:Option Addr) (c2:Nat) (a3:Option Addr) (c3:Nat) (a4:Option Addr) (c4:Nat) (a5:Option Addr) (c5:Nat) (a6:Option Addr) (c6:Nat) (a7:Option Addr) (c7:Nat):Value:=.agg #[I x.town.clerk.queue.most,Sl a0 x.town.clerk.queue.wait.length c0,I x.town.clerk.batch,I x.town.clerk.every,I x.town.clerk.now,Sl a1 x.town.clerk.heads.length c1,Sl a2 x.town.clerk.books.length c2,Sl a3 x.town.owners.length c3,Sl a4 x.town.polls.length c4,I x.town.net.now,Sl a5 x.town.net.way.length c5,I x.reach,Sl a6 x.fates.length c6,Sl a7 x.events.length c7]
end Go.Proofs.YtnnlpbjdignhaaaGreatDoor
