import Derived.Test.YteaampgpgokjmaaGreatDoorTdC
import Derived.Maps.Own
import Derived.CallsIn
import Derived.Shelf.SlIter.Collect
set_option linter.unusedVariables false
set_option linter.unusedSimpArgs false
namespace Go.Proofs.YteaampgpgokjmaaGreatDoor
open Go.Tx
theorem JiV {p q r s:List UInt8} (hp:p.length≤600) (hq:q.length≤600) (h:Jc5 p++r=Jc5 q++s):p=q∧r=s:=by
 have e1:=JfC p r hp
 rw [h,JfC q s hq] at e1
 simp only [Prod.mk.injEq] at e1
 exact ⟨e1.1.symm,e1.2.1.symm⟩
theorem Jdk {n v:List UInt8} (h:Ks n v=0):n.length≤12∧v.length≤20∧KN n=true:=by
 unfold Ks at h
 split at h
 · cases h
 rename_i h1
 split at h
 · cases h
 have h2:KN n=true:=by simpa using h1
 have:=(Jhl.1 h2).2.1
 exact ⟨this,by omega,h2⟩
theorem JhE {x:J2} (h:Ks x.name x.value=0):Jda x=Jc5 x.name++Jc5 x.value:=by
 obtain ⟨h1,h2,_⟩:=Jdk h
 have e:(Jbt [x.name,x.value])=Jc5 x.name++Jc5 x.value:=by simp [Jbt]
 have l:∀ p:List UInt8,(Jc5 p).length=2+p.length:=fun p=>by simp [Jc5];omega
 unfold Jda
 rw [Jpp (by simp) (by rw [e,List.length_append,l,l];omega),e]
theorem Jn7 {x y:J2} {r s:List UInt8} (hx:Ks x.name x.value=0) (hy:Ks y.name y.value=0) (h:Jda x++r=Jda y++s):x=y∧r=s:=by
 rw [JhE hx,JhE hy,List.append_assoc,List.append_assoc] at h
 have hx':=Jdk hx;have hy':=Jdk hy
 obtain ⟨e1,h⟩:=JiV (by omega) (by omega) h
 obtain ⟨e2,h⟩:=JiV (by omega) (by omega) h
 exact ⟨Jpf.2 ⟨e1,e2⟩,h⟩
theorem Jlg {x:J2} (hx:Ks x.name x.value=0) (r:List UInt8):Jda x++r ≠ []:=by
 rw [JhE hx];simp [Jc5]
theorem JiW:∀ (l m:List J2),(∀ x∈l,Ks x.name x.value=0)→(∀ x∈m,Ks x.name x.value=0)→(l.map Jda).flatten=(m.map Jda).flatten→l=m
 | [],[],_,_,_=>rfl
 | [],y::m,_,hm,h=>by
  rw [List.map_cons,List.flatten_cons] at h
  exact absurd h.symm (Jlg (hm y (List.mem_cons_self ..)) _)
 | x::l,[],hl,_,h=>by
  rw [List.map_cons,List.flatten_cons] at h
  exact absurd h (Jlg (hl x (List.mem_cons_self ..)) _)
 | x::l,y::m,hl,hm,h=>by
  simp only [List.map_cons,List.flatten_cons] at h
  obtain ⟨e,h⟩:=Jn7 (hl x (List.mem_cons_self ..)) (hm y (List.mem_cons_self ..)) h
  rw [e,JiW l m (fun z hz=>hl z (List.mem_cons_of_mem _ hz)) (fun z hz=>hm z (List.mem_cons_of_mem _ hz)) h]
theorem Jn8 {l m:List J2} (hl:Zn l) (hm:Zn m) (h:KR l=KR m):l=m:=by
 unfold KR at h
 by_cases h1:l.length=0 <;> by_cases h2:m.length=0
 · rw [List.eq_nil_of_length_eq_zero h1,List.eq_nil_of_length_eq_zero h2]
 · rw [if_pos h1,if_neg h2] at h;simp at h
 · rw [if_neg h1,if_pos h2] at h;simp at h
 ·
  rw [if_neg h1,if_neg h2] at h
  simp only [List.singleton_append,List.cons.injEq,true_and] at h
  exact JiW l m hl.ok hm.ok h
theorem Jmy {l:List J2} {w:List UInt8} (h:Zn l) (hw:∀ x∈l,way x.name=w):J9 l=(KR l,0):=by
 unfold J9
 rw [if_neg (by rw [ne_eq,Decidable.not_not];exact K6.2 h),if_neg]
 rintro ⟨h1,h2⟩
 have e1:l[0]? = some (l[0]'(by omega)):=List.getElem?_eq_getElem _
 have e2:l[l.length-1]? = some (l[l.length-1]'(by omega)):=List.getElem?_eq_getElem _
 rw [← JcG e1,← JdU e2,hw _ (List.mem_of_getElem? e1),hw _ (List.mem_of_getElem? e2)] at h2
 exact h2 rfl
theorem JiX {a b c d:Int} (ha:0≤a∧a<2305843009213693951) (hb:0≤b∧b<2305843009213693951) (hc:0≤c∧c<2305843009213693951) (hd:0≤d∧d<2305843009213693951) (h:Jfs a b=Jfs c d):a=c∧b=d:=by
 unfold Jfs at h
 have e:Jfr=[0]:=by unfold Jfr;rw [JhA]
 split at h <;> split at h
 · rename_i h1 h2;exact ⟨h1.1.trans h2.1.symm,h1.2.trans h2.2.symm⟩
 · have:=congrArg List.length h;rw [W3,e] at this;simp at this
 · have:=congrArg List.length h;rw [W3,e] at this;simp at this
 ·
  have q:=Jhk (k:=2) (a:=a) (b:=b) (j:=2) (c:=c) (d:=d) (by omega) (by omega) (by omega) (by omega) (by omega) (by omega)
  rw [beq_iff_eq.2 h] at q
  simpa using q.symm
theorem Jmz {w s t:List UInt8} {i:Nat} {q r:Int} (hq:0≤q∧q<2305843009213693951) (hr:0≤r∧r<2305843009213693951) (h:Va w i s q=Va w i t r):Jg s=Jg t∧q=r:=by
 unfold Va at h
 split at h
 · obtain ⟨h1,h2⟩:=JiX hq (Qo s) hr (Qo t) h;exact ⟨h2,h1⟩
 · exact JiX (Qo s) hq (Qo t) hr h
theorem JfD (w:List UInt8):∀ (qs:List Int) (i:Nat) (s:List UInt8) (k:Nat),k≤qs.length→∃ a,(Jal w i s qs)[k]? = some a
 | qs,i,s,k,h=>⟨_,List.getElem?_eq_getElem (by rw [Zf];omega)⟩
theorem Jlh {w:List UInt8} {p q:List Int} {s t:List UInt8} (hl:p.length=q.length) (hp:∀ m∈p,0≤m∧m<2305843009213693951) (hq:∀ m∈q,0≤m∧m<2305843009213693951) :
  ∀ k,k≤p.length→(∀ a b,(Jal w 0 s p)[k]? = some a→(Jal w 0 t q)[k]? = some b→Jg a=Jg b)→(tGo (Jal w 0 s p) (Jal w 0 t q) (k+1)).2.2=0∨s=t
 | k,hk,hm=>by
  obtain ⟨a,ha⟩:=JfD w p 0 s k hk
  obtain ⟨b,hb⟩:=JfD w q 0 t k (by omega)
  by_cases e:a=b
  ·
   rw [JiM ha hb e]
   cases k with
   | zero =>
    rw [Jkc] at ha hb
    exact .inr (by rw [Option.some.inj ha,Option.some.inj hb,e])
   | succ k =>
    refine Jlh hl hp hq k (by omega) fun c d hc hd=>?_
    have hpk:p[k]? = some (p[k]'(by omega)):=List.getElem?_eq_getElem _
    have hqk:q[k]? = some (q[k]'(by omega)):=List.getElem?_eq_getElem _
    have e1:=Jb2 w p 0 k s c _ hc hpk
    have e2:=Jb2 w q 0 k t d _ hd hqk
    rw [ha] at e1;rw [hb] at e2
    have e3:=Option.some.inj e1;have e4:=Option.some.inj e2
    rw [e3,e4] at e
    exact (Jmz (hp _ (List.mem_of_getElem? hpk)) (hq _ (List.mem_of_getElem? hqk)) e).1
  ·
   left
   rw [Jkj ha hb e,if_pos]
   unfold JaH
   simp only [Bool.and_eq_true,decide_eq_true_eq]
   exact ⟨by simpa using e,hm a b ha hb⟩
theorem JfE (w:List UInt8) (qs:List Int) (s:List UInt8):(Jal w 0 s qs)[qs.length]? = some (Jfy (Jal w 0 s qs)):=by
 obtain ⟨a,ha⟩:=JfD w qs 0 s qs.length (Nat.le_refl _)
 rw [ha,Yp (by rw [Zf];omega) ha]
theorem JhF {p:Qy} (h:Jdb p):JX p=(Jal (way p.name) 0 (KR p.entries) p.sides,0):=by
 unfold JX
 rw [if_neg (by rw [ne_eq,Decidable.not_not];exact Q4.2 h),Jmy h.ents h.ways]
theorem Jpq {p:Qy} (h:(JX p).2=0):Jdb p:=by
 unfold JX at h
 split at h
 · contradiction
 · rename_i h1;exact Q4.1 (Decidable.not_not.1 h1)
theorem Jli {p:Qy} (h:Jdb p):QQ p=(Jg (Jfy (Jal (way p.name) 0 (KR p.entries) p.sides)),0):=by
 unfold QQ;rw [JhF h,if_neg (by simp)]
theorem Jlj {root:Int} {p:Qy} (h:(Qp root p).2.2=0):Jdb p∧(QQ p).1=root∧Qp root p=WY p.entries p.name:=by
 unfold Qp at h ⊢
 split at h
 · contradiction
 rename_i h1
 rw [if_neg h1]
 have h1:=Decidable.not_not.1 h1
 unfold WQ at h1
 split at h1
 · cases h1
 rename_i h2
 have h3:(JX p).2=0:=by
  unfold QQ at h1;split at h1
  · contradiction
  · rename_i h4;exact Decidable.not_not.1 h4
 exact ⟨Jpq h3,Decidable.not_not.1 fun hc=>h2 ⟨h1,hc⟩,rfl⟩
theorem JmA {root:Int} {p q:Qy} (hp0:∀ m∈p.sides,0≤m) (hq0:∀ m∈q.sides,0≤m) (h1:(Qp root p).2.2=0) (h2:(Qp root q).2.2=0) (h3:p.name=q.name) (h4:¬ ((Qp root p).1=(Qp root q).1∧(Qp root p).2.1=(Qp root q).2.1)):(KS p q).2.2=0∧JaH (KS p q).1 (KS p q).2.1=true:=by
 obtain ⟨p1,p2,p3⟩:=Jlj h1
 obtain ⟨q1,q2,q3⟩:=Jlj h2
 have hk:(KS p q).2.2=0:=by
  unfold KS
  rw [JhF p1,JhF q1,if_neg (by simp),if_neg (by simp),if_neg (by simp [h3])]
  unfold K9
  rw [Jli p1] at p2;rw [Jli q1] at q2
  have hl:p.sides.length=q.sides.length:=by rw [p1.sides,q1.sides]
  simp only at p2 q2 ⊢
  rw [if_neg (by rw [Zf,Zf,hl];omega),if_neg (by rw [p2,q2];simp),Zf]
  rw [← h3] at q2 ⊢
  rcases Jlh (w:=way p.name) (s:=KR p.entries) (t:=KR q.entries) hl (fun m hm=>⟨hp0 m hm,p1.marks m hm⟩) (fun m hm=>⟨hq0 m hm,q1.marks m hm⟩) p.sides.length (Nat.le_refl _)
   (fun a b ha hb=>by rw [JfE] at ha;rw [hl,JfE] at hb;rw [← Option.some.inj ha,← Option.some.inj hb,p2,q2]) with h | h
  · exact h
  ·
   have:=Jn8 p1.ents q1.ents h
   exact absurd (by rw [p3,q3,this,h3];exact ⟨rfl,rfl⟩) h4
 have:=Jmw p q
 unfold Jb3 at this
 rw [if_pos hk] at this
 exact ⟨hk,this⟩
theorem Jep (l:List J2) (q:List UInt8):0≤QP l q∧QP l q<2305843009213693951:=by
 unfold QP
 generalize 16-q.length=n
 cases n with
 | zero=>exact Qo _
 | succ n =>
  rw [atG]
  split
  · exact Qo _
  split
  · exact Qo _
  · exact Qo _
theorem Jbg {G:Jp} {a:Option Addr} {c:Nat} {l:List Int} (h:RS EU G a c l):∀ m∈l,0≤m:=by
 intro m hm
 obtain ⟨k,hk⟩:=List.getElem?_of_mem hm
 cases a with
 | none=>have:=h.nil rfl;have:=(List.getElem?_eq_some_iff.1 hk).1;have:=h.le;omega
 | some ad =>
  obtain ⟨cs,h1,_⟩:=h.elem _ rfl k m hk
  exact h1.2.1
end Go.Proofs.YteaampgpgokjmaaGreatDoor
namespace Go.Tx
open Go.RowKit Go.Proofs Go.Shelf
def JdZ (P:Program) (k e:TypeId) (o:Obj) (n:Nat) (D:DataW Unit):Prop :=
 Jdy o=true∧∀ (w:World) (b:Nat),w.heap[b]? = some o→w.ownsMap P k (plainElem P e) b n D
theorem JdZ.of {P:Program} {k e:TypeId} {w:World} {b n:Nat} {D:DataW Unit} (h:w.ownsMap P k (plainElem P e) b n D):∃ o,w.heap[b]? = some o∧JdZ P k e o n D:=by
 obtain ⟨es,clock,hb,F,hs,hD⟩:=h
 exact ⟨_,hb,rfl,fun w' b' h'=>⟨es,clock,h',F,hs,hD⟩⟩
theorem JdZ.empty (P:Program) (k e:TypeId):JdZ P k e (.map #[] 0) 0 (.map []) :=
 ⟨rfl,fun w b h=>by
  obtain ⟨es,clock,hb,F,hs,hD⟩:=World.ownsMap_made (H:=Unit) default P k (plainElem P e)
  have:es=#[]∧clock=0:=by
   rw [World.alloc_heap_new] at hb;cases hb;exact ⟨rfl,rfl⟩
  obtain ⟨rfl,rfl⟩:=this
  exact ⟨_,_,h,F,hs,hD⟩⟩
def Jlk (a:List (List UInt8)) (s:List UInt8):List (List UInt8):=if s∈a then a else a++[s]
def dd (l:List (List UInt8)):List (List UInt8):=l.foldl Jlk []
def nn (l:List (List UInt8)):Nat:=(dd l).length
theorem Jll {α:Type} {P:List α→Prop} (h0:P []) (hs:∀ l x,P l→P (l++[x])) (l:List α):P l:=by
 rw [← List.reverse_reverse l]
 induction l.reverse with
 | nil=>exact h0
 | cons x t ih=>rw [List.reverse_cons];exact hs _ _ ih
theorem Jlm (l:List (List UInt8)) (s:List UInt8):dd (l++[s])=Jlk (dd l) s:=by simp [dd,List.foldl_append]
theorem YG (l:List (List UInt8)):(∀ s,s∈dd l ↔ s∈l)∧(dd l).Nodup:=by
 induction l using Jll with
 | h0=>simp [dd]
 | hs l x ih =>
  rw [Jlm];unfold Jlk
  split
  ·
   rename_i h
   refine ⟨fun s=>?_,ih.2⟩
   rw [ih.1 s];simp only [List.mem_append,List.mem_singleton]
   exact ⟨.inl,fun h'=>h'.elim id (fun e=>e ▸ (ih.1 x).1 h)⟩
  ·
   rename_i h
   refine ⟨fun s=>by simp [ih.1 s],List.nodup_append.2 ⟨ih.2,by simp,fun a ha b hb=>by simp at hb;subst hb;exact fun e=>h (by rw [← e];exact ha)⟩⟩
theorem VW:∀ (a b:List (List UInt8)),a.Nodup→(∀ x∈a,x∈b)→a.length≤b.length
 | [],b,_,_=>Nat.zero_le _
 | x::a,b,h,hm=>by
  have hx:=hm x (by simp)
  have h1:=List.nodup_cons.1 h
  have:=VW a (b.erase x) h1.2 (fun y hy=>(List.mem_erase_of_ne (fun e=>h1.1 (by subst e;exact hy))).2 (hm y (by simp [hy])))
  rw [List.length_erase_of_mem hx] at this
  have:0<b.length:=List.length_pos_of_mem hx
  simp only [List.length_cons];omega
theorem Jdl {a b:List (List UInt8)} (h:∀ x∈a,x∈b):nn a≤nn b :=
 VW _ _ (YG a).2 (fun x hx=>((YG b).1 x).2 (h x (((YG a).1 x).1 hx)))
theorem nn_le (a:List (List UInt8)):nn a≤a.length:=VW _ _ (YG a).2 (fun x hx=>((YG a).1 x).1 hx)
theorem Jn9 {a:List (List UInt8)} (h:a.Nodup):nn a=a.length :=
 Nat.le_antisymm (nn_le a) (VW _ _ h (fun x hx=>((YG a).1 x).2 hx))
def Dn (l:List (List UInt8)):DataW Unit:=l.foldl (fun D s=>D.put (.string s) (.lit (.bool true))) (.map [])
theorem JeW (l:List (List UInt8)) (s:List UInt8):Dn (l++[s])=(Dn l).put (.string s) (.lit (.bool true)):=by simp [Dn,List.foldl_append]
theorem Jln (l:List (List UInt8)):Maps.Tidy (Dn l)∧(∀ s,Maps.has (Dn l) (.string s)=decide (s∈l))∧Maps.size (Dn l)=nn l:=by
 induction l using Jll with
 | h0=>exact ⟨Maps.tidy_empty,fun s=>by simp [Dn,Maps.has],rfl⟩
 | hs l x ih =>
  obtain ⟨h1,h2,h3⟩:=ih
  have hk:WideAt.IsKeyLit (.string x):=by trivial
  rw [JeW]
  refine ⟨h1.put hk _,fun s=>?_,?_⟩
  ·
   by_cases e:s=x
   · subst e;rw [Maps.has_put_same h1.isMap hk];simp
   · rw [Maps.has_put_other (by simpa using e),h2 s];simp [e]
  ·
   rw [Maps.size_put h1,h2 x,h3]
   unfold nn;rw [Jlm];unfold Jlk
   by_cases e:x∈l
   · rw [if_pos (by simpa using e),if_pos (((YG l).1 x).2 e)]
   · rw [if_neg (by simpa using e),if_neg (fun h=>e (((YG l).1 x).1 h))];simp
theorem Jpr (l:List (List UInt8)):(strKeys (Dn l)).length=nn l:=by
 obtain ⟨⟨es,he,_⟩,_,h3⟩:=Jln l
 rw [← h3,he];simp [strKeys,Maps.size]
theorem St.grewO {w0 w w':World} {G0 G:Jp} {L:List (List Kg)} {i b:Nat} {x y:Obj} (h:St w0 G0 w G L) (hi:L[i]? = some [Ob b x]) (hg:w.grownBy w' (some b)) (hyb:w'.heap[b]? = some y) (hy:Jdy y=true) :
  St w0 G0 w' G (L.set i [Ob b y]):=by
 obtain ⟨A,B,rfl,hset⟩:=YU hi
 rw [hset]
 have hm:(Ob b x)∈(A++[Ob b x]::B).flatten:=by simp
 obtain ⟨hB,_,hob,_⟩:=h.own _ hm
 obtain ⟨p1,p2,_,_⟩:=hob x rfl
 simp only at hB p2
 have hlt:=(Array.getElem?_eq_some_iff.1 p2).1
 have hne:∀ b' o v,w.cell? ⟨b',o,none⟩=some v→b ≠ b':=fun b' o v hv e=>by
  have:=Jbv hv (e ▸ p2)
  rw [p1] at this;cases this
 have hget:∀ k,k<w.heap.size→k ≠ b→w'.heap[k]? = w.heap[k]?:=fun k hl hk=>hg.block k hl (fun e=>hk (Option.some.inj e))
 refine St.upd h ((Below.refl w0.heap.size w).grown hg h.below.size (fun k e=>by cases e;exact hB)) ?_ ?_ ?_ ?_ ?_ (by simp)
 ·
  intro b' o v hv _
  have hn:=hne b' o v hv
  have hl:=Wv hv
  unfold World.cell? World.frozen? at *
  simp only at *
  rw [hget b' hl (fun e=>hn e.symm)]
  exact ⟨hv,rfl⟩
 ·
  intro b' z hz
  obtain ⟨c,hh,_⟩:=Ym.1 hz
  have hn:b' ≠ b:=fun e=>by
   subst e
   rw [p2] at hh
   cases x <;> simp [Jdy] at p1 hh
  unfold shp at hz ⊢
  rw [hget b' (Array.getElem?_eq_some_iff.1 hh).1 hn];exact hz
 ·
  intro b' z hz _ hno
  have:b' ≠ b:=fun e=>hno _ (List.mem_singleton.2 rfl) ⟨e.symm,Nat.le_refl _,by simp [Kg.len]⟩
  rw [hget b' (Array.getElem?_eq_some_iff.1 hz).1 this];exact hz
 ·
  intro s hs
  obtain rfl:s=_:=by simpa using hs
  refine ⟨hB,by simp,fun z hz=>?_,by simp⟩
  cases hz
  exact ⟨hy,hyb,rfl,rfl⟩
 ·
  intro s hs b' o hh
  obtain rfl:s=_:=by simpa using hs
  exact .inl ⟨_,List.mem_singleton.2 rfl,hh⟩
theorem St.below_ {w0 w w':World} {G0 G:Jp} {L:List (List Kg)} (h:St w0 G0 w G L) (hb:Below w.heap.size w w'):St w0 G0 w' G L:=by
 have hS':St w G w' G []:=⟨hb,fun b o v hv=>by
  have hc:=h.mem b o v hv
  have hl:=Wv hc
  unfold World.cell? at *
  simp only at *
  rw [hb.block b hl];exact hc,Jp.le_refl _,fun b o v hv=>.inl hv,by simp,by simp⟩
 exact h.call hS'
section
variable {C:Cx} {Q:Exit→Act→World→Prop} {fr:List (Nat×Value)} {G:Jp} {L:List (List Kg)} {ops:Array Oper} {rest:List Oper} {o:Oper}
theorem JeX {e:Exit} (i:Nat) {b o:Nat} {cs:List Value} (h:∀ G',Jp.le G G'→(∀ j v,cs[j]? = some v→G' b (o+j)=some v)→TQ C Q e fr G' (L.set i []))
  (hi:L[i]? = some [Sg b o cs]:=by rfl):TQ C Q e fr G L :=
 Jm8 i (by simp) hi (fun G' h1 h2=>h G' h1 (fun j v hv=>h2 _ (List.mem_singleton.2 rfl) j v hv))
theorem Jkl (d:Nat) (k e:TypeId) (h:∀ b ob,JdZ C.P k e ob 0 (.map [])→Kt C ops Q rest ((d,.map (some b))::fr) G ([Ob b ob]::L))
  (hb:base C.n ops fr o d=true:=by as_aux_lemma=>kernel_rfl)
  (hc:∀ w,(execOp (WV fr) o).run C.P w=.ok (.value (.map (some w.heap.size))) (w.alloc (.map #[] 0)):=by intro _;as_aux_lemma=>kernel_rfl):Kt C ops Q (o::rest) fr G L :=
 QG d hb (fun w hw=>⟨_,w.alloc (.map #[] 0),G,_,hc w,hw.allocO _ rfl,h w.heap.size _ (JdZ.empty _ _ _)⟩)
def Jlo (fr:List (Nat×Value)) (o:Oper):Option (TypeId×Value×Value×Value):=match o.op with
 | .mapUpdate t m x v=>some (t,WV fr m,WV fr x,WV fr v)
 | _=>none
theorem JmB (hb:JgH C.n ops fr o=true)
  (hx:∀ w,St C.w0 C.G0 w G L→∃ w' G' L',(execOp (WV fr) o).run C.P w=.ok .skip w'∧St C.w0 C.G0 w' G' L'∧Kt C ops Q rest fr G' L') :
  Kt C ops Q (o::rest) fr G L:=by
 intro a w ha hw
 unfold JgH at hb
 simp only [Bool.and_eq_true,Option.isNone_iff_eq_none] at hb
 obtain ⟨⟨⟨hd,hwt⟩,hsel⟩,hcov⟩:=hb
 have hE:execOp a.eval o=execOp (WV fr) o:=Wj _ _ _ (fun cs b e=>by rw [e] at hsel;simp [Za] at hsel)
  (fun x hx=>ha.eval x (List.all_eq_true.1 hcov x (by simpa using hx)))
 have hwant:Qk ops fr o=some true:=by
  cases hx:Qk ops fr o with
  | none=>rw [hx] at hwt;simp [Yu] at hwt
  | some b=>rw [hx] at hwt;simp [Yu] at hwt;rw [← hwt]
 obtain ⟨w',G',L',hr,hS,hk⟩:=hx w hw
 unfold wpList
 rw [if_pos (Wk ha hwant)]
 refine .inl ?_
 unfold Oper.wp
 rw [hE,hr]
 show wpList C.P ops Q rest (a.put o.dst _) _
 rw [hd]
 exact hk _ _ ha hS
theorem Jd0 (i:Nat) (t k e:TypeId) {b n:Nat} {ob:Obj} {D:DataW Unit} {s:List UInt8} (x:Bool) (hm:JdZ C.P k e ob n D) (K:Maps.Keyed C.P k) (ht:C.P.underlying t=some (.map k e)) (hks:C.P.underlying k=some .string) (he:C.P.underlying e=some .bool)
  (hs:s.length≤maxLen) (hn:n<maxLen)
  (h:∀ ob',JdZ C.P k e ob' (n+1) (D.put (.string s) (.lit (.bool x)))→Kt C ops Q rest fr G (L.set i [Ob b ob']))
  (hL:L[i]? = some [Ob b ob]:=by rfl)
  (hb:JgH C.n ops fr o=true:=by as_aux_lemma=>kernel_rfl)
  (hc:Jlo fr o=some (t,.map (some b),Sr s,Bo x):=by as_aux_lemma=>kernel_rfl):Kt C ops Q (o::rest) fr G L:=by
 refine JmB hb (fun w hw=>?_)
 unfold Jlo at hc
 split at hc
 case h_2=>cases hc
 rename_i t' m' x' v' hop
 simp only [Option.some.injEq,Prod.mk.injEq] at hc
 obtain ⟨rfl,c1,c2,c3⟩:=hc
 have hmem:(Ob b ob)∈L.flatten:=by
  obtain ⟨hl,he⟩:=List.getElem?_eq_some_iff.1 hL
  exact List.mem_flatten.2 ⟨_,List.getElem_mem hl,by rw [he];simp⟩
 obtain ⟨_,_,hob,_⟩:=hw.own _ hmem
 obtain ⟨p1,p2,_,_⟩:=hob ob rfl
 have hown:=hm.2 w b p2
 have hkey:keyOf C.P k (Sr s)=some (.string s):=by
  have:=WideMaps.keyOf_string_mk (P:=C.P) hks (s:=B s) (by show s.toArray.size≤maxLen;simpa using hs)
  simpa using this
 obtain ⟨w',hrun,hown',hg⟩:=hown.update K ht hn hkey (plainElem_bool (H:=Unit) he x)
 obtain ⟨ob',q1,q2⟩:=JdZ.of hown'
 refine ⟨w',G,_,?_,hw.grewO hL hg q1 q2.1,h ob' q2⟩
 unfold execOp
 simp only [hop,c1,c2,c3,Sem.run_bind,Bo,hrun,Result.andThen_ok,Sem.run_pure]
theorem JmC (d:Nat) {ρ:Ren} (L7:SlLaysZ.n7 C.P ρ) {b:Nat} (h:∀ bk,Kt C ops Q rest ((d,.func (.func (ρ.f 10)) #[] #[Pt bk 0])::fr) G ([Sg bk 0 [.map (some b)]]::L))
  (hw:Qk ops fr o=some true:=by rfl) (hd:o.dst=some d:=by rfl) (hn:Nat.blt d C.n=true:=by rfl) (hsel:Za o.op=false:=by rfl)
  (hcov:o.op.operands.toList.all (cov fr)=true:=by as_aux_lemma=>kernel_rfl) (hrun:∀ w,(execOp (WV fr) o).run C.P w=.ok (.enter (ρ.f 7) #[.map (some b)]) w:=by intro _;as_aux_lemma=>kernel_rfl) :
  Kt C ops Q (o::rest) fr G L:=by
 intro a w ha hwS
 have hE:execOp a.eval o=execOp (WV fr) o:=Wj _ _ _ (fun cs b e=>by rw [e] at hsel;simp [Za] at hsel)
  (fun x hx=>ha.eval x (List.all_eq_true.1 hcov x (by simpa using hx)))
 unfold wpList
 rw [if_pos (Wk ha hw)]
 refine .inl ?_
 unfold Oper.wp
 rw [hE,hrun]
 refine (callsIn_wide.1 (AnyZ.keys_in L7 Fence.wide 0 trivial rfl (some b) w)).mono ?_
 rintro e w' ⟨rfl,rfl⟩
 show wpList C.P ops Q rest (a.put o.dst _) _
 rw [hd]
 exact h _ _ _ (ha.put d _ (Nat.le_of_ble_eq_true hn)) (hwS.alloc _ _)
theorem JhG (d i j:Nat) {ρ:Ren} (L8:SlLaysZ.n8 C.P ρ) (L10:SlLaysZ.n10 C.P ρ) {b bk n:Nat} {e:TypeId} {ob:Obj} {D:DataW Unit} (hm:JdZ C.P (ρ.t 26) e ob n D) (hsz:Maps.size D≤1000000)
  (h:∀ a c,Kt C ops Q rest ((d,Sl a (strKeys D).length c)::fr) G L)
  (hi:L[i]? = some [Ob b ob]:=by rfl) (hj:L[j]? = some [Sg bk 0 [.map (some b)]]:=by rfl)
  (hw:Qk ops fr o=some true:=by rfl) (hd:o.dst=some d:=by rfl) (hn:Nat.blt d C.n=true:=by rfl) (hsel:Za o.op=false:=by rfl)
  (hcov:o.op.operands.toList.all (cov fr)=true:=by as_aux_lemma=>kernel_rfl) (hrun:∀ w,(execOp (WV fr) o).run C.P w=.ok (.enter (ρ.f 8) #[.func (.func (ρ.f 10)) #[] #[Pt bk 0]]) w:=by intro _;as_aux_lemma=>kernel_rfl) :
  Kt C ops Q (o::rest) fr G L:=by
 intro a w ha hwS
 have hE:execOp a.eval o=execOp (WV fr) o:=Wj _ _ _ (fun cs b e=>by rw [e] at hsel;simp [Za] at hsel)
  (fun x hx=>ha.eval x (List.all_eq_true.1 hcov x (by simpa using hx)))
 unfold wpList
 rw [if_pos (Wk ha hw)]
 refine .inl ?_
 unfold Oper.wp
 rw [hE,hrun]
 have m1:(Ob b ob)∈L.flatten:=by
  obtain ⟨hl,he⟩:=List.getElem?_eq_some_iff.1 hi
  exact List.mem_flatten.2 ⟨_,List.getElem_mem hl,by rw [he];simp⟩
 have m2:(Sg bk 0 [.map (some b)])∈L.flatten:=by
  obtain ⟨hl,he⟩:=List.getElem?_eq_some_iff.1 hj
  exact List.mem_flatten.2 ⟨_,List.getElem_mem hl,by rw [he];simp⟩
 obtain ⟨_,_,hob,_⟩:=hwS.own _ m1
 obtain ⟨_,p2,_,_⟩:=hob ob rfl
 have hown:=hm.2 w b p2
 have hcell:=((hwS.own _ m2).2.1 0 _ rfl).1
 simp only [Nat.add_zero] at hcell
 have hseq:SeqGives Fence.wide (3-1-1) C.P (ρ.f 10) #[.pointer (some ⟨bk,0,none⟩)] encStr (fun ss=>ss.Perm (strKeys D)) (Maps.size D) w :=
  AnyZ.keys_gives L10 Fence.wide (3-1-1) trivial rfl (by decide) bk b n D w (Wv hcell) hcell hown
 refine (callsIn_wide.1 (AnyZ.collect_in L8 Fence.wide 3 trivial trivial rfl (by decide) (ρ.f 10) #[.pointer (some ⟨bk,0,none⟩)] trivial (L10.f10.enters rfl) _ (Maps.size D) (Nat.le_trans hsz (by decide)) (by omega) w hseq)).mono ?_
 rintro e w' ⟨v,ss,rfl,hS,hrow,hnil,hb⟩
 have hlen:ss.length=(strKeys D).length:=hS.length_eq
 obtain ⟨aa,c,rfl⟩:∃ aa c,v=Sl aa (strKeys D).length c:=by
  rw [← hlen]
  rcases hrow.2 with ⟨rfl,h0⟩ | ⟨g,cap,cur,rfl,_⟩
  · exact ⟨none,0,by rw [h0]⟩
  · exact ⟨_,_,rfl⟩
 show wpList C.P ops Q rest (a.put o.dst _) w'
 rw [hd]
 exact h _ _ _ _ (ha.put d _ (Nat.le_of_ble_eq_true hn)) (hwS.below_ hb)
theorem Jkm {α:Type} {E:YJ α} (d t e n:Nat) {z:Value} {lo co:Operand} {bytes:Nat} (x0:α) (hE:E.sz=1∧z.cells=#[z]∧(∀ G,E.R G [z] x0)) (h63:n≤9223372036854775807) (hby:n*bytes≤281474976710656)
  (hi:(C.P.info? e).map (fun i=>(i.zero,i.size,i.bytes))=some (some z,1,bytes))
  (h:∀ a r,J0 E G a n (List.replicate n x0) r→Kt C ops Q rest ((d,Sl a (List.replicate n x0).length n)::fr) G (r::L))
  (hb:base C.n ops fr o d=true:=by as_aux_lemma=>kernel_rfl)
  (hop:o.op=.makeSlice t lo co:=by rfl) (ht:C.P.underlying t=some (.slice e):=by as_aux_lemma=>kernel_rfl)
  (hlo:WV fr lo=I (n:Int):=by as_aux_lemma=>kernel_rfl) (hco:WV fr co=I (n:Int):=by as_aux_lemma=>kernel_rfl):Kt C ops Q (o::rest) fr G L:=by
 simp only [List.length_replicate] at h
 refine QG d hb (fun w hw=>?_)
 obtain ⟨inf,hinf,hz,hsz,hbs⟩:=info_parts hi
 have hbn:(inf.bytes:Int)*(n:Int)≤281474976710656:=by
  have h2:(inf.bytes:Int)*n=((n*bytes:Nat):Int):=by rw [Int.natCast_mul,Int.mul_comm,hbs]
  omega
 have hm:=run_make (P:=C.P) w t e inf z ht hinf hz .i64 .i64 n n (by omega) (Int.le_refl _) hbn (by omega)
 simp only [Int.toNat_natCast,hsz,Nat.mul_one] at hm
 have hmc:(madeCells z.cells n).toList=List.replicate n z:=by
  apply List.ext_getElem
  · simp [size_madeCells]
  ·
   intro k h1 h2
   simp only [madeCells,Array.toList_map,List.getElem_map,List.getElem_replicate,hE.2.1]
   simp [Nat.mod_one]
 refine ⟨_,_,G,_,?_,hw.alloc (madeCells z.cells n) e,h (At w.heap.size 0) _ ⟨⟨List.replicate n [z],by simp,fun k x hx=>?_,?_⟩⟩⟩
 ·
  unfold execOp
  simp only [hop,hlo,hco,Sem.run_bind,hm,Result.andThen_ok,Sem.run_pure]
 ·
  have hk:=(List.getElem?_eq_some_iff.1 hx).1
  simp only [List.length_replicate] at hk
  rw [List.getElem?_replicate,if_pos hk] at hx
  rw [← Option.some.inj hx]
  exact ⟨[z],by rw [List.getElem?_replicate,if_pos hk],hE.2.2 G⟩
 ·
  have hf:(List.replicate n [z]).flatten=List.replicate n z:=by simp [List.flatten_replicate_singleton]
  rw [hf,hmc,List.length_replicate,hE.1]
  exact Row.lit (by simp) h63
theorem RS.cellsR {α:Type} {E:YJ α} {G:Jp} {ax:Option Addr} {capx:Nat} {ys:List α} (hy:RS E G ax capx ys):∃ dss:List (List Value),dss.length=ys.length∧(∀ (k:Nat) y,ys[k]? = some y→∃ cs,dss[k]? = some cs∧E.R G cs y) ∧
  ∀ w:World,(∀ b o v,G b o=some v→w.cell? ⟨b,o,none⟩=some v)→JkP E.sz w ax ys.length dss.flatten:=by
 have hcell:∃ dss:List (List Value),dss.length=ys.length∧(∀ (k:Nat) y,ys[k]? = some y→∃ cs,dss[k]? = some cs∧E.R G cs y) ∧
   (∀ ad,ax=some ad→∀ (k:Nat) cs (j:Nat) v,dss[k]? = some cs→cs[j]? = some v→G ad.block (ad.off+k*E.sz+j)=some v):=by
  cases ax with
  | none =>
   have:ys=[]:=List.eq_nil_of_length_eq_zero (by have:=hy.nil rfl;have:=hy.le;omega)
   subst this
   exact ⟨[],rfl,by simp,by simp⟩
  | some ad =>
   have hch:∀ k:Nat,∃ cs,∀ y,ys[k]? = some y→E.R G cs y∧∀ j v,cs[j]? = some v→G ad.block (ad.off+k*E.sz+j)=some v:=by
    intro k
    cases hk:ys[k]? with
    | none=>exact ⟨[],by simp⟩
    | some y=>obtain ⟨cs,p1,p2⟩:=hy.elem ad rfl k y hk;exact ⟨cs,fun y' hy'=>by cases hy';exact ⟨p1,p2⟩⟩
   let f:Nat→List Value:=fun k=>Classical.choose (hch k)
   have hf:∀ (k:Nat) y,ys[k]? = some y→E.R G (f k) y∧∀ j v,(f k)[j]? = some v→G ad.block (ad.off+k*E.sz+j)=some v:=fun k=>Classical.choose_spec (hch k)
   refine ⟨(List.range ys.length).map f,by simp,?_,?_⟩
   ·
    intro k y hk
    have hlt:=(List.getElem?_eq_some_iff.1 hk).1
    exact ⟨f k,by simp [hlt],(hf k y hk).1⟩
   ·
    intro ad' had k cs j v hk hv
    cases had
    have hlt:k<ys.length:=by have:=(List.getElem?_eq_some_iff.1 hk).1;simpa using this
    have hcs:f k=cs:=by simpa [hlt] using hk
    rw [← hcs] at hv
    exact (hf k _ (List.getElem?_eq_getElem hlt)).2 j v hv
 obtain ⟨dss,d1,d2,d3⟩:=hcell
 have dsz:=V6 d1 d2
 refine ⟨dss,d1,d2,fun w hmem=>⟨by rw [QN dsz,d1],fun ha=>by have:=hy.nil ha;have:=hy.le;omega,fun ad ha j v hv=>?_⟩⟩
 have hsp:=hy.spot ad ha (by
  have hj:=(List.getElem?_eq_some_iff.1 hv).1
  rw [QN dsz] at hj
  have h0:0<ys.length:=by
   rcases Nat.eq_zero_or_pos ys.length with h0 | h0
   · rw [d1,h0] at hj;omega
   · exact h0
  have:=hy.le;omega)
 obtain ⟨ab,ao,asp⟩:=ad
 simp only at hsp
 subst hsp
 rw [WL]
 refine hmem _ _ _ ?_
 have hj:=(List.getElem?_eq_some_iff.1 hv).1
 rw [QN dsz] at hj
 have hpos:0<E.sz:=by
  rcases Nat.eq_zero_or_pos E.sz with h0 | h0
  · rw [h0] at hj;omega
  · exact h0
 have hk:j / E.sz<dss.length:=(Nat.div_lt_iff_lt_mul hpos).2 hj
 have hmod:=Nat.mod_lt j hpos
 have hcs:=dsz _ (List.getElem_mem hk)
 have hget:(dss[j / E.sz])[j % E.sz]? = some v:=by
  have:=Jav dsz (j / E.sz) _ (j % E.sz) ((dss[j / E.sz])[j % E.sz]'(by omega)) (List.getElem?_eq_getElem hk) (List.getElem?_eq_getElem (by omega))
  rw [Nat.div_add_mod' j E.sz,hv] at this
  rw [List.getElem?_eq_getElem (by omega)];exact this.symm
 have:=d3 _ ha (j / E.sz) _ (j % E.sz) v (List.getElem?_eq_getElem hk) hget
 simp only at this
 rwa [Nat.add_assoc,Nat.div_add_mod' j E.sz] at this
theorem Jkn {α:Type} {E:YJ α} {a:Option Addr} {l:List α} (d e j:Nat) {b:Nat} {cs:List Value} (x:α) (hr:RS E G a l.length l) (hx:E.R G cs x)
  (h63:l.length+1≤9223372036854775807) (hby:(l.length+1)*E.bytes≤140737488355328)
  (h:∀ a' cap' r',J0 E G a' cap' (l++[x]) r'→Kt C ops Q rest ((d,Sl a' (l++[x]).length cap')::fr) G (r'::L))
  (hj:L[j]? = some [Sg b 0 cs]:=by rfl)
  (hb:base C.n ops fr o d=true:=by as_aux_lemma=>kernel_rfl)
  (hc:Ja1 C.P fr o e E.sz E.bytes=some (Sl a l.length l.length,Sl (At b 0) 1 1):=by as_aux_lemma=>kernel_rfl):Kt C ops Q (o::rest) fr G L:=by
 obtain ⟨t,ty,inf,z,hu,hi,hz,hzs,hsz,hbs,hrun⟩:=Jg7 hc
 obtain ⟨dss,d1,d2,d3⟩:=hr.cellsR
 refine QG d hb (fun w hw=>?_)
 have hms:(Sg b 0 cs)∈L.flatten:=by
  obtain ⟨hi',he⟩:=List.getElem?_eq_some_iff.1 hj
  exact List.mem_flatten.2 ⟨_,he ▸ List.getElem_mem hi',by simp⟩
 have hown:=(hw.own _ hms).2.1
 simp only [Nat.zero_add] at hown
 have hnl:cs.length=1*inf.size:=by rw [E.len hx,hsz];simp
 have hnews:∀ k v,cs[k]? = some v→w.cell? ((⟨b,0,none⟩:Addr).add k)=some v:=fun k v hv=>by
  rw [WL,Nat.zero_add];exact (hown k v hv).1
 obtain ⟨r1,r2,r3⟩:=d3 w hw.mem
 rw [← hsz] at r1
 have hby2:(l.length+1)*inf.bytes≤140737488355328:=by rw [hbs];exact hby
 have hnx:Builtin.nextslicecap (l.length+1) l.length*inf.bytes≤281474976710656:=growslice_fits (by omega) hby2
 have fin:∀ (old:Nat) (res:Result Value),res=.ok (.slice (some ⟨w.heap.size,0,none⟩) (l.length+1) (grownCap w (l.length+1) old e)) (w.drew.alloc (.cells (dss.flatten.toArray++cs.toArray++Builtin.zeroCells z.cells (grownCap w (l.length+1) old e-(l.length+1))) e)) →
   (Builtin.append_ #[t,t] ty #[.slice a l.length l.length,.slice (At b 0) 1 1]).run C.P w=res →
   ∃ v w' G' L',(execOp (WV fr) o).run C.P w=.ok (.value v) w'∧St C.w0 C.G0 w' G' L'∧Kt C ops Q rest ((d,v)::fr) G' L':=by
  intro old res hres hap
  have hlen:(l++[x]).length=l.length+1:=by simp
  refine ⟨_,_,G,_,by rw [hrun,hap,hres];rfl,(hw.drew).alloc _ e,?_⟩
  rw [← hlen]
  refine h _ _ _ ⟨⟨dss++[cs],by simp [d1],?_,?_⟩⟩
  ·
   intro k y hy
   by_cases hlt:k<l.length
   ·
    rw [List.getElem?_append_left hlt] at hy
    obtain ⟨cs',p1,p2⟩:=d2 k y hy
    exact ⟨cs',by rw [List.getElem?_append_left (by omega)];exact p1,p2⟩
   ·
    rw [List.getElem?_append_right (by omega)] at hy
    have hk:k-l.length=0:=by
     have:=(List.getElem?_eq_some_iff.1 hy).1;simp at this;omega
    rw [hk] at hy
    obtain rfl:x=y:=by simpa using hy
    exact ⟨cs,by rw [List.getElem?_append_right (by omega),d1,hk];rfl,hx⟩
  ·
   rw [List.flatten_append,hlen,← hsz]
   refine ⟨by rw [List.length_append,r1];simp [hnl,Nat.add_mul],grownCap_ge w _ old e,?_,.inr ⟨w.heap.size,0,(Builtin.zeroCells z.cells (grownCap w (l.length+1) old e-(l.length+1))).toList,rfl,by simp,?_⟩⟩
   ·
    have:=grownCap_le_maxLen w (l.length+1) old e (by simp only [maxLen];omega)
    simp only [maxLen] at this;omega
   · rw [Array.length_toList,ZZ,hzs]
 cases a with
 | none =>
  have h0:l.length=0:=hr.nil rfl
  have hl:l=[]:=List.eq_nil_of_length_eq_zero h0
  subst hl
  have hd0:dss=[]:=List.eq_nil_of_length_eq_zero (by simpa using d1)
  subst hd0
  have hap:=run_append_nil (P:=C.P) w t ty e inf z hu hi hz ⟨b,0,none⟩ 1 1 cs hnl hnews (by omega) (by omega) (by have h9:=hby2;simp only [List.length_nil,Nat.zero_add] at h9;omega)
  exact fin 0 _ (by simp) hap
 | some ad =>
  have hap:=run_append_grow (P:=C.P) w t ty e inf z hu hi hz ad l.length l.length dss.flatten r1 (r3 ad rfl) ⟨b,0,none⟩ 1 1 cs hnl hnews (by omega) (by omega) hnx
  exact fin l.length _ rfl hap
def Shr (r r':List Kg):Prop:=r'=r∨∃ b off F m,r=[Sg b off F]∧(r'=[Sg b (off+m) (F.drop m)]∨r'=[Sg b off []])
theorem St.shr {w0 w:World} {G0 G:Jp} {L:List (List Kg)} {i:Nat} {r r':List Kg} (h:St w0 G0 w G L) (hi:L[i]? = some r) (hs:Shr r r'):St w0 G0 w G (L.set i r'):=by
 rcases hs with rfl | ⟨b,off,F,m,rfl,hr⟩
 ·
  have:L.set i r'=L:=by
   obtain ⟨hi',he⟩:=List.getElem?_eq_some_iff.1 hi
   rw [← he];exact List.set_getElem_self hi'
  rw [this];exact h
 ·
  obtain ⟨A,B,rfl,hset⟩:=YU hi
  rw [hset]
  have hm:(Sg b off F)∈(A++[Sg b off F]::B).flatten:=by simp
  obtain ⟨hB,hc,_,_⟩:=h.own _ hm
  simp only at hB hc
  refine St.upd h (Below.refl _ _) (fun _ _ _ hv _=>⟨hv,rfl⟩) (fun _ _ hx=>hx) (fun _ _ hx _ _=>hx) ?_ ?_ ?_
  ·
   intro s hs
   rcases hr with rfl | rfl
   ·
    obtain rfl:s=_:=by simpa using hs
    refine ⟨hB,fun j v hv=>?_,by simp,by simp⟩
    simp only [List.getElem?_drop] at hv
    have:=hc _ _ hv
    rw [show off+(m+j)=off+m+j by omega] at this
    exact this
   ·
    obtain rfl:s=_:=by simpa using hs
    exact ⟨hB,by simp,by simp,by simp⟩
  ·
   intro s hs b' o hh
   rcases hr with rfl | rfl
   ·
    obtain rfl:s=_:=by simpa using hs
    obtain ⟨e,h1,h2⟩:=hh
    simp only [Kg.len,List.length_drop] at e h1 h2
    exact .inl ⟨_,List.mem_singleton.2 rfl,e,by simp only;omega,by simp only [Kg.len];omega⟩
   ·
    obtain rfl:s=_:=by simpa using hs
    obtain ⟨e,h1,h2⟩:=hh
    simp [Kg.len] at h2;simp only at h1;omega
  · rcases hr with rfl | rfl <;> simp
theorem J0.dropX {α:Type} {E:YJ α} {G:Jp} {a:Option Addr} {cap:Nat} {l:List α} {r:List Kg} (h:J0 E G a cap l r) (k:Nat) (hk:k≤l.length) :
  ∃ r',J0 E G (if cap=k then a else a.map (·.add (k*E.sz))) (cap-k) (l.drop k) r'∧Shr r r':=by
 obtain ⟨css,c1,c2,c3⟩:=h.ex
 have hsz:=V6 c1 c2
 have hd:(css.drop k).flatten=css.flatten.drop (k*E.sz):=by
  have h1:css.flatten=(css.take k).flatten++(css.drop k).flatten:=by rw [← List.flatten_append,List.take_append_drop]
  have h2:(css.take k).flatten.length=k*E.sz:=by
   rw [QN (fun cs hc=>hsz cs (List.mem_of_mem_take hc)),List.length_take];congr 1;omega
  rw [h1,← h2,List.drop_left]
 have hA:(css.drop k).length=(l.drop k).length∧∀ (i:Nat) x,(l.drop k)[i]? = some x→∃ cs,(css.drop k)[i]? = some cs∧E.R G cs x:=by
  refine ⟨by simp [c1],fun i x hx=>?_⟩
  rw [List.getElem?_drop] at hx ⊢
  exact c2 _ x hx
 have hlen:(css.drop k).flatten.length=(l.drop k).length*E.sz:=by
  rw [QN (fun cs hc=>hsz cs (List.mem_of_mem_drop hc)),hA.1]
 have hle:=c3.le;have hmx:=c3.max
 rcases c3.shape with ⟨rfl,rfl,rfl⟩ | ⟨b,off,spare,rfl,rfl,hsp⟩
 ·
  have hk0:k=0:=by omega
  subst hk0
  exact ⟨[],by simpa using h,.inl rfl⟩
 ·
  by_cases e:cap=k
  ·
   rw [if_pos e]
   have hl0:l.drop k=[]:=List.drop_eq_nil_of_le (by omega)
   have hc0:css.drop k=[]:=List.drop_eq_nil_of_le (by omega)
   refine ⟨[Sg b off []],⟨⟨css.drop k,hA.1,hA.2,⟨hlen,by rw [hl0];simp,by omega,.inr ⟨b,off,[],rfl,?_,?_⟩⟩⟩⟩,.inr ⟨b,off,_,0,rfl,.inr rfl⟩⟩
   · rw [hc0];simp
   · rw [hl0,e];simp
  ·
   rw [if_neg e]
   refine ⟨[Sg b (off+k*E.sz) ((css.flatten++spare).drop (k*E.sz))],⟨⟨css.drop k,hA.1,hA.2,⟨hlen,by simp;omega,by omega,.inr ⟨b,off+k*E.sz,spare,?_,?_,?_⟩⟩⟩⟩,.inr ⟨b,off,_,k*E.sz,rfl,.inl rfl⟩⟩
   · simp [WL]
   ·
    rw [hd,List.drop_append_of_le_length]
    rw [QN hsz,c1];exact Nat.mul_le_mul_right _ hk
   · rw [hsp,List.length_drop];congr 1;omega
theorem tq_shr {e:Exit} (i:Nat) {r r':List Kg} (hs:Shr r r') (h:TQ C Q e fr G (L.set i r')) (hi:L[i]? = some r:=by rfl):TQ C Q e fr G L:=fun a w ha hw=>h a w ha (hw.shr hi hs)
end
end Go.Tx
namespace Go.Proofs.YteaampgpgokjmaaGreatDoor
open Go.Tx
open Go.Proofs
def Wr (l:List (List J2)):List J2:=l[l.length-1]?.getD []
theorem JmD {l:List (List J2)} {k:Nat} {x:List J2} (hk:k=l.length-1) (h:l[k]? = some x):x=Wr l:=by unfold Wr;rw [← hk,h];rfl
def Qe (l:List J2):List (List UInt8):=l.map fun x=>x.name
def Q5 (l:List Zv):List (List UInt8):=l.map fun x=>x.name
def JaA (c:KP) (m:List (List UInt8)):List (List UInt8):=Qe (Wr c.books)++Q5 c.queue.wait++m
def WZ (c:KP) (m:List (List UInt8)):Int:=(nn (JaA c m):Int)
theorem Jgg {l:List J2} {i:Nat} {x:J2} (h:l[i]? = some x):Qe (l.take (i+1))=Qe (l.take i)++[x.name]:=by unfold Qe;rw [List.take_add_one,h];simp
theorem Jgh {l:List Zv} {i:Nat} {x:Zv} (h:l[i]? = some x):Q5 (l.take (i+1))=Q5 (l.take i)++[x.name]:=by unfold Q5;rw [List.take_add_one,h];simp
theorem Joa {l:List (List UInt8)} {i:Nat} {x:List UInt8} (h:l[i]? = some x):l.take (i+1)=l.take i++[x]:=by rw [List.take_add_one,h];rfl
def Z4 (n most:Int):Bool:=decide (n ≥ 1) && decide (n≤most)
theorem Vz {n most:Int}:Z4 n most=true ↔ 1≤n∧n≤most:=by unfold Z4;simp
def KY (root a:Int):JQ×Int:=if ¬ JI ⟨0,root,0,a⟩=0 then (Zq,JI ⟨0,root,0,a⟩) else (⟨0,root,0,a⟩,0)
theorem VX {r a:Int} (hr:0≤r∧r<18446744073709551616) (ha:-9223372036854775808≤a∧a<9223372036854775808):(-9223372036854775808≤(KY r a).1.epoch∧(KY r a).1.epoch<9223372036854775808)∧(0≤(KY r a).1.root∧(KY r a).1.root<18446744073709551616)∧(0≤(KY r a).1.prev∧(KY r a).1.prev<18446744073709551616)∧(-9223372036854775808≤(KY r a).1.at_∧(KY r a).1.at_<9223372036854775808):=by
 unfold KY Zq;split <;> simp <;> omega
theorem JhH (l:List J2):(Qe l).length=l.length:=by simp [Qe]
theorem JhI (l:List Zv):(Q5 l).length=l.length:=by simp [Q5]
def ZU:KP:=⟨⟨0,[]⟩,0,0,0,[],[]⟩
def J4 (most batch every:Int):KP×Int:=if Z4 most 30=false∨Z4 batch 30=false∨Z4 every 1000=false then (ZU,4) else (⟨⟨most,[]⟩,batch,every,0,[(KY (JT [] []).1 0).1],[[]]⟩,0)
def Ys:List JQ→List (List J2)→Int
 | _,[]=>0
 | hs,l::bs=>if ¬ (JT l []).2=0 then (JT l []).2 else if ¬ (JT l []).1=(WO hs).root then 8 else Ys (hs.drop 1) bs
def QD (c:KP):Int:=if (¬ (WO c.heads).epoch=0∨¬ (c.books.length:Int)=c.heads.length)∨(WU c.heads).at_ > c.now then 3 else Ys c.heads c.books
theorem JbH {hs:List JQ} {bs:List (List J2)} {i:Nat} {x:List J2} (hx:bs[i]? = some x):Ys (hs.drop i) (bs.drop i)=if ¬ (JT x []).2=0 then (JT x []).2 else if ¬ (JT x []).1=(hs[i]?.getD Zq).root then 8 else Ys (hs.drop (i+1)) (bs.drop (i+1)):=by
 obtain ⟨hl,he⟩:=List.getElem?_eq_some_iff.1 hx
 rw [List.drop_eq_getElem_cons hl,he]
 show (if _ then _ else if _ then _ else _)=_
 have:WO (hs.drop i)=hs[i]?.getD Zq:=by unfold WO;rw [List.getElem?_drop];simp
 rw [this,List.drop_drop]
theorem JiY {hs:List JQ} {bs:List (List J2)} {i:Nat} {x:List J2} {h:JQ} (hx:bs[i]? = some x) (hh:hs[i]? = some h) (h0:(JT x []).2=0) (h1:(JT x []).1=h.root):Ys (hs.drop i) (bs.drop i)=Ys (hs.drop (i+1)) (bs.drop (i+1)):=by
 rw [JbH hx,if_neg (by omega),hh,if_neg (by simpa using h1)]
theorem Jko {hs:List JQ} {bs:List (List J2)} {i:Nat} {x:List J2} (hx:bs[i]? = some x) (h0:¬ (JT x []).2=0):Ys (hs.drop i) (bs.drop i)=(JT x []).2:=by
 rw [JbH hx,if_pos h0]
theorem Jkp {hs:List JQ} {bs:List (List J2)} {i:Nat} {x:List J2} {h:JQ} (hx:bs[i]? = some x) (hh:hs[i]? = some h) (h0:(JT x []).2=0) (h1:¬ (JT x []).1=h.root):Ys (hs.drop i) (bs.drop i)=8:=by
 rw [JbH hx,if_neg (by omega),hh,if_pos (by simpa using h1)]
theorem JfF:∀ (bs:List (List J2)) (hs:List JQ),Ys hs bs=0 ↔ ∀ (k:Nat) x,bs[k]? = some x→(JT x []).2=0∧(JT x []).1=(hs[k]?.getD Zq).root
 | [],hs=>by simp [Ys]
 | l::bs,hs=>by
  have ih:=JfF bs (hs.drop 1)
  have e:WO hs=hs[0]?.getD Zq:=rfl
  unfold Ys
  constructor
  ·
   intro h
   split at h
   · contradiction
   split at h
   · cases h
   ·
    rename_i h1 h2
    intro k x hx
    cases k with
    | zero=>simp only [List.getElem?_cons_zero,Option.some.injEq] at hx;subst hx;exact ⟨Decidable.not_not.1 h1,by rw [← e];exact Decidable.not_not.1 h2⟩
    | succ k =>
     have:=ih.1 h k x (by simpa using hx)
     rw [List.getElem?_drop,Nat.add_comm] at this;exact this
  ·
   intro h
   obtain ⟨h1,h2⟩:=h 0 l rfl
   rw [if_neg (by omega),if_neg (by rw [e];omega)]
   refine ih.2 fun k x hx=>?_
   rw [List.getElem?_drop,Nat.add_comm]
   exact h (k+1) x (by simpa using hx)
def Kb (c:KP):Int:=if ¬ Ki c.queue=0 then Ki c.queue else if (Z4 c.batch 30=false∨Z4 c.every 1000=false)∨c.now<0∨c.now > 1000000000 then 4 else if ¬ (Kd c.heads).1=0 then (Kd c.heads).1 else if ¬ QD c=0 then QD c else if WZ c [] > 24 then 7 else 0
structure Zh (c:KP):Prop where
 queue:Ki c.queue=0
 batch:1≤c.batch∧c.batch≤30
 every:1≤c.every∧c.every≤1000
 now:0≤c.now∧c.now≤1000000000
 chain:Zc c.heads
 first:(WO c.heads).epoch=0
 len:c.books.length=c.heads.length
 at_:(WU c.heads).at_≤c.now
 root:∀ (k:Nat) x,c.books[k]? = some x→(JT x []).2=0∧(JT x []).1=(c.heads[k]?.getD Zq).root
 names:nn (JaA c [])≤24
theorem Jaq {c:KP}:QD c=0 ↔ (WO c.heads).epoch=0∧c.books.length=c.heads.length∧(WU c.heads).at_≤c.now∧∀ (k:Nat) x,c.books[k]? = some x→(JT x []).2=0∧(JT x []).1=(c.heads[k]?.getD Zq).root:=by
 unfold QD
 rw [← JfF]
 split
 ·
  rename_i h
  refine ⟨fun e=>(by cases e),fun ⟨a,b,d,_⟩=>?_⟩
  rcases h with (h | h) | h
  · exact absurd a h
  · omega
  · omega
 ·
  rename_i h
  simp only [not_or,Decidable.not_not] at h
  refine ⟨fun e=>⟨h.1.1,by have:=h.1.2;omega,by omega,e⟩,fun e=>e.2.2.2⟩
theorem Z5 {c:KP}:Kb c=0 ↔ Zh c:=by
 unfold Kb
 constructor
 ·
  intro h
  split at h
  · contradiction
  split at h
  · cases h
  split at h
  · contradiction
  split at h
  · contradiction
  split at h
  · cases h
  ·
   rename_i h1 h2 h3 h4 h5
   simp only [not_or,Bool.not_eq_false] at h2
   obtain ⟨⟨a1,a2⟩,a3,a4⟩:=h2
   obtain ⟨b1,b2,b3,b4⟩:=Jaq.1 (Decidable.not_not.1 h4)
   unfold WZ at h5
   exact ⟨Decidable.not_not.1 h1,Vz.1 a1,Vz.1 a2,⟨by omega,by omega⟩,K7.1 (Decidable.not_not.1 h3),b1,b2,b3,b4,by omega⟩
 ·
  intro h
  have e1:=Vz.2 h.batch
  have e2:=Vz.2 h.every
  have e3:=Jaq.2 ⟨h.first,h.len,h.at_,h.root⟩
  have e4:=K7.2 h.chain
  have e5:=h.names
  have e6:=h.now
  rw [if_neg (by rw [h.queue];simp),if_neg (by rw [e1,e2];simp;omega),if_neg (by rw [e4];simp),if_neg (by rw [e3];simp),if_neg (by unfold WZ;omega)]
theorem Jkq {c:KP} {x:JQ} (h:(c.heads[0]? = some x∧¬ x.epoch=0)∨¬ (c.books.length:Int)=c.heads.length∨(∃ y,c.heads[c.heads.length-1]? = some y∧y.at_ > c.now)):QD c=3:=by
 unfold QD
 rw [if_pos]
 rcases h with ⟨h,h2⟩ | h | ⟨y,h,h2⟩
 · rw [WP h] at h2;exact .inl (.inl h2)
 · exact .inl (.inr h)
 · rw [WB rfl h] at h2;exact .inr h2
theorem Job {c:KP} {x y:JQ} (hx:c.heads[0]? = some x) (h1:x.epoch=0) (h2:(c.books.length:Int)=c.heads.length) (hy:c.heads[c.heads.length-1]? = some y) (h3:¬ y.at_ > c.now):QD c=Ys c.heads c.books:=by
 unfold QD
 rw [WP hx] at h1;rw [WB rfl hy] at h3
 rw [if_neg]
 rintro ((h | h) | h)
 · exact h h1
 · exact h h2
 · exact h3 h
theorem JeY {c:KP} (hq:Ki c.queue=0) (hc:(Kd c.heads).1=0) (hb:QD c=0):0<c.books.length∧c.books.length≤1000∧(Wr c.books).length≤1000∧c.queue.wait.length≤1000:=by
 have h1:=Qd.1 hq
 have h2:=K7.1 hc
 obtain ⟨_,b2,_,b4⟩:=Jaq.1 hb
 have l1:=h2.len1;have l2:=h2.len
 have hl:c.books.length-1<c.books.length:=by omega
 have e:c.books[c.books.length-1]? = some (Wr c.books):=by unfold Wr;rw [List.getElem?_eq_getElem hl];rfl
 have:=(JcI (b4 _ _ e).1).1.len
 omega
def Kx (c:KP) (epoch:Int):List J2×Int:=if ¬ Kb c=0 then ([],Kb c) else if epoch<0∨epoch ≥ c.books.length then ([],4) else (c.books[epoch.toNat]?.getD [],0)
theorem Jdm {c:KP} {e:Int} (h:(Kx c e).2=0):Zh c∧0≤e∧e<c.books.length∧c.books[e.toNat]? = some (Kx c e).1:=by
 unfold Kx at h ⊢
 split at h
 · contradiction
 split at h
 · cases h
 ·
  rename_i h1 h2
  rw [if_neg h1,if_neg h2]
  have hl:e.toNat<c.books.length:=by omega
  refine ⟨Z5.1 (Decidable.not_not.1 h1),by omega,by omega,?_⟩
  simp only
  rw [List.getElem?_eq_getElem hl];rfl
theorem Joc (c:KP) (e:Int):(Kx c e).1.length≤24:=by
 by_cases h:(Kx c e).2=0
 ·
  obtain ⟨ok,_,_,hx⟩:=Jdm h
  exact (JcI (ok.root _ _ hx).1).1.len
 ·
  unfold Kx at h ⊢
  split
  · simp
  split
  · simp
  · rename_i h1 h2;rw [if_neg h1,if_neg h2] at h;exact absurd rfl h
def JfG:Go.Shelf.Ren:=⟨fun x=>if Nat.beq x 7 then 210 else if Nat.beq x 8 then 209 else if Nat.beq x 10 then 248 else if Nat.beq x 11 then 247 else 0,fun x=>if Nat.beq x 0 then 0 else if Nat.beq x 4 then 4 else if Nat.beq x 23 then 292 else if Nat.beq x 24 then 22 else if Nat.beq x 26 then 9 else if Nat.beq x 27 then 294 else if Nat.beq x 28 then 295 else if Nat.beq x 33 then 139 else if Nat.beq x 3 then 4 else 0,fun x=>x⟩
theorem lay_n7:SlLaysZ.n7 Tryz.prog JfG:={
 mixed:=rfl,
 f7:=⟨Tryz.f210.name,by decide,Tryz.func210.trans (by kernel_rfl)⟩,
 f10:=⟨Tryz.f248.name,by decide,Tryz.func248.trans (by kernel_rfl)⟩,
 t0:=by kernel_rfl,
 a0:=by intro w;kernel_rfl,
 z0:=by intro w;kernel_rfl,
 v0:=by intro w;kernel_rfl,
 t4:=by kernel_rfl,
 a4:=by intro w;kernel_rfl,
 z4:=by intro w;kernel_rfl,
 v4:=by intro w;kernel_rfl,
 t23:=by kernel_rfl,
 a23:=by intro w;kernel_rfl,
 z23:=by intro w;kernel_rfl,
 v23:=by intro w;kernel_rfl,
 t26:=by kernel_rfl,
 a26:=by intro w;kernel_rfl,
 z26:=by intro w;kernel_rfl,
 v26:=by intro w;kernel_rfl,
 t27:=by kernel_rfl,
 a27:=by intro w;kernel_rfl,
 z27:=by intro w;kernel_rfl,
 v27:=by intro w;kernel_rfl,
 t28:=by kernel_rfl,
 a28:=by intro w;kernel_rfl,
 z28:=by intro w;kernel_rfl,
 v28:=by intro w;kernel_rfl,
 t33:=by kernel_rfl,
 a33:=by intro w;kernel_rfl,
 z33:=by intro w;kernel_rfl,
 v33:=by intro w;kernel_rfl }
theorem lay_n8:SlLaysZ.n8 Tryz.prog JfG:={
 mixed:=rfl,
 f8:=⟨Tryz.f209.name,by decide,Tryz.func209.trans (by kernel_rfl)⟩,
 f11:=⟨Tryz.f247.name,by decide,Tryz.func247.trans (by kernel_rfl)⟩,
 t0:=by kernel_rfl,
 a0:=by intro w;kernel_rfl,
 z0:=by intro w;kernel_rfl,
 v0:=by intro w;kernel_rfl,
 t24:=by kernel_rfl,
 a24:=by intro w;kernel_rfl,
 z24:=by intro w;kernel_rfl,
 v24:=by intro w;kernel_rfl,
 t26:=by kernel_rfl,
 a26:=by intro w;kernel_rfl,
 z26:=by intro w;kernel_rfl,
 v26:=by intro w;kernel_rfl,
 t28:=by kernel_rfl,
 a28:=by intro w;kernel_rfl,
 z28:=by intro w;kernel_rfl,
 v28:=by intro w;kernel_rfl,
 i26:=by kernel_rfl }
theorem Jps:SlLaysZ.n10 Tryz.prog JfG:={
 mixed:=rfl,
 f10:=⟨Tryz.f248.name,by decide,Tryz.func248.trans (by kernel_rfl)⟩,
 t0:=by kernel_rfl,
 a0:=by intro w;kernel_rfl,
 z0:=by intro w;kernel_rfl,
 v0:=by intro w;kernel_rfl,
 t4:=by kernel_rfl,
 a4:=by intro w;kernel_rfl,
 z4:=by intro w;kernel_rfl,
 v4:=by intro w;kernel_rfl,
 t23:=by kernel_rfl,
 a23:=by intro w;kernel_rfl,
 z23:=by intro w;kernel_rfl,
 v23:=by intro w;kernel_rfl,
 t26:=by kernel_rfl,
 a26:=by intro w;kernel_rfl,
 z26:=by intro w;kernel_rfl,
 v26:=by intro w;kernel_rfl,
 t33:=by kernel_rfl,
 a33:=by intro w;kernel_rfl,
 z33:=by intro w;kernel_rfl,
 v33:=by intro w;kernel_rfl }
theorem Jgi (G:Jp) (root:Int) (hw_root:rU root) (a:Int) (hw_a:rI a) :Q2 96 #[U root,I a] G (.tuple #[.agg #[I (((KY root a).1).epoch),U (((KY root a).1).root),U (((KY root a).1).prev),I (((KY root a).1).at_)],I ((KY root a).2)]):=by
 refine JN Tryz.func96 18 [(0,U root),(1,I a)] rfl (fun w0 G0=>?_)
 refine Je (Jc (Jv 4 #[I 0,U 0,U 0,I 0] 43 (fun b1=>Ja [0] [] (Jd (Jb (Je (Jc (Ja [0,0,0] [(10,.agg #[I 0,U root,U 0,I a])] (Jv 6 #[I 0,U 0,U 0,I 0] 43 (fun b2=>JV [3] [] [[Sg b2 0 [I 0,U root,U 0,I a]],[Sg b1 0 [I 0,U 0,U 0,I 0]]] (Jd (Jb (Je (Je (Jc (Ja [2] [(11,.agg #[I 0,U root,U 0,I a])] (Jj 12 (I (JI (⟨0,root,0,a⟩:JQ))) (ZS (⟨0,root,0,a⟩:JQ) G) (Ja [0] [(7,I (JI (⟨0,root,0,a⟩:JQ)))] (Jd (Jb (Jf [0,0] [(14,Bo (!decide (JI (⟨0,root,0,a⟩:JQ)=0)))] (Jk (!decide (JI (⟨0,root,0,a⟩:JQ)=0)) (fun h1=>?_) (fun h1=>?_)))))))))))))))))))))))
 refine Jf [0,0,5,0] [(5,I (JI (⟨0,root,0,a⟩:JQ)))] (Jl (Jh (Jm [1,0] [.agg #[I 0,U 0,U 0,I 0],I (JI (⟨0,root,0,a⟩:JQ))] (Jw (Jp.le_refl _) ?_))))
 have hf_:(KY root a)=((⟨0,0,0,0⟩:JQ),(JI (⟨0,root,0,a⟩:JQ))):=by
  unfold KY Zq;(rw [if_pos ‹_›];done)
 · (try rw [hf_]);(simp only [Ql];done)
 refine Jo (Jb (Qx [2,5,0] [(5,I 0)] [[Sg b2 0 [I 0,U root,U 0,I a]],[Sg b1 0 [I 0,U root,U 0,I a]]] (Jl (Jm [1,0] [.agg #[I 0,U root,U 0,I a],I 0] (Jw (Jp.le_refl _) ?_)))))
 have hf_:(KY root a)=((⟨0,root,0,a⟩:JQ),0):=by
  unfold KY Zq;(rw [if_neg (by omega)];done)
 · (try rw [hf_]);(simp only [Ql];done)
theorem JaX (G:Jp) (n:Int) (most:Int) :Q2 94 #[I n,I most] G (Bo (Z4 n most)):=by
 refine JN Tryz.func94 12 [(0,I n),(1,I most)] rfl (fun w0 G0=>?_)
 refine Jf [0] [] (Je (Jc (Ja [0,0,0] [(7,Bo (decide (n ≥ 1)))] (Kn (decide (n ≥ 1)) [7] [0,0,0,0] [1,1,1,0] (fun bb=>[(11,Bo (bb && (decide (n≤most))))]) (Ja [0] [(4,Bo ((decide (n ≥ 1)) && (decide (n≤most))))] (Jd (Jb (Jl (Jm [0] [Bo ((decide (n ≥ 1)) && (decide (n≤most)))] (Jw (Jp.le_refl _) (congrArg Bo (?_:(Z4 n most)=((decide (n ≥ 1)) && (decide (n≤most)))).symm)))))))))))
 rfl
theorem JfH (G:Jp) (vs_c:List Value) (c:KP) (h_c:Jaf.R G vs_c c) (hb:0<c.books.length) (hb2:c.books.length≤1000):Yi 164 #[.agg vs_c.toArray] G [] (fun u G' L'=>∃ (a1:Option Addr) (c2:Nat),u=Sl a1 ((Wr c.books).length) c2∧(RS QA G' a1 c2 (Wr c.books))∧L'=[]):=by
 obtain ⟨a1,c1,a2,c2,a3,c3,rfl,_,_,_,_,_,_,hs3⟩:=h_c
 refine JN Tryz.func164 11 [(0,(Qz c a1 c1 a2 c2 a3 c3))] rfl (fun w0 G0=>?_)
 refine Je (Jc (Jv 1 #[I c.queue.most,Sl a1 c.queue.wait.length c1,I c.batch,I c.every,I c.now,Sl a2 c.heads.length c2,Sl a3 c.books.length c3] 60 (fun b1=>Ja [0] [] (Jd (Jb (Je (Jc (Ja [0,2,0,2,0,0] [(4,Sl a3 c.books.length c3),(8,I (IntKind.i64.wrap ((c.books.length:Int)-1)))] ?_))))))))
 have e1:IntKind.i64.wrap ((c.books.length:Int)-1)=((c.books.length-1:Nat):Int):=(IntWalk.i64_in _ (by omega)).trans (show (c.books.length:Int)-1=((c.books.length-1:Nat):Int) by omega)
 refine KI 8 (I ((c.books.length-1:Nat):Int)) (congrArg I e1) ?_
 clear e1
 obtain ⟨b2,o1,rfl⟩:=RS.addr hs3 (k:=c.books.length-1) (by omega)
 obtain ⟨x1,hx1⟩:=We (l:=c.books) (k:=c.books.length-1) (by omega)
 obtain ⟨_,⟨a4,c4,rfl,hs4⟩,hc1⟩:=RS.get hs3 hx1
 refine J3 (b:=b2) (off:=o1) (len:=c.books.length) (cap:=c3) (ik:=.i64) 9 44 1 (c.books.length-1) J7 (JW 10 44 (cs:=[Sl a4 x1.length c4]) 0 (Sl a4 x1.length c4) hc1 (Ja [0] [(2,Sl a4 x1.length c4)] (Jd (Jb (Jl ?_)))))
 have hf1:Wr c.books=x1:=by
  exact (JmD rfl hx1).symm
 refine Jm [0] [Sl a4 x1.length c4] (Jy [] (Jp.le_refl _) ?_)
 rw [hf1]
 try dsimp only
 exact ⟨a4,c4,rfl,hs4,rfl⟩
theorem JbI (G:Jp) (vs_c:List Value) (c:KP) (h_c:Jaf.R G vs_c c) (a_more:Option Addr) (c_more:Nat) (more:List (List UInt8)) (h_more:RS ES G a_more c_more more) (hb:0<c.books.length) (hb2:c.books.length≤1000) (hn1:(Wr c.books).length≤1000) (hn2:c.queue.wait.length≤1000) (hn3:more.length≤1000):Q2 155 #[.agg vs_c.toArray,Sl a_more more.length c_more] G (I (WZ c more)):=by
 obtain ⟨a1,c1,a2,c2,a3,c3,rfl,w1,hs1,w2,w3,w4,hs2,hs3⟩:=h_c
 refine JN Tryz.func155 49 [(0,(Qz c a1 c1 a2 c2 a3 c3)),(1,Sl a_more more.length c_more)] rfl (fun w0 G0=>?_)
 refine Je (Jc (Jv 2 #[I c.queue.most,Sl a1 c.queue.wait.length c1,I c.batch,I c.every,I c.now,Sl a2 c.heads.length c2,Sl a3 c.books.length c3] 60 (fun b1=>Ja [0] [] (Jd (Jb (Je (Jc (Jkl 12 9 4 (fun b2 ob1 hm1=>Ja [0] [(5,.map (some b2))] (Jd (Jb (Je (Je (Jc (Ja [4] [(13,(Qz c a1 c1 a2 c2 a3 c3))] (JF 14 (JfH G (KU c a1 c1 a2 c2 a3 c3) c (⟨a1,c1,a2,c2,a3,c3,rfl,w1,hs1,w2,w3,w4,hs2,hs3⟩) ‹_› ‹_›) (fun v G1 L1 hl1 hp=>?_)))))))))))))))))
 obtain ⟨a4,c4,rfl,hs4,rfl⟩:=hp
 refine Ja [0,0] [(15,I ((Wr c.books).length:Int)),(16,I 0)] (Jd (Jb (Jz ?_)))
 have hlm_h_more:more.length≤9223372036854775807:=Nat.le_trans (h_more).le (h_more).max
 have hlm_hs4:(Wr c.books).length≤9223372036854775807:=Nat.le_trans (hs4).le (hs4).max
 refine Qh (σ:=Nat×Obj) (fun q_=>(q_.1≤(Wr c.books).length)∧(JdZ Tryz.prog 9 4 q_.2 q_.1 (Dn (Qe ((Wr c.books).take q_.1))))) (fun q_=>[(1,Sl a_more more.length c_more),(2,Pt b1 0),(5,.map (some b2)),(14,Sl a4 ((Wr c.books).length) c4),(15,I ((Wr c.books).length:Int)),(16,I (q_.1:Int))]) (fun q_=>G1) (fun q_=>[[Ob b2 q_.2],[Sg b1 0 (KU c a1 c1 a2 c2 a3 c3)]]) (fun q_=>(Wr c.books).length-q_.1) (0,ob1) ⟨(by (try dsimp only);exact Nat.zero_le _),(by (try dsimp only);exact hm1)⟩ (fun q_ hs=>?_)
 obtain ⟨i,ob1⟩:=q_
 obtain ⟨hi,hm1⟩:=hs
 dsimp only at hi hm1
 dsimp only
 refine Jf [0] [(17,Bo (decide ((i:Int)<((Wr c.books).length:Int))))] (Je (Jk (decide ((i:Int)<((Wr c.books).length:Int))) (fun h1=>?_) (fun h1=>?_)))
 refine Jo (Jb (Je (Jz (Je (Jc ?_)))))
 obtain ⟨b3,o1,rfl⟩:=RS.addr hs4 (k:=i) (by omega)
 obtain ⟨x1,hx1⟩:=We (l:=Wr c.books) (k:=i) (by omega)
 obtain ⟨_,⟨rfl,w5,_⟩,hc1⟩:=RS.get hs4 hx1
 refine J3 (b:=b3) (off:=o1) (len:=(Wr c.books).length) (cap:=c4) (ik:=.i64) 18 111 2 i J7 (JW 19 111 (cs:=[Sr x1.name,Sr x1.value]) 0 (.agg #[Sr x1.name,Sr x1.value]) hc1 (Jv 7 #[Sr ([]),Sr ([])] 111 (fun b4=>JV [3] [] [[Sg b4 0 [Sr x1.name,Sr x1.value]],[Ob b2 ob1],[Sg b1 0 (KU c a1 c1 a2 c2 a3 c3)]] (Jd (Jb (Jc (Ja [0,0,2] [(20,.map (some b2)),(22,Sr x1.name)] (Jd0 (n:=i) (D:=Dn (Qe ((Wr c.books).take i))) (s:=x1.name) 1 292 9 4 true hm1 (Go.Maps.string_keyed (by kernel_rfl)) (by kernel_rfl) (by kernel_rfl) (by kernel_rfl) (Nat.le_trans w5 (by decide)) (Nat.lt_of_lt_of_le (m:=1000000) J7 (by decide)) (fun ob2 hm2=>?_)))))))))
 rw [← JeW] at hm2
 exact Jd (JM (Jb (Jc (Ja [0,0] [(16,I (IntKind.i64.wrap ((i:Int)+1)))] (Kw 16 ((i:Int)+1) J7 (Jd (QT [[Ob b2 ob2],[Sg b1 0 (KU c a1 c1 a2 c2 a3 c3)]] (Qr (i+1,ob2) ⟨J7,(by rw [Jgg hx1];exact hm2)⟩ (by (try dsimp only);omega)))))))))
 refine KW (JZ (J8 (JR (Jb (Je (Jf [0,0,4,0,0] [(26,Sl a1 c.queue.wait.length c1),(27,I (c.queue.wait.length:Int)),(28,I 0)] (Jz ?_)))))))
 have hlm_h_more:more.length≤9223372036854775807:=Nat.le_trans (h_more).le (h_more).max
 have hlm_hs1:c.queue.wait.length≤9223372036854775807:=Nat.le_trans (hs1).le (hs1).max
 refine Qh (σ:=Nat×Obj) (fun q_=>(q_.1≤c.queue.wait.length)∧(JdZ Tryz.prog 9 4 q_.2 ((Wr c.books).length+q_.1) (Dn (Qe (Wr c.books)++Q5 (c.queue.wait.take q_.1))))) (fun q_=>[(1,Sl a_more more.length c_more),(5,.map (some b2)),(26,Sl a1 c.queue.wait.length c1),(27,I (c.queue.wait.length:Int)),(28,I (q_.1:Int))]) (fun q_=>G1) (fun q_=>[[Ob b2 q_.2],[Sg b1 0 (KU c a1 c1 a2 c2 a3 c3)]]) (fun q_=>c.queue.wait.length-q_.1) (0,ob1) ⟨(by (try dsimp only);exact Nat.zero_le _),(by (try dsimp only);have e_:=List.take_of_length_le (i:=i) (l:=Wr c.books) (by omega);have e2_:i=(Wr c.books).length:=(by omega);have q_:=hm1;rw [e_] at q_;rw [e2_] at q_;simpa [Q5] using q_)⟩ (fun q_ hs=>?_)
 obtain ⟨j,ob2⟩:=q_
 obtain ⟨hi,hm2⟩:=hs
 dsimp only at hi hm2
 dsimp only
 refine Jf [0] [(29,Bo (decide ((j:Int)<(c.queue.wait.length:Int))))] (Je (Jk (decide ((j:Int)<(c.queue.wait.length:Int))) (fun h2=>?_) (fun h2=>?_)))
 refine Jo (Jb (Je (Jz (Je (Jc ?_)))))
 obtain ⟨b5,o2,rfl⟩:=RS.addr (hs1.mono hl1) (k:=j) (by omega)
 obtain ⟨x2,hx2⟩:=We (l:=c.queue.wait) (k:=j) (by omega)
 obtain ⟨_,⟨rfl,w7,_,_,_⟩,hc2⟩:=RS.get (hs1.mono hl1) hx2
 refine J3 (b:=b5) (off:=o2) (len:=c.queue.wait.length) (cap:=c1) (ik:=.i64) 30 182 4 j J7 (JW 31 182 (cs:=[Sr x2.name,Sr x2.value,U x2.n,U x2.tag]) 0 (.agg #[Sr x2.name,Sr x2.value,U x2.n,U x2.tag]) hc2 (Jv 9 #[Sr ([]),Sr ([]),U 0,U 0] 182 (fun b6=>JV [3] [] [[Sg b6 0 [Sr x2.name,Sr x2.value,U x2.n,U x2.tag]],[Ob b2 ob2],[Sg b1 0 (KU c (At b5 o2) c1 a2 c2 a3 c3)]] (Jd (Jb (Jc (Ja [0,0,2] [(32,.map (some b2)),(34,Sr x2.name)] (Jd0 (n:=(Wr c.books).length+j) (D:=Dn (Qe (Wr c.books)++Q5 (c.queue.wait.take j))) (s:=x2.name) 1 292 9 4 true hm2 (Go.Maps.string_keyed (by kernel_rfl)) (by kernel_rfl) (by kernel_rfl) (by kernel_rfl) (Nat.le_trans w7 (by decide)) (Nat.lt_of_lt_of_le (m:=1000000) J7 (by decide)) (fun ob3 hm3=>?_)))))))))
 rw [← JeW] at hm3
 exact Jd (JM (Jb (Jc (Ja [0,0] [(28,I (IntKind.i64.wrap ((j:Int)+1)))] (Kw 28 ((j:Int)+1) J7 (Jd (QT [[Ob b2 ob3],[Sg b1 0 (KU c (At b5 o2) c1 a2 c2 a3 c3)]] (Qr (j+1,ob3) ⟨J7,(by rw [Jgh hx2,← List.append_assoc];exact hm3)⟩ (by (try dsimp only);omega)))))))))
 refine KW (JZ (J8 (JR (Jb (Je (Jf [0,0,0] [(36,Sl a_more more.length c_more),(37,I (more.length:Int)),(38,I 0)] (Jz ?_)))))))
 have hlm_h_more:more.length≤9223372036854775807:=Nat.le_trans (h_more).le (h_more).max
 refine Qh (σ:=Nat×Obj) (fun q_=>(q_.1≤more.length)∧(JdZ Tryz.prog 9 4 q_.2 ((Wr c.books).length+c.queue.wait.length+q_.1) (Dn (Qe (Wr c.books)++Q5 c.queue.wait++more.take q_.1)))) (fun q_=>[(5,.map (some b2)),(36,Sl a_more more.length c_more),(37,I (more.length:Int)),(38,I (q_.1:Int))]) (fun q_=>G1) (fun q_=>[[Ob b2 q_.2],[Sg b1 0 (KU c a1 c1 a2 c2 a3 c3)]]) (fun q_=>more.length-q_.1) (0,ob2) ⟨(by (try dsimp only);exact Nat.zero_le _),(by (try dsimp only);have e_:=List.take_of_length_le (i:=j) (l:=c.queue.wait) (by omega);have e2_:j=c.queue.wait.length:=(by omega);have q_:=hm2;rw [e_] at q_;rw [e2_] at q_;simpa using q_)⟩ (fun q_ hs=>?_)
 obtain ⟨k,ob3⟩:=q_
 obtain ⟨hi,hm3⟩:=hs
 dsimp only at hi hm3
 dsimp only
 refine Jf [0] [(39,Bo (decide ((k:Int)<(more.length:Int))))] (Je (Jk (decide ((k:Int)<(more.length:Int))) (fun h3=>?_) (fun h3=>?_)))
 refine Jo (Jb (Je (Jz (Je (Jc ?_)))))
 obtain ⟨b7,o3,rfl⟩:=RS.addr (h_more.mono hl1) (k:=k) (by omega)
 obtain ⟨x3,hx3⟩:=We (l:=more) (k:=k) (by omega)
 obtain ⟨_,⟨rfl,w11⟩,hc3⟩:=RS.get (h_more.mono hl1) hx3
 refine J3 (b:=b7) (off:=o3) (len:=more.length) (cap:=c_more) (ik:=.i64) 40 9 1 k J7 (JW 41 9 (cs:=[Sr x3]) 0 (Sr x3) hc3 (Ja [0] [(11,Sr x3)] (Jd (Jb (Jc (Ja [0,0] [(42,.map (some b2)),(43,Sr x3)] (Jd0 (n:=(Wr c.books).length+c.queue.wait.length+k) (D:=Dn (Qe (Wr c.books)++Q5 c.queue.wait++more.take k)) (s:=x3) 0 292 9 4 true hm3 (Go.Maps.string_keyed (by kernel_rfl)) (by kernel_rfl) (by kernel_rfl) (by kernel_rfl) (Nat.le_trans w11 (by decide)) (Nat.lt_of_lt_of_le (m:=1000000) J7 (by decide)) (fun ob4 hm4=>?_))))))))
 rw [← JeW] at hm4
 exact Jd (JM (Jb (Jc (Ja [0,0] [(38,I (IntKind.i64.wrap ((k:Int)+1)))] (Kw 38 ((k:Int)+1) J7 (Jd (Qr (k+1,ob4) ⟨J7,(by rw [Joa hx3,← List.append_assoc];exact hm4)⟩ (by (try dsimp only);omega))))))))
 refine KW (JZ (J8 (JR (Jb (Je (Jc (Ja [0] [(45,.map (some b2))] (JmC (ρ:=JfG) (b:=b2) 46 lay_n7 (fun bk1=>JhG (ρ:=JfG) (b:=b2) (bk:=bk1) (D:=Dn (Qe (Wr c.books)++Q5 c.queue.wait++more.take k)) 47 1 0 lay_n8 Jps hm3 (by rw [(Jln _).2.2];refine Nat.le_trans (nn_le _) ?_;simp only [List.length_append,JhH,JhI,List.length_take];omega) (fun a5 c5=>?_))))))))))
 refine Ja [0,0] [(4,I (((strKeys (Dn (Qe (Wr c.books)++Q5 c.queue.wait++more.take k))).length:Nat):Int))] (Jd (Jb (Jl (Jm [0] [I (((strKeys (Dn (Qe (Wr c.books)++Q5 c.queue.wait++more.take k))).length:Nat):Int)] (Jw hl1 (congrArg I (?_:(WZ c more)=(((strKeys (Dn (Qe (Wr c.books)++Q5 c.queue.wait++more.take k))).length:Nat):Int)).symm))))))
 rw [Jpr];unfold WZ JaA;rw [List.take_of_length_le (i:=k) (l:=more) (by omega)]
theorem JhJ (G:Jp) (most:Int) (hw_most:rI most) (batch:Int) (hw_batch:rI batch) (every:Int) (hw_every:rI every) :Yi 55 #[I most,I batch,I every] G [] (fun u G' L'=>∃ (a1:Option Addr) (c2:Nat) (a3:Option Addr) (c4:Nat) (a5:Option Addr) (c6:Nat),u=.tuple #[.agg #[I (((J4 most batch every).1).queue.most),Sl a1 ((((J4 most batch every).1).queue.wait).length) c2,I (((J4 most batch every).1).batch),I (((J4 most batch every).1).every),I (((J4 most batch every).1).now),Sl a3 ((((J4 most batch every).1).heads).length) c4,Sl a5 ((((J4 most batch every).1).books).length) c6],I ((J4 most batch every).2)]∧(rI (((J4 most batch every).1).queue.most))∧(RS Q3 G' a1 c2 (((J4 most batch every).1).queue.wait))∧(rI (((J4 most batch every).1).batch))∧(rI (((J4 most batch every).1).every))∧(rI (((J4 most batch every).1).now))∧(RS KA G' a3 c4 (((J4 most batch every).1).heads))∧(RS Qs G' a5 c6 (((J4 most batch every).1).books))∧L'=[]):=by
 refine JN Tryz.func55 43 [(0,I most),(1,I batch),(2,I every)] rfl (fun w0 G0=>?_)
 refine Je (Jc (Jv 6 #[I 0,Sl none 0 0,I 0,I 0,I 0,Sl none 0 0,Sl none 0 0] 60 (fun b1=>Ja [0] [] (Jd (Jb (Je (Je (Jc (Ja [0] [(12,I most)] (Jj 13 (Bo (Z4 most 30)) (JaX G most 30) (Ja [0,0] [(15,Bo (!(Z4 most 30)))] (Qu [15] (!(Z4 most 30)) (fun h1=>?_) (fun h1=>?_)))))))))))))
 refine Ja [1,1,1,0,0,1,1,1,0] [(24,Bo true)] (Jd (Jb (JU (Jf [0,3,0] [(7,I 4)] (Jl (Jh ?_))))))
 have hf1:J4 most batch every=((⟨(⟨0,[]⟩:Q0),0,0,0,[],[]⟩:KP),4):=by
  unfold J4 ZU;simp_all
 refine Jm [0,0] [.agg #[I 0,Sl none 0 0,I 0,I 0,I 0,Sl none 0 0,Sl none 0 0],I 4] (Jy [] (Jp.le_refl _) ?_)
 rw [hf1]
 try dsimp only
 exact ⟨none,0,none,0,none,0,rfl,J7,(RS.nil' Q3 G),J7,J7,J7,(RS.nil' KA G),(RS.nil' Qs G),rfl⟩
 refine Ja [0] [(16,I batch)] (Jj 17 (Bo (Z4 batch 30)) (JaX G batch 30) (Ja [0,0,0] [(20,Bo (!(Z4 batch 30)))] (Qu [20] (!(Z4 batch 30)) (fun h2=>?_) (fun h2=>?_))))
 refine Ja [1,1,1,0] [(24,Bo true)] (Jd (Jb (JU (Jf [0,3,0] [(7,I 4)] (Jl (Jh ?_))))))
 have hf2:J4 most batch every=((⟨(⟨0,[]⟩:Q0),0,0,0,[],[]⟩:KP),4):=by
  unfold J4 ZU;simp_all
 refine Jm [0,0] [.agg #[I 0,Sl none 0 0,I 0,I 0,I 0,Sl none 0 0,Sl none 0 0],I 4] (Jy [] (Jp.le_refl _) ?_)
 rw [hf2]
 try dsimp only
 exact ⟨none,0,none,0,none,0,rfl,J7,(RS.nil' Q3 G),J7,J7,J7,(RS.nil' KA G),(RS.nil' Qs G),rfl⟩
 refine Ja [0] [(21,I every)] (Jj 22 (Bo (Z4 every 1000)) (JaX G every 1000) (Ja [0,0] [(24,Bo (!(Z4 every 1000)))] (Jd (Jb (Jk (!(Z4 every 1000)) (fun h3=>?_) (fun h3=>?_))))))
 refine Jf [0,3,0] [(7,I 4)] (Jl (Jh ?_))
 have hf3:J4 most batch every=((⟨(⟨0,[]⟩:Q0),0,0,0,[],[]⟩:KP),4):=by
  unfold J4 ZU;simp_all
 refine Jm [0,0] [.agg #[I 0,Sl none 0 0,I 0,I 0,I 0,Sl none 0 0,Sl none 0 0],I 4] (Jy [] (Jp.le_refl _) ?_)
 rw [hf3]
 try dsimp only
 exact ⟨none,0,none,0,none,0,rfl,J7,(RS.nil' Q3 G),J7,J7,J7,(RS.nil' KA G),(RS.nil' Qs G),rfl⟩
 refine Jo (Jb (Je (Jc (Jj 27 (.tuple #[U ((JT ([]) []).1),I ((JT ([]) []).2)]) (Jbd G none 0 ([]) (RS.nil' QA G)) (Ja [0,0,0,0,0] [(8,U ((JT ([]) []).1))] (Jd (Jb (Je (Jc (Ja [0] [(31,U ((JT ([]) []).1))] (Jj 32 (.tuple #[(Y9 (KY ((JT ([]) []).1) 0).1),I ((KY ((JT ([]) []).1) 0).2)]) (Jgi G ((JT ([]) []).1) (Y4 _ _) 0 J7) (Ja [0,0,0] [(33,(Y9 (KY ((JT ([]) []).1) 0).1)),(34,I ((KY ((JT ([]) []).1) 0).2))] (Jv 10 #[I 0,U 0,U 0,I 0] 43 (fun b2=>JV [3,0] [] [[Sg b2 0 (Jc3 (KY ((JT ([]) []).1) 0).1)],[Sg b1 0 [I 0,Sl none 0 0,I 0,I 0,I 0,Sl none 0 0,Sl none 0 0]]] (Jd (Jb (Je (Jc (Ja [0,0,0,0,2] [(36,.agg #[I most,Sl none 0 0]),(37,I batch),(38,I every),(39,(Y9 (KY ((JT ([]) []).1) 0).1))] (Kq 40 1 #[I (((KY ((JT ([]) []).1) 0).1).epoch),U (((KY ((JT ([]) []).1) 0).1).root),U (((KY ((JT ([]) []).1) 0).1).prev),I (((KY ((JT ([]) []).1) 0).1).at_)] 43 (fun b3=>Kq 41 1 #[Sl none 0 0] 44 (fun b4=>?_))))))))))))))))))))))
 refine JV [0,9,0] [(7,I 0)] [[Sg b4 0 [Sl none 0 0]],[Sg b3 0 (Jc3 (KY ((JT ([]) []).1) 0).1)],[Sg b2 0 (Jc3 (KY ((JT ([]) []).1) 0).1)],[Sg b1 0 [I most,Sl none 0 0,I batch,I every,I 0,Sl (At b3 0) 1 1,Sl (At b4 0) 1 1]]] (Jd (Jb (Jl (JeX (b:=b3) (o:=0) (cs:=(Jc3 (KY ((JT ([]) []).1) 0).1)) 1 (fun G1 hl1 hz1=>?_)))))
 have hs1:RS KA G1 (At b3 0) 1 [((KY ((JT ([]) []).1) 0).1)]:=RS.lit [(Jc3 (KY ((JT ([]) []).1) 0).1)] [((KY ((JT ([]) []).1) 0).1)] ⟨⟨rfl,(by have q_:=VX (r:=(JT [] []).1) (a:=0) (Y4 _ _) (by omega);omega),(by have q_:=VX (r:=(JT [] []).1) (a:=0) (Y4 _ _) (by omega);omega),(by have q_:=VX (r:=(JT [] []).1) (a:=0) (Y4 _ _) (by omega);omega),(by have q_:=VX (r:=(JT [] []).1) (a:=0) (Y4 _ _) (by omega);omega)⟩,trivial⟩ hz1 (Nat.le_of_ble_eq_true rfl) (Nat.le_of_ble_eq_true rfl)
 refine JeX (b:=b4) (o:=0) (cs:=[Sl none 0 0]) 0 (fun G2 hl2 hz2=>?_)
 have hs2:RS Qs G2 (At b4 0) 1 [[]]:=RS.lit [[Sl none 0 0]] [[]] ⟨⟨none,0,rfl,(RS.nil' QA G2)⟩,trivial⟩ hz2 (Nat.le_of_ble_eq_true rfl) (Nat.le_of_ble_eq_true rfl)
 have hf4:J4 most batch every=((⟨(⟨most,[]⟩:Q0),batch,every,0,[((KY ((JT ([]) []).1) 0).1)],[[]]⟩:KP),0):=by
  unfold J4 ZU;simp_all
 refine Jm [3,0] [.agg #[I most,Sl none 0 0,I batch,I every,I 0,Sl (At b3 0) 1 1,Sl (At b4 0) 1 1],I 0] (Jy [] (Jp.le_trans hl1 hl2) ?_)
 rw [hf4]
 try dsimp only
 exact ⟨none,0,(At b3 0),1,(At b4 0),1,rfl,hw_most,(RS.nil' Q3 G2),hw_batch,hw_every,J7,(hs1.mono hl2),hs2,rfl⟩
set_option maxRecDepth 20000 in
theorem JfI (G:Jp) (vs_c:List Value) (c:KP) (h_c:Jaf.R G vs_c c) (h0:1≤c.heads.length) (h9:c.heads.length≤40):Q2 206 #[.agg vs_c.toArray] G (I (QD c)):=by
 obtain ⟨a1,c1,a2,c2,a3,c3,rfl,_,_,_,_,_,hs2,hs3⟩:=h_c
 refine JN Tryz.func206 63 [(0,(Qz c a1 c1 a2 c2 a3 c3))] rfl (fun w0 G0=>?_)
 refine Je (Jc (Jv 1 #[I c.queue.most,Sl a1 c.queue.wait.length c1,I c.batch,I c.every,I c.now,Sl a2 c.heads.length c2,Sl a3 c.books.length c3] 60 (fun b1=>Ja [0] [] (Jd (Jb (Jf [0,2,0,0] [(3,I (c.heads.length:Int))] (Je (Je ?_))))))))
 obtain ⟨b2,o1,rfl⟩:=RS.addr hs2 (k:=0) (by omega)
 obtain ⟨x1,hx1⟩:=We (l:=c.heads) (k:=0) (by omega)
 obtain ⟨_,⟨rfl,_,_,_,_⟩,hc1⟩:=RS.get hs2 hx1
 rcases Bool.eq_false_or_eq_true (!decide (x1.epoch=0)) with h1 | h1
 have h1d:=h1
 try simp only [BB] at h1d
 refine Ko [] (Wm [(0,Pt b1 5),(1,Sl (At b2 o1) c.heads.length c2),(2,Pt b2 (o1+0*4)),(3,Pt b2 (o1+0*4)),(4,I x1.epoch),(5,Bo true),(6,Bo true),(7,undef),(8,undef),(9,undef),(10,undef),(11,undef),(12,Bo true),(13,Bo true),(14,undef),(15,undef),(16,undef),(17,undef),(18,undef),(19,undef),(20,undef),(21,undef),(22,undef),(23,undef),(24,Bo true)] (Km [] [(0,0),(1,2),(3,0),(6,0),(7,1),(8,1),(9,1),(10,1),(11,1),(12,0),(13,0),(14,1),(15,1),(16,1),(17,1),(18,1),(19,1),(20,1),(21,1),(22,1),(23,1),(24,0)] [2,4,5] [(1,Pt b1 0),(35,Bo true)] (Ke ?_ (Ke ?_ (Ke ?_ K4))) ?_))
 refine Jr 2 13 (Pt b2 (o1+0*4)) [(12,Sl (At b2 o1) c.heads.length c2)] (fun X=>?_)
 exact J3 (b:=b2) (off:=o1) (len:=c.heads.length) (cap:=c2) (ik:=.i64) 13 43 4 0 J7 Jn
 refine Jr 4 15 (I x1.epoch) [(14,Pt b2 (o1+0*4))] (fun X=>?_)
 exact JW 15 2 (cs:=[I x1.epoch,U x1.root,U x1.prev,I x1.at_]) 0 (I x1.epoch) hc1 Jn
 refine Jr 5 16 (Bo true) [(15,I x1.epoch)] (fun X=>?_)
 exact K5 16 (Bo (!decide (x1.epoch=0))) (Bo true) (by rw [h1]) Jn
 refine Jb (JU (Jf [0] [(2,I 3)] (Jl (Jh (Jm [0] [I 3] (Jw (Jp.le_refl _) (congrArg I (?_:(QD c)=3).symm)))))))
 exact Jkq (.inl ⟨hx1,by assumption⟩)
 have h1d:=h1
 try simp only [BB] at h1d
 rcases Bool.eq_false_or_eq_true (!decide ((c.books.length:Int)=(c.heads.length:Int))) with h2 | h2
 have h2d:=h2
 try simp only [BB] at h2d
 refine Ko [] (Wm [(0,Pt b1 5),(1,Sl (At b2 o1) c.heads.length c2),(2,Pt b2 (o1+0*4)),(3,Pt b2 (o1+0*4)),(4,I x1.epoch),(5,Bo false),(6,Bo false),(7,Pt b1 6),(8,Sl a3 c.books.length c3),(9,I (c.books.length:Int)),(10,I (c.heads.length:Int)),(11,Bo true),(12,Bo true),(13,Bo true),(14,undef),(15,undef),(16,undef),(17,undef),(18,undef),(19,undef),(20,undef),(21,undef),(22,undef),(23,undef),(24,Bo true)] (Km [] [(0,0),(1,2),(3,0),(6,0),(7,0),(8,2),(9,0),(10,0),(12,0),(13,0),(14,1),(15,1),(16,1),(17,1),(18,1),(19,1),(20,1),(21,1),(22,1),(23,1),(24,0)] [2,4,5,11] [(1,Pt b1 0),(35,Bo true)] (Ke ?_ (Ke ?_ (Ke ?_ (Ke ?_ K4)))) ?_))
 refine Jr 2 13 (Pt b2 (o1+0*4)) [(12,Sl (At b2 o1) c.heads.length c2)] (fun X=>?_)
 exact J3 (b:=b2) (off:=o1) (len:=c.heads.length) (cap:=c2) (ik:=.i64) 13 43 4 0 J7 Jn
 refine Jr 4 15 (I x1.epoch) [(14,Pt b2 (o1+0*4))] (fun X=>?_)
 exact JW 15 2 (cs:=[I x1.epoch,U x1.root,U x1.prev,I x1.at_]) 0 (I x1.epoch) hc1 Jn
 refine Jr 5 16 (Bo false) [(15,I x1.epoch)] (fun X=>?_)
 exact K5 16 (Bo (!decide (x1.epoch=0))) (Bo false) (by rw [h1]) Jn
 refine Jr 11 22 (Bo true) [(17,Bo false),(20,I (c.books.length:Int)),(21,I (c.heads.length:Int))] (fun X=>?_)
 exact K5 22 (Bo (!decide ((c.books.length:Int)=(c.heads.length:Int)))) (Bo true) (by rw [h2]) Jn
 refine Jb (JU (Jf [0] [(2,I 3)] (Jl (Jh (Jm [0] [I 3] (Jw (Jp.le_refl _) (congrArg I (?_:(QD c)=3).symm)))))))
 exact Jkq (x:=Zq) (.inr (.inl ‹_›))
 have h2d:=h2
 try simp only [BB] at h2d
 have e1:IntKind.i64.wrap ((c.heads.length:Int)-1)=((c.heads.length-1:Nat):Int):=(IntWalk.i64_in _ (by omega)).trans (show (c.heads.length:Int)-1=((c.heads.length-1:Nat):Int) by omega)
 obtain ⟨x2,hx2⟩:=We (l:=c.heads) (k:=c.heads.length-1) (by omega)
 obtain ⟨_,⟨rfl,_,_,_,_⟩,hc2⟩:=RS.get hs2 hx2
 refine Ko [] (Wm [(0,Pt b1 5),(1,Sl (At b2 o1) c.heads.length c2),(2,Pt b2 (o1+0*4)),(3,Pt b2 (o1+0*4)),(4,I x1.epoch),(5,Bo false),(6,Bo false),(7,Pt b1 6),(8,Sl a3 c.books.length c3),(9,I (c.books.length:Int)),(10,I (c.heads.length:Int)),(11,Bo false),(12,Bo false),(13,Bo false),(14,Pt b1 5),(15,Sl (At b2 o1) c.heads.length c2),(16,I (c.heads.length:Int)),(17,I ((c.heads.length-1:Nat):Int)),(18,Pt b2 (o1+(c.heads.length-1)*4)),(19,Pt b2 (o1+(c.heads.length-1)*4+3)),(20,I x2.at_),(21,Pt b1 4),(22,I c.now),(23,Bo (decide (x2.at_ > c.now))),(24,Bo (decide (x2.at_ > c.now)))] (Km [] [(0,0),(1,2),(3,0),(6,0),(7,0),(8,2),(9,0),(10,0),(12,0),(13,0),(14,0),(15,2),(16,0),(19,0),(21,0),(22,2),(23,0),(24,0)] [2,4,5,11,17,18,20] [(1,Pt b1 0),(35,Bo (decide (x2.at_ > c.now)))] (Ke ?_ (Ke ?_ (Ke ?_ (Ke ?_ (Ke ?_ (Ke ?_ (Ke ?_ K4))))))) ?_))
 refine Jr 2 13 (Pt b2 (o1+0*4)) [(12,Sl (At b2 o1) c.heads.length c2)] (fun X=>?_)
 exact J3 (b:=b2) (off:=o1) (len:=c.heads.length) (cap:=c2) (ik:=.i64) 13 43 4 0 J7 Jn
 refine Jr 4 15 (I x1.epoch) [(14,Pt b2 (o1+0*4))] (fun X=>?_)
 exact JW 15 2 (cs:=[I x1.epoch,U x1.root,U x1.prev,I x1.at_]) 0 (I x1.epoch) hc1 Jn
 refine Jr 5 16 (Bo false) [(15,I x1.epoch)] (fun X=>?_)
 exact K5 16 (Bo (!decide (x1.epoch=0))) (Bo false) (by rw [h1]) Jn
 refine Jr 11 22 (Bo false) [(17,Bo false),(20,I (c.books.length:Int)),(21,I (c.heads.length:Int))] (fun X=>?_)
 exact K5 22 (Bo (!decide ((c.books.length:Int)=(c.heads.length:Int)))) (Bo false) (by rw [h2]) Jn
 refine Jr 17 28 (I ((c.heads.length-1:Nat):Int)) [(24,Bo false),(27,I (c.heads.length:Int))] (fun X=>?_)
 exact K5 28 (I (IntKind.i64.wrap ((c.heads.length:Int)-1))) (I ((c.heads.length-1:Nat):Int)) (by simp only [e1]) Jn
 refine Jr 18 29 (Pt b2 (o1+(c.heads.length-1)*4)) [(24,Bo false),(26,Sl (At b2 o1) c.heads.length c2),(28,I ((c.heads.length-1:Nat):Int))] (fun X=>?_)
 exact J3 (b:=b2) (off:=o1) (len:=c.heads.length) (cap:=c2) (ik:=.i64) 29 43 4 (c.heads.length-1) J7 Jn
 refine Jr 20 31 (I x2.at_) [(24,Bo false),(30,Pt b2 (o1+(c.heads.length-1)*4+3))] (fun X=>?_)
 exact JW 31 2 (cs:=[I x2.epoch,U x2.root,U x2.prev,I x2.at_]) 3 (I x2.at_) hc2 Jn
 refine Jb (Jk (decide (x2.at_ > c.now)) (fun h3=>?_) (fun h3=>?_))
 refine Jf [0] [(2,I 3)] (Jl (Jh (Jm [0] [I 3] (Jw (Jp.le_refl _) (congrArg I (?_:(QD c)=3).symm)))))
 exact Jkq (x:=Zq) (.inr (.inr ⟨_,hx2,by omega⟩))
 refine Jo (Jb (Je (Jf [0,2,0,0] [(37,Sl a3 c.books.length c3),(38,I (c.books.length:Int)),(39,I 0)] (Jz ?_))))
 have hlm_hs3:c.books.length≤9223372036854775807:=Nat.le_trans (hs3).le (hs3).max
 refine Qh (σ:=Nat) (fun q_=>(q_≤c.books.length)∧(Ys c.heads c.books=Ys (c.heads.drop q_) (c.books.drop q_))) (fun q_=>[(1,Pt b1 0),(37,Sl a3 c.books.length c3),(38,I (c.books.length:Int)),(39,I (q_:Int))]) (fun q_=>G) (fun q_=>[[Sg b1 0 (KU c a1 c1 (At b2 o1) c2 a3 c3)]]) (fun q_=>c.books.length-q_) 0 ⟨(by (try dsimp only);exact Nat.zero_le _),rfl⟩ (fun q_ hs=>?_)
 revert hs;revert q_;intro i hs
 obtain ⟨hi,hn⟩:=hs
 dsimp only
 refine Jf [0] [(40,Bo (decide ((i:Int)<(c.books.length:Int))))] (Je (Jk (decide ((i:Int)<(c.books.length:Int))) (fun h4=>?_) (fun h4=>?_)))
 refine Jo (Jb (Je (Jz (Je (Jc (Ja [0] [(41,I (i:Int))] ?_))))))
 obtain ⟨b3,o2,rfl⟩:=RS.addr hs3 (k:=i) (by omega)
 obtain ⟨x3,hx3⟩:=We (l:=c.books) (k:=i) (by omega)
 obtain ⟨_,⟨a4,c4,rfl,hs4⟩,hc3⟩:=RS.get hs3 hx3
 refine J3 (b:=b3) (off:=o2) (len:=c.books.length) (cap:=c3) (ik:=.i64) 42 44 1 i J7 (JW 43 44 (cs:=[Sl a4 x3.length c4]) 0 (Sl a4 x3.length c4) hc3 (Ja [0,0] [(4,I (i:Int)),(5,Sl a4 x3.length c4)] (Jd (Jb (Je (Jc (Ja [0] [(45,Sl a4 x3.length c4)] (Jj 46 (.tuple #[U ((JT x3 []).1),I ((JT x3 []).2)]) (Jbd G a4 c4 x3 hs4) (Ja [0,0,0,0,0] [(6,U ((JT x3 []).1)),(7,I ((JT x3 []).2))] (Jd (Jb (Jz (Jf [0,0,0] [(49,Bo (!decide ((JT x3 []).2=0)))] (Jk (!decide ((JT x3 []).2=0)) (fun h5=>?_) (fun h5=>?_)))))))))))))))
 refine Jf [0,0] [(2,I ((JT x3 []).2))] (Jl (Jt (Jt (Jh (QS (Jt (Jh (Jm [0] [I ((JT x3 []).2)] (Jw (Jp.le_refl _) (congrArg I (?_:(QD c)=((JT x3 []).2)).symm))))))))))
 (rw [Job hx1 ‹_› ‹_› hx2 (by omega),hn];exact Jko hx3 ‹_›)
 refine Je (Jc (Ja [0,0,2,0] [(54,U ((JT x3 []).1)),(56,Sl (At b2 o1) c.heads.length c2),(57,I (i:Int))] ?_))
 obtain ⟨x4,hx4⟩:=We (l:=c.heads) (k:=i) (by omega)
 obtain ⟨_,⟨rfl,_,_,_,_⟩,hc4⟩:=RS.get hs2 hx4
 refine J3 (b:=b2) (off:=o1) (len:=c.heads.length) (cap:=c2) (ik:=.i64) 58 43 4 i J7 (Ja [0] [(59,Pt b2 (o1+i*4+1))] (JW 60 41 (cs:=[I x4.epoch,U x4.root,U x4.prev,I x4.at_]) 1 (U x4.root) hc4 (Ja [0,0] [(53,Bo (!decide ((JT x3 []).1=x4.root)))] (Jd (Jb (Jk (!decide ((JT x3 []).1=x4.root)) (fun h6=>?_) (fun h6=>?_)))))))
 refine Jf [0] [(2,I 8)] (Jl (Jt (Jt (Jh (QS (Jt (Jh (Jm [0] [I 8] (Jw (Jp.le_refl _) (congrArg I (?_:(QD c)=8).symm))))))))))
 (rw [Job hx1 ‹_› ‹_› hx2 (by omega),hn];exact Jkp hx3 hx4 ‹_› ‹_›)
 exact Jo (JM (JM (Jb (Jc (Ja [0,0] [(39,I (IntKind.i64.wrap ((i:Int)+1)))] (Kw 39 ((i:Int)+1) J7 (Jd (Qr (i+1) ⟨J7,(by rw [hn];exact JiY hx3 hx4 ‹_› ‹_›)⟩ (by (try dsimp only);omega)))))))))
 refine KW (JZ (J8 (JR (Jb (Jf [0] [(2,I 0)] (Jl (Jm [0] [I 0] (Jw (Jp.le_refl _) (congrArg I (?_:(QD c)=0).symm)))))))))
 (rw [Job hx1 ‹_› ‹_› hx2 (by omega),hn];(have e_:c.books.drop i=[]:=List.drop_eq_nil_of_le (by omega);rw [e_];simp [Ys]))
theorem Vp (G:Jp) (vs_c:List Value) (c:KP) (h_c:Jaf.R G vs_c c) :Q2 152 #[.agg vs_c.toArray] G (I (Kb c)):=by
 obtain ⟨a1,c1,a2,c2,a3,c3,rfl,w1,hs1,w2,w3,w4,hs2,hs3⟩:=h_c
 refine JN Tryz.func152 50 [(0,(Qz c a1 c1 a2 c2 a3 c3))] rfl (fun w0 G0=>?_)
 refine Je (Jc (Jv 1 #[I c.queue.most,Sl a1 c.queue.wait.length c1,I c.batch,I c.every,I c.now,Sl a2 c.heads.length c2,Sl a3 c.books.length c3] 60 (fun b1=>Ja [0] [] (Jd (Jb (Je (Je (Jc (Ja [0,2] [(8,.agg #[I c.queue.most,Sl a1 c.queue.wait.length c1])] (Jj 9 (I (Ki c.queue)) (Jah G [I c.queue.most,Sl a1 c.queue.wait.length c1] c.queue (⟨a1,c1,rfl,w1,hs1⟩)) (Ja [0] [(3,I (Ki c.queue))] (Jd (Jb (Jf [0,0] [(11,Bo (!decide (Ki c.queue=0)))] (Jk (!decide (Ki c.queue=0)) (fun h1=>?_) (fun h1=>?_))))))))))))))))
 refine Jf [0,0] [(2,I (Ki c.queue))] (Jl (Jh (Jm [0] [I (Ki c.queue)] (Jw (Jp.le_refl _) (congrArg I (?_:(Kb c)=(Ki c.queue)).symm)))))
 · unfold Kb;(rw [if_pos ‹_›];done)
 refine Jo (Jb (Je (Je (Jc (Ja [0,2] [(14,I c.batch)] (Jj 15 (Bo (Z4 c.batch 30)) (JaX G c.batch 30) (Ja [0,0] [(17,Bo (!(Z4 c.batch 30)))] (Qu [17] (!(Z4 c.batch 30)) (fun h2=>?_) (fun h2=>?_)))))))))
 refine Ja [1,1,1,1,0,0,1,1,1,0,0,1,1,1,0] [(32,Bo true)] (Jd (Jb (JU (Jf [0] [(2,I 4)] (Jl (Jh (Jm [0] [I 4] (Jw (Jp.le_refl _) (congrArg I (?_:(Kb c)=4).symm)))))))))
 · unfold Kb;(rw [if_neg (by simp_all)];(rw [if_pos (by (simp_all;done))];done))
 refine Ja [0,2] [(19,I c.every)] (Jj 20 (Bo (Z4 c.every 1000)) (JaX G c.every 1000) (Ja [0,0,0] [(23,Bo (!(Z4 c.every 1000)))] (Kn (!(Z4 c.every 1000)) [23] [1,1,1,0] [0,2,0,0] (fun bb=>[(27,Bo (bb || (decide (c.now<0))))]) (Ja [0] [(28,Bo ((!(Z4 c.every 1000)) || (decide (c.now<0))))] (Kn ((!(Z4 c.every 1000)) || (decide (c.now<0))) [28] [1,1,1,0] [0,2,0,0] (fun bb=>[(32,Bo (bb || (decide (c.now > 1000000000))))]) (Jd (Jb (Jk (((!(Z4 c.every 1000)) || (decide (c.now<0))) || (decide (c.now > 1000000000))) (fun h3=>?_) (fun h3=>?_)))))))))
 refine Jf [0] [(2,I 4)] (Jl (Jh (Jm [0] [I 4] (Jw (Jp.le_refl _) (congrArg I (?_:(Kb c)=4).symm)))))
 · unfold Kb;(rw [if_neg (by simp_all)];(rw [if_pos (by (simp_all;grind))];done))
 refine Jo (Jb (Je (Je (Jc (Ja [0,2] [(35,Sl a2 c.heads.length c2)] (Jj 36 (.tuple #[I ((Kd c.heads).1),I ((Kd c.heads).2)]) (Jan G a2 c2 c.heads hs2) (Ja [0,0,0,0,0] [(4,I ((Kd c.heads).1))] (Jd (Jb (Jf [0,0] [(40,Bo (!decide ((Kd c.heads).1=0)))] (Jk (!decide ((Kd c.heads).1=0)) (fun h4=>?_) (fun h4=>?_))))))))))))
 refine Jf [0,0] [(2,I ((Kd c.heads).1))] (Jl (Jh (Jm [0] [I ((Kd c.heads).1)] (Jw (Jp.le_refl _) (congrArg I (?_:(Kb c)=((Kd c.heads).1)).symm)))))
 · unfold Kb;(rw [if_neg (by simp_all)];(rw [if_neg (by simp_all)];(rw [if_pos (by (simp_all;done))];done)))
 refine Jo (Jb (Je (Je (Jc (Ja [2] [(42,(Qz c a1 c1 a2 c2 a3 c3))] (Jj 43 (I (QD c)) (JfI G (KU c a1 c1 a2 c2 a3 c3) c (⟨a1,c1,a2,c2,a3,c3,rfl,w1,hs1,w2,w3,w4,hs2,hs3⟩) (by (have q_:=K7.1 ‹_›;have q1_:=q_.len1;have q2_:=q_.len;omega)) (by (have q_:=K7.1 ‹_›;have q1_:=q_.len1;have q2_:=q_.len;omega))) (Ja [0] [(6,I (QD c))] (Jd (Jb (Jf [0,0] [(45,Bo (!decide (QD c=0)))] (Jk (!decide (QD c=0)) (fun h5=>?_) (fun h5=>?_))))))))))))
 refine Jf [0,0] [(2,I (QD c))] (Jl (Jh (Jm [0] [I (QD c)] (Jw (Jp.le_refl _) (congrArg I (?_:(Kb c)=(QD c)).symm)))))
 · unfold Kb;(rw [if_neg (by simp_all)];(rw [if_neg (by simp_all)];(rw [if_neg (by simp_all)];(rw [if_pos (by (simp_all;done))];done))))
 refine Jo (Jb (Je (Je (Jc (Ja [2] [(47,(Qz c a1 c1 a2 c2 a3 c3))] (Jj 48 (I (WZ c ([]))) (JbI G (KU c a1 c1 a2 c2 a3 c3) c (⟨a1,c1,a2,c2,a3,c3,rfl,w1,hs1,w2,w3,w4,hs2,hs3⟩) none 0 ([]) (RS.nil' ES G) (by (obtain ⟨q1_,q2_,q3_,q4_⟩:=JeY (c:=c) ‹_› ‹_› ‹_›;assumption)) (by (obtain ⟨q1_,q2_,q3_,q4_⟩:=JeY (c:=c) ‹_› ‹_› ‹_›;assumption)) (by (obtain ⟨q1_,q2_,q3_,q4_⟩:=JeY (c:=c) ‹_› ‹_› ‹_›;assumption)) (by (obtain ⟨q1_,q2_,q3_,q4_⟩:=JeY (c:=c) ‹_› ‹_› ‹_›;assumption)) (by (simp;done))) (Ja [0] [(49,Bo (decide (WZ c ([]) > 24)))] (Jd (Jb (Jk (decide (WZ c ([]) > 24)) (fun h6=>?_) (fun h6=>?_)))))))))))
 refine Jf [0] [(2,I 7)] (Jl (Jh (Jm [0] [I 7] (Jw (Jp.le_refl _) (congrArg I (?_:(Kb c)=7).symm)))))
 · unfold Kb;(rw [if_neg (by simp_all)];(rw [if_neg (by simp_all)];(rw [if_neg (by simp_all)];(rw [if_neg (by simp_all)];(rw [if_pos (by (simp_all;done))];done)))))
 refine Jo (Jb (Jf [0] [(2,I 0)] (Jl (Jm [0] [I 0] (Jw (Jp.le_refl _) (congrArg I (?_:(Kb c)=0).symm))))))
 · unfold Kb;(rw [if_neg (by simp_all)];(rw [if_neg (by simp_all)];(rw [if_neg (by simp_all)];(rw [if_neg (by simp_all)];(rw [if_neg (by simp_all)];done)))))
theorem Jgj (G:Jp) (vs_c:List Value) (c:KP) (h_c:Jaf.R G vs_c c) (epoch:Int) (hw_epoch:rI epoch) :Yi 193 #[.agg vs_c.toArray,I epoch] G [] (fun u G' L'=>∃ (a1:Option Addr) (c2:Nat) (r3:List Kg),u=.tuple #[Sl a1 (((Kx c epoch).1).length) c2,I ((Kx c epoch).2)]∧(J0 QA G' a1 c2 ((Kx c epoch).1) r3)∧L'=[r3]):=by
 obtain ⟨a1,c1,a2,c2,a3,c3,rfl,w1,hs1,w2,w3,w4,hs2,hs3⟩:=h_c
 refine JN Tryz.func193 27 [(0,(Qz c a1 c1 a2 c2 a3 c3)),(1,I epoch)] rfl (fun w0 G0=>?_)
 refine Je (Jc (Jv 2 #[I c.queue.most,Sl a1 c.queue.wait.length c1,I c.batch,I c.every,I c.now,Sl a2 c.heads.length c2,Sl a3 c.books.length c3] 60 (fun b1=>Ja [0,0] [] (Jd (Jb (Je (Je (Jc (Ja [2] [(7,(Qz c a1 c1 a2 c2 a3 c3))] (Jj 8 (I (Kb c)) (Vp G (KU c a1 c1 a2 c2 a3 c3) c (⟨a1,c1,a2,c2,a3,c3,rfl,w1,hs1,w2,w3,w4,hs2,hs3⟩)) (Ja [0] [(6,I (Kb c))] (Jd (Jb (Jf [0,0] [(10,Bo (!decide (Kb c=0)))] (Jk (!decide (Kb c=0)) (fun h1=>?_) (fun h1=>?_))))))))))))))))
 refine Jf [0,0,0] [(4,Sl none 0 0),(5,I (Kb c))] (Jl (Jh (Zy (Ji 0 ?_))))
 have hf1:Kx c epoch=([],Kb c):=by
  unfold Kx;simp_all
 refine Jm [0,0] [Sl none 0 0,I (Kb c)] (Jy [[]] (Jp.le_refl _) ?_)
 rw [hf1]
 try dsimp only
 exact ⟨none,0,([]),rfl,(J0.none QA _),rfl⟩
 refine Jo (Jb (Je (Je (Jc (Ja [0,0,0] [(14,Bo (decide (epoch<0)))] (Kn (decide (epoch<0)) [14] [1,1,1,1,1,0] [0,0,2,0,0,0] (fun bb=>[(20,Bo (bb || (decide (epoch ≥ (c.books.length:Int)))))]) (Jd (Jb (Jk ((decide (epoch<0)) || (decide (epoch ≥ (c.books.length:Int)))) (fun h2=>?_) (fun h2=>?_))))))))))
 refine Jf [0,0] [(4,Sl none 0 0),(5,I 4)] (Jl (Jh (Zy (Ji 0 ?_))))
 have hf2:Kx c epoch=([],4):=by
  unfold Kx;simp_all
 refine Jm [0,0] [Sl none 0 0,I 4] (Jy [[]] (Jp.le_refl _) ?_)
 rw [hf2]
 try dsimp only
 exact ⟨none,0,([]),rfl,(J0.none QA _),rfl⟩
 refine Jo (Jb (Je (Jc (Ja [0,2,0] [(22,Sl a3 c.books.length c3),(23,I epoch)] ?_))))
 obtain ⟨kn1,hkn1⟩:∃ k_:Nat,epoch=(k_:Int):=⟨(epoch).toNat,by omega⟩
 have e1:epoch=(kn1:Int):=hkn1
 refine KI 23 (I (kn1:Int)) (congrArg I e1) ?_
 obtain ⟨b2,o1,rfl⟩:=RS.addr hs3 (k:=kn1) (by omega)
 obtain ⟨x1,hx1⟩:=We (l:=c.books) (k:=kn1) (by omega)
 obtain ⟨_,⟨a4,c4,rfl,hs4⟩,hc1⟩:=RS.get hs3 hx1
 refine J3 (b:=b2) (off:=o1) (len:=c.books.length) (cap:=c3) (ik:=.i64) 24 44 1 kn1 J7 (JW 25 44 (cs:=[Sl a4 x1.length c4]) 0 (Sl a4 x1.length c4) hc1 (JF 26 (YA G a4 c4 x1 hs4) (fun v G1 L1 hl1 hp=>?_)))
 obtain ⟨a5,c5,r1,rfl,hr1,rfl⟩:=hp
 refine Ja [0,0] [(4,Sl a5 x1.length c5),(5,I 0)] (Jd (Jb (Jl (Ji 0 ?_))))
 have hf3:Kx c epoch=(x1,0):=by
  unfold Kx;simp_all
 refine Jm [0,0] [Sl a5 x1.length c5,I 0] (Jy [r1] hl1 ?_)
 rw [hf3]
 try dsimp only
 exact ⟨a5,c5,r1,rfl,hr1,rfl⟩
theorem Jod {α:Type} {x b:List α} {i:Nat} {v:α} (h:x.take i=b.take i) (hi:i<x.length) (hv:b[i]? = some v):(x.set i v).take (i+1)=b.take (i+1):=by
 rw [List.take_add_one,List.take_set_of_le (Nat.le_refl _),h,List.take_add_one,hv,List.getElem?_set_self hi]
theorem Jkr {α:Type} {x b:List α} {i:Nat} (hl:x.length=b.length) (h:x.take i=b.take i) (hi:b.length≤i):x=b:=by
 rw [List.take_of_length_le (by omega),List.take_of_length_le hi] at h;exact h
def Zi (c:KP):Bool:=decide ((c.heads.length:Int)=40) || decide (c.now=1000000000)
def Kv (c:KP) (a:Zv):KP×Int×Int:=if ¬ Kb c=0 then (ZU,0,Kb c) else if ¬ (JP c.queue a).2.2=0∧¬ (JP c.queue a).2.2=7 then (ZU,0,(JP c.queue a).2.2) else if Zi c=true then (ZU,0,9) else if (JP c.queue a).2.2=7∨WZ c [a.name] > 24 then (ZU,0,7) else (⟨(JP c.queue a).1,c.batch,c.every,c.now,c.heads,c.books⟩,c.now-c.now.tmod c.every+(Qg (JP c.queue a).2.1 c.batch c.every).1,0)
def Jbh (b:List J2) (l:List Zv):List J2:=l.foldl (fun b a=>(Qm b a.name a.value).1) b
theorem JiZ {b:List J2} {l:List Zv} {i:Nat} {a:Zv} (h:l[i]? = some a):(Qm (Jbh b (l.take i)) a.name a.value).1=Jbh b (l.take (i+1)):=by
 unfold Jbh;rw [List.take_add_one,h];simp [List.foldl_append]
def VJ (c:KP):List J2:=Jbh (Wr c.books) (J5 c.queue c.batch).2.1
def KT (c:KP):KP×Bool×Int:=if ¬ Kb c=0 then (ZU,false,Kb c) else if Zi c=true then (c,false,0) else if ¬ (c.now+1).tmod c.every=0 then (⟨c.queue,c.batch,c.every,c.now+1,c.heads,c.books⟩,false,0) else (⟨(J5 c.queue c.batch).1,c.batch,c.every,c.now+1,(Qt c.heads (JT (VJ c) []).1 (c.now+1)).1,c.books++[VJ c]⟩,true,0)
theorem Ji0 {b:List J2} (h:Zn b):(Qe b).Nodup:=by
 unfold Qe
 refine List.pairwise_map.2 (h.pair.imp fun {x y} hxy e=>?_)
 rw [Yo.2 e] at hxy;omega
theorem Jbi {b:List J2} {s:List UInt8}:s∈Qe b ↔ ∃ x∈b,x.name=s:=by unfold Qe;simp
theorem ZM {b:List Zv} {s:List UInt8}:s∈Q5 b ↔ ∃ x∈b,x.name=s:=by unfold Q5;simp
theorem Ji1 {b:List J2} {name value:List UInt8} (h:Zn b) (hr:Ks name value=0) (hf:name∈Qe b∨b.length<24):(Qm b name value).2=0:=by
 have hp:=(Jdk hr).2.2
 have e1:JG b name=((bsF b name Wd).1,(bsF b name Wd).2,0):=by
  unfold JG;rw [if_neg (by rw [K6.2 h];simp),if_neg (by rw [hp];simp)]
 have e2:Zd b name value=0:=by
  unfold Zd
  rw [e1,if_neg (by simp),if_neg (by rw [hr];simp),if_neg]
  rintro ⟨q1,q2⟩
  rcases hf with hf | hf
  ·
   have:=(JnO h name).2 (Jbi.1 hf)
   rw [this] at q1;cases q1
  · omega
 unfold Qm
 rw [if_neg (by omega)]
theorem JgS {b:List J2} {name value:List UInt8} (h:(Qm b name value).2=0) {s:List UInt8}:s∈Qe (Qm b name value).1 ↔ s=name∨s∈Qe b:=by
 obtain ⟨_,_,_,q⟩:=JcF h
 rw [Jbi,Jbi]
 constructor
 ·
  rintro ⟨x,hx,rfl⟩
  rcases (q x).1 hx with e | ⟨e,_⟩
  · exact .inl (by rw [e])
  · exact .inr ⟨x,e,rfl⟩
 ·
  rintro (rfl | ⟨x,hx,rfl⟩)
  · exact ⟨_,(q _).2 (.inl rfl),rfl⟩
  ·
   by_cases e:x.name=name
   · exact ⟨_,(q _).2 (.inl rfl),e.symm⟩
   · exact ⟨x,(q x).2 (.inr ⟨hx,e⟩),rfl⟩
theorem JmE {a:Zv} (h:Ky a=0):Ks a.name a.value=0:=h
theorem JgT:∀ (l:List Zv) (b:List J2),Zn b→(∀ a∈l,Ky a=0)→nn (Qe b++Q5 l)≤24 →
  Zn (Jbh b l)∧(∀ s,s∈Qe (Jbh b l) ↔ s∈Qe b∨s∈Q5 l)
 | [],b,h,_,_=>⟨h,fun s=>by simp [Jbh,Q5]⟩
 | a::l,b,h,hr,hn=>by
  have ha:=JmE (hr a (by simp))
  have hf:a.name∈Qe b∨b.length<24:=by
   by_cases e:a.name∈Qe b
   · exact .inl e
   ·
    right
    have h1:(a.name::Qe b).Nodup:=List.nodup_cons.2 ⟨e,Ji0 h⟩
    have h2:=Jn9 h1
    have h3:nn (a.name::Qe b)≤nn (Qe b++Q5 (a::l)):=Jdl fun x hx=>by
     rcases List.mem_cons.1 hx with rfl | hx
     · exact List.mem_append.2 (.inr (ZM.2 ⟨a,by simp,rfl⟩))
     · exact List.mem_append.2 (.inl hx)
    simp only [List.length_cons] at h2
    have:(Qe b).length=b.length:=by simp [Qe]
    omega
  have hs:=Ji1 h ha hf
  have hok:=(JcF hs).2.2.1
  have hmem:∀ s,s∈Qe (Qm b a.name a.value).1++Q5 l→s∈Qe b++Q5 (a::l):=fun s hs'=>by
   rcases List.mem_append.1 hs' with q | q
   ·
    rcases (JgS hs).1 q with rfl | q
    · exact List.mem_append.2 (.inr (ZM.2 ⟨a,by simp,rfl⟩))
    · exact List.mem_append.2 (.inl q)
   · exact List.mem_append.2 (.inr (by simp only [Q5,List.map_cons,List.mem_cons];exact .inr q))
  obtain ⟨q1,q2⟩:=JgT l _ hok (fun x hx=>hr x (by simp [hx])) (Nat.le_trans (Jdl hmem) hn)
  refine ⟨q1,fun s=>?_⟩
  show s∈Qe (Jbh (Qm b a.name a.value).1 l) ↔ _
  rw [q2 s,JgS hs]
  simp only [Q5,List.map_cons,List.mem_cons]
  constructor
  ·
   rintro ((h | h) | h)
   · exact .inr (.inl h)
   · exact .inl h
   · exact .inr (.inr h)
  ·
   rintro (h | h | h)
   · exact .inl (.inr h)
   · exact .inl (.inl h)
   · exact .inr h
theorem Zh.last {c:KP} (h:Zh c):c.books[c.books.length-1]? = some (Wr c.books):=by
 have:=h.len;have:=h.chain.len1
 have hl:c.books.length-1<c.books.length:=by omega
 unfold Wr;rw [List.getElem?_eq_getElem hl];rfl
theorem Zh.book {c:KP} (h:Zh c) {k:Nat} {x:List J2} (hx:c.books[k]? = some x):Zn x:=(JcI (h.root k x hx).1).1
theorem Zh.bds {c:KP} (h:Zh c):0<c.books.length∧c.books.length≤1000∧(Wr c.books).length≤1000∧c.queue.wait.length≤1000∧1≤c.heads.length∧c.heads.length≤40:=by
 have h1:=Qd.1 h.queue
 have:=h.len;have:=h.chain.len1;have:=h.chain.len
 have:=(h.book h.last).len
 omega
theorem Yc {c:KP} (h:Kb c=0):(0<c.books.length∧c.books.length≤1000∧(Wr c.books).length≤1000∧c.queue.wait.length≤1000∧1≤c.heads.length∧c.heads.length≤40)∧(0≤c.now∧c.now≤1000000000)∧(1≤c.batch∧c.batch≤30)∧1≤c.every∧c.every≤1000 :=
 let q:=Z5.1 h
 ⟨q.bds,q.now,q.batch,q.every⟩
theorem Jeq {c:KP} {a:Zv} (h:(Kv c a).2.2=0):Zh c∧(JP c.queue a).2.2=0∧Zi c=false∧nn (JaA c [a.name])≤24∧Kv c a=(⟨(JP c.queue a).1,c.batch,c.every,c.now,c.heads,c.books⟩,c.now-c.now.tmod c.every+(Qg (JP c.queue a).2.1 c.batch c.every).1,0):=by
 unfold Kv at h ⊢
 split at h
 · contradiction
 split at h
 · rename_i h1 h2;exact absurd h h2.1
 split at h
 · cases h
 split at h
 · cases h
 ·
  rename_i h1 h2 h3 h4
  rw [if_neg h1,if_neg h2,if_neg h3,if_neg h4]
  simp only [not_or] at h4
  have h5:=h4.2;unfold WZ at h5
  exact ⟨Z5.1 (Decidable.not_not.1 h1),by apply Decidable.byContradiction;intro hc;exact h2 ⟨hc,h4.1⟩,by simpa using h3,by omega,rfl⟩
theorem JfJ {c:KP} {a:Zv} (h:(Kv c a).2.2=0):Zh (Kv c a).1:=by
 obtain ⟨ok,hq,_,hn,e⟩:=Jeq h
 rw [e]
 obtain ⟨_,_,_,e2⟩:=Jei hq
 refine ⟨Jfn hq,ok.batch,ok.every,ok.now,ok.chain,ok.first,ok.len,ok.at_,ok.root,?_⟩
 refine Nat.le_trans (Jdl fun x hx=>?_) hn
 unfold JaA at hx ⊢
 rw [e2] at hx
 simp only [Q5,List.map_append,List.map_cons,List.map_nil,List.mem_append,List.mem_singleton,List.not_mem_nil,or_false] at hx ⊢
 rcases hx with h | h | h
 · exact .inl (.inl h)
 · exact .inl (.inr h)
 · exact .inr h
theorem Joe {c:KP} (h:Zh c) (hc:Zi c=false) {r:Int} (hr:r<2305843009213693951):(Qt c.heads r (c.now+1)).2=0∧Qt c.heads r (c.now+1)=(c.heads++[(JA (WU c.heads) r (c.now+1)).1],0)∧(JA (WU c.heads) r (c.now+1)).2=0:=by
 unfold Zi at hc
 simp only [Bool.or_eq_false_iff,decide_eq_false_iff_not] at hc
 have hn:=h.now
 have he:(JA (WU c.heads) r (c.now+1)).2=0:=by
  have hk:JI (WU c.heads)=0:=h.chain.ok _ (List.mem_of_getElem? h.chain.last)
  have hl:=h.chain.lastE
  have hf:=h.first
  have hlen:=h.chain.len
  have ha:=h.at_
  have hb:=Jej (WU c.heads)
  have hb2:=Zb hk
  unfold JA
  have:Yn (WU c.heads) r (c.now+1)=0:=by
   unfold Yn
   rw [if_neg (by omega),if_neg (by omega),if_neg (by omega)]
   unfold JI
   simp only
   rw [if_neg (by omega),if_neg (by omega)]
  rw [if_neg (by omega)]
 have hg:ZT c.heads r (c.now+1)=0:=by
  unfold ZT
  rw [if_neg (by rw [QC.2 h.chain];simp),if_neg (by exact_mod_cast hc.1),he]
 refine ⟨?_,?_,he⟩ <;> (unfold Qt;rw [if_neg (by omega)])
theorem Jgk (l:List JQ) (r t:Int):(Qt l r t).1.length≤40:=by
 by_cases h:(Qt l r t).2=0
 ·
  obtain ⟨_,h2,_,h4⟩:=Jdg h
  rw [h4];simp;omega
 · rw [Jga h];simp
theorem Jck {c:KP} (h:Zh c):(J5 c.queue c.batch).2.2=0∧J5 c.queue c.batch=((⟨c.queue.most,c.queue.wait.drop (QY c.batch c.queue.wait)⟩:Q0),c.queue.wait.take (QY c.batch c.queue.wait),(0:Int)):=by
 have hq:=h.queue;have hb:=h.batch
 constructor <;> (unfold J5;rw [if_neg (by omega),if_neg (by omega)])
theorem Ji2 {c:KP} (h:Zh c):Zn (VJ c)∧(∀ s,s∈Qe (VJ c) ↔ s∈Qe (Wr c.books)∨s∈Q5 (c.queue.wait.take (QY c.batch c.queue.wait))):=by
 unfold VJ
 rw [(Jck h).2]
 refine JgT _ _ (h.book h.last) (fun a ha=>(Qd.1 h.queue).2.2.2 a (List.mem_of_mem_take ha)) (Nat.le_trans (Jdl fun x hx=>?_) h.names)
 unfold JaA
 rcases List.mem_append.1 hx with q | q
 · simp [q]
 ·
  obtain ⟨a,ha,rfl⟩:=ZM.1 q
  have:a.name∈Q5 c.queue.wait:=ZM.2 ⟨a,List.mem_of_mem_take ha,rfl⟩
  simp [this]
theorem Jks (l:List (List J2)) (x:List J2):Wr (l++[x])=x:=by unfold Wr;simp
theorem Jkt {l:List JQ} (h:1≤l.length) (m:List JQ):WO (l++m)=WO l:=by
 unfold WO;rw [List.getElem?_append_left (by omega)]
theorem Jku (l:List JQ) (x:JQ):WU (l++[x])=x:=by unfold WU;simp
structure Ticked (c d:KP):Prop where
 ok:Zh d
 batch:d.batch=c.batch
 every:d.every=c.every
 heads:∃ m,d.heads=c.heads++m
 books:∃ m,d.books=c.books++m
theorem Jdn {c:KP} (h:Zh c):(KT c).2.2=0∧Ticked c (KT c).1:=by
 have h0:=Z5.2 h
 unfold KT
 rw [if_neg (by omega)]
 by_cases h1:Zi c=true
 · rw [if_pos h1];exact ⟨rfl,h,rfl,rfl,⟨[],by simp⟩,⟨[],by simp⟩⟩
 rw [if_neg h1]
 have h1':Zi c=false:=by simpa using h1
 have hnow:c.now+1≤1000000000:=by
  have:=h.now;unfold Zi at h1';simp only [Bool.or_eq_false_iff,decide_eq_false_iff_not] at h1';omega
 by_cases h2:(c.now+1).tmod c.every=0
 ·
  rw [if_neg (by omega)]
  obtain ⟨t1,t2⟩:=Ji2 h
  have hroot:=Jfw (q:=[]) t1 (by simp) (by simp)
  have hb:=Jep (Kz (VJ c) []) []
  have hr:(JT (VJ c) []).1<2305843009213693951:=by rw [hroot];exact hb.2
  obtain ⟨g1,g2,g3⟩:=Joe h h1' hr
  obtain ⟨k1,k2⟩:=Jkk g3
  obtain ⟨u1,u2⟩:=Jck h
  have hlen1:=h.chain.len1
  have hlt:c.heads.length<40:=(Jdg g1).2.1
  rw [g2]
  have hbk:=h.len
  have hnx:=(Jax g3).2.2.2.1
  refine ⟨rfl,⟨JeF u1,h.batch,h.every,⟨by have:=h.now;show 0≤c.now+1;omega,hnow⟩,h.chain.snoc hlt k2 k1,?_,?_,?_,?_,?_⟩,rfl,rfl,⟨_,rfl⟩,⟨_,rfl⟩⟩
  · show (WO (c.heads++_)).epoch=0;rw [Jkt hlen1];exact h.first
  · simp only [List.length_append,List.length_cons,List.length_nil];omega
  · show (WU (c.heads++_)).at_≤c.now+1;rw [Jku,hnx];exact Int.le_refl _
  ·
   intro k x hx
   simp only at hx ⊢
   by_cases hk:k<c.books.length
   ·
    rw [List.getElem?_append_left hk] at hx
    rw [List.getElem?_append_left (by omega)]
    exact h.root k x hx
   ·
    rw [List.getElem?_append_right (by omega)] at hx
    have hk2:k-c.books.length=0:=by
     have:=(List.getElem?_eq_some_iff.1 hx).1;simp at this;omega
    rw [hk2] at hx
    simp only [List.getElem?_cons_zero,Option.some.injEq] at hx
    subst hx
    rw [List.getElem?_append_right (by omega),show k-c.heads.length=0 by omega]
    refine ⟨by rw [hroot],?_⟩
    show _=(JA _ _ _).1.root
    rw [hnx]
  ·
   refine Nat.le_trans (Jdl fun x hx=>?_) h.names
   unfold JaA at hx ⊢
   simp only [Jks,List.append_nil] at hx ⊢
   rw [u2] at hx
   rcases List.mem_append.1 hx with q | q
   ·
    rcases (t2 x).1 q with q | q
    · exact List.mem_append.2 (.inl q)
    ·
     obtain ⟨a,ha,rfl⟩:=ZM.1 q
     exact List.mem_append.2 (.inr (ZM.2 ⟨a,List.mem_of_mem_take ha,rfl⟩))
   ·
    obtain ⟨a,ha,rfl⟩:=ZM.1 q
    exact List.mem_append.2 (.inr (ZM.2 ⟨a,List.mem_of_mem_drop ha,rfl⟩))
 ·
  rw [if_pos h2]
  refine ⟨rfl,⟨h.queue,h.batch,h.every,⟨by have:=h.now;show 0≤c.now+1;omega,hnow⟩,h.chain,h.first,h.len,?_,h.root,h.names⟩,rfl,rfl,⟨[],by simp⟩,⟨[],by simp⟩⟩
  have:=h.at_;show (WU c.heads).at_≤c.now+1;omega
theorem Jcl {c:KP} (h:Zh c):((KT c).1.now=c.now∧Zi c=true)∨(Zi c=false∧(KT c).1.now=c.now+1):=by
 have h0:=Z5.2 h
 unfold KT
 rw [if_neg (by omega)]
 by_cases h1:Zi c=true
 · rw [if_pos h1];exact .inl ⟨rfl,h1⟩
 ·
  rw [if_neg h1]
  refine .inr ⟨by simpa using h1,?_⟩
  split <;> rfl
theorem Jpt {n e:Int} (h:0≤n):n.tmod e=n % e:=Int.tmod_eq_emod_of_nonneg h
theorem VY {n e:Int} (h:0≤n) (he:1≤e):0≤n.tmod e∧n.tmod e≤n∧n.tmod e<e:=by
 rw [Jpt h]
 have h2:=Int.emod_nonneg n (show e ≠ 0 by omega)
 have h3:=Int.emod_lt_of_pos n (show 0<e by omega)
 have h1:=Int.emod_add_mul_ediv n e
 have h4:0≤e*(n / e):=Int.mul_nonneg (by omega) (Int.ediv_nonneg h (by omega))
 omega
theorem JfK (a b e:Int):0≤(Qg a b e).1∧(Qg a b e).1≤31000:=by
 unfold Qg
 split
 · simp
 ·
  have h1:=JeQ (a:=a) (b:=b) (by omega) (by omega)
  have h2:=Jk8 (a:=a.tdiv b+1) (b:=e) (by omega) (by omega)
  simp only;omega
theorem Jer (G:Jp) (vs_c:List Value) (c:KP) (h_c:Jaf.R G vs_c c) :Q2 154 #[.agg vs_c.toArray] G (Bo (Zi c)):=by
 obtain ⟨a1,c1,a2,c2,a3,c3,rfl,_,_,_,_,_,_,_⟩:=h_c
 refine JN Tryz.func154 12 [(0,(Qz c a1 c1 a2 c2 a3 c3))] rfl (fun w0 G0=>?_)
 refine Je (Jc (Jv 1 #[I c.queue.most,Sl a1 c.queue.wait.length c1,I c.batch,I c.every,I c.now,Sl a2 c.heads.length c2,Sl a3 c.books.length c3] 60 (fun b1=>Ja [0] [] (Jd (Jb (Je (Jc (Ja [0,2,0,0,0] [(7,Bo (decide ((c.heads.length:Int)=40)))] (Kn (decide ((c.heads.length:Int)=40)) [7] [1,1,1,0] [0,2,0,0] (fun bb=>[(11,Bo (bb || (decide (c.now=1000000000))))]) (Ja [0] [(2,Bo ((decide ((c.heads.length:Int)=40)) || (decide (c.now=1000000000))))] (Jd (Jb (Jl (Jm [0] [Bo ((decide ((c.heads.length:Int)=40)) || (decide (c.now=1000000000)))] (Jw (Jp.le_refl _) (congrArg Bo (?_:(Zi c)=((decide ((c.heads.length:Int)=40)) || (decide (c.now=1000000000)))).symm))))))))))))))))
 rfl
theorem Jes (G:Jp) (vs_c:List Value) (c:KP) (h_c:Jaf.R G vs_c c) (hb:c.books.length≤1000):Yi 156 #[.agg vs_c.toArray] G [] (fun u G' L'=>∃ (a1:Option Addr) (c2:Nat) (a3:Option Addr) (c4:Nat) (a5:Option Addr),u=.agg #[I c.queue.most,Sl a1 c.queue.wait.length c2,I c.batch,I c.every,I c.now,Sl a3 c.heads.length c4,Sl a5 c.books.length c.books.length]∧(rI c.queue.most)∧(RS Q3 G' a1 c2 c.queue.wait)∧(rI c.batch)∧(rI c.every)∧(rI c.now)∧(RS KA G' a3 c4 c.heads)∧(RS Qs G' a5 c.books.length c.books)∧L'=[]):=by
 obtain ⟨a1,c1,a2,c2,a3,c3,rfl,w1,hs1,w2,w3,w4,hs2,hs3⟩:=h_c
 refine JN Tryz.func156 37 [(0,(Qz c a1 c1 a2 c2 a3 c3))] rfl (fun w0 G0=>?_)
 refine Je (Jc (Jv 1 #[I c.queue.most,Sl a1 c.queue.wait.length c1,I c.batch,I c.every,I c.now,Sl a2 c.heads.length c2,Sl a3 c.books.length c3] 60 (fun b1=>Jv 2 #[I 0,Sl none 0 0,I 0,I 0,I 0,Sl none 0 0,Sl none 0 0] 60 (fun b2=>Jd (Jb (Je (Jc (Ja [0,0,4] [(8,Sl a1 c.queue.wait.length c1)] (JF 9 (YB G a1 c1 c.queue.wait hs1) (fun v G1 L1 hl1 hp=>?_))))))))))
 obtain ⟨a4,c4,r1,rfl,hr1,rfl⟩:=hp
 refine JV [0,0,7] [] [r1,[Sg b2 0 [I 0,Sl none 0 0,I 0,I 0,I 0,Sl none 0 0,Sl none 0 0]],[Sg b1 0 (KU c a4 c4 a2 c2 a3 c3)]] (Jd (Jb (Je (Jc (Ja [0,6] [(13,Sl a2 c.heads.length c2)] (JF 14 (Vm G1 a2 c2 c.heads (hs2.mono hl1)) (fun v G2 L1 hl2 hp=>?_)))))))
 obtain ⟨a5,c5,r2,rfl,hr2,rfl⟩:=hp
 refine JV [0,9] [] [r2,r1,[Sg b2 0 [I 0,Sl none 0 0,I 0,I 0,I 0,Sl none 0 0,Sl none 0 0]],[Sg b1 0 (KU c a4 c4 a5 c5 a3 c3)]] (Jd (Jb (Je (Jc (Ja [0,8,0] [(18,I (c.books.length:Int))] (Jkm (E:=Qs) (bytes:=24) 19 58 44 c.books.length ([]:List J2) ⟨rfl,rfl,fun G=>⟨_,_,rfl,RS.nil' QA G⟩⟩ J7 J7 (by kernel_rfl) (fun a6 r3 hr3=>Ja [0] [(3,Sl a6 ((List.replicate c.books.length ([]:List J2)).length) c.books.length)] (Jd (Jb (Je (Jf [0,10,0,0] [(21,Sl a3 c.books.length c3),(22,I (c.books.length:Int)),(23,I 0)] (Jz ?_))))))))))))
 have hlm_hs3:c.books.length≤9223372036854775807:=Nat.le_trans (hs3).le (hs3).max
 refine Qh (σ:=Nat×Option Addr×Nat×List Kg×List (List J2)×Jp) (fun q_=>(Jp.le G2 q_.2.2.2.2.2)∧(q_.1≤c.books.length)∧(J0 Qs q_.2.2.2.2.2 q_.2.1 q_.2.2.1 q_.2.2.2.2.1 q_.2.2.2.1)∧(q_.2.2.2.2.1.length=c.books.length∧q_.2.2.2.2.1.take q_.1=c.books.take q_.1)∧(q_.2.2.1=q_.2.2.2.2.1.length)) (fun q_=>[(1,Pt b1 0),(2,Pt b2 0),(3,Sl q_.2.1 q_.2.2.2.2.1.length q_.2.2.1),(21,Sl a3 c.books.length c3),(22,I (c.books.length:Int)),(23,I (q_.1:Int))]) (fun q_=>q_.2.2.2.2.2) (fun q_=>[q_.2.2.2.1,r2,r1,[Sg b2 0 [I 0,Sl none 0 0,I 0,I 0,I 0,Sl none 0 0,Sl none 0 0]],[Sg b1 0 (KU c a4 c4 a5 c5 a3 c3)]]) (fun q_=>c.books.length-q_.1) (0,a6,c.books.length,r3,(List.replicate c.books.length ([]:List J2)),G2) ⟨(Jp.le_refl _),(by (try dsimp only);exact Nat.zero_le _),hr3,⟨by simp,rfl⟩,(by (try dsimp only);simp)⟩ (fun q_ hs=>?_)
 obtain ⟨i,aw,cw,rw,xw,g⟩:=q_
 obtain ⟨hle,hi,hrw,hxw,hcw⟩:=hs
 dsimp only at hle hi hrw hxw hcw
 dsimp only
 refine Jf [0] [(24,Bo (decide ((i:Int)<(c.books.length:Int))))] (Je (Jk (decide ((i:Int)<(c.books.length:Int))) (fun h1=>?_) (fun h1=>?_)))
 refine Jo (Jb (Je (Jz (Je (Jc (Ja [0] [(25,I (i:Int))] ?_))))))
 obtain ⟨b3,o1,rfl⟩:=RS.addr (hs3.mono (Jp.le_trans (Jp.le_trans hl1 hl2) hle)) (k:=i) (by omega)
 obtain ⟨x1,hx1⟩:=We (l:=c.books) (k:=i) (by omega)
 obtain ⟨_,⟨a7,c6,rfl,hs4⟩,hc1⟩:=RS.get (hs3.mono (Jp.le_trans (Jp.le_trans hl1 hl2) hle)) hx1
 refine J3 (b:=b3) (off:=o1) (len:=c.books.length) (cap:=c3) (ik:=.i64) 26 44 1 i J7 (JW 27 44 (cs:=[Sl a7 x1.length c6]) 0 (Sl a7 x1.length c6) hc1 (Ja [0,0] [(4,I (i:Int)),(5,Sl a7 x1.length c6)] (Jd (Jb (Jc (Ja [0,0,0] [(28,Sl aw xw.length cw),(29,I (i:Int)),(30,Sl a7 x1.length c6)] (JF 31 (YA g a7 c6 x1 hs4) (fun v G3 L1 hl3 hp=>?_))))))))
 obtain ⟨a8,c7,_,rfl,hr4,rfl⟩:=hp
 obtain ⟨_,hx2⟩:=We (l:=xw) (k:=i) (by omega)
 obtain ⟨b4,o2,_,_,⟨_,_,rfl,_⟩,ha1,_,_⟩:=J0.ix (hrw.mono hl3) hx2
 refine QI (b:=b4) (off:=o2) (len:=xw.length) (cap:=cw) (ik:=.i64) 32 44 1 i ha1 J7 (WJ (E:=QA) 0 hr4 (by exact (hs4).fit) (fun G4 hl4 hs6=>YV (b:=b4) (off:=o2) 1 (hrw.mono (Jp.le_trans hl3 hl4)) i x1 ha1 J7 (Sl a8 x1.length c7) [Sl a8 x1.length c7] ⟨a8,c7,rfl,hs6⟩ (fun r5 hr5=>?_)))
 have e1:xw.length=(xw.set i x1).length:=(List.length_set ..).symm
 exact KI 3 (Sl aw ((xw.set i x1).length) cw) (congrArg (Sl aw · cw) e1) (KI 28 (Sl aw ((xw.set i x1).length) cw) (congrArg (Sl aw · cw) e1) (Jd (JM (Jb (Jc (Ja [0,0] [(23,I (IntKind.i64.wrap ((i:Int)+1)))] (Kw 23 ((i:Int)+1) J7 (Jd (QT [r5,r2,r1,[Sg b2 0 [I 0,Sl none 0 0,I 0,I 0,I 0,Sl none 0 0,Sl none 0 0]],[Sg b1 0 (KU c a4 c4 a5 c5 (At b3 o1) c3)]] (Qr (i+1,aw,cw,r5,xw.set i x1,G4) ⟨(Jp.le_trans hle (Jp.le_trans hl3 hl4)),J7,hr5,⟨by simp only [List.length_set];exact hxw.1,Jod hxw.2 J7 hx1⟩,(by simp only [List.length_set];exact hcw)⟩ (by (try dsimp only);omega)))))))))))
 refine KW (JZ (J8 (JR (Jb (Qx [0,0,11] [] [rw,r2,r1,[Sg b2 0 [I 0,Sl none 0 0,I 0,I 0,I 0,Sl none 0 0,Sl none 0 0]],[Sg b1 0 [I c.queue.most,Sl a4 c.queue.wait.length c4,I c.batch,I c.every,I c.now,Sl a5 c.heads.length c5,Sl aw xw.length cw]]] (Qx [10,9] [] [rw,r2,r1,[Sg b2 0 [I c.queue.most,Sl a4 c.queue.wait.length c4,I c.batch,I c.every,I c.now,Sl a5 c.heads.length c5,Sl aw xw.length cw]],[Sg b1 0 [I c.queue.most,Sl a4 c.queue.wait.length c4,I c.batch,I c.every,I c.now,Sl a5 c.heads.length c5,Sl aw xw.length cw]]] (Jl ?_)))))))
 subst hcw
 refine WA (E:=Q3) 2 (hr1.mono (Jp.le_trans hl2 hle)) (by exact (hs1).fit) (fun G5 hl5 hs7=>WA (E:=KA) 1 (hr2.mono (Jp.le_trans hle hl5)) (by exact (hs2.mono hl1).fit) (fun G6 hl6 hs8=>WA (E:=Qs) 0 (hrw.mono (Jp.le_trans hl5 hl6)) (by simp only [Qs];omega) (fun G7 hl7 hs9=>?_)))
 have hf1:c=(⟨c.queue,c.batch,c.every,c.now,c.heads,xw⟩:KP):=by
  have e_:xw=c.books:=Jkr hxw.1 hxw.2 (by omega);subst e_;rfl
 refine Jm [3] [.agg #[I c.queue.most,Sl a4 c.queue.wait.length c4,I c.batch,I c.every,I c.now,Sl a5 c.heads.length c5,Sl aw xw.length xw.length]] (Jy [] (Jp.le_trans (Jp.le_trans (Jp.le_trans (Jp.le_trans (Jp.le_trans hl1 hl2) hle) hl5) hl6) hl7) ?_)
 rw [hf1]
 try dsimp only
 exact ⟨a4,c4,a5,c5,aw,rfl,w1,(hs7.mono (Jp.le_trans hl6 hl7)),w2,w3,w4,(hs8.mono hl7),hs9,rfl⟩
theorem Jdo (G:Jp) (vs_c:List Value) (c:KP) (h_c:Jaf.R G vs_c c) (vs_a:List Value) (a:Zv) (h_a:Q3.R G vs_a a) :Yi 103 #[.agg vs_c.toArray,.agg vs_a.toArray] G [] (fun u G' L'=>∃ (a1:Option Addr) (c2:Nat) (a3:Option Addr) (c4:Nat) (a5:Option Addr) (c6:Nat),u=.tuple #[.agg #[I (((Kv c a).1).queue.most),Sl a1 ((((Kv c a).1).queue.wait).length) c2,I (((Kv c a).1).batch),I (((Kv c a).1).every),I (((Kv c a).1).now),Sl a3 ((((Kv c a).1).heads).length) c4,Sl a5 ((((Kv c a).1).books).length) c6],I ((Kv c a).2.1),I ((Kv c a).2.2)]∧(rI (((Kv c a).1).queue.most))∧(RS Q3 G' a1 c2 (((Kv c a).1).queue.wait))∧(rI (((Kv c a).1).batch))∧(rI (((Kv c a).1).every))∧(rI (((Kv c a).1).now))∧(RS KA G' a3 c4 (((Kv c a).1).heads))∧(RS Qs G' a5 c6 (((Kv c a).1).books))∧(rI ((Kv c a).2.1))∧L'=[]):=by
 obtain ⟨a1,c1,a2,c2,a3,c3,rfl,w1,hs1,w2,w3,w4,hs2,hs3⟩:=h_c
 obtain ⟨rfl,w5,w6,w7,w8⟩:=h_a
 refine JN Tryz.func103 76 [(0,(Qz c a1 c1 a2 c2 a3 c3)),(1,.agg #[Sr a.name,Sr a.value,U a.n,U a.tag])] rfl (fun w0 G0=>?_)
 refine Je (Jc (Jv 2 #[I c.queue.most,Sl a1 c.queue.wait.length c1,I c.batch,I c.every,I c.now,Sl a2 c.heads.length c2,Sl a3 c.books.length c3] 60 (fun b1=>Jv 3 #[Sr a.name,Sr a.value,U a.n,U a.tag] 182 (fun b2=>Jv 4 #[I 0,Sl none 0 0,I 0,I 0,I 0,Sl none 0 0,Sl none 0 0] 60 (fun b3=>Ja [0,0] [] (Jd (Jb (Je (Je (Jc (Ja [6] [(13,(Qz c a1 c1 a2 c2 a3 c3))] (Jj 14 (I (Kb c)) (Vp G (KU c a1 c1 a2 c2 a3 c3) c (⟨a1,c1,a2,c2,a3,c3,rfl,w1,hs1,w2,w3,w4,hs2,hs3⟩)) (Ja [0] [(7,I (Kb c))] (Jd (Jb (Jf [0,0] [(16,Bo (!decide (Kb c=0)))] (Jk (!decide (Kb c=0)) (fun h1=>?_) (fun h1=>?_))))))))))))))))))
 refine Jf [0,0,3,0,0] [(5,I 0),(6,I (Kb c))] (Jl (Jh ?_))
 have hf1:Kv c a=((⟨(⟨0,[]⟩:Q0),0,0,0,[],[]⟩:KP),0,Kb c):=by
  unfold Kv ZU;(rw [if_pos ‹_›];done)
 refine Jm [0,0,0] [.agg #[I 0,Sl none 0 0,I 0,I 0,I 0,Sl none 0 0,Sl none 0 0],I 0,I (Kb c)] (Jy [] (Jp.le_refl _) ?_)
 rw [hf1]
 try dsimp only
 exact ⟨none,0,none,0,none,0,rfl,J7,(RS.nil' Q3 G),J7,J7,J7,(RS.nil' KA G),(RS.nil' Qs G),J7,rfl⟩
 refine Jo (Jb (Je (Jc (Ja [0,6,4] [(21,.agg #[I c.queue.most,Sl a1 c.queue.wait.length c1]),(22,.agg #[Sr a.name,Sr a.value,U a.n,U a.tag])] (JF 23 (Jhs G [I c.queue.most,Sl a1 c.queue.wait.length c1] c.queue (⟨a1,c1,rfl,w1,hs1⟩) [Sr a.name,Sr a.value,U a.n,U a.tag] a (⟨rfl,w5,w6,w7,w8⟩)) (fun v G1 L1 hl1 hp=>?_))))))
 obtain ⟨a4,c4,rfl,w9,hs4,rfl⟩:=hp
 refine Ja [0,0,0,0] [(24,.agg #[I (((JP c.queue a).1).most),Sl a4 ((((JP c.queue a).1).wait).length) c4]),(25,I ((JP c.queue a).2.1)),(26,I ((JP c.queue a).2.2))] (Jv 8 #[I 0,Sl none 0 0] 57 (fun b4=>JV [3,0,0] [(9,I ((JP c.queue a).2.1)),(10,I ((JP c.queue a).2.2))] [[Sg b4 0 [I (((JP c.queue a).1).most),Sl a4 ((((JP c.queue a).1).wait).length) c4]],[Sg b3 0 [I 0,Sl none 0 0,I 0,I 0,I 0,Sl none 0 0,Sl none 0 0]],[Sg b2 0 [Sr a.name,Sr a.value,U a.n,U a.tag]],[Sg b1 0 (KU c a1 c1 a2 c2 a3 c3)]] (Jd (Jb (Je (Jz (Je (Jc (Ja [0,0,0] [(30,Bo (!decide ((JP c.queue a).2.2=0)))] (Kn (!decide ((JP c.queue a).2.2=0)) [30] [0,0,0] [1,1,0] (fun bb=>[(33,Bo (bb && (!decide ((JP c.queue a).2.2=7))))]) (Ja [0] [(27,Bo ((!decide ((JP c.queue a).2.2=0)) && (!decide ((JP c.queue a).2.2=7))))] (Jd (Jb (Jk ((!decide ((JP c.queue a).2.2=0)) && (!decide ((JP c.queue a).2.2=7))) (fun h2=>?_) (fun h2=>?_)))))))))))))))
 refine Jf [0,0,5,0,0] [(5,I 0),(6,I ((JP c.queue a).2.2))] (Jl (Jt (Jh ?_)))
 have hf2:Kv c a=((⟨(⟨0,[]⟩:Q0),0,0,0,[],[]⟩:KP),0,(JP c.queue a).2.2):=by
  unfold Kv ZU;(rw [if_neg (by simp_all)];simp_all;done)
 refine Jm [1,0,0] [.agg #[I 0,Sl none 0 0,I 0,I 0,I 0,Sl none 0 0,Sl none 0 0],I 0,I ((JP c.queue a).2.2)] (Jy [] hl1 ?_)
 rw [hf2]
 try dsimp only
 exact ⟨none,0,none,0,none,0,rfl,J7,(RS.nil' Q3 G1),J7,J7,J7,(RS.nil' KA G1),(RS.nil' Qs G1),J7,rfl⟩
 refine Je (Jc (Ja [8] [(37,(Qz c a1 c1 a2 c2 a3 c3))] (Jj 38 (Bo (Zi c)) (Jer G1 (KU c a1 c1 a2 c2 a3 c3) c (⟨a1,c1,a2,c2,a3,c3,rfl,w1,(hs1.mono hl1),w2,w3,w4,(hs2.mono hl1),(hs3.mono hl1)⟩)) (Ja [0] [(36,Bo (Zi c))] (Jd (Jb (Jk (Zi c) (fun h3=>?_) (fun h3=>?_))))))))
 refine Jf [0,5,0,0] [(5,I 0),(6,I 9)] (Jl (Jt (Jh ?_)))
 have hf3:Kv c a=((⟨(⟨0,[]⟩:Q0),0,0,0,[],[]⟩:KP),0,9):=by
  unfold Kv ZU;(rw [if_neg (by simp_all)];simp_all;done)
 refine Jm [1,0,0] [.agg #[I 0,Sl none 0 0,I 0,I 0,I 0,Sl none 0 0,Sl none 0 0],I 0,I 9] (Jy [] hl1 ?_)
 rw [hf3]
 try dsimp only
 exact ⟨none,0,none,0,none,0,rfl,J7,(RS.nil' Q3 G1),J7,J7,J7,(RS.nil' KA G1),(RS.nil' Qs G1),J7,rfl⟩
 refine Je (Jc (Ja [0,0,0] [(43,Bo (decide ((JP c.queue a).2.2=7)))] (Qu [43] (decide ((JP c.queue a).2.2=7)) (fun h4=>?_) (fun h4=>?_))))
 refine Ja [1,1,1,1,1,1,0,0] [(40,Bo true)] (Jd (Jb (JU (Jf [0,5,0,0] [(5,I 0),(6,I 7)] (Jl (Jt (Jh ?_)))))))
 have hf4:Kv c a=((⟨(⟨0,[]⟩:Q0),0,0,0,[],[]⟩:KP),0,7):=by
  unfold Kv ZU;(rw [if_neg (by simp_all)];simp_all;done)
 refine Jm [1,0,0] [.agg #[I 0,Sl none 0 0,I 0,I 0,I 0,Sl none 0 0,Sl none 0 0],I 0,I 7] (Jy [] hl1 ?_)
 rw [hf4]
 try dsimp only
 exact ⟨none,0,none,0,none,0,rfl,J7,(RS.nil' Q3 G1),J7,J7,J7,(RS.nil' KA G1),(RS.nil' Qs G1),J7,rfl⟩
 refine Ja [8,0,6] [(44,(Qz c a1 c1 a2 c2 a3 c3)),(46,Sr a.name)] (Kq 47 1 #[Sr a.name] 9 (fun b5=>QV (b:=b5) (o:=0) (cs:=[Sr a.name]) 0 (fun G2 hl2 hz1=>?_)))
 have hs5:RS ES G2 (At b5 0) 1 [a.name]:=RS.lit [[Sr a.name]] [a.name] ⟨⟨rfl,w5⟩,trivial⟩ hz1 (Nat.le_of_ble_eq_true rfl) (Nat.le_of_ble_eq_true rfl)
 refine Jj 48 (I (WZ c ([a.name]))) (JbI G2 (KU c a1 c1 a2 c2 a3 c3) c (⟨a1,c1,a2,c2,a3,c3,rfl,w1,(hs1.mono (Jp.le_trans hl1 hl2)),w2,w3,w4,(hs2.mono (Jp.le_trans hl1 hl2)),(hs3.mono (Jp.le_trans hl1 hl2))⟩) (At b5 0) 1 ([a.name]) hs5 (by (have q_:=Yc ‹_›;(try dsimp only);omega)) (by (have q_:=Yc ‹_›;(try dsimp only);omega)) (by (have q_:=Yc ‹_›;(try dsimp only);omega)) (by (have q_:=Yc ‹_›;(try dsimp only);omega)) (by (simp;done))) (Ja [0,0,0] [(40,Bo (decide (WZ c ([a.name]) > 24)))] (Jd (Jb (Jk (decide (WZ c ([a.name]) > 24)) (fun h5=>?_) (fun h5=>?_)))))
 refine Jf [0,7,0,0] [(5,I 0),(6,I 7)] (Jl (Jt (Jh ?_)))
 have hf5:Kv c a=((⟨(⟨0,[]⟩:Q0),0,0,0,[],[]⟩:KP),0,7):=by
  unfold Kv ZU;(rw [if_neg (by simp_all)];simp_all;done)
 refine Jm [2,0,0] [.agg #[I 0,Sl none 0 0,I 0,I 0,I 0,Sl none 0 0,Sl none 0 0],I 0,I 7] (Jy [] (Jp.le_trans hl1 hl2) ?_)
 rw [hf5]
 try dsimp only
 exact ⟨none,0,none,0,none,0,rfl,J7,(RS.nil' Q3 G2),J7,J7,J7,(RS.nil' KA G2),(RS.nil' Qs G2),J7,rfl⟩
 refine Jo (JM (Jb (Je (Jc (Ja [10] [(52,(Qz c a1 c1 a2 c2 a3 c3))] (JF 53 (Jes G2 (KU c a1 c1 a2 c2 a3 c3) c (⟨a1,c1,a2,c2,a3,c3,rfl,w1,(hs1.mono (Jp.le_trans hl1 hl2)),w2,w3,w4,(hs2.mono (Jp.le_trans hl1 hl2)),(hs3.mono (Jp.le_trans hl1 hl2))⟩) (by (have q_:=Yc ‹_›;(try dsimp only);omega))) (fun v G3 L1 hl3 hp=>?_)))))))
 obtain ⟨a5,c5,a6,c6,a7,rfl,_,_,w11,w12,w13,hs7,hs8,rfl⟩:=hp
 refine JV [11] [] [[],[Sg b4 0 [I (((JP c.queue a).1).most),Sl a4 ((((JP c.queue a).1).wait).length) c4]],[Sg b3 0 [I 0,Sl none 0 0,I 0,I 0,I 0,Sl none 0 0,Sl none 0 0]],[Sg b2 0 [Sr a.name,Sr a.value,U a.n,U a.tag]],[Sg b1 0 (KU c a5 c5 a6 c6 a7 c.books.length)]] (Jd (Jb (Qx [4,0,11] [] [[],[Sg b4 0 [I (((JP c.queue a).1).most),Sl a4 ((((JP c.queue a).1).wait).length) c4]],[Sg b3 0 [I 0,Sl none 0 0,I 0,I 0,I 0,Sl none 0 0,Sl none 0 0]],[Sg b2 0 [Sr a.name,Sr a.value,U a.n,U a.tag]],[Sg b1 0 [I (((JP c.queue a).1).most),Sl a4 ((((JP c.queue a).1).wait).length) c4,I c.batch,I c.every,I c.now,Sl a6 c.heads.length c6,Sl a7 c.books.length c.books.length]]] (Je (Jc (Ja [0,0,10,0,10] [(57,I ((JP c.queue a).2.1)),(59,I c.batch),(61,I c.every)] (Jj 62 (.tuple #[I ((Qg ((JP c.queue a).2.1) c.batch c.every).1),I ((Qg ((JP c.queue a).2.1) c.batch c.every).2)]) (Jf6 G3 ((JP c.queue a).2.1) c.batch c.every) (Ja [0,0,0,0,0] [(11,I ((Qg ((JP c.queue a).2.1) c.batch c.every).1))] (Jd (Jb (Je ?_)))))))))))
 have e1:IntKind.i64.wrap (c.now-((c.now).tmod c.every))=c.now-((c.now).tmod c.every):=IntWalk.i64_in _ (by (have q_:=Yc ‹_›;have q10_:=VY (n:=c.now) (e:=c.every) (by omega) (by omega);have q11_:=JfK (JP c.queue a).2.1 c.batch c.every;omega))
 have e2:IntKind.i64.wrap ((c.now-((c.now).tmod c.every))+((Qg ((JP c.queue a).2.1) c.batch c.every).1))=(c.now-((c.now).tmod c.every))+((Qg ((JP c.queue a).2.1) c.batch c.every).1):=IntWalk.i64_in _ (by (have q_:=Yc ‹_›;have q10_:=VY (n:=c.now) (e:=c.every) (by omega) (by omega);have q11_:=JfK (JP c.queue a).2.1 c.batch c.every;omega))
 refine Ko [11] (Wm [(0,.agg #[I (((JP c.queue a).1).most),Sl a4 ((((JP c.queue a).1).wait).length) c4,I c.batch,I c.every,I c.now,Sl a6 c.heads.length c6,Sl a7 c.books.length c.books.length]),(1,Pt b1 4),(2,I c.now),(3,Pt b1 4),(4,I c.now),(5,Pt b1 3),(6,I c.every),(7,I ((c.now).tmod c.every)),(8,I (c.now-((c.now).tmod c.every))),(9,I ((Qg ((JP c.queue a).2.1) c.batch c.every).1)),(10,I ((c.now-((c.now).tmod c.every))+((Qg ((JP c.queue a).2.1) c.batch c.every).1)))] (JK [] [(0,10),(1,0),(2,10),(3,0),(4,10),(5,0),(6,10),(9,0)] [7,8,10] [11] (Ke ?_ (Ke ?_ (Ke ?_ K4))) (Ke ?_ K4)))
 refine Jr 7 72 (I ((c.now).tmod c.every)) [(69,I c.now),(71,I c.every)] (fun X=>?_)
 exact JcX (k:=.i64) (x:=c.now) (y:=c.every) 72 false ((c.now).tmod c.every) (by (have q_:=Yc ‹_›;have q10_:=VY (n:=c.now) (e:=c.every) J7 (by omega);have q11_:=JfK (JP c.queue a).2.1 c.batch c.every;omega)) rfl Jn
 refine Jr 8 73 (I (c.now-((c.now).tmod c.every))) [(67,I c.now),(72,I ((c.now).tmod c.every))] (fun X=>?_)
 exact K5 73 (I (IntKind.i64.wrap (c.now-((c.now).tmod c.every)))) (I (c.now-((c.now).tmod c.every))) (by simp only [e1]) Jn
 refine Jr 10 75 (I ((c.now-((c.now).tmod c.every))+((Qg ((JP c.queue a).2.1) c.batch c.every).1))) [(73,I (c.now-((c.now).tmod c.every))),(74,I ((Qg ((JP c.queue a).2.1) c.batch c.every).1))] (fun X=>?_)
 exact K5 75 (I (IntKind.i64.wrap ((c.now-((c.now).tmod c.every))+((Qg ((JP c.queue a).2.1) c.batch c.every).1)))) (I ((c.now-((c.now).tmod c.every))+((Qg ((JP c.queue a).2.1) c.batch c.every).1))) (by simp only [e2]) Jn
 refine JD 11 [(4,Pt b3 0),(65,.agg #[I (((JP c.queue a).1).most),Sl a4 ((((JP c.queue a).1).wait).length) c4,I c.batch,I c.every,I c.now,Sl a6 c.heads.length c6,Sl a7 c.books.length c.books.length])] (fun X=>?_)
 refine KL 2 [[],[Sg b4 0 [I (((JP c.queue a).1).most),Sl a4 ((((JP c.queue a).1).wait).length) c4]],[Sg b3 0 [I (((JP c.queue a).1).most),Sl a4 ((((JP c.queue a).1).wait).length) c4,I c.batch,I c.every,I c.now,Sl a6 c.heads.length c6,Sl a7 c.books.length c.books.length]],[Sg b2 0 [Sr a.name,Sr a.value,U a.n,U a.tag]],[Sg b1 0 [I (((JP c.queue a).1).most),Sl a4 ((((JP c.queue a).1).wait).length) c4,I c.batch,I c.every,I c.now,Sl a6 c.heads.length c6,Sl a7 c.books.length c.books.length]]] ?_
 have e3:IntKind.i64.wrap (c.now-((c.now).tmod c.every))=c.now-((c.now).tmod c.every):=IntWalk.i64_in _ (by (have q_:=Yc ‹_›;have q10_:=VY (n:=c.now) (e:=c.every) (by omega) (by omega);have q11_:=JfK (JP c.queue a).2.1 c.batch c.every;omega))
 have e4:IntKind.i64.wrap ((c.now-((c.now).tmod c.every))+((Qg ((JP c.queue a).2.1) c.batch c.every).1))=(c.now-((c.now).tmod c.every))+((Qg ((JP c.queue a).2.1) c.batch c.every).1):=IntWalk.i64_in _ (by (have q_:=Yc ‹_›;have q10_:=VY (n:=c.now) (e:=c.every) (by omega) (by omega);have q11_:=JfK (JP c.queue a).2.1 c.batch c.every;omega))
 refine Kc [(12,I ((c.now-((c.now).tmod c.every))+((Qg ((JP c.queue a).2.1) c.batch c.every).1))),(13,I 0)] (Km [0] [(1,0),(2,10),(3,0),(4,10),(5,0),(6,10),(9,0),(12,0),(13,0)] [7,8,10] [(4,Pt b3 0),(5,I ((c.now-((c.now).tmod c.every))+((Qg ((JP c.queue a).2.1) c.batch c.every).1))),(6,I 0)] (Ke ?_ (Ke ?_ (Ke ?_ K4))) ?_)
 refine Jr 7 72 (I ((c.now).tmod c.every)) [(69,I c.now),(71,I c.every)] (fun X=>?_)
 exact JcX (k:=.i64) (x:=c.now) (y:=c.every) 72 false ((c.now).tmod c.every) (by (have q_:=Yc ‹_›;have q10_:=VY (n:=c.now) (e:=c.every) J7 (by omega);have q11_:=JfK (JP c.queue a).2.1 c.batch c.every;omega)) rfl Jn
 refine Jr 8 73 (I (c.now-((c.now).tmod c.every))) [(67,I c.now),(72,I ((c.now).tmod c.every))] (fun X=>?_)
 exact K5 73 (I (IntKind.i64.wrap (c.now-((c.now).tmod c.every)))) (I (c.now-((c.now).tmod c.every))) (by simp only [e3]) Jn
 refine Jr 10 75 (I ((c.now-((c.now).tmod c.every))+((Qg ((JP c.queue a).2.1) c.batch c.every).1))) [(73,I (c.now-((c.now).tmod c.every))),(74,I ((Qg ((JP c.queue a).2.1) c.batch c.every).1))] (fun X=>?_)
 exact K5 75 (I (IntKind.i64.wrap ((c.now-((c.now).tmod c.every))+((Qg ((JP c.queue a).2.1) c.batch c.every).1)))) (I ((c.now-((c.now).tmod c.every))+((Qg ((JP c.queue a).2.1) c.batch c.every).1))) (by simp only [e4]) Jn
 refine Jb (Jl ?_)
 have hf6:Kv c a=((⟨((JP c.queue a).1),c.batch,c.every,c.now,c.heads,c.books⟩:KP),(c.now-((c.now).tmod c.every))+((Qg ((JP c.queue a).2.1) c.batch c.every).1),0):=by
  unfold Kv ZU;(rw [if_neg (by simp_all)];simp_all;done)
 refine Jm [2,0,0] [.agg #[I (((JP c.queue a).1).most),Sl a4 ((((JP c.queue a).1).wait).length) c4,I c.batch,I c.every,I c.now,Sl a6 c.heads.length c6,Sl a7 c.books.length c.books.length],I ((c.now-((c.now).tmod c.every))+((Qg ((JP c.queue a).2.1) c.batch c.every).1)),I 0] (Jy [] (Jp.le_trans (Jp.le_trans hl1 hl2) hl3) ?_)
 rw [hf6]
 try dsimp only
 exact ⟨a4,c4,a6,c6,a7,c.books.length,rfl,w9,(hs4.mono (Jp.le_trans hl2 hl3)),w11,w12,w13,hs7,hs8,(by (have q_:=Yc ‹_›;have q10_:=VY (n:=c.now) (e:=c.every) J7 (by omega);have q11_:=JfK (JP c.queue a).2.1 c.batch c.every;omega)),rfl⟩
set_option maxRecDepth 20000 in
theorem Jgl (G:Jp) (vs_c:List Value) (c:KP) (h_c:Jaf.R G vs_c c) :Yi 110 #[.agg vs_c.toArray] G [] (fun u G' L'=>∃ (a1:Option Addr) (c2:Nat) (a3:Option Addr) (c4:Nat) (a5:Option Addr) (c6:Nat),u=.tuple #[.agg #[I (((KT c).1).queue.most),Sl a1 ((((KT c).1).queue.wait).length) c2,I (((KT c).1).batch),I (((KT c).1).every),I (((KT c).1).now),Sl a3 ((((KT c).1).heads).length) c4,Sl a5 ((((KT c).1).books).length) c6],Bo ((KT c).2.1),I ((KT c).2.2)]∧(rI (((KT c).1).queue.most))∧(RS Q3 G' a1 c2 (((KT c).1).queue.wait))∧(rI (((KT c).1).batch))∧(rI (((KT c).1).every))∧(rI (((KT c).1).now))∧(RS KA G' a3 c4 (((KT c).1).heads))∧(RS Qs G' a5 c6 (((KT c).1).books))∧L'=[]):=by
 obtain ⟨a1,c1,a2,c2,a3,c3,rfl,w1,hs1,w2,w3,w4,hs2,hs3⟩:=h_c
 refine JN Tryz.func110 88 [(0,(Qz c a1 c1 a2 c2 a3 c3))] rfl (fun w0 G0=>?_)
 refine Je (Jc (Jv 1 #[I c.queue.most,Sl a1 c.queue.wait.length c1,I c.batch,I c.every,I c.now,Sl a2 c.heads.length c2,Sl a3 c.books.length c3] 60 (fun b1=>Jv 2 #[I 0,Sl none 0 0,I 0,I 0,I 0,Sl none 0 0,Sl none 0 0] 60 (fun b2=>Ja [0,0] [] (Jd (Jb (Je (Je (Jc (Ja [4] [(14,(Qz c a1 c1 a2 c2 a3 c3))] (Jj 15 (I (Kb c)) (Vp G (KU c a1 c1 a2 c2 a3 c3) c (⟨a1,c1,a2,c2,a3,c3,rfl,w1,hs1,w2,w3,w4,hs2,hs3⟩)) (Ja [0] [(5,I (Kb c))] (Jd (Jb (Jf [0,0] [(17,Bo (!decide (Kb c=0)))] (Jk (!decide (Kb c=0)) (fun h1=>?_) (fun h1=>?_)))))))))))))))))
 refine Jf [0,0,3,0,0] [(3,Bo false),(4,I (Kb c))] (Jl (Jh ?_))
 have hf1:KT c=((⟨(⟨0,[]⟩:Q0),0,0,0,[],[]⟩:KP),false,Kb c):=by
  unfold KT ZU;(rw [if_pos ‹_›];done)
 refine Jm [0,0,0] [.agg #[I 0,Sl none 0 0,I 0,I 0,I 0,Sl none 0 0,Sl none 0 0],Bo false,I (Kb c)] (Jy [] (Jp.le_refl _) ?_)
 rw [hf1]
 try dsimp only
 exact ⟨none,0,none,0,none,0,rfl,J7,(RS.nil' Q3 G),J7,J7,J7,(RS.nil' KA G),(RS.nil' Qs G),rfl⟩
 refine Jo (Jb (Je (Jc (Ja [4] [(20,(Qz c a1 c1 a2 c2 a3 c3))] (JF 21 (Jes G (KU c a1 c1 a2 c2 a3 c3) c (⟨a1,c1,a2,c2,a3,c3,rfl,w1,hs1,w2,w3,w4,hs2,hs3⟩) (by (have q_:=Yc ‹_›;(try dsimp only);omega))) (fun v G1 L1 hl1 hp=>?_))))))
 obtain ⟨a4,c4,a5,c5,a6,rfl,w5,hs4,w6,w7,w8,hs5,hs6,rfl⟩:=hp
 refine JV [5] [] [[Sg b2 0 [I 0,Sl none 0 0,I 0,I 0,I 0,Sl none 0 0,Sl none 0 0]],[Sg b1 0 (KU c a4 c4 a5 c5 a6 c.books.length)]] (Jd (Jb (Je (Je (Jc (Ja [4] [(22,(Qz c a4 c4 a5 c5 a6 c.books.length))] (Jj 23 (Bo (Zi c)) (Jer G1 (KU c a4 c4 a5 c5 a6 c.books.length) c (⟨a4,c4,a5,c5,a6,c.books.length,rfl,w5,hs4,w6,w7,w8,hs5,hs6⟩)) (Jd (Jb (Jk (Zi c) (fun h2=>?_) (fun h2=>?_)))))))))))
 refine Qx [4,3,0,0] [(3,Bo false),(4,I 0)] [[Sg b2 0 (KU c a4 c4 a5 c5 a6 c.books.length)],[Sg b1 0 (KU c a4 c4 a5 c5 a6 c.books.length)]] (Jl (Jh ?_))
 have hf2:KT c=(c,false,0):=by
  unfold KT ZU;(rw [if_neg (by simp_all)];(rw [if_pos ‹_›];done))
 refine Jm [0,0,0] [(Qz c a4 c4 a5 c5 a6 c.books.length),Bo false,I 0] (Jy [] hl1 ?_)
 rw [hf2]
 try dsimp only
 exact ⟨a4,c4,a5,c5,a6,c.books.length,rfl,w5,hs4,w6,w7,w8,hs5,hs6,rfl⟩
 refine Jo (Jb (Qx [0,4,0,0,5] [] [[Sg b2 0 [I 0,Sl none 0 0,I 0,I 0,I 0,Sl none 0 0,Sl none 0 0]],[Sg b1 0 [I c.queue.most,Sl a4 c.queue.wait.length c4,I c.batch,I c.every,I (IntKind.i64.wrap (c.now+1)),Sl a5 c.heads.length c5,Sl a6 c.books.length c.books.length]]] ?_))
 have e1:IntKind.i64.wrap (c.now+1)=c.now+1:=IntWalk.i64_in _ (by (have q_:=Yc ‹_›;have q10_:=VY (n:=c.now+1) (e:=c.every) (by omega) (by omega);omega))
 refine Jcy (L':=[[Sg b2 0 [I 0,Sl none 0 0,I 0,I 0,I 0,Sl none 0 0,Sl none 0 0]],[Sg b1 0 [I c.queue.most,Sl a4 c.queue.wait.length c4,I c.batch,I c.every,I (c.now+1),Sl a5 c.heads.length c5,Sl a6 c.books.length c.books.length]]]) (by simp only [KU,Qz,e1];first | done | rfl) ?_
 clear e1
 refine Je (Je (Jc (Ja [0,4,0,4] [(30,I (c.now+1)),(32,I c.every)] (JcX (k:=.i64) (x:=c.now+1) (y:=c.every) 33 false ((c.now+1).tmod c.every) (by (have q_:=Yc ‹_›;have q10_:=VY (n:=c.now+1) (e:=c.every) J7 (by omega);omega)) rfl (Ja [0] [(34,Bo (!decide ((c.now+1).tmod c.every=0)))] (Jd (Jb (Jk (!decide ((c.now+1).tmod c.every=0)) (fun h3=>?_) (fun h3=>?_)))))))))
 refine Qx [4,3,0,0] [(3,Bo false),(4,I 0)] [[Sg b2 0 [I c.queue.most,Sl a4 c.queue.wait.length c4,I c.batch,I c.every,I (c.now+1),Sl a5 c.heads.length c5,Sl a6 c.books.length c.books.length]],[Sg b1 0 [I c.queue.most,Sl a4 c.queue.wait.length c4,I c.batch,I c.every,I (c.now+1),Sl a5 c.heads.length c5,Sl a6 c.books.length c.books.length]]] (Jl (Jh ?_))
 have hf3:KT c=((⟨c.queue,c.batch,c.every,c.now+1,c.heads,c.books⟩:KP),false,0):=by
  unfold KT ZU;(rw [if_neg (by simp_all)];(rw [if_neg (by simp_all)];(rw [if_pos ‹_›];done)))
 refine Jm [0,0,0] [.agg #[I c.queue.most,Sl a4 c.queue.wait.length c4,I c.batch,I c.every,I (c.now+1),Sl a5 c.heads.length c5,Sl a6 c.books.length c.books.length],Bo false,I 0] (Jy [] hl1 ?_)
 rw [hf3]
 try dsimp only
 exact ⟨a4,c4,a5,c5,a6,c.books.length,rfl,‹_›,hs4,‹_›,‹_›,(by have q_:=Yc ‹_›;(try dsimp only);omega),hs5,hs6,rfl⟩
 refine Jo (Jb (Je (Jc (Ja [0,4,0,4] [(38,.agg #[I c.queue.most,Sl a4 c.queue.wait.length c4]),(40,I c.batch)] (JF 41 (Jf5 G1 [I c.queue.most,Sl a4 c.queue.wait.length c4] c.queue (⟨a4,c4,rfl,‹_›,hs4⟩) c.batch) (fun v G2 L1 hl2 hp=>?_))))))
 obtain ⟨a7,c6,a8,c7,rfl,w9,hs7,hs8,rfl⟩:=hp
 refine Ja [0,0,0,0] [(42,.agg #[I (((J5 c.queue c.batch).1).most),Sl a7 ((((J5 c.queue c.batch).1).wait).length) c6]),(43,Sl a8 (((J5 c.queue c.batch).2.1).length) c7),(44,I ((J5 c.queue c.batch).2.2))] (Jv 6 #[I 0,Sl none 0 0] 57 (fun b3=>JV [3,0,0] [(7,Sl a8 (((J5 c.queue c.batch).2.1).length) c7)] [[Sg b3 0 [I (((J5 c.queue c.batch).1).most),Sl a7 ((((J5 c.queue c.batch).1).wait).length) c6]],[Sg b2 0 [I 0,Sl none 0 0,I 0,I 0,I 0,Sl none 0 0,Sl none 0 0]],[Sg b1 0 [I c.queue.most,Sl a4 c.queue.wait.length c4,I c.batch,I c.every,I (c.now+1),Sl a5 c.heads.length c5,Sl a6 c.books.length c.books.length]]] (Jd (Jb (Je (Jc (Ja [6] [(45,.agg #[I c.queue.most,Sl a4 c.queue.wait.length c4,I c.batch,I c.every,I (c.now+1),Sl a5 c.heads.length c5,Sl a6 c.books.length c.books.length])] (JF 46 (JfH G2 [I c.queue.most,Sl a4 c.queue.wait.length c4,I c.batch,I c.every,I (c.now+1),Sl a5 c.heads.length c5,Sl a6 c.books.length c.books.length] (⟨c.queue,c.batch,c.every,c.now+1,c.heads,c.books⟩:KP) (⟨a4,c4,a5,c5,a6,c.books.length,rfl,‹_›,(hs4.mono hl2),‹_›,‹_›,(by have q_:=Yc ‹_›;(try dsimp only);omega),(hs5.mono hl2),(hs6.mono hl2)⟩) (by (have q_:=Yc ‹_›;(try dsimp only);omega)) (by (have q_:=Yc ‹_›;(try dsimp only);omega))) (fun v G3 L1 hl3 hp=>?_)))))))))
 obtain ⟨a9,c8,rfl,hs9,rfl⟩:=hp
 refine JF 47 (YA G3 a9 c8 (Wr (⟨c.queue,c.batch,c.every,c.now+1,c.heads,c.books⟩:KP).books) hs9) (fun v G4 L1 hl4 hp=>?_)
 obtain ⟨a10,c9,r1,rfl,hr1,rfl⟩:=hp
 refine Ja [0] [(9,Sl a10 ((Wr (⟨c.queue,c.batch,c.every,c.now+1,c.heads,c.books⟩:KP).books).length) c9)] (Jd (Jb (Je (Jf [0,0,0] [(48,Sl a8 (((J5 c.queue c.batch).2.1).length) c7),(49,I (((J5 c.queue c.batch).2.1).length:Int)),(50,I 0)] (Jz ?_)))))
 have hlm_hs8:((J5 c.queue c.batch).2.1).length≤9223372036854775807:=Nat.le_trans (hs8).le (hs8).max
 refine Qh (σ:=Nat×Option Addr×Nat×List Kg×List J2×Jp) (fun q_=>(Jp.le G4 q_.2.2.2.2.2)∧(q_.1≤((J5 c.queue c.batch).2.1).length)∧(J0 QA q_.2.2.2.2.2 q_.2.1 q_.2.2.1 q_.2.2.2.2.1 q_.2.2.2.1)∧(q_.2.2.2.2.1=Jbh (Wr c.books) ((J5 c.queue c.batch).2.1.take q_.1)∧q_.2.2.2.2.1.length≤1000)) (fun q_=>[(1,Pt b1 0),(2,Pt b2 0),(6,Pt b3 0),(9,Sl q_.2.1 q_.2.2.2.2.1.length q_.2.2.1),(48,Sl a8 (((J5 c.queue c.batch).2.1).length) c7),(49,I (((J5 c.queue c.batch).2.1).length:Int)),(50,I (q_.1:Int))]) (fun q_=>q_.2.2.2.2.2) (fun q_=>[q_.2.2.2.1,[Sg b3 0 [I (((J5 c.queue c.batch).1).most),Sl a7 ((((J5 c.queue c.batch).1).wait).length) c6]],[Sg b2 0 [I 0,Sl none 0 0,I 0,I 0,I 0,Sl none 0 0,Sl none 0 0]],[Sg b1 0 [I c.queue.most,Sl a4 c.queue.wait.length c4,I c.batch,I c.every,I (c.now+1),Sl a5 c.heads.length c5,Sl a6 c.books.length c.books.length]]]) (fun q_=>((J5 c.queue c.batch).2.1).length-q_.1) (0,a10,c9,r1,Wr (⟨c.queue,c.batch,c.every,c.now+1,c.heads,c.books⟩:KP).books,G4) ⟨(Jp.le_refl _),(by (try dsimp only);exact Nat.zero_le _),hr1,⟨rfl,by have q_:=Yc ‹_›;(try dsimp only);omega⟩⟩ (fun q_ hs=>?_)
 obtain ⟨i,aw,cw,rw,xw,g⟩:=q_
 obtain ⟨hle,hi,hrw,hxw⟩:=hs
 dsimp only at hle hi hrw hxw
 dsimp only
 refine Jf [0] [(51,Bo (decide ((i:Int)<(((J5 c.queue c.batch).2.1).length:Int))))] (Je (Jk (decide ((i:Int)<(((J5 c.queue c.batch).2.1).length:Int))) (fun h4=>?_) (fun h4=>?_)))
 refine Jo (Jb (Je (Jz (Je (Jc ?_)))))
 obtain ⟨b4,o1,rfl⟩:=RS.addr (hs8.mono (Jp.le_trans (Jp.le_trans hl3 hl4) hle)) (k:=i) (by omega)
 obtain ⟨x1,hx1⟩:=We (l:=(J5 c.queue c.batch).2.1) (k:=i) (by omega)
 obtain ⟨_,⟨rfl,w10,w11,_,_⟩,hc1⟩:=RS.get (hs8.mono (Jp.le_trans (Jp.le_trans hl3 hl4) hle)) hx1
 refine J3 (b:=b4) (off:=o1) (len:=((J5 c.queue c.batch).2.1).length) (cap:=c7) (ik:=.i64) 52 182 4 i J7 (JW 53 182 (cs:=[Sr x1.name,Sr x1.value,U x1.n,U x1.tag]) 0 (.agg #[Sr x1.name,Sr x1.value,U x1.n,U x1.tag]) hc1 (Jv 11 #[Sr ([]),Sr ([]),U 0,U 0] 182 (fun b5=>JV [3] [] [[Sg b5 0 [Sr x1.name,Sr x1.value,U x1.n,U x1.tag]],rw,[Sg b3 0 [I (((J5 c.queue c.batch).1).most),Sl a7 ((((J5 c.queue c.batch).1).wait).length) c6]],[Sg b2 0 [I 0,Sl none 0 0,I 0,I 0,I 0,Sl none 0 0,Sl none 0 0]],[Sg b1 0 [I c.queue.most,Sl a4 c.queue.wait.length c4,I c.batch,I c.every,I (c.now+1),Sl a5 c.heads.length c5,Sl a6 c.books.length c.books.length]]] (Jd (Jb (Jc (Ja [0,0,2,0,2] [(55,Sl aw xw.length cw),(57,Sr x1.name),(59,Sr x1.value)] (WJ (E:=QA) 1 hrw (by (have q0_:=hxw.2;simp only [QA];omega)) (fun G5 hl5 hs10=>JF 60 (JiG G5 aw cw xw hs10 x1.name w10 x1.value w11) (fun v G6 L1 hl6 hp=>?_))))))))))
 obtain ⟨a11,c10,r2,rfl,hr2,rfl⟩:=hp
 refine Ja [0,0,0,0] [(9,Sl a11 (((Qm xw x1.name x1.value).1).length) c10)] (Jd (JM (Jb (Jc (Ja [0,0] [(50,I (IntKind.i64.wrap ((i:Int)+1)))] (Kw 50 ((i:Int)+1) J7 (Jd (Ji 0 (Ji 1 (Ji 2 ?_))))))))))
 exact QT [r2,[Sg b3 0 [I (((J5 c.queue c.batch).1).most),Sl a7 ((((J5 c.queue c.batch).1).wait).length) c6]],[Sg b2 0 [I 0,Sl none 0 0,I 0,I 0,I 0,Sl none 0 0,Sl none 0 0]],[Sg b1 0 [I c.queue.most,Sl a4 c.queue.wait.length c4,I c.batch,I c.every,I (c.now+1),Sl a5 c.heads.length c5,Sl a6 c.books.length c.books.length]]] (Qr (i+1,a11,c10,r2,(Qm xw x1.name x1.value).1,G6) ⟨(Jp.le_trans hle (Jp.le_trans hl5 hl6)),J7,hr2,⟨by rw [hxw.1];exact JiZ hx1,Nat.le_trans (JiF _ _ _) (by decide)⟩⟩ (by (try dsimp only);omega))
 refine KW (JZ (J8 (JR (Jb (Je (Jc (Ja [0] [(65,Sl aw xw.length cw)] (WJ (E:=QA) 0 hrw (by (have q0_:=hxw.2;simp only [QA];omega)) (fun G7 hl7 hs11=>Jj 66 (.tuple #[U ((JT xw []).1),I ((JT xw []).2)]) (Jbd G7 aw cw xw hs11) (Ja [0,0,0,0,0] [(12,U ((JT xw []).1))] (Jd (Jb (Je (Ko [4,5,7,9] (Wm [(0,.agg #[I (((J5 c.queue c.batch).1).most),Sl a7 ((((J5 c.queue c.batch).1).wait).length) c6]),(1,Pt b1 6),(2,Sl a6 c.books.length c.books.length),(3,Sl aw xw.length cw),(6,Pt b1 0)] (JK [] [(0,4),(1,0),(2,8),(3,0),(6,0)] [] [4] (List.forall_mem_nil _) (Ke ?_ K4)))))))))))))))))
 refine JD 4 [(72,Sl aw xw.length cw)] (fun X=>?_)
 refine Kq 73 1 #[Sl aw xw.length cw] 44 (fun b6=>JC [(4,Sl (At b6 0) 1 1)] (JK [3] [(0,6),(1,0),(2,10),(6,0)] [] [5] (List.forall_mem_nil _) (Ke ?_ K4)))
 refine JD 5 [(71,Sl a6 c.books.length c.books.length),(73,Sl (At b6 0) 1 1)] (fun X=>?_)
 refine Jkn (E:=Qs) (b:=b6) (cs:=[Sl aw xw.length cw]) 74 44 0 xw (hs6.mono (Jp.le_trans (Jp.le_trans (Jp.le_trans (Jp.le_trans hl2 hl3) hl4) hle) hl7)) (⟨aw,cw,rfl,hs11⟩) (by (have q_:=Yc ‹_›;(try simp only [List.length_append,List.length_cons,List.length_nil]);omega)) (by (have q_:=Yc ‹_›;simp only [Qs,List.length_append,List.length_cons,List.length_nil];omega)) (fun a12 c11 r3 hr3=>JC [(5,Sl a12 ((c.books++[xw]).length) c11)] (JK [1,2,3] [(0,8),(6,0)] [] [7] (List.forall_mem_nil _) (Ke ?_ K4)))
 refine JD 7 [(69,.agg #[I (((J5 c.queue c.batch).1).most),Sl a7 ((((J5 c.queue c.batch).1).wait).length) c6]),(75,Pt b1 0)] (fun X=>?_)
 refine KL 5 [r3,[Sg b6 0 [Sl aw xw.length cw]],[],[Sg b3 0 [I (((J5 c.queue c.batch).1).most),Sl a7 ((((J5 c.queue c.batch).1).wait).length) c6]],[Sg b2 0 [I 0,Sl none 0 0,I 0,I 0,I 0,Sl none 0 0,Sl none 0 0]],[Sg b1 0 [I (((J5 c.queue c.batch).1).most),Sl a7 ((((J5 c.queue c.batch).1).wait).length) c6,I c.batch,I c.every,I (c.now+1),Sl a5 c.heads.length c5,Sl a6 c.books.length c.books.length]]] (Kc [(8,Pt b1 6)] (JK [0,1,2,3,6] [(8,0)] [] [9] (List.forall_mem_nil _) (Ke ?_ K4)))
 refine JD 9 [(74,Sl a12 ((c.books++[xw]).length) c11),(76,Pt b1 6)] (fun X=>?_)
 refine KL 5 [r3,[Sg b6 0 [Sl aw xw.length cw]],[],[Sg b3 0 [I (((J5 c.queue c.batch).1).most),Sl a7 ((((J5 c.queue c.batch).1).wait).length) c6]],[Sg b2 0 [I 0,Sl none 0 0,I 0,I 0,I 0,Sl none 0 0,Sl none 0 0]],[Sg b1 0 [I (((J5 c.queue c.batch).1).most),Sl a7 ((((J5 c.queue c.batch).1).wait).length) c6,I c.batch,I c.every,I (c.now+1),Sl a5 c.heads.length c5,Sl a12 ((c.books++[xw]).length) c11]]] (Kc [] (Km [0,1,2,3,6,8] [] [] [(1,Pt b1 0),(2,Pt b2 0),(12,U ((JT xw []).1))] (List.forall_mem_nil _) (Jb (Je (Jc (Ja [0,12,0,0,12] [(79,Sl a5 c.heads.length c5),(80,U ((JT xw []).1)),(82,I (c.now+1))] (JF 83 (Jgb G7 a5 c5 c.heads (hs5.mono (Jp.le_trans (Jp.le_trans (Jp.le_trans (Jp.le_trans hl2 hl3) hl4) hle) hl7)) ((JT xw []).1) (Y4 _ _) (c.now+1) (by have q_:=Yc ‹_›;(try dsimp only);omega)) (fun v G8 L1 hl8 hp=>?_))))))))
 obtain ⟨a13,c12,r4,rfl,hr4,rfl⟩:=hp
 refine JV [0,0,0,0,15] [] [r4,r3,[Sg b6 0 [Sl aw xw.length cw]],[],[Sg b3 0 [I (((J5 c.queue c.batch).1).most),Sl a7 ((((J5 c.queue c.batch).1).wait).length) c6]],[Sg b2 0 [I 0,Sl none 0 0,I 0,I 0,I 0,Sl none 0 0,Sl none 0 0]],[Sg b1 0 [I (((J5 c.queue c.batch).1).most),Sl a7 ((((J5 c.queue c.batch).1).wait).length) c6,I c.batch,I c.every,I (c.now+1),Sl a13 (((Qt c.heads ((JT xw []).1) (c.now+1)).1).length) c12,Sl a12 ((c.books++[xw]).length) c11]]] (Jd (Jb (Qx [14,13,0,0] [(3,Bo true),(4,I 0)] [r4,r3,[Sg b6 0 [Sl aw xw.length cw]],[],[Sg b3 0 [I (((J5 c.queue c.batch).1).most),Sl a7 ((((J5 c.queue c.batch).1).wait).length) c6]],[Sg b2 0 [I (((J5 c.queue c.batch).1).most),Sl a7 ((((J5 c.queue c.batch).1).wait).length) c6,I c.batch,I c.every,I (c.now+1),Sl a13 (((Qt c.heads ((JT xw []).1) (c.now+1)).1).length) c12,Sl a12 ((c.books++[xw]).length) c11]],[Sg b1 0 [I (((J5 c.queue c.batch).1).most),Sl a7 ((((J5 c.queue c.batch).1).wait).length) c6,I c.batch,I c.every,I (c.now+1),Sl a13 (((Qt c.heads ((JT xw []).1) (c.now+1)).1).length) c12,Sl a12 ((c.books++[xw]).length) c11]]] (Jl (WA (E:=KA) 0 hr4 (by (have q_:=Jgk c.heads ((JT xw []).1) (c.now+1);simp only [KA];omega)) (fun G9 hl9 hs12=>WA (E:=Qs) 1 (hr3.mono (Jp.le_trans hl8 hl9)) (by (have q_:=Yc ‹_›;simp only [Qs,List.length_append,List.length_cons,List.length_nil];omega)) (fun G10 hl10 hs13=>?_)))))))
 have hf4:KT c=((⟨((J5 c.queue c.batch).1),c.batch,c.every,c.now+1,(Qt c.heads ((JT xw []).1) (c.now+1)).1,(c.books++[xw])⟩:KP),true,0):=by
  unfold KT ZU;(rw [if_neg (by simp_all)];(rw [if_neg (by simp_all)];(rw [if_neg (by simp_all)];have e_:xw=VJ c:=(by rw [hxw.1,List.take_of_length_le (by omega)];rfl);rw [← e_])))
 refine Jm [5,0,0] [.agg #[I (((J5 c.queue c.batch).1).most),Sl a7 ((((J5 c.queue c.batch).1).wait).length) c6,I c.batch,I c.every,I (c.now+1),Sl a13 (((Qt c.heads ((JT xw []).1) (c.now+1)).1).length) c12,Sl a12 ((c.books++[xw]).length) c11],Bo true,I 0] (Jy [] (Jp.le_trans (Jp.le_trans (Jp.le_trans (Jp.le_trans (Jp.le_trans (Jp.le_trans (Jp.le_trans (Jp.le_trans hl1 hl2) hl3) hl4) hle) hl7) hl8) hl9) hl10) ?_)
 rw [hf4]
 try dsimp only
 exact ⟨a7,c6,a13,c12,a12,c11,rfl,w9,(hs7.mono (Jp.le_trans (Jp.le_trans (Jp.le_trans (Jp.le_trans (Jp.le_trans (Jp.le_trans hl3 hl4) hle) hl7) hl8) hl9) hl10)),‹_›,‹_›,(by have q_:=Yc ‹_›;(try dsimp only);omega),(hs12.mono hl10),hs13,rfl⟩
def Jd1:QB:=⟨Zq,JdV⟩
def JJ (c:KP) (name:List UInt8) (epoch:Int):QB×Int:=if ¬ (Kx c epoch).2=0 then (Jd1,(Kx c epoch).2) else if ¬ (Qa (Kx c epoch).1 name).2=0 then (Jd1,(Qa (Kx c epoch).1 name).2) else (⟨c.heads[epoch.toNat]?.getD Zq,(Qa (Kx c epoch).1 name).1⟩,0)
def J1 (r s:QB):List UInt8×List UInt8×Int:=if ¬ (Jq r).2.2=0 then ([],[],(Jq r).2.2) else if ¬ (Jq s).2.2=0 then ([],[],(Jq s).2.2) else if ¬ r.proof.name=s.proof.name∨¬ r.head=s.head then ([],[],3) else if (Jq r).1=(Jq s).1∧(Jq r).2.1=(Jq s).2.1 then ([],[],6) else KS r.proof s.proof
theorem JfL {r:QB} (h:(Jq r).2.2=0):Jq r=Qp r.head.root r.proof:=by
 unfold Jq at h ⊢
 split
 · rename_i h1;rw [if_pos h1] at h;exact absurd h h1
 · rfl
theorem Ji3 {r s:QB} (hr:∀ m∈r.proof.sides,0≤m) (hs:∀ m∈s.proof.sides,0≤m):
  (((¬ (Jq r).2.2=0∨¬ (Jq s).2.2=0)∨¬ r.head=s.head)∨¬ r.proof.name=s.proof.name→¬ (J1 r s).2.2=0∧(J1 r s).1=[]∧(J1 r s).2.1=[]) ∧
  ((Jq r).2.2=0→(Jq s).2.2=0→r.head=s.head→r.proof.name=s.proof.name→
   ((Jq r).1=(Jq s).1∧(Jq r).2.1=(Jq s).2.1→(J1 r s).2.2=6) ∧
   (¬ ((Jq r).1=(Jq s).1∧(Jq r).2.1=(Jq s).2.1)→(J1 r s).2.2=0∧JaH (J1 r s).1 (J1 r s).2.1=true)):=by
 constructor
 ·
  intro h
  unfold J1
  split
  · rename_i h1;exact ⟨h1,rfl,rfl⟩
  split
  · rename_i h1;exact ⟨h1,rfl,rfl⟩
  ·
   rename_i h1 h2
   rw [if_pos]
   · exact ⟨by decide,rfl,rfl⟩
   ·
    rcases h with ((h | h) | h) | h
    · exact absurd h h1
    · exact absurd h h2
    · exact .inr h
    · exact .inl h
 ·
  intro h1 h2 h3 h4
  unfold J1
  rw [if_neg (by omega),if_neg (by omega),if_neg (by rw [h3,h4];simp)]
  refine ⟨fun h=>by rw [if_pos h],fun h=>?_⟩
  rw [if_neg h]
  have e1:=JfL h1
  have e2:=JfL h2
  rw [e1] at h1 h;rw [e2] at h2 h
  rw [← h3] at h2 h
  obtain ⟨q1,q2⟩:=JmA hr hs h1 h2 h4 h
  exact ⟨q1,q2⟩
theorem VC (G:Jp) (vs_c:List Value) (c:KP) (h_c:Jaf.R G vs_c c) (name:List UInt8) (hw_name:(name).length≤140737488351232) (epoch:Int) (hw_epoch:rI epoch) :Yi 141 #[.agg vs_c.toArray,Sr name,I epoch] G [] (fun u G' L'=>∃ (a1:Option Addr) (c2:Nat) (a3:Option Addr) (c4:Nat),u=.tuple #[.agg #[I (((JJ c name epoch).1).head.epoch),U (((JJ c name epoch).1).head.root),U (((JJ c name epoch).1).head.prev),I (((JJ c name epoch).1).head.at_),Sr (((JJ c name epoch).1).proof.name),Sl a1 ((((JJ c name epoch).1).proof.entries).length) c2,Sl a3 ((((JJ c name epoch).1).proof.sides).length) c4],I ((JJ c name epoch).2)]∧(rI (((JJ c name epoch).1).head.epoch))∧(rU (((JJ c name epoch).1).head.root))∧(rU (((JJ c name epoch).1).head.prev))∧(rI (((JJ c name epoch).1).head.at_))∧((((JJ c name epoch).1).proof.name).length≤140737488351232)∧(RS QA G' a1 c2 (((JJ c name epoch).1).proof.entries))∧(RS EU G' a3 c4 (((JJ c name epoch).1).proof.sides))∧L'=[]):=by
 obtain ⟨a1,c1,a2,c2,a3,c3,rfl,w1,hs1,w2,w3,w4,hs2,hs3⟩:=h_c
 refine JN Tryz.func141 38 [(0,(Qz c a1 c1 a2 c2 a3 c3)),(1,Sr name),(2,I epoch)] rfl (fun w0 G0=>?_)
 refine Je (Jc (Jv 3 #[I c.queue.most,Sl a1 c.queue.wait.length c1,I c.batch,I c.every,I c.now,Sl a2 c.heads.length c2,Sl a3 c.books.length c3] 60 (fun b1=>Jv 6 #[I 0,U 0,U 0,I 0,Sr ([]),Sl none 0 0,Sl none 0 0] 49 (fun b2=>Ja [0] [] (Jd (Jb (Je (Jc (Ja [4,0] [(12,(Qz c a1 c1 a2 c2 a3 c3)),(13,I epoch)] (JF 14 (Jgj G (KU c a1 c1 a2 c2 a3 c3) c (⟨a1,c1,a2,c2,a3,c3,rfl,w1,hs1,w2,w3,w4,hs2,hs3⟩) epoch hw_epoch) (fun v G1 L1 hl1 hp=>?_)))))))))))
 obtain ⟨a4,c4,_,rfl,hr1,rfl⟩:=hp
 refine Ja [0,0,0,0,0] [(8,Sl a4 (((Kx c epoch).1).length) c4),(9,I ((Kx c epoch).2))] (Jd (Jb (Je (Jf [0,0] [(18,Bo (!decide ((Kx c epoch).2=0)))] (Jk (!decide ((Kx c epoch).2=0)) (fun h1=>?_) (fun h1=>?_))))))
 refine Jf [0,0,5,0] [(7,I ((Kx c epoch).2))] (Jl (Jh ?_))
 have hf1:JJ c name epoch=((⟨(⟨0,0,0,0⟩:JQ),(⟨[],[],[]⟩:Qy)⟩:QB),(Kx c epoch).2):=by
  unfold JJ Jd1;(rw [if_pos ‹_›];rfl)
 refine Jm [1,0] [.agg #[I 0,U 0,U 0,I 0,Sr ([]),Sl none 0 0,Sl none 0 0],I ((Kx c epoch).2)] (Jy [] hl1 ?_)
 rw [hf1]
 try dsimp only
 exact ⟨none,0,none,0,rfl,J7,J7,J7,J7,(Nat.le_of_ble_eq_true rfl),(RS.nil' QA G1),(RS.nil' EU G1),rfl⟩
 refine Jo (Jb (Je (Jc (Ja [0,0] [(22,Sl a4 (((Kx c epoch).1).length) c4),(23,Sr name)] (WJ (E:=QA) 0 hr1 (by have q_:=Joc c epoch;simp only [QA];omega) (fun G2 hl2 hs4=>JF 24 (Jf8 G2 a4 c4 ((Kx c epoch).1) hs4 name hw_name) (fun v G3 L1 hl3 hp=>?_)))))))
 obtain ⟨a5,c5,a6,c6,rfl,w5,hs5,hs6,rfl⟩:=hp
 refine Ja [0,0,0] [(25,(Yq (Qa ((Kx c epoch).1) name).1 a5 c5 a6 c6)),(26,I ((Qa ((Kx c epoch).1) name).2))] (Jv 10 #[Sr ([]),Sl none 0 0,Sl none 0 0] 47 (fun b3=>JV [3,0] [(9,I ((Qa ((Kx c epoch).1) name).2))] [[Sg b3 0 (Yy (Qa ((Kx c epoch).1) name).1 a5 c5 a6 c6)],[],[Sg b2 0 [I 0,U 0,U 0,I 0,Sr ([]),Sl none 0 0,Sl none 0 0]],[Sg b1 0 (KU c a1 c1 a2 c2 a3 c3)]] (Jd (Jb (Je (Jf [0,0] [(28,Bo (!decide ((Qa ((Kx c epoch).1) name).2=0)))] (Jk (!decide ((Qa ((Kx c epoch).1) name).2=0)) (fun h2=>?_) (fun h2=>?_))))))))
 refine Jf [0,0,7,0] [(7,I ((Qa ((Kx c epoch).1) name).2))] (Jl (Jh ?_))
 have hf2:JJ c name epoch=((⟨(⟨0,0,0,0⟩:JQ),(⟨[],[],[]⟩:Qy)⟩:QB),(Qa ((Kx c epoch).1) name).2):=by
  unfold JJ Jd1;(rw [if_neg (by omega)];(rw [if_pos ‹_›];rfl))
 refine Jm [2,0] [.agg #[I 0,U 0,U 0,I 0,Sr ([]),Sl none 0 0,Sl none 0 0],I ((Qa ((Kx c epoch).1) name).2)] (Jy [] (Jp.le_trans (Jp.le_trans hl1 hl2) hl3) ?_)
 rw [hf2]
 try dsimp only
 exact ⟨none,0,none,0,rfl,J7,J7,J7,J7,(Nat.le_of_ble_eq_true rfl),(RS.nil' QA G3),(RS.nil' EU G3),rfl⟩
 refine Jo (Jb ?_)
 obtain ⟨kn1,hkn1⟩:∃ k_:Nat,epoch=(k_:Int):=⟨(epoch).toNat,by (have q_:=Jdm (c:=c) ‹_›;have q1_:=q_.1.len;omega)⟩
 have e1:epoch=(kn1:Int):=hkn1
 refine QX 2 (I (kn1:Int)) (congrArg I e1) (Je ?_)
 obtain ⟨b4,o1,rfl⟩:=RS.addr (hs2.mono (Jp.le_trans (Jp.le_trans hl1 hl2) hl3)) (k:=kn1) (by (have q_:=Jdm (c:=c) ‹_›;have q1_:=q_.1.len;omega))
 obtain ⟨x1,hx1⟩:=We (l:=c.heads) (k:=kn1) (by (have q_:=Jdm (c:=c) ‹_›;have q1_:=q_.1.len;omega))
 obtain ⟨_,⟨rfl,w6,w7,w8,w9⟩,hc1⟩:=RS.get (hs2.mono (Jp.le_trans (Jp.le_trans hl1 hl2) hl3)) hx1
 refine Ko [7] (Wm [(0,Pt b1 5),(1,Sl (At b4 o1) c.heads.length c2),(2,I (kn1:Int)),(3,Pt b4 (o1+kn1*4)),(4,.agg #[I x1.epoch,U x1.root,U x1.prev,I x1.at_]),(5,(Yq (Qa ((Kx c epoch).1) name).1 a5 c5 a6 c6)),(6,(Q9 (⟨x1,(Qa ((Kx c epoch).1) name).1⟩:QB) a5 c5 a6 c6))] (JK [] [(0,0),(1,8),(2,0),(5,2),(6,0)] [3,4] [7] (Ke ?_ (Ke ?_ K4)) (Ke ?_ K4)))
 refine Jr 3 34 (Pt b4 (o1+kn1*4)) [(32,Sl (At b4 o1) c.heads.length c2),(33,I (kn1:Int))] (fun X=>?_)
 exact J3 (b:=b4) (off:=o1) (len:=c.heads.length) (cap:=c2) (ik:=.i64) 34 43 4 kn1 (by (have q_:=Jdm (c:=c) ‹_›;have q1_:=q_.1.len;omega)) Jn
 refine Jr 4 35 (.agg #[I x1.epoch,U x1.root,U x1.prev,I x1.at_]) [(34,Pt b4 (o1+kn1*4))] (fun X=>?_)
 exact JW 35 43 (cs:=[I x1.epoch,U x1.root,U x1.prev,I x1.at_]) 0 (.agg #[I x1.epoch,U x1.root,U x1.prev,I x1.at_]) hc1 Jn
 refine JD 7 [(6,Pt b2 0),(37,(Q9 (⟨x1,(Qa ((Kx c epoch).1) name).1⟩:QB) a5 c5 a6 c6))] (fun X=>?_)
 refine KL 2 [[Sg b3 0 (Yy (Qa ((Kx c epoch).1) name).1 a5 c5 a6 c6)],[],[Sg b2 0 (Wp (⟨x1,(Qa ((Kx c epoch).1) name).1⟩:QB) a5 c5 a6 c6)],[Sg b1 0 (KU c a1 c1 (At b4 o1) c2 a3 c3)]] (Kc [(8,I 0)] (Km [0,1,2,3,4,5,6] [(8,0)] [] [(6,Pt b2 0),(7,I 0)] (List.forall_mem_nil _) (Jb (Jl ?_))))
 have hf3:JJ c name epoch=((⟨x1,((Qa ((Kx c epoch).1) name).1)⟩:QB),0):=by
  unfold JJ Jd1;(rw [if_neg (by omega)];(rw [if_neg (by simp_all)];simp_all;done))
 refine Jm [2,0] [(Q9 (⟨x1,(Qa ((Kx c epoch).1) name).1⟩:QB) a5 c5 a6 c6),I 0] (Jy [] (Jp.le_trans (Jp.le_trans hl1 hl2) hl3) ?_)
 rw [hf3]
 try dsimp only
 exact ⟨a5,c5,a6,c6,rfl,w6,w7,w8,w9,w5,hs5,hs6,rfl⟩
theorem Jd2 (G:Jp) (vs_r:List Value) (r:QB) (h_r:Jbz.R G vs_r r) (vs_s:List Value) (s:QB) (h_s:Jbz.R G vs_s s) :Yi 25 #[.agg vs_r.toArray,.agg vs_s.toArray] G [] (fun u G' L'=>u=.tuple #[Sr ((J1 r s).1),Sr ((J1 r s).2.1),I ((J1 r s).2.2)]∧(((J1 r s).1).length≤140737488351232)∧(((J1 r s).2.1).length≤140737488351232)∧L'=[]):=by
 obtain ⟨a1,c1,a2,c2,rfl,w1,w2,w3,w4,w5,hs1,hs2⟩:=h_r
 obtain ⟨a3,c3,a4,c4,rfl,w6,w7,w8,w9,w10,hs3,hs4⟩:=h_s
 refine JN Tryz.func25 63 [(0,(Q9 r a1 c1 a2 c2)),(1,(Q9 s a3 c3 a4 c4))] rfl (fun w0 G0=>?_)
 refine Je (Jc (Jv 2 #[I r.head.epoch,U r.head.root,U r.head.prev,I r.head.at_,Sr r.proof.name,Sl a1 r.proof.entries.length c1,Sl a2 r.proof.sides.length c2] 49 (fun b1=>Jv 3 #[I s.head.epoch,U s.head.root,U s.head.prev,I s.head.at_,Sr s.proof.name,Sl a3 s.proof.entries.length c3,Sl a4 s.proof.sides.length c4] 49 (fun b2=>Ja [0,0,0] [] (Jd (Jb (Je (Jc (Ja [4] [(13,(Q9 r a1 c1 a2 c2))] (JF 14 (YZ G (Wp r a1 c1 a2 c2) r (⟨a1,c1,a2,c2,rfl,w1,w2,w3,w4,w5,hs1,hs2⟩)) (fun v G1 L1 hl1 hp=>?_)))))))))))
 obtain ⟨rfl,_,rfl⟩:=hp
 refine Ja [0,0,0,0,0,0,0] [(7,Sr ((Jq r).1)),(8,Bo ((Jq r).2.1)),(9,I ((Jq r).2.2))] (Jd (Jb (Je (Jf [0,0] [(19,Bo (!decide ((Jq r).2.2=0)))] (Jk (!decide ((Jq r).2.2=0)) (fun h1=>?_) (fun h1=>?_))))))
 refine Jf [0,0,0,0] [(4,Sr ([])),(5,Sr ([])),(6,I ((Jq r).2.2))] (Jl (Jh ?_))
 have hf1:J1 r s=([],[],(Jq r).2.2):=by
  unfold J1;simp only [Yz];(simp_all;done)
 refine Jm [0,0,0] [Sr ([]),Sr ([]),I ((Jq r).2.2)] (Jy [] hl1 ?_)
 rw [hf1]
 try dsimp only
 exact ⟨rfl,(Nat.le_of_ble_eq_true rfl),(Nat.le_of_ble_eq_true rfl),rfl⟩
 refine Jo (Jb (Je (Jc (Ja [2] [(22,(Q9 s a3 c3 a4 c4))] (JF 23 (YZ G1 (Wp s a3 c3 a4 c4) s (⟨a3,c3,a4,c4,rfl,w6,w7,w8,w9,w10,(hs3.mono hl1),(hs4.mono hl1)⟩)) (fun v G2 L1 hl2 hp=>?_))))))
 obtain ⟨rfl,_,rfl⟩:=hp
 refine Ja [0,0,0,0,0,0,0] [(9,I ((Jq s).2.2)),(10,Sr ((Jq s).1)),(11,Bo ((Jq s).2.1))] (Jd (Jb (Je (Jz (Jf [0,0,0] [(27,Bo (!decide ((Jq s).2.2=0)))] (Jk (!decide ((Jq s).2.2=0)) (fun h2=>?_) (fun h2=>?_)))))))
 refine Jf [0,0,0,0] [(4,Sr ([])),(5,Sr ([])),(6,I ((Jq s).2.2))] (Jl (Jt (Jh ?_)))
 have hf2:J1 r s=([],[],(Jq s).2.2):=by
  unfold J1;simp only [Yz];(simp_all;done)
 refine Jm [0,0,0] [Sr ([]),Sr ([]),I ((Jq s).2.2)] (Jy [] (Jp.le_trans hl1 hl2) ?_)
 rw [hf2]
 try dsimp only
 exact ⟨rfl,(Nat.le_of_ble_eq_true rfl),(Nat.le_of_ble_eq_true rfl),rfl⟩
 refine Je (Jc (Ja [0,0,4,0,0,2,0,0] [(39,Bo (!((B r.proof.name).toList == (B s.proof.name).toList)))] (KI 39 (Bo (!(r.proof.name == s.proof.name))) (show (Bo (!((B r.proof.name).toList == (B s.proof.name).toList)):Value)=Bo (!(r.proof.name == s.proof.name)) by simp only [Qj]) (Qu [39] (!(r.proof.name == s.proof.name)) (fun h3=>?_) (fun h3=>?_)))))
 refine Ja [1,1,1,1,1,0,0] [(31,Bo true)] (Jd (Jb (JU (Jf [0,0,0] [(4,Sr ([])),(5,Sr ([])),(6,I 3)] (Jl (Jt (Jh ?_)))))))
 have hf3:J1 r s=([],[],3):=by
  unfold J1;simp only [Yz];(simp_all;done)
 refine Jm [0,0,0] [Sr ([]),Sr ([]),I 3] (Jy [] (Jp.le_trans hl1 hl2) ?_)
 rw [hf3]
 try dsimp only
 exact ⟨rfl,(Nat.le_of_ble_eq_true rfl),(Nat.le_of_ble_eq_true rfl),rfl⟩
 refine Ja [0,4,0,2] [(41,.agg #[I r.head.epoch,U r.head.root,U r.head.prev,I r.head.at_]),(43,.agg #[I s.head.epoch,U s.head.root,U s.head.prev,I s.head.at_])] (JaR 44 (Bo (!(decide (r.head.epoch=s.head.epoch) && (decide (r.head.root=s.head.root) && (decide (r.head.prev=s.head.prev) && (decide (r.head.at_=s.head.at_) && true)))))) (Bo (!(decide (r.head.epoch=s.head.epoch) && decide (r.head.root=s.head.root) && decide (r.head.prev=s.head.prev) && decide (r.head.at_=s.head.at_)))) (by simp [Qj,Bool.and_assoc]) (Ja [0,0] [(31,Bo (!(decide (r.head.epoch=s.head.epoch) && decide (r.head.root=s.head.root) && decide (r.head.prev=s.head.prev) && decide (r.head.at_=s.head.at_))))] (Jd (Jb (Jk (!(decide (r.head.epoch=s.head.epoch) && decide (r.head.root=s.head.root) && decide (r.head.prev=s.head.prev) && decide (r.head.at_=s.head.at_))) (fun h4=>?_) (fun h4=>?_))))))
 refine Jf [0,0,0] [(4,Sr ([])),(5,Sr ([])),(6,I 3)] (Jl (Jt (Jh ?_)))
 have hf4:J1 r s=([],[],3):=by
  unfold J1;simp only [Yz];(simp_all;done)
 refine Jm [0,0,0] [Sr ([]),Sr ([]),I 3] (Jy [] (Jp.le_trans hl1 hl2) ?_)
 rw [hf4]
 try dsimp only
 exact ⟨rfl,(Nat.le_of_ble_eq_true rfl),(Nat.le_of_ble_eq_true rfl),rfl⟩
 refine Je (Jc (Ja [0,0,0,0] [(50,Bo ((B ((Jq r).1)).toList == (B ((Jq s).1)).toList))] (KI 50 (Bo ((Jq r).1 == (Jq s).1)) (show (Bo ((B ((Jq r).1)).toList == (B ((Jq s).1)).toList):Value)=Bo ((Jq r).1 == (Jq s).1) by simp only [Qj]) (Kn ((Jq r).1 == (Jq s).1) [50] [0,0,0,0] [1,1,1,0] (fun bb=>[(54,Bo (bb && (((Jq r).2.1) == ((Jq s).2.1))))]) (Ja [0] [(46,Bo (((Jq r).1 == (Jq s).1) && (((Jq r).2.1) == ((Jq s).2.1))))] (Jd (Jb (Jk (((Jq r).1 == (Jq s).1) && (((Jq r).2.1) == ((Jq s).2.1))) (fun h5=>?_) (fun h5=>?_)))))))))
 refine Jf [0,0,0] [(4,Sr ([])),(5,Sr ([])),(6,I 6)] (Jl (Jt (Jh ?_)))
 have hf5:J1 r s=([],[],6):=by
  unfold J1;simp only [Yz];(simp_all;done)
 refine Jm [0,0,0] [Sr ([]),Sr ([]),I 6] (Jy [] (Jp.le_trans hl1 hl2) ?_)
 rw [hf5]
 try dsimp only
 exact ⟨rfl,(Nat.le_of_ble_eq_true rfl),(Nat.le_of_ble_eq_true rfl),rfl⟩
 refine Jo (JM (Jb (Je (Jc (Ja [0,4,0,2] [(56,(Yq r.proof a1 c1 a2 c2)),(58,(Yq s.proof a3 c3 a4 c4))] (JF 59 (JeG G2 (Yy r.proof a1 c1 a2 c2) r.proof (⟨a1,c1,a2,c2,rfl,‹_›,(hs1.mono (Jp.le_trans hl1 hl2)),(hs2.mono (Jp.le_trans hl1 hl2))⟩) (Yy s.proof a3 c3 a4 c4) s.proof (⟨a3,c3,a4,c4,rfl,‹_›,(hs3.mono (Jp.le_trans hl1 hl2)),(hs4.mono (Jp.le_trans hl1 hl2))⟩)) (fun v G3 L1 hl3 hp=>?_)))))))
 obtain ⟨rfl,w13,w14,rfl⟩:=hp
 refine Ja [0,0,0,0,0,0] [(4,Sr ((KS r.proof s.proof).1)),(5,Sr ((KS r.proof s.proof).2.1)),(6,I ((KS r.proof s.proof).2.2))] (Jd (Jb (Jl ?_)))
 have hf6:J1 r s=((KS r.proof s.proof).1,(KS r.proof s.proof).2.1,(KS r.proof s.proof).2.2):=by
  unfold J1;simp only [Yz];(simp_all;done)
 refine Jm [0,0,0] [Sr ((KS r.proof s.proof).1),Sr ((KS r.proof s.proof).2.1),I ((KS r.proof s.proof).2.2)] (Jy [] (Jp.le_trans (Jp.le_trans hl1 hl2) hl3) ?_)
 rw [hf6]
 try dsimp only
 exact ⟨rfl,w13,w14,rfl⟩
def Zz (c:KP) (a b:Int):List JQ×Int:=if ¬ Kb c=0 then ([],Kb c) else W1 c.heads a b
set_option maxHeartbeats 1600000 in
theorem JfM (G:Jp) (vs_c:List Value) (c:KP) (h_c:Jaf.R G vs_c c) (a:Int) (hw_a:rI a) (b:Int) (hw_b:rI b) :Yi 167 #[.agg vs_c.toArray,I a,I b] G [] (fun u G' L'=>∃ (a1:Option Addr) (c2:Nat),u=.tuple #[Sl a1 (((Zz c a b).1).length) c2,I ((Zz c a b).2)]∧(RS KA G' a1 c2 ((Zz c a b).1))∧L'=[]):=by
 obtain ⟨a1,c1,a2,c2,a3,c3,rfl,w1,hs1,w2,w3,w4,hs2,hs3⟩:=h_c
 refine JN Tryz.func167 21 [(0,(Qz c a1 c1 a2 c2 a3 c3)),(1,I a),(2,I b)] rfl (fun w0 G0=>?_)
 refine Je (Jc (Jv 3 #[I c.queue.most,Sl a1 c.queue.wait.length c1,I c.batch,I c.every,I c.now,Sl a2 c.heads.length c2,Sl a3 c.books.length c3] 60 (fun b1=>Ja [0,0] [] (Jd (Jb (Je (Je (Jc (Ja [2] [(9,(Qz c a1 c1 a2 c2 a3 c3))] (Jj 10 (I (Kb c)) (Vp G (KU c a1 c1 a2 c2 a3 c3) c (⟨a1,c1,a2,c2,a3,c3,rfl,w1,hs1,w2,w3,w4,hs2,hs3⟩)) (Ja [0] [(8,I (Kb c))] (Jd (Jb (Jf [0,0] [(12,Bo (!decide (Kb c=0)))] (Jk (!decide (Kb c=0)) (fun h1=>?_) (fun h1=>?_))))))))))))))))
 refine Jf [0,0,0] [(6,Sl none 0 0),(7,I (Kb c))] (Jl (Jh ?_))
 have hf1:Zz c a b=([],Kb c):=by
  unfold Zz;(rw [if_pos ‹_›];done)
 refine Jm [0,0] [Sl none 0 0,I (Kb c)] (Jy [] (Jp.le_refl _) ?_)
 rw [hf1]
 try dsimp only
 exact ⟨none,0,rfl,(RS.nil' KA G),rfl⟩
 refine Jo (Jb (Je (Jc (Ja [0,2,0,0] [(15,Sl a2 c.heads.length c2),(16,I a),(17,I b)] (JF 18 (Jgc G a2 c2 c.heads hs2 a hw_a b hw_b) (fun v G1 L1 hl1 hp=>?_))))))
 obtain ⟨a4,c4,rfl,hs4,rfl⟩:=hp
 refine Ja [0,0,0,0] [(6,Sl a4 (((W1 c.heads a b).1).length) c4),(7,I ((W1 c.heads a b).2))] (Jd (Jb (Jl ?_)))
 have hf2:Zz c a b=((W1 c.heads a b).1,(W1 c.heads a b).2):=by
  unfold Zz;(rw [if_neg (by omega)];done)
 refine Jm [0,0] [Sl a4 (((W1 c.heads a b).1).length) c4,I ((W1 c.heads a b).2)] (Jy [] hl1 ?_)
 rw [hf2]
 try dsimp only
 exact ⟨a4,c4,rfl,hs4,rfl⟩
def Y6 (p:Wa):Prop:=1≤p.least∧p.least≤p.most∧p.most≤1000∧1≤p.lost∧p.lost≤100∧p.least≤p.gap∧p.gap≤p.most∧0≤p.next∧p.next≤1000000000∧0≤p.asked∧p.asked≤1000000
instance (p:Wa):Decidable (Y6 p):=inferInstanceAs (Decidable (_∧_))
def KB (p:Wa):Int:=if Y6 p then 0 else 4
theorem Zu (p:Wa):KB p=0 ↔ Y6 p:=by unfold KB;split <;> simp_all
theorem JhK (p:Wa):KB p=0∨KB p=4:=by unfold KB;split <;> simp
theorem Jbj {p:Wa} (h:Y6 p):KB p=0:=if_pos h
theorem Jcm {p:Wa} (h:¬ Y6 p):KB p=4:=if_neg h
def KF (p:Wa) (now:Int):Int:=if KB p=0∧(now<0∨1000000000<now) then 4 else KB p
theorem JcL (p:Wa) (now:Int):KF p now=0 ↔ (Y6 p∧0≤now∧now≤1000000000):=by
 rw [← Zu];unfold KF;have:=JhK p;split <;> omega
theorem JbJ {p:Wa} {now:Int} (h:KF p now=0):1≤p.least∧p.least≤p.most∧p.most≤1000∧1≤p.lost∧p.lost≤100∧p.least≤p.gap∧p.gap≤p.most∧0≤p.next∧p.next≤1000000000∧0≤p.asked∧p.asked≤1000000∧0≤now∧now≤1000000000:=by
 have:=(JcL p now).1 h;unfold Y6 at this;omega
def K3 (now n:Int):Int:=if 1000000000<now+n then 1000000000 else now+n
def Vt:Wa:=⟨0,0,0,0,0,0⟩
def KG (p:Wa) (now:Int):Wa×Int :=
 if KF p now ≠ 0 then (Vt,KF p now) else if now<p.next then (Vt,9) else if p.asked=1000000 then (Vt,7) else
 (⟨p.least,p.most,p.lost,if p.most<2*p.gap then p.most else 2*p.gap,K3 now p.gap,p.asked+1⟩,0)
def KM (least top lost:Int):Wa×Int:=if Y6 ⟨least,top,lost,least,0,0⟩ then (⟨least,top,lost,least,0,0⟩,0) else (Vt,4)
def Q7 (p:Wa) (now:Int):Wa×Int :=
 if KF p now ≠ 0 then (Vt,KF p now) else
 (⟨p.least,p.most,p.lost,p.least,if K3 now p.least<p.next then K3 now p.least else p.next,0⟩,0)
theorem Jet {p:Wa} {now:Int} (h:(KG p now).2=0) :
  1≤p.least∧p.least≤p.most∧p.most≤1000∧1≤p.lost∧p.lost≤100∧p.least≤p.gap∧p.gap≤p.most∧0≤p.next∧p.next≤1000000000∧0≤p.asked∧p.asked<1000000∧0≤now∧now≤1000000000∧p.next≤now ∧
  KB (KG p now).1=0∧(KG p now).1.least=p.least∧(KG p now).1.most=p.most∧(KG p now).1.lost=p.lost∧(KG p now).1.asked=p.asked+1 ∧
  (p.most<2*p.gap∧(KG p now).1.gap=p.most∨2*p.gap≤p.most∧(KG p now).1.gap=2*p.gap) ∧
  (1000000000<now+p.gap∧(KG p now).1.next=1000000000∨now+p.gap≤1000000000∧(KG p now).1.next=now+p.gap):=by
 unfold KG at h ⊢
 split at h
 · contradiction
 split at h
 · cases h
 split at h
 · cases h
 rename_i h1 h2 h3
 have hb:=JbJ (p:=p) (now:=now) (by omega)
 rw [if_neg h1,if_neg h2,if_neg h3]
 dsimp only
 refine ⟨by omega,by omega,by omega,by omega,by omega,by omega,by omega,by omega,by omega,by omega,by omega,by omega,by omega,by omega,Jbj ?_,rfl,rfl,rfl,rfl,?_,?_⟩
 · unfold Y6 K3;simp only;(repeat' split) <;> omega
 · split <;> omega
 · unfold K3;split <;> omega
theorem JhL {p:Wa} {now:Int} (h:(KG p now).2 ≠ 0):(KG p now).1=Vt:=by
 revert h;unfold KG;(repeat' split) <;> simp
theorem JhM {p:Wa} {now:Int} (h:(Q7 p now).2=0):KF p now=0∧Q7 p now=(⟨p.least,p.most,p.lost,p.least,if K3 now p.least<p.next then K3 now p.least else p.next,0⟩,0):=by
 revert h;unfold Q7;split
 · intro h;exact absurd h ‹_›
 · intro _;exact ⟨by omega,rfl⟩
theorem JfN {a b c:Int} (h:(KM a b c).2=0):Y6 ⟨a,b,c,a,0,0⟩∧KM a b c=(⟨a,b,c,a,0,0⟩,0):=by
 revert h;unfold KM;split
 · rename_i h1;intro _;exact ⟨h1,rfl⟩
 · simp
theorem Ji4 {a b c:Int} (h:(KM a b c).2 ≠ 0):(KM a b c).1=Vt:=by
 revert h;unfold KM;split <;> simp
def JaY (p:Wa):Bool:=decide (KB p=0) && decide (p.asked ≥ p.lost)
def ZA (p:Wa) (now:Int):Bool×Int:=(decide (KF p now=0) && decide (now ≥ p.next),KF p now)
def WR (p:Wa):Bool×Int:=(JaY p,KB p)
theorem JaI (G:Jp) (vs_p:List Value) (p:Wa) (h_p:Wy.R G vs_p p) :Q2 100 #[.agg vs_p.toArray] G (I (KB p)):=by
 obtain ⟨rfl,_,_,_,_,_,_⟩:=h_p
 refine JN Tryz.func100 62 [(0,.agg #[I p.least,I p.most,I p.lost,I p.gap,I p.next,I p.asked])] rfl (fun w0 G0=>?_)
 refine Je (Jc (Jv 1 #[I p.least,I p.most,I p.lost,I p.gap,I p.next,I p.asked] 143 (fun b1=>Ja [0] [] (Jd (Jb (Je (Je (Jc (Ja [0,2,0,0] [(6,Bo (decide (p.least<1)))] (Kn (decide (p.least<1)) [6] [1,1,1,1,1,0] [0,2,0,2,0,0] (fun bb=>[(12,Bo (bb || (decide (p.least > p.most))))]) (Ja [0] [(13,Bo ((decide (p.least<1)) || (decide (p.least > p.most))))] (Kn ((decide (p.least<1)) || (decide (p.least > p.most))) [13] [1,1,1,0] [0,2,0,0] (fun bb=>[(17,Bo (bb || (decide (p.most > 1000))))]) (Ja [0] [(18,Bo (((decide (p.least<1)) || (decide (p.least > p.most))) || (decide (p.most > 1000))))] (Kn (((decide (p.least<1)) || (decide (p.least > p.most))) || (decide (p.most > 1000))) [18] [1,1,1,0] [0,2,0,0] (fun bb=>[(22,Bo (bb || (decide (p.lost<1))))]) (Ja [0] [(23,Bo ((((decide (p.least<1)) || (decide (p.least > p.most))) || (decide (p.most > 1000))) || (decide (p.lost<1))))] (Kn ((((decide (p.least<1)) || (decide (p.least > p.most))) || (decide (p.most > 1000))) || (decide (p.lost<1))) [23] [1,1,1,0] [0,2,0,0] (fun bb=>[(27,Bo (bb || (decide (p.lost > 100))))]) ?_))))))))))))))))
 refine Ja [0] [(28,Bo (((((decide (p.least<1)) || (decide (p.least > p.most))) || (decide (p.most > 1000))) || (decide (p.lost<1))) || (decide (p.lost > 100))))] (Kn (((((decide (p.least<1)) || (decide (p.least > p.most))) || (decide (p.most > 1000))) || (decide (p.lost<1))) || (decide (p.lost > 100))) [28] [1,1,1,1,1,0] [0,2,0,2,0,0] (fun bb=>[(34,Bo (bb || (decide (p.gap<p.least))))]) (Ja [0] [(35,Bo ((((((decide (p.least<1)) || (decide (p.least > p.most))) || (decide (p.most > 1000))) || (decide (p.lost<1))) || (decide (p.lost > 100))) || (decide (p.gap<p.least))))] (Kn ((((((decide (p.least<1)) || (decide (p.least > p.most))) || (decide (p.most > 1000))) || (decide (p.lost<1))) || (decide (p.lost > 100))) || (decide (p.gap<p.least))) [35] [1,1,1,1,1,0] [0,2,0,2,0,0] (fun bb=>[(41,Bo (bb || (decide (p.gap > p.most))))]) (Ja [0] [(42,Bo (((((((decide (p.least<1)) || (decide (p.least > p.most))) || (decide (p.most > 1000))) || (decide (p.lost<1))) || (decide (p.lost > 100))) || (decide (p.gap<p.least))) || (decide (p.gap > p.most))))] (Kn (((((((decide (p.least<1)) || (decide (p.least > p.most))) || (decide (p.most > 1000))) || (decide (p.lost<1))) || (decide (p.lost > 100))) || (decide (p.gap<p.least))) || (decide (p.gap > p.most))) [42] [1,1,1,0] [0,2,0,0] (fun bb=>[(46,Bo (bb || (decide (p.next<0))))]) (Ja [0] [(47,Bo ((((((((decide (p.least<1)) || (decide (p.least > p.most))) || (decide (p.most > 1000))) || (decide (p.lost<1))) || (decide (p.lost > 100))) || (decide (p.gap<p.least))) || (decide (p.gap > p.most))) || (decide (p.next<0))))] (Kn ((((((((decide (p.least<1)) || (decide (p.least > p.most))) || (decide (p.most > 1000))) || (decide (p.lost<1))) || (decide (p.lost > 100))) || (decide (p.gap<p.least))) || (decide (p.gap > p.most))) || (decide (p.next<0))) [47] [1,1,1,0] [0,2,0,0] (fun bb=>[(51,Bo (bb || (decide (p.next > 1000000000))))]) (Ja [0] [(52,Bo (((((((((decide (p.least<1)) || (decide (p.least > p.most))) || (decide (p.most > 1000))) || (decide (p.lost<1))) || (decide (p.lost > 100))) || (decide (p.gap<p.least))) || (decide (p.gap > p.most))) || (decide (p.next<0))) || (decide (p.next > 1000000000))))] (Kn (((((((((decide (p.least<1)) || (decide (p.least > p.most))) || (decide (p.most > 1000))) || (decide (p.lost<1))) || (decide (p.lost > 100))) || (decide (p.gap<p.least))) || (decide (p.gap > p.most))) || (decide (p.next<0))) || (decide (p.next > 1000000000))) [52] [1,1,1,0] [0,2,0,0] (fun bb=>[(56,Bo (bb || (decide (p.asked<0))))]) (Ja [0] [(57,Bo ((((((((((decide (p.least<1)) || (decide (p.least > p.most))) || (decide (p.most > 1000))) || (decide (p.lost<1))) || (decide (p.lost > 100))) || (decide (p.gap<p.least))) || (decide (p.gap > p.most))) || (decide (p.next<0))) || (decide (p.next > 1000000000))) || (decide (p.asked<0))))] ?_))))))))))
 refine Kn ((((((((((decide (p.least<1)) || (decide (p.least > p.most))) || (decide (p.most > 1000))) || (decide (p.lost<1))) || (decide (p.lost > 100))) || (decide (p.gap<p.least))) || (decide (p.gap > p.most))) || (decide (p.next<0))) || (decide (p.next > 1000000000))) || (decide (p.asked<0))) [57] [1,1,1,0] [0,2,0,0] (fun bb=>[(61,Bo (bb || (decide (p.asked > 1000000))))]) (Jd (Jb (Jk (((((((((((decide (p.least<1)) || (decide (p.least > p.most))) || (decide (p.most > 1000))) || (decide (p.lost<1))) || (decide (p.lost > 100))) || (decide (p.gap<p.least))) || (decide (p.gap > p.most))) || (decide (p.next<0))) || (decide (p.next > 1000000000))) || (decide (p.asked<0))) || (decide (p.asked > 1000000))) (fun h1=>?_) (fun h1=>?_))))
 refine Jf [0] [(2,I 4)] (Jl (Jh (Jm [0] [I 4] (Jw (Jp.le_refl _) (congrArg I (?_:(KB p)=4).symm)))))
 exact Jcm (by unfold Y6;omega)
 refine Jo (Jb (Jf [0] [(2,I 0)] (Jl (Jm [0] [I 0] (Jw (Jp.le_refl _) (congrArg I (?_:(KB p)=0).symm))))))
 exact Jbj (by unfold Y6;omega)
theorem Jbr (G:Jp) (vs_p:List Value) (p:Wa) (h_p:Wy.R G vs_p p) (now:Int) :Q2 215 #[.agg vs_p.toArray,I now] G (I (KF p now)):=by
 obtain ⟨rfl,w1,w2,w3,w4,w5,w6⟩:=h_p
 refine JN Tryz.func215 19 [(0,.agg #[I p.least,I p.most,I p.lost,I p.gap,I p.next,I p.asked]),(1,I now)] rfl (fun w0 G0=>?_)
 refine Je (Jc (Jv 2 #[I p.least,I p.most,I p.lost,I p.gap,I p.next,I p.asked] 143 (fun b1=>Ja [0] [] (Jd (Jb (Je (Jc (Ja [2] [(6,.agg #[I p.least,I p.most,I p.lost,I p.gap,I p.next,I p.asked])] (Jj 7 (I (KB p)) (JaI G [I p.least,I p.most,I p.lost,I p.gap,I p.next,I p.asked] p (⟨rfl,w1,w2,w3,w4,w5,w6⟩)) (Ja [0] [(5,I (KB p))] (Jd (Jb (Je (Je (Jc (Ja [0,0,0] [(10,Bo (decide (KB p=0)))] (Qu [10] (decide (KB p=0)) (fun h1=>?_) (fun h1=>?_))))))))))))))))))
 refine Ja [0,0,0] [(13,Bo (decide (now<0)))] (Kn (decide (now<0)) [13] [1,1,0] [0,0,0] (fun bb=>[(16,Bo (bb || (decide (now > 1000000000))))]) (Ja [0] [(17,Bo ((decide (now<0)) || (decide (now > 1000000000))))] (Jd (Jb (Jk ((decide (now<0)) || (decide (now > 1000000000))) (fun h2=>?_) (fun h2=>?_))))))
 refine Jc (Ja [0] [(5,I 4)] (Jd (Jb (Jf [0,0] [(4,I 4)] (Jl (Jm [0] [I 4] (Jw (Jp.le_refl _) (congrArg I (?_:(KF p now)=4).symm))))))))
 unfold KF;split <;> omega
 refine Jo (Jb (Jf [0,0] [(4,I (KB p))] (Jl (Jm [0] [I (KB p)] (Jw (Jp.le_refl _) (congrArg I (?_:(KF p now)=(KB p)).symm))))))
 unfold KF;split <;> omega
 refine Ja [1,1,1,1,1,1,0] [(17,Bo false)] (Jd (Jb (Qq (Jo (Jb (Jf [0,0] [(4,I (KB p))] (Jl (Jm [0] [I (KB p)] (Jw (Jp.le_refl _) (congrArg I (?_:(KF p now)=(KB p)).symm))))))))))
 unfold KF;split <;> omega
theorem Ji5 (G:Jp) (vs_p:List Value) (p:Wa) (h_p:Wy.R G vs_p p) (now:Int) :Q2 217 #[.agg vs_p.toArray,I now] G (.tuple #[Bo ((ZA p now).1),I ((ZA p now).2)]):=by
 obtain ⟨rfl,w1,w2,w3,w4,w5,w6⟩:=h_p
 refine JN Tryz.func217 19 [(0,.agg #[I p.least,I p.most,I p.lost,I p.gap,I p.next,I p.asked]),(1,I now)] rfl (fun w0 G0=>?_)
 refine Je (Jc (Jv 2 #[I p.least,I p.most,I p.lost,I p.gap,I p.next,I p.asked] 143 (fun b1=>Ja [0,0] [] (Jd (Jb (Je (Jc (Ja [2,0] [(7,.agg #[I p.least,I p.most,I p.lost,I p.gap,I p.next,I p.asked]),(8,I now)] (Jj 9 (I (KF p now)) (Jbr G [I p.least,I p.most,I p.lost,I p.gap,I p.next,I p.asked] p (⟨rfl,w1,w2,w3,w4,w5,w6⟩) now) (Ja [0] [(6,I (KF p now))] (Jd (Jb (Je (Jc (Ja [0,0,0] [(12,Bo (decide (KF p now=0)))] (Kn (decide (KF p now=0)) [12] [0,0,2,0,0] [1,1,1,1,0] (fun bb=>[(17,Bo (bb && (decide (now ≥ p.next))))]) (Ja [0,0,0] [(4,Bo ((decide (KF p now=0)) && (decide (now ≥ p.next)))),(5,I (KF p now))] (Jd (Jb (Jl (Jm [0,0] [Bo ((decide (KF p now=0)) && (decide (now ≥ p.next))),I (KF p now)] (Jw (Jp.le_refl _) ?_))))))))))))))))))))))
 have hf_:(ZA p now)=(((decide (KF p now=0)) && (decide (now ≥ p.next))),(KF p now)):=by
  rfl
 · (try rw [hf_]);(simp only [Ql];done)
theorem Jcn (G:Jp) (now:Int) (n:Int) (hn:-9000000000000000000≤now+n∧now+n≤9000000000000000000):Q2 216 #[I now,I n] G (I (K3 now n)):=by
 refine JN Tryz.func216 9 [(0,I now),(1,I n)] rfl (fun w0 G0=>?_)
 refine Jf [0] [] (Jf [0,0,0,0,0] [(4,I (if 1000000000<(IntKind.i64.wrap (now+n)) then 1000000000 else (IntKind.i64.wrap (now+n))))] ?_)
 have e1:IntKind.i64.wrap (now+n)=now+n:=IntWalk.i64_in _ (by omega)
 refine QX 4 (I (if 1000000000<(now+n) then 1000000000 else (now+n))) (show (I (if 1000000000<(IntKind.i64.wrap (now+n)) then 1000000000 else (IntKind.i64.wrap (now+n))):Value)=I (if 1000000000<(now+n) then 1000000000 else (now+n)) by simp only [e1]) ?_
 clear e1
 refine Jl (Jm [0] [I (if 1000000000<(now+n) then 1000000000 else (now+n))] (Jw (Jp.le_refl _) (congrArg I (?_:(K3 now n)=(if 1000000000<(now+n) then 1000000000 else (now+n))).symm)))
 unfold K3;split <;> rfl
theorem Jdp (G:Jp) (vs_p:List Value) (p:Wa) (h_p:Wy.R G vs_p p) (now:Int) :Q2 170 #[.agg vs_p.toArray,I now] G (.tuple #[.agg #[I (((KG p now).1).least),I (((KG p now).1).most),I (((KG p now).1).lost),I (((KG p now).1).gap),I (((KG p now).1).next),I (((KG p now).1).asked)],I ((KG p now).2)]):=by
 obtain ⟨rfl,w1,w2,w3,w4,w5,w6⟩:=h_p
 refine JN Tryz.func170 45 [(0,.agg #[I p.least,I p.most,I p.lost,I p.gap,I p.next,I p.asked]),(1,I now)] rfl (fun w0 G0=>?_)
 refine Je (Jc (Jv 2 #[I p.least,I p.most,I p.lost,I p.gap,I p.next,I p.asked] 143 (fun b1=>Jv 4 #[I 0,I 0,I 0,I 0,I 0,I 0] 143 (fun b2=>Ja [0] [] (Jd (Jb (Je (Jc (Ja [4,0] [(9,.agg #[I p.least,I p.most,I p.lost,I p.gap,I p.next,I p.asked]),(10,I now)] (Jj 11 (.tuple #[Bo ((ZA p now).1),I ((ZA p now).2)]) (Ji5 G [I p.least,I p.most,I p.lost,I p.gap,I p.next,I p.asked] p (⟨rfl,w1,w2,w3,w4,w5,w6⟩) now) (Ja [0,0,0,0,0] [(6,Bo ((ZA p now).1)),(7,I ((ZA p now).2))] (Jd (Jb (Je (Jz (Jf [0,0,0] [(14,Bo (!decide ((ZA p now).2=0)))] (Jk (!decide ((ZA p now).2=0)) (fun h1=>?_) (fun h1=>?_))))))))))))))))))
 refine Jf [0,0,3,0] [(5,I ((ZA p now).2))] (Jl (Jt (Jh (Jm [0,0] [.agg #[I 0,I 0,I 0,I 0,I 0,I 0],I ((ZA p now).2)] (Jw (Jp.le_refl _) ?_)))))
 have hf_:(KG p now)=((⟨0,0,0,0,0,0⟩:Wa),((ZA p now).2)):=by
  unfold KG Vt;(try unfold ZA at *);(repeat' split) <;> rfl
 · (try rw [hf_]);(simp only [Ql];done)
 refine Jf [0,0,0] [(19,Bo (!((ZA p now).1)))] (Jk (!((ZA p now).1)) (fun h2=>?_) (fun h2=>?_))
 refine Jf [0,3,0] [(5,I 9)] (Jl (Jt (Jh (Jm [0,0] [.agg #[I 0,I 0,I 0,I 0,I 0,I 0],I 9] (Jw (Jp.le_refl _) ?_)))))
 have hf_:(KG p now)=((⟨0,0,0,0,0,0⟩:Wa),9):=by
  unfold KG Vt;(try unfold ZA at *);(repeat' split) <;> first | rfl | (exfalso;omega) | (simp_all;done)
 · (try rw [hf_]);(simp only [Ql];done)
 refine Jf [0,4,0,0] [(23,Bo (decide (p.asked=1000000)))] (Jk (decide (p.asked=1000000)) (fun h3=>?_) (fun h3=>?_))
 refine Jf [0,3,0] [(5,I 7)] (Jl (Jt (Jh (Jm [0,0] [.agg #[I 0,I 0,I 0,I 0,I 0,I 0],I 7] (Jw (Jp.le_refl _) ?_)))))
 have hf_:(KG p now)=((⟨0,0,0,0,0,0⟩:Wa),7):=by
  unfold KG Vt;(try unfold ZA at *);(repeat' split) <;> first | rfl | (exfalso;omega) | (exfalso;simp_all;omega)
 · (try rw [hf_]);(simp only [Ql];done)
 refine Jo (JM (Jb (Qx [0,4,0,0,5] [] [[Sg b2 0 [I 0,I 0,I 0,I 0,I 0,I 0]],[Sg b1 0 [I p.least,I p.most,I p.lost,I p.gap,I p.next,I (IntKind.i64.wrap (p.asked+1))]]] ?_)))
 have e1:IntKind.i64.wrap (p.asked+1)=p.asked+1:=IntWalk.i64_in _ (by (have q_:=JbJ (p:=p) (now:=now) ‹_›;omega))
 refine Jcy (L':=[[Sg b2 0 [I 0,I 0,I 0,I 0,I 0,I 0]],[Sg b1 0 [I p.least,I p.most,I p.lost,I p.gap,I p.next,I (p.asked+1)]]]) (by simp only [e1]) ?_
 clear e1
 refine Je (Jc (Ja [0,0,4] [(32,I now),(34,I p.gap)] (Jj 35 (I (K3 now p.gap)) (Jcn G now p.gap (by (have q_:=JbJ (p:=p) (now:=now) ‹_›;omega))) (JV [0,5] [] [[Sg b2 0 [I 0,I 0,I 0,I 0,I 0,I 0]],[Sg b1 0 [I p.least,I p.most,I p.lost,I p.gap,I (K3 now p.gap),I (p.asked+1)]]] (Jd (Jb (Qx [0,4,0,0,4,0,0,5] [] [[Sg b2 0 [I 0,I 0,I 0,I 0,I 0,I 0]],[Sg b1 0 [I p.least,I p.most,I p.lost,I (if p.most<(IntKind.i64.wrap (2*p.gap)) then p.most else (IntKind.i64.wrap (2*p.gap))),I (K3 now p.gap),I (p.asked+1)]]] ?_)))))))
 have e2:IntKind.i64.wrap (2*p.gap)=2*p.gap:=IntWalk.i64_in _ (by (have q_:=JbJ (p:=p) (now:=now) ‹_›;omega))
 refine Jcy (L':=[[Sg b2 0 [I 0,I 0,I 0,I 0,I 0,I 0]],[Sg b1 0 [I p.least,I p.most,I p.lost,I (if p.most<(2*p.gap) then p.most else (2*p.gap)),I (K3 now p.gap),I (p.asked+1)]]]) (by simp only [e2]) ?_
 clear e2
 refine Qx [4,3,0] [(5,I 0)] [[Sg b2 0 [I p.least,I p.most,I p.lost,I (if p.most<(2*p.gap) then p.most else (2*p.gap)),I (K3 now p.gap),I (p.asked+1)]],[Sg b1 0 [I p.least,I p.most,I p.lost,I (if p.most<(2*p.gap) then p.most else (2*p.gap)),I (K3 now p.gap),I (p.asked+1)]]] (Jl (Jm [0,0] [.agg #[I p.least,I p.most,I p.lost,I (if p.most<(2*p.gap) then p.most else (2*p.gap)),I (K3 now p.gap),I (p.asked+1)],I 0] (Jw (Jp.le_refl _) ?_)))
 have hf_:(KG p now)=((⟨p.least,p.most,p.lost,if p.most<(2*p.gap) then p.most else (2*p.gap),K3 now p.gap,p.asked+1⟩:Wa),0):=by
  unfold KG Vt;(try unfold ZA at *);(repeat' split) <;> first | rfl | (exfalso;omega) | (exfalso;simp_all;omega)
 · (try rw [hf_]);(simp only [Ql];done)
theorem Ji6 (G:Jp) (a:Int) (hw_a:rI a) (b:Int) (hw_b:rI b) (c:Int) (hw_c:rI c) :Q2 58 #[I a,I b,I c] G (.tuple #[.agg #[I (((KM a b c).1).least),I (((KM a b c).1).most),I (((KM a b c).1).lost),I (((KM a b c).1).gap),I (((KM a b c).1).next),I (((KM a b c).1).asked)],I ((KM a b c).2)]):=by
 refine JN Tryz.func58 22 [(0,I a),(1,I b),(2,I c)] rfl (fun w0 G0=>?_)
 refine Je (Jc (Jv 6 #[I 0,I 0,I 0,I 0,I 0,I 0] 143 (fun b1=>Ja [0] [] (Jd (Jb (Je (Jc (Ja [0,0,0,0,0] [(14,.agg #[I a,I b,I c,I a,I 0,I 0])] (Jv 8 #[I 0,I 0,I 0,I 0,I 0,I 0] 143 (fun b2=>JV [3] [] [[Sg b2 0 [I a,I b,I c,I a,I 0,I 0]],[Sg b1 0 [I 0,I 0,I 0,I 0,I 0,I 0]]] (Jd (Jb (Je (Je (Jc (Ja [2] [(15,.agg #[I a,I b,I c,I a,I 0,I 0])] (Jj 16 (I (KB (⟨a,b,c,a,0,0⟩:Wa))) (JaI G [I a,I b,I c,I a,I 0,I 0] (⟨a,b,c,a,0,0⟩:Wa) (⟨rfl,hw_a,hw_b,hw_c,hw_a,(by (simp;done)),(by (simp;done))⟩)) (Ja [0] [(9,I (KB (⟨a,b,c,a,0,0⟩:Wa)))] (Jd (Jb (Jf [0,0] [(18,Bo (!decide (KB (⟨a,b,c,a,0,0⟩:Wa)=0)))] (Jk (!decide (KB (⟨a,b,c,a,0,0⟩:Wa)=0)) (fun h1=>?_) (fun h1=>?_)))))))))))))))))))))))
 refine Jf [0,0,5,0] [(7,I (KB (⟨a,b,c,a,0,0⟩:Wa)))] (Jl (Jh (Jm [1,0] [.agg #[I 0,I 0,I 0,I 0,I 0,I 0],I (KB (⟨a,b,c,a,0,0⟩:Wa))] (Jw (Jp.le_refl _) ?_))))
 have hf_:(KM a b c)=((⟨0,0,0,0,0,0⟩:Wa),(KB (⟨a,b,c,a,0,0⟩:Wa))):=by
  rw [Zu] at *;unfold KM Vt;split <;> first | (rename_i hx;rw [Jcm hx];done) | contradiction
 · (try rw [hf_]);(simp only [Ql];done)
 refine Jo (Jb (Qx [2,5,0] [(7,I 0)] [[Sg b2 0 [I a,I b,I c,I a,I 0,I 0]],[Sg b1 0 [I a,I b,I c,I a,I 0,I 0]]] (Jl (Jm [1,0] [.agg #[I a,I b,I c,I a,I 0,I 0],I 0] (Jw (Jp.le_refl _) ?_)))))
 have hf_:(KM a b c)=((⟨a,b,c,a,0,0⟩:Wa),0):=by
  rw [Zu] at *;unfold KM Vt;split <;> rfl
 · (try rw [hf_]);(simp only [Ql];done)
theorem Jgm (G:Jp) (vs_p:List Value) (p:Wa) (h_p:Wy.R G vs_p p) (now:Int) :Q2 169 #[.agg vs_p.toArray,I now] G (.tuple #[.agg #[I (((Q7 p now).1).least),I (((Q7 p now).1).most),I (((Q7 p now).1).lost),I (((Q7 p now).1).gap),I (((Q7 p now).1).next),I (((Q7 p now).1).asked)],I ((Q7 p now).2)]):=by
 obtain ⟨rfl,w1,w2,w3,w4,w5,w6⟩:=h_p
 refine JN Tryz.func169 27 [(0,.agg #[I p.least,I p.most,I p.lost,I p.gap,I p.next,I p.asked]),(1,I now)] rfl (fun w0 G0=>?_)
 refine Je (Jc (Jv 2 #[I p.least,I p.most,I p.lost,I p.gap,I p.next,I p.asked] 143 (fun b1=>Jv 4 #[I 0,I 0,I 0,I 0,I 0,I 0] 143 (fun b2=>Ja [0] [] (Jd (Jb (Je (Je (Jc (Ja [4,0] [(7,.agg #[I p.least,I p.most,I p.lost,I p.gap,I p.next,I p.asked]),(8,I now)] (Jj 9 (I (KF p now)) (Jbr G [I p.least,I p.most,I p.lost,I p.gap,I p.next,I p.asked] p (⟨rfl,w1,w2,w3,w4,w5,w6⟩) now) (Ja [0] [(6,I (KF p now))] (Jd (Jb (Jf [0,0] [(11,Bo (!decide (KF p now=0)))] (Jk (!decide (KF p now=0)) (fun h1=>?_) (fun h1=>?_)))))))))))))))))
 refine Jf [0,0,3,0] [(5,I (KF p now))] (Jl (Jh (Jm [0,0] [.agg #[I 0,I 0,I 0,I 0,I 0,I 0],I (KF p now)] (Jw (Jp.le_refl _) ?_))))
 have hf_:(Q7 p now)=((⟨0,0,0,0,0,0⟩:Wa),(KF p now)):=by
  unfold Q7 Vt;(repeat' split) <;> rfl
 · (try rw [hf_]);(simp only [Ql];done)
 refine Jo (Jb (Qx [0,4,0,5,0,5] [] [[Sg b2 0 [I 0,I 0,I 0,I 0,I 0,I 0]],[Sg b1 0 [I p.least,I p.most,I p.lost,I p.least,I p.next,I 0]]] (Je (Ko [8] (Wm [(0,Pt b1 4),(1,I p.next),(2,I now),(3,Pt b1 0),(4,I p.least),(5,I (K3 now p.least)),(6,I (if (K3 now p.least)<p.next then (K3 now p.least) else p.next)),(7,Pt b1 4)] (JK [] [(0,0),(1,4),(2,0),(3,0),(4,4),(6,0),(7,0)] [5] [8] (Ke ?_ K4) (Ke ?_ K4)))))))
 refine Jr 5 23 (I (K3 now p.least)) [(20,I now),(22,I p.least)] (fun X=>?_)
 exact Jj 23 (I (K3 now p.least)) (Jcn G now p.least (by (have q_:=JbJ (p:=p) (now:=now) ‹_›;omega))) Jn
 refine JD 8 [(24,I (if (K3 now p.least)<p.next then (K3 now p.least) else p.next)),(25,Pt b1 4)] (fun X=>?_)
 refine KL 1 [[Sg b2 0 [I 0,I 0,I 0,I 0,I 0,I 0]],[Sg b1 0 [I p.least,I p.most,I p.lost,I p.least,I (if (K3 now p.least)<p.next then (K3 now p.least) else p.next),I 0]]] (Kc [] (Km [0,1,2,3,4,5,6,7] [] [] [(2,Pt b1 0),(4,Pt b2 0)] (List.forall_mem_nil _) (Jb (Qx [4,3,0] [(5,I 0)] [[Sg b2 0 [I p.least,I p.most,I p.lost,I p.least,I (if (K3 now p.least)<p.next then (K3 now p.least) else p.next),I 0]],[Sg b1 0 [I p.least,I p.most,I p.lost,I p.least,I (if (K3 now p.least)<p.next then (K3 now p.least) else p.next),I 0]]] (Jl (Jm [0,0] [.agg #[I p.least,I p.most,I p.lost,I p.least,I (if (K3 now p.least)<p.next then (K3 now p.least) else p.next),I 0],I 0] (Jw (Jp.le_refl _) ?_)))))))
 have hf_:(Q7 p now)=((⟨p.least,p.most,p.lost,p.least,if (K3 now p.least)<p.next then (K3 now p.least) else p.next,0⟩:Wa),0):=by
  unfold Q7 Vt;(repeat' split) <;> first | rfl | (exfalso;omega)
 · (try rw [hf_]);(simp only [Ql];done)
theorem Jco (G:Jp) (vs_p:List Value) (p:Wa) (h_p:Wy.R G vs_p p) :Q2 171 #[.agg vs_p.toArray] G (.tuple #[Bo ((WR p).1),I ((WR p).2)]):=by
 obtain ⟨rfl,w1,w2,w3,w4,w5,w6⟩:=h_p
 refine JN Tryz.func171 17 [(0,.agg #[I p.least,I p.most,I p.lost,I p.gap,I p.next,I p.asked])] rfl (fun w0 G0=>?_)
 refine Je (Jc (Jv 1 #[I p.least,I p.most,I p.lost,I p.gap,I p.next,I p.asked] 143 (fun b1=>Ja [0,0] [] (Jd (Jb (Je (Jc (Ja [2] [(5,.agg #[I p.least,I p.most,I p.lost,I p.gap,I p.next,I p.asked])] (Jj 6 (I (KB p)) (JaI G [I p.least,I p.most,I p.lost,I p.gap,I p.next,I p.asked] p (⟨rfl,w1,w2,w3,w4,w5,w6⟩)) (Ja [0] [(4,I (KB p))] (Jd (Jb (Je (Jc (Ja [0,0,0] [(9,Bo (decide (KB p=0)))] (Kn (decide (KB p=0)) [9] [0,2,0,2,0,0] [1,1,1,1,1,0] (fun bb=>[(15,Bo (bb && (decide (p.asked ≥ p.lost))))]) (Ja [0,0,0] [(2,Bo ((decide (KB p=0)) && (decide (p.asked ≥ p.lost)))),(3,I (KB p))] (Jd (Jb (Jl (Jm [0,0] [Bo ((decide (KB p=0)) && (decide (p.asked ≥ p.lost))),I (KB p)] (Jw (Jp.le_refl _) ?_))))))))))))))))))))))
 have hf_:(WR p)=(((decide (KB p=0)) && (decide (p.asked ≥ p.lost))),(KB p)):=by
  rfl
 · (try rw [hf_]);(simp only [Ql];done)
def JbK:YR:=⟨0,[]⟩
def JeH (l:JS) (n:YR):Bool:=decide (l.due≤n.now)
def Qf (n:YR):Int:=if n.now<0∨1000000000<n.now then 4 else if 60<n.way.length then 7 else if (n.way.any fun x0=>JeH x0 n)=true then 4 else 0
theorem QW {n:YR} (h:Qf n=0):0≤n.now∧n.now≤1000000000∧n.way.length≤60∧∀ l∈n.way,n.now<l.due:=by
 unfold Qf at h
 split at h
 · cases h
 split at h
 · cases h
 split at h
 · cases h
 ·
  rename_i h1 h2 h3
  refine ⟨by omega,by omega,by omega,fun l hl=>?_⟩
  have:¬ JeH l n=true:=fun hc=>h3 (List.any_eq_true.2 ⟨l,hl,hc⟩)
  unfold JeH at this
  simpa using this
def Vq (k:Int):Bool:=decide (k<1) || decide (k > 100)
theorem Jlp {l:List Int} {i:Nat} {x:Int} (h:(l.any fun x0=>Vq x0)=false) (hx:l[i]? = some x):1≤x∧x≤100:=by
 have:=List.any_eq_false.1 h x (List.mem_of_getElem? hx)
 unfold Vq at this
 simp at this;omega
def Jof (l:JS) (d:Int):JS:=⟨l.to_,l.from_,l.since,d,l.heads,l.reply⟩
def Kr (n:YR) (l:JS) (fates:List Int):YR×Int :=
 if Qf n ≠ 0 then (JbK,Qf n) else if (fates.any fun x0=>Vq x0)=true then (JbK,4) else if (fates.length:Int) > 60-(n.way.length:Int) then (JbK,7) else (⟨n.now,n.way++fates.map fun k=>Jof l (n.now+k)⟩,0)
def Kl (n:YR):YR×List JS×Int :=
 if Qf n ≠ 0 then (JbK,[],Qf n) else if n.now=1000000000 then (JbK,[],9) else (⟨n.now+1,n.way.filter fun l=>!decide (l.due=n.now+1)⟩,n.way.filter fun l=>decide (l.due=n.now+1),0)
theorem JmF {α:Type} {l:List α} {i:Nat} {x:α} (h:l[i]? = some x):l.take i++[x]=l.take (i+1):=by rw [List.take_add_one,h];rfl
theorem Jog {α β:Type} {l:List α} {i:Nat} {x:α} (f:α→β) (h:l[i]? = some x):(l.take i).map f++[f x]=(l.take (i+1)).map f:=by rw [List.take_add_one,h];simp
theorem Jeu {α:Type} {l:List α} {i:Nat} {x:α} {p:α→Bool} (h:l[i]? = some x) (hp:p x=true):(l.take i).filter p++[x]=(l.take (i+1)).filter p:=by rw [List.take_add_one,h];simp [hp]
theorem Jev {α:Type} {l:List α} {i:Nat} {x:α} {p:α→Bool} (h:l[i]? = some x) (hp:p x=false):(l.take i).filter p=(l.take (i+1)).filter p:=by rw [List.take_add_one,h];simp [hp]
theorem Wc {α:Type} (p:α→Bool) (l:List α) (i:Nat):((l.take i).filter p).length≤l.length:=Nat.le_trans (List.length_filter_le _ _) (List.length_take_le' i l)
theorem Jew (G:Jp) (vs_l:List Value) (l:JS) (h_l:Kh.R G vs_l l) :Yi 109 #[.agg vs_l.toArray] G [] (fun u G' L'=>∃ (a1:Option Addr) (c2:Nat) (a3:Option Addr) (c4:Nat) (a5:Option Addr) (c6:Nat),u=.agg #[I l.to_,I l.from_,I l.since,I l.due,Sl a1 l.heads.length c2,I l.reply.head.epoch,U l.reply.head.root,U l.reply.head.prev,I l.reply.head.at_,Sr l.reply.proof.name,Sl a3 l.reply.proof.entries.length c4,Sl a5 l.reply.proof.sides.length c6]∧(rI l.to_)∧(rI l.from_)∧(rI l.since)∧(rI l.due)∧(RS KA G' a1 c2 l.heads)∧(rI l.reply.head.epoch)∧(rU l.reply.head.root)∧(rU l.reply.head.prev)∧(rI l.reply.head.at_)∧((l.reply.proof.name).length≤140737488351232)∧(RS QA G' a3 c4 l.reply.proof.entries)∧(RS EU G' a5 c6 l.reply.proof.sides)∧L'=[]):=by
 obtain ⟨a1,c1,a2,c2,a3,c3,rfl,w1,w2,w3,w4,hs1,w5,w6,w7,w8,w9,hs2,hs3⟩:=h_l
 refine JN Tryz.func109 24 [(0,(QZ l a1 c1 a2 c2 a3 c3))] rfl (fun w0 G0=>?_)
 refine Je (Jc (Jv 1 #[I l.to_,I l.from_,I l.since,I l.due,Sl a1 l.heads.length c1,I l.reply.head.epoch,U l.reply.head.root,U l.reply.head.prev,I l.reply.head.at_,Sr l.reply.proof.name,Sl a2 l.reply.proof.entries.length c2,Sl a3 l.reply.proof.sides.length c3] 51 (fun b1=>Jv 2 #[I 0,I 0,I 0,I 0,Sl none 0 0,I 0,U 0,U 0,I 0,Sr ([]),Sl none 0 0,Sl none 0 0] 51 (fun b2=>Jd (Jb (Je (Jc (Ja [0,4] [(4,Sl a1 l.heads.length c1)] (JF 5 (Vm G a1 c1 l.heads hs1) (fun v G1 L1 hl1 hp=>?_))))))))))
 obtain ⟨a4,c4,r1,rfl,hr1,rfl⟩:=hp
 refine JV [0,7] [] [r1,[Sg b2 0 [I 0,I 0,I 0,I 0,Sl none 0 0,I 0,U 0,U 0,I 0,Sr ([]),Sl none 0 0,Sl none 0 0]],[Sg b1 0 (Kp l a4 c4 a2 c2 a3 c3)]] (Jd (Jb (Je (Jc (Ja [0,0,0,6] [(10,Sl a2 l.reply.proof.entries.length c2)] (JF 11 (YA G1 a2 c2 l.reply.proof.entries (hs2.mono hl1)) (fun v G2 L1 hl2 hp=>?_)))))))
 obtain ⟨a5,c5,r2,rfl,hr2,rfl⟩:=hp
 refine JV [0,0,0,9] [] [r2,r1,[Sg b2 0 [I 0,I 0,I 0,I 0,Sl none 0 0,I 0,U 0,U 0,I 0,Sr ([]),Sl none 0 0,Sl none 0 0]],[Sg b1 0 (Kp l a4 c4 a5 c5 a3 c3)]] (Jd (Jb (Je (Jc (Ja [0,0,0,8] [(18,Sl a3 l.reply.proof.sides.length c3)] (JF 19 (JdO G2 a3 c3 l.reply.proof.sides (hs3.mono (Jp.le_trans hl1 hl2))) (fun v G3 L1 hl3 hp=>?_)))))))
 obtain ⟨a6,c6,r3,rfl,hr3,rfl⟩:=hp
 refine JV [0,0,0,11] [] [r3,r2,r1,[Sg b2 0 [I 0,I 0,I 0,I 0,Sl none 0 0,I 0,U 0,U 0,I 0,Sr ([]),Sl none 0 0,Sl none 0 0]],[Sg b1 0 (Kp l a4 c4 a5 c5 a6 c6)]] (Jd (Jb (Qx [10,9] [] [r3,r2,r1,[Sg b2 0 (Kp l a4 c4 a5 c5 a6 c6)],[Sg b1 0 (Kp l a4 c4 a5 c5 a6 c6)]] (Jl (WA (E:=KA) 2 (hr1.mono (Jp.le_trans hl2 hl3)) (by exact (hs1).fit) (fun G4 hl4 hs4=>WA (E:=QA) 1 (hr2.mono (Jp.le_trans hl3 hl4)) (by exact (hs2.mono hl1).fit) (fun G5 hl5 hs5=>WA (E:=EU) 0 (hr3.mono (Jp.le_trans hl4 hl5)) (by exact (hs3.mono (Jp.le_trans hl1 hl2)).fit) (fun G6 hl6 hs6=>?_))))))))
 have hf1:l=l:=by
  rfl
 refine Jm [3] [(QZ l a4 c4 a5 c5 a6 c6)] (Jy [] (Jp.le_trans (Jp.le_trans (Jp.le_trans (Jp.le_trans (Jp.le_trans hl1 hl2) hl3) hl4) hl5) hl6) ?_)
 rw [hf1]
 try dsimp only
 exact ⟨a4,c4,a5,c5,a6,c6,rfl,w1,w2,w3,w4,(hs4.mono (Jp.le_trans hl5 hl6)),w5,w6,w7,w8,w9,(hs5.mono hl6),hs6,rfl⟩
theorem Jbk (G:Jp) (a_l:Option Addr) (c_l:Nat) (l:List JS) (h_l:RS Kh G a_l c_l l) (hf:l.length*152≤140737488351232):Yi 108 #[Sl a_l l.length c_l] G [] (fun u G' L'=>∃ (a1:Option Addr) (c2:Nat) (r3:List Kg),u=Sl a1 l.length c2∧(J0 Kh G' a1 c2 l r3)∧L'=[r3]):=by
 refine JN Tryz.func108 19 [(0,Sl a_l l.length c_l)] rfl (fun w0 G0=>?_)
 refine Jf [0] [] (Jf [0] [(3,Sl none 0 0)] (Je (Jf [0,0,0] [(6,Sl a_l l.length c_l),(7,I (l.length:Int)),(8,I 0)] (Jz (Yh ?_)))))
 have hlm_h_l:l.length≤9223372036854775807:=Nat.le_trans (h_l).le (h_l).max
 refine Qh (σ:=Nat×Option Addr×Nat×List Kg×List JS×Jp) (fun q_=>(Jp.le G q_.2.2.2.2.2)∧(q_.1≤l.length)∧(J0 Kh q_.2.2.2.2.2 q_.2.1 q_.2.2.1 q_.2.2.2.2.1 q_.2.2.2.1)∧(q_.2.2.2.2.1=l.take q_.1)) (fun q_=>[(3,Sl q_.2.1 q_.2.2.2.2.1.length q_.2.2.1),(6,Sl a_l l.length c_l),(7,I (l.length:Int)),(8,I (q_.1:Int))]) (fun q_=>q_.2.2.2.2.2) (fun q_=>[q_.2.2.2.1]) (fun q_=>l.length-q_.1) (0,none,0,[],[],G) ⟨(Jp.le_refl _),(by (try dsimp only);exact Nat.zero_le _),(J0.none Kh _),(by (try dsimp only);rfl)⟩ (fun q_ hs=>?_)
 obtain ⟨i,ao,co,ro,xo,g⟩:=q_
 obtain ⟨hle,hi,hro,hxo⟩:=hs
 dsimp only at hle hi hro hxo
 dsimp only
 refine Jf [0] [(9,Bo (decide ((i:Int)<(l.length:Int))))] (Je (Jk (decide ((i:Int)<(l.length:Int))) (fun h1=>?_) (fun h1=>?_)))
 refine Jo (Jb (Je (Jz (Je (Jc ?_)))))
 obtain ⟨b1,o1,rfl⟩:=RS.addr (h_l.mono hle) (k:=i) (by omega)
 obtain ⟨x1,hx1⟩:=We (l:=l) (k:=i) (by omega)
 obtain ⟨_,⟨a1,c1,a2,c2,a3,c3,rfl,w1,w2,w3,w4,hs1,w5,w6,w7,w8,w9,hs2,hs3⟩,hc1⟩:=RS.get (h_l.mono hle) hx1
 refine J3 (b:=b1) (off:=o1) (len:=l.length) (cap:=c_l) (ik:=.i64) 10 51 12 i J7 (JW 11 51 (cs:=(Kp x1 a1 c1 a2 c2 a3 c3)) 0 (QZ x1 a1 c1 a2 c2 a3 c3) hc1 (Jv 5 #[I 0,I 0,I 0,I 0,Sl none 0 0,I 0,U 0,U 0,I 0,Sr ([]),Sl none 0 0,Sl none 0 0] 51 (fun b2=>JV [3] [] [[Sg b2 0 (Kp x1 a1 c1 a2 c2 a3 c3)],ro] (Jd (Jb (Jc (Ja [0,2] [(12,Sl ao xo.length co),(13,(QZ x1 a1 c1 a2 c2 a3 c3))] (JF 14 (Jew g (Kp x1 a1 c1 a2 c2 a3 c3) x1 (⟨a1,c1,a2,c2,a3,c3,rfl,w1,w2,w3,w4,hs1,w5,w6,w7,w8,w9,hs2,hs3⟩)) (fun v G1 L1 hl1 hp=>?_)))))))))
 obtain ⟨a4,c4,a5,c5,a6,c6,rfl,w10,w11,w12,w13,hs4,w14,w15,w16,w17,w18,hs5,hs6,rfl⟩:=hp
 exact Kq 15 1 #[I x1.to_,I x1.from_,I x1.since,I x1.due,Sl a4 x1.heads.length c4,I x1.reply.head.epoch,U x1.reply.head.root,U x1.reply.head.prev,I x1.reply.head.at_,Sr x1.reply.proof.name,Sl a5 x1.reply.proof.entries.length c5,Sl a6 x1.reply.proof.sides.length c6] 51 (fun b3=>Qv (b:=b3) (cs:=(Kp x1 a4 c4 a5 c5 a6 c6)) 16 51 2 0 (E:=Kh) x1 (hro.mono hl1) ⟨a4,c4,a5,c5,a6,c6,rfl,w10,w11,w12,w13,hs4,w14,w15,w16,w17,w18,hs5,hs6⟩ (by have q1_:=congrArg List.length hxo;(try simp only [Kh,List.length_append,List.length_cons,List.length_nil,List.length_take,List.length_map] at *);omega) (by have q1_:=congrArg List.length hxo;(try simp only [Kh,List.length_append,List.length_cons,List.length_nil,List.length_take,List.length_map] at *);omega) (fun a7 c7 r1 hr1=>Ja [0] [(3,Sl a7 ((xo++[x1]).length) c7)] (Jd (JM (Jb (Jc (Ja [0,0] [(8,I (IntKind.i64.wrap ((i:Int)+1)))] (Kw 8 ((i:Int)+1) J7 (Jd (QT [r1] (Qr (i+1,a7,c7,r1,xo++[x1],G1) ⟨(Jp.le_trans hle hl1),J7,hr1,(by rw [hxo];exact JmF hx1)⟩ (by (try dsimp only);omega))))))))))))
 refine KW (JZ (J8 (JR (Jb (Jf [0,0] [(2,Sl ao xo.length co)] (Jl (Ji 0 ?_)))))))
 have hf1:l=xo:=by
  rw [hxo,List.take_of_length_le (by omega)]
 refine Jm [0] [Sl ao xo.length co] (Jy [ro] hle ?_)
 rw [hf1]
 try dsimp only
 exact ⟨ao,co,ro,rfl,hro,rfl⟩
theorem Joh (G:Jp) (vs_l:List Value) (l:JS) (h_l:Kh.R G vs_l l) (vs_n:List Value) (n:YR) (h_n:ENet.R G vs_n n) (b_n:Nat) (hz_n:∀ j v,(vs_n:List Value)[j]? = some v→G b_n (0+j)=some v) :Q2 159 #[.agg vs_l.toArray,Pt b_n 0] G (Bo (JeH l n)):=by
 obtain ⟨a1,c1,a2,c2,a3,c3,rfl,_,_,_,_,_,_,_,_,_,_,_,_⟩:=h_l
 obtain ⟨a4,c4,rfl,_,_⟩:=h_n
 refine JN Tryz.func159 9 [(0,(QZ l a1 c1 a2 c2 a3 c3)),(1,Pt b_n 0)] rfl (fun w0 G0=>?_)
 refine Je (Jc (Jv 2 #[I l.to_,I l.from_,I l.since,I l.due,Sl a1 l.heads.length c1,I l.reply.head.epoch,U l.reply.head.root,U l.reply.head.prev,I l.reply.head.at_,Sr l.reply.proof.name,Sl a2 l.reply.proof.entries.length c2,Sl a3 l.reply.proof.sides.length c3] 51 (fun b1=>Ja [0] [] (Jd (Jb (Je (Jc (Ja [0,2,0] [(5,I l.due),(6,Pt b_n 0)] (JW (o':=0) 7 2 (cs:=[I n.now,Sl a4 n.way.length c4]) 0 (I n.now) hz_n (Ja [0,0] [(3,Bo (decide (l.due≤n.now)))] (Jd (Jb (Jl (Jm [0] [Bo (decide (l.due≤n.now))] (Jw (Jp.le_refl _) (congrArg Bo (?_:(JeH l n)=(decide (l.due≤n.now))).symm))))))))))))))))
 rfl
theorem Jdq (G:Jp) (vs_n:List Value) (n:YR) (h_n:ENet.R G vs_n n) :Q2 105 #[.agg vs_n.toArray] G (I (Qf n)):=by
 obtain ⟨a1,c1,rfl,w1,hs1⟩:=h_n
 refine JN Tryz.func105 22 [(0,.agg #[I n.now,Sl a1 n.way.length c1])] rfl (fun w0 G0=>?_)
 refine Je (Jc (Jv 1 #[I n.now,Sl a1 n.way.length c1] 65 (fun b1=>Ja [0] [] (Jd (Jb (Je (Jz (Je (Jc (Ja [0,2,0,0] [(7,Bo (decide (n.now<0)))] (Kn (decide (n.now<0)) [7] [1,1,1,0] [0,2,0,0] (fun bb=>[(11,Bo (bb || (decide (n.now > 1000000000))))]) (Ja [0] [(3,Bo ((decide (n.now<0)) || (decide (n.now > 1000000000))))] (Jd (Jb (Jk ((decide (n.now<0)) || (decide (n.now > 1000000000))) (fun h1=>?_) (fun h1=>?_))))))))))))))))
 refine Jf [0] [(2,I 4)] (Jl (Jt (Jh (Jm [0] [I 4] (Jw (Jp.le_refl _) (congrArg I (?_:(Qf n)=4).symm))))))
 · unfold Qf;(rw [if_pos (by omega)];done)
 refine Jf [0,2,0,0,0] [(12,Bo (decide ((n.way.length:Int) > 60)))] (Jk (decide ((n.way.length:Int) > 60)) (fun h2=>?_) (fun h2=>?_))
 refine Jf [0] [(2,I 7)] (Jl (Jt (Jh (Jm [0] [I 7] (Jw (Jp.le_refl _) (congrArg I (?_:(Qf n)=7).symm))))))
 · unfold Qf;(rw [if_neg (by omega),if_pos (by omega)];done)
 refine Je (Jc (Ja [0,2,0] [(19,Sl a1 n.way.length c1),(20,Fv 159 #[Pt b1 0])] (QV (b:=b1) (o:=0) (cs:=[I n.now,Sl a1 n.way.length c1]) 0 (fun G1 hl1 hz1=>Jj 21 (Bo (n.way.any (fun x0=>JeH x0 n))) (Jhp G1 a1 c1 n.way (hs1.mono hl1) 159 #[Pt b1 0] (fun x0=>JeH x0 n) (fun _ _=>by kernel_rfl) (fun vs0 x0 hx0=>by obtain ⟨a2,c2,a3,c3,a4,c4,rfl,w2,w3,w4,w5,hs2,w6,w7,w8,w9,w10,hs3,hs4⟩:=hx0;exact Joh G1 (Kp x0 a2 c2 a3 c3 a4 c4) x0 (⟨a2,c2,a3,c3,a4,c4,rfl,w2,w3,w4,w5,hs2,w6,w7,w8,w9,w10,hs3,hs4⟩) [I n.now,Sl a1 n.way.length c1] n (⟨a1,c1,rfl,w1,(hs1.mono hl1)⟩) b1 hz1)) (Ja [0] [(17,Bo (n.way.any (fun x0=>JeH x0 n)))] (Jd (Jb (Jk (n.way.any (fun x0=>JeH x0 n)) (fun h3=>?_) (fun h3=>?_)))))))))
 refine Jf [0] [(2,I 4)] (Jl (Jt (Jh (Jm [0] [I 4] (Jw hl1 (congrArg I (?_:(Qf n)=4).symm))))))
 · unfold Qf;(rw [if_neg (by omega),if_neg (by omega)];simp_all;done)
 refine Jo (JM (Jb (Jf [0] [(2,I 0)] (Jl (Jm [0] [I 0] (Jw hl1 (congrArg I (?_:(Qf n)=0).symm)))))))
 · unfold Qf;(rw [if_neg (by omega),if_neg (by omega)];simp_all;done)
theorem Ji7 (G:Jp) (k:Int) :Q2 107 #[I k] G (Bo (Vq k)):=by
 refine JN Tryz.func107 9 [(0,I k)] rfl (fun w0 G0=>?_)
 refine Jf [0] [] (Je (Jc (Ja [0,0,0] [(5,Bo (decide (k<1)))] (Kn (decide (k<1)) [5] [1,1,0] [0,0,0] (fun bb=>[(8,Bo (bb || (decide (k > 100))))]) (Ja [0] [(2,Bo ((decide (k<1)) || (decide (k > 100))))] (Jd (Jb (Jl (Jm [0] [Bo ((decide (k<1)) || (decide (k > 100)))] (Jw (Jp.le_refl _) (congrArg Bo (?_:(Vq k)=((decide (k<1)) || (decide (k > 100)))).symm)))))))))))
 rfl
set_option maxRecDepth 20000 in
theorem YH (G:Jp) (vs_n:List Value) (n:YR) (h_n:ENet.R G vs_n n) (vs_l:List Value) (l:JS) (h_l:Kh.R G vs_l l) (a_fates:Option Addr) (c_fates:Nat) (fates:List Int) (h_fates:RS EI G a_fates c_fates fates) :Yi 63 #[.agg vs_n.toArray,.agg vs_l.toArray,Sl a_fates fates.length c_fates] G [] (fun u G' L'=>∃ (a1:Option Addr) (c2:Nat),u=.tuple #[.agg #[I (((Kr n l fates).1).now),Sl a1 ((((Kr n l fates).1).way).length) c2],I ((Kr n l fates).2)]∧(rI (((Kr n l fates).1).now))∧(RS Kh G' a1 c2 (((Kr n l fates).1).way))∧L'=[]):=by
 obtain ⟨a1,c1,rfl,w1,hs1⟩:=h_n
 obtain ⟨a2,c2,a3,c3,a4,c4,rfl,_,_,_,_,hs2,_,_,_,_,_,hs3,hs4⟩:=h_l
 refine JN Tryz.func63 60 [(0,.agg #[I n.now,Sl a1 n.way.length c1]),(1,(QZ l a2 c2 a3 c3 a4 c4)),(2,Sl a_fates fates.length c_fates)] rfl (fun w0 G0=>?_)
 refine Je (Jc (Jv 3 #[I n.now,Sl a1 n.way.length c1] 65 (fun b1=>Jv 4 #[I l.to_,I l.from_,I l.since,I l.due,Sl a2 l.heads.length c2,I l.reply.head.epoch,U l.reply.head.root,U l.reply.head.prev,I l.reply.head.at_,Sr l.reply.proof.name,Sl a3 l.reply.proof.entries.length c3,Sl a4 l.reply.proof.sides.length c4] 51 (fun b2=>Jv 6 #[I 0,Sl none 0 0] 65 (fun b3=>Ja [0] [] (Jd (Jb (Je (Jc (Ja [6] [(13,.agg #[I n.now,Sl a1 n.way.length c1])] (Jj 14 (I (Qf n)) (Jdq G [I n.now,Sl a1 n.way.length c1] n (⟨a1,c1,rfl,w1,hs1⟩)) (Ja [0] [(8,I (Qf n))] (Jd (Jb (Je (Jz (Jf [0,0,0] [(15,Bo (!decide (Qf n=0)))] (Jk (!decide (Qf n=0)) (fun h1=>?_) (fun h1=>?_)))))))))))))))))))
 refine Jf [0,0,3,0] [(7,I (Qf n))] (Jl (Jt (Jh ?_)))
 have hf1:Kr n l fates=((⟨0,[]⟩:YR),Qf n):=by
  unfold Kr JbK;(simp_all;done)
 refine Jm [0,0] [.agg #[I 0,Sl none 0 0],I (Qf n)] (Jy [] (Jp.le_refl _) ?_)
 rw [hf1]
 try dsimp only
 exact ⟨none,0,rfl,J7,(RS.nil' Kh G),rfl⟩
 refine Je (Jc (Ja [0] [(21,Sl a_fates fates.length c_fates)] (Jj 22 (Bo (fates.any (fun x0=>Vq x0))) (Jph G a_fates c_fates fates h_fates 107 #[] (fun x0=>Vq x0) (fun _ _=>by kernel_rfl) (fun x0 hx0=>Ji7 G x0)) (Ja [0] [(20,Bo (fates.any (fun x0=>Vq x0)))] (Jd (Jb (Jk (fates.any (fun x0=>Vq x0)) (fun h2=>?_) (fun h2=>?_))))))))
 refine Jf [0,3,0] [(7,I 4)] (Jl (Jt (Jh ?_)))
 have hf2:Kr n l fates=((⟨0,[]⟩:YR),4):=by
  unfold Kr JbK;(simp_all;done)
 refine Jm [0,0] [.agg #[I 0,Sl none 0 0],I 4] (Jy [] (Jp.le_refl _) ?_)
 rw [hf2]
 try dsimp only
 exact ⟨none,0,rfl,J7,(RS.nil' Kh G),rfl⟩
 refine Jf [0,0,0,6,0,0,0,0] [(24,Bo (decide ((fates.length:Int) > IntKind.i64.wrap (60-(n.way.length:Int)))))] ?_
 have e1:IntKind.i64.wrap (60-(n.way.length:Int))=60-(n.way.length:Int):=IntWalk.i64_in _ (by (have q_:=QW ‹_›;omega))
 refine QX 24 (Bo (decide ((fates.length:Int) > 60-(n.way.length:Int)))) (show (Bo (decide ((fates.length:Int) > IntKind.i64.wrap (60-(n.way.length:Int)))):Value)=Bo (decide ((fates.length:Int) > 60-(n.way.length:Int))) by simp only [e1]) ?_
 clear e1
 refine Jk (decide ((fates.length:Int) > 60-(n.way.length:Int))) (fun h3=>?_) (fun h3=>?_)
 refine Jf [0,3,0] [(7,I 7)] (Jl (Jt (Jh ?_)))
 have hf3:Kr n l fates=((⟨0,[]⟩:YR),7):=by
  unfold Kr JbK;(simp_all;done)
 refine Jm [0,0] [.agg #[I 0,Sl none 0 0],I 7] (Jy [] (Jp.le_refl _) ?_)
 rw [hf3]
 try dsimp only
 exact ⟨none,0,rfl,J7,(RS.nil' Kh G),rfl⟩
 refine Jo (JM (Jb ?_))
 refine Yv (σ:=Nat×(Option Addr)×Nat×(List Kg)×Jp) (fun q_=>(Jp.le G q_.2.2.2.2)∧(J0 Kh q_.2.2.2.2 q_.2.1 q_.2.2.1 n.way q_.2.2.2.1)) (fun q_=>[(2,Sl a_fates fates.length c_fates),(3,Pt b1 0),(4,Pt b2 0),(6,Pt b3 0),(9,Pt q_.1 0)]) (fun q_=>q_.2.2.2.2) (fun q_=>[[Sg q_.1 0 [I n.now,Sl q_.2.1 n.way.length q_.2.2.1]],q_.2.2.2.1,[Sg b3 0 [I 0,Sl none 0 0]],[Sg b2 0 (Kp l a2 c2 a3 c3 a4 c4)],[Sg b1 0 [I n.now,Sl a1 n.way.length c1]]]) ?_ (fun q_ hs=>?_)
 refine Ko [4,6,7] (Wm [(0,Pt b1 0),(1,I n.now),(2,Pt b1 1),(3,Sl a1 n.way.length c1)] (JK [] [(0,0),(1,6),(2,0),(3,6)] [] [4,6] (List.forall_mem_nil _) (Ke ?_ (Ke ?_ K4))))
 refine JD 4 [(36,Sl a1 n.way.length c1)] (fun X=>?_)
 refine JF 37 (Jbk G a1 c1 n.way hs1 (by (have q_:=QW ‹_›;omega))) (fun v G1 L1 hl1 hp=>?_)
 obtain ⟨a5,c5,r1,rfl,hr1,rfl⟩:=hp
 refine JC [(4,Sl a5 n.way.length c5),(5,.agg #[I n.now,Sl a5 n.way.length c5])] (JK [2,3] [(0,0),(1,8),(5,0)] [] [6] (List.forall_mem_nil _) (Ke ?_ K4))
 refine JD 6 [] (fun X=>?_)
 refine Jv 9 #[I 0,Sl none 0 0] 65 (fun b4=>JC [(6,Pt b4 0)] (JK [2,3] [(0,0),(1,10),(5,0)] [] [7] (List.forall_mem_nil _) (Ke ?_ K4)))
 refine JD 7 [(9,Pt b4 0),(38,.agg #[I n.now,Sl a5 n.way.length c5])] (fun X=>?_)
 exact KL 0 [[Sg b4 0 [I n.now,Sl a5 n.way.length c5]],r1,[Sg b3 0 [I 0,Sl none 0 0]],[Sg b2 0 (Kp l a2 c2 a3 c3 a4 c4)],[Sg b1 0 [I n.now,Sl a1 n.way.length c1]]] (Kc [] (Km [0,1,2,3,5] [] [] [(2,Sl a_fates fates.length c_fates),(3,Pt b1 0),(4,Pt b2 0),(6,Pt b3 0),(9,Pt b4 0)] (List.forall_mem_nil _) (Wb (b4,a5,c5,r1,G1) ⟨hl1,hr1⟩)))
 refine JD 6 [] (fun X=>?_)
 refine Jv 9 #[I 0,Sl none 0 0] 65 (fun b5=>JC [(6,Pt b5 0)] (JK [] [(0,0),(1,8),(2,0),(3,8)] [] [4] (List.forall_mem_nil _) (Ke ?_ K4)))
 refine JD 4 [(36,Sl a1 n.way.length c1)] (fun X=>?_)
 refine JF 37 (Jbk G a1 c1 n.way hs1 (by (have q_:=QW ‹_›;omega))) (fun v G2 L1 hl2 hp=>?_)
 obtain ⟨a6,c6,r2,rfl,hr2,rfl⟩:=hp
 refine JC [(4,Sl a6 n.way.length c6),(5,.agg #[I n.now,Sl a6 n.way.length c6])] (JK [2,3] [(0,0),(1,10),(5,0)] [] [7] (List.forall_mem_nil _) (Ke ?_ K4))
 refine JD 7 [(9,Pt b5 0),(38,.agg #[I n.now,Sl a6 n.way.length c6])] (fun X=>?_)
 exact KL 1 [r2,[Sg b5 0 [I n.now,Sl a6 n.way.length c6]],[Sg b3 0 [I 0,Sl none 0 0]],[Sg b2 0 (Kp l a2 c2 a3 c3 a4 c4)],[Sg b1 0 [I n.now,Sl a1 n.way.length c1]]] (Kc [] (Km [0,1,2,3,5] [] [] [(2,Sl a_fates fates.length c_fates),(3,Pt b1 0),(4,Pt b2 0),(6,Pt b3 0),(9,Pt b5 0)] (List.forall_mem_nil _) (Ji 4 (Ji 4 (Ji 4 (Ji 3 (Ji 4 (Wb (b5,a6,c6,r2,G2) ⟨hl2,hr2⟩))))))))
 obtain ⟨b4,a5,c5,r1,G1⟩:=q_
 obtain ⟨hle1,hj1⟩:=hs
 dsimp only at hle1 hj1
 dsimp only
 refine Je (Jf [0,0,0] [(39,Sl a_fates fates.length c_fates),(40,I (fates.length:Int)),(41,I 0)] (Jz ?_))
 have hlm_h_fates:fates.length≤9223372036854775807:=Nat.le_trans (h_fates).le (h_fates).max
 refine Qh (σ:=Nat×Option Addr×Nat×List Kg×List JS×Jp) (fun q_=>(Jp.le G1 q_.2.2.2.2.2)∧(q_.1≤fates.length)∧(J0 Kh q_.2.2.2.2.2 q_.2.1 q_.2.2.1 q_.2.2.2.2.1 q_.2.2.2.1)∧(q_.2.2.2.2.1=n.way++(fates.take q_.1).map fun k=>Jof l (n.now+k))) (fun q_=>[(3,Pt b1 0),(4,Pt b2 0),(6,Pt b3 0),(9,Pt b4 0),(39,Sl a_fates fates.length c_fates),(40,I (fates.length:Int)),(41,I (q_.1:Int))]) (fun q_=>q_.2.2.2.2.2) (fun q_=>[[Sg b4 0 [I n.now,Sl q_.2.1 q_.2.2.2.2.1.length q_.2.2.1]],q_.2.2.2.1,[Sg b3 0 [I 0,Sl none 0 0]],[Sg b2 0 (Kp l a2 c2 a3 c3 a4 c4)],[Sg b1 0 [I n.now,Sl a1 n.way.length c1]]]) (fun q_=>fates.length-q_.1) (0,a5,c5,r1,n.way,G1) ⟨(Jp.le_refl _),(by (try dsimp only);exact Nat.zero_le _),hj1,(by (try dsimp only);simp)⟩ (fun q_ hs=>?_)
 obtain ⟨i,aw,cw,rw,xw,g⟩:=q_
 obtain ⟨hle,hi,hrw,hxw⟩:=hs
 dsimp only at hle hi hrw hxw
 dsimp only
 refine Jf [0] [(42,Bo (decide ((i:Int)<(fates.length:Int))))] (Je (Jk (decide ((i:Int)<(fates.length:Int))) (fun h4=>?_) (fun h4=>?_)))
 refine Jo (Jb (Je (Jz (Je (Jc ?_)))))
 obtain ⟨b6,o1,rfl⟩:=RS.addr (h_fates.mono (Jp.le_trans hle1 hle)) (k:=i) (by omega)
 obtain ⟨x1,hx1⟩:=We (l:=fates) (k:=i) (by omega)
 obtain ⟨_,⟨rfl,_⟩,hc1⟩:=RS.get (h_fates.mono (Jp.le_trans hle1 hle)) hx1
 refine J3 (b:=b6) (off:=o1) (len:=fates.length) (cap:=c_fates) (ik:=.i64) 43 3 1 i J7 (JW 44 3 (cs:=[I x1]) 0 (I x1) hc1 (Ja [0] [(11,I x1)] (Jd (Jb (Je (Jc (Ja [8] [(45,(QZ l a2 c2 a3 c3 a4 c4))] (JF 46 (Jew g (Kp l a2 c2 a3 c3 a4 c4) l (⟨a2,c2,a3,c3,a4,c4,rfl,‹_›,‹_›,‹_›,‹_›,(hs2.mono (Jp.le_trans hle1 hle)),‹_›,‹_›,‹_›,‹_›,‹_›,(hs3.mono (Jp.le_trans hle1 hle)),(hs4.mono (Jp.le_trans hle1 hle))⟩)) (fun v G3 L1 hl3 hp=>?_)))))))))
 obtain ⟨a7,c7,a8,c8,a9,c9,rfl,_,_,_,_,hs5,_,_,_,_,_,hs6,hs7,rfl⟩:=hp
 refine Jv 12 #[I 0,I 0,I 0,I 0,Sl none 0 0,I 0,U 0,U 0,I 0,Sr ([]),Sl none 0 0,Sl none 0 0] 51 (fun b7=>JV [3] [] [[Sg b7 0 (Kp l a7 c7 a8 c8 a9 c9)],[Sg b4 0 [I n.now,Sl aw xw.length cw]],rw,[Sg b3 0 [I 0,Sl none 0 0]],[Sg b2 0 (Kp l a2 c2 a3 c3 a4 c4)],[Sg b1 0 [I n.now,Sl a1 n.way.length c1]]] (Jd (Jb (Qx [0,12,0,0,0,3] [] [[Sg b7 0 (Kp (⟨l.to_,l.from_,l.since,(IntKind.i64.wrap (n.now+x1)),l.heads,l.reply⟩:JS) a7 c7 a8 c8 a9 c9)],[Sg b4 0 [I n.now,Sl aw xw.length cw]],rw,[Sg b3 0 [I 0,Sl none 0 0]],[Sg b2 0 (Kp l a2 c2 a3 c3 a4 c4)],[Sg b1 0 [I n.now,Sl a1 n.way.length c1]]] ?_))))
 have e2:IntKind.i64.wrap (n.now+x1)=n.now+x1:=IntWalk.i64_in _ (by (have q_:=QW ‹_›;have q1_:=Jlp ‹_› ‹_›;omega))
 refine Jcy (L':=[[Sg b7 0 [I l.to_,I l.from_,I l.since,I (n.now+x1),Sl a7 l.heads.length c7,I l.reply.head.epoch,U l.reply.head.root,U l.reply.head.prev,I l.reply.head.at_,Sr l.reply.proof.name,Sl a8 l.reply.proof.entries.length c8,Sl a9 l.reply.proof.sides.length c9]],[Sg b4 0 [I n.now,Sl aw xw.length cw]],rw,[Sg b3 0 [I 0,Sl none 0 0]],[Sg b2 0 [I l.to_,I l.from_,I l.since,I l.due,Sl a2 l.heads.length c2,I l.reply.head.epoch,U l.reply.head.root,U l.reply.head.prev,I l.reply.head.at_,Sr l.reply.proof.name,Sl a3 l.reply.proof.entries.length c3,Sl a4 l.reply.proof.sides.length c4]],[Sg b1 0 [I n.now,Sl a1 n.way.length c1]]]) (by simp only [Kp,QZ,e2];first | done | rfl) ?_
 clear e2
 exact Jc (Ja [0,4,2] [(53,Sl aw xw.length cw),(54,(QZ (⟨l.to_,l.from_,l.since,(n.now+x1),l.heads,l.reply⟩:JS) a7 c7 a8 c8 a9 c9))] (Kq 55 1 #[I l.to_,I l.from_,I l.since,I (n.now+x1),Sl a7 l.heads.length c7,I l.reply.head.epoch,U l.reply.head.root,U l.reply.head.prev,I l.reply.head.at_,Sr l.reply.proof.name,Sl a8 l.reply.proof.entries.length c8,Sl a9 l.reply.proof.sides.length c9] 51 (fun b8=>Qv (b:=b8) (cs:=(Kp (⟨l.to_,l.from_,l.since,(n.now+x1),l.heads,l.reply⟩:JS) a7 c7 a8 c8 a9 c9)) 56 51 3 0 (E:=Kh) (⟨l.to_,l.from_,l.since,n.now+x1,l.heads,l.reply⟩:JS) (hrw.mono hl3) ⟨a7,c7,a8,c8,a9,c9,rfl,‹_›,‹_›,‹_›,(by (dsimp only;(have q_:=QW ‹_›;have q1_:=Jlp ‹_› ‹_›;omega))),hs5,‹_›,‹_›,‹_›,‹_›,‹_›,hs6,hs7⟩ (by have q_:=QW ‹_›;have q1_:=congrArg List.length hxw;(try simp only [Kh,List.length_append,List.length_cons,List.length_nil,List.length_take,List.length_map] at *);omega) (by have q_:=QW ‹_›;have q1_:=congrArg List.length hxw;(try simp only [Kh,List.length_append,List.length_cons,List.length_nil,List.length_take,List.length_map] at *);omega) (fun a10 c10 r3 hr3=>JV [0,7] [] [[Sg b8 0 (Kp (⟨l.to_,l.from_,l.since,(n.now+x1),l.heads,l.reply⟩:JS) a7 c7 a8 c8 a9 c9)],[Sg b7 0 (Kp (⟨l.to_,l.from_,l.since,(n.now+x1),l.heads,l.reply⟩:JS) a7 c7 a8 c8 a9 c9)],[Sg b4 0 [I n.now,Sl a10 ((xw++[(⟨l.to_,l.from_,l.since,n.now+x1,l.heads,l.reply⟩:JS)]).length) c10]],r3,[Sg b3 0 [I 0,Sl none 0 0]],[Sg b2 0 (Kp l a2 c2 a3 c3 a4 c4)],[Sg b1 0 [I n.now,Sl a1 n.way.length c1]]] (Jd (JM (Jb (Jc (Ja [0,0] [(41,I (IntKind.i64.wrap ((i:Int)+1)))] (Kw 41 ((i:Int)+1) J7 (Jd (QT [[Sg b4 0 [I n.now,Sl a10 ((xw++[(⟨l.to_,l.from_,l.since,n.now+x1,l.heads,l.reply⟩:JS)]).length) c10]],r3,[Sg b3 0 [I 0,Sl none 0 0]],[Sg b2 0 (Kp l a2 c2 a3 c3 a4 c4)],[Sg b1 0 [I n.now,Sl a1 n.way.length c1]]] (Qr (i+1,a10,c10,r3,xw++[(⟨l.to_,l.from_,l.since,n.now+x1,l.heads,l.reply⟩:JS)],G3) ⟨(Jp.le_trans hle hl3),J7,hr3,(by rw [hxw,List.append_assoc];exact congrArg _ (Jog (fun k=>Jof l (n.now+k)) hx1))⟩ (by (try dsimp only);omega))))))))))))))
 refine KW (JZ (J8 (JR (Jb (Qx [2,7,0] [(7,I 0)] [[Sg b4 0 [I n.now,Sl aw xw.length cw]],rw,[Sg b3 0 [I n.now,Sl aw xw.length cw]],[Sg b2 0 (Kp l a2 c2 a3 c3 a4 c4)],[Sg b1 0 [I n.now,Sl a1 n.way.length c1]]] (Jl (WA (E:=Kh) 1 hrw (by have q_:=QW ‹_›;have q1_:=congrArg List.length hxw;(try simp only [Kh,List.length_append,List.length_cons,List.length_nil,List.length_take,List.length_map] at *);omega) (fun G4 hl4 hs8=>?_))))))))
 have hf4:Kr n l fates=((⟨n.now,xw⟩:YR),0):=by
  unfold Kr JbK;(rw [if_neg (by omega),if_neg (by simp_all),if_neg (by omega),hxw,List.take_of_length_le (by omega)])
 refine Jm [2,0] [.agg #[I n.now,Sl aw xw.length cw],I 0] (Jy [] (Jp.le_trans (Jp.le_trans hle1 hle) hl4) ?_)
 rw [hf4]
 try dsimp only
 exact ⟨aw,cw,rfl,‹_›,hs8,rfl⟩
theorem Ji8 (G:Jp) (vs_n:List Value) (n:YR) (h_n:ENet.R G vs_n n) :Yi 111 #[.agg vs_n.toArray] G [] (fun u G' L'=>∃ (a1:Option Addr) (c2:Nat) (a3:Option Addr) (c4:Nat),u=.tuple #[.agg #[I (((Kl n).1).now),Sl a1 ((((Kl n).1).way).length) c2],Sl a3 (((Kl n).2.1).length) c4,I ((Kl n).2.2)]∧(rI (((Kl n).1).now))∧(RS Kh G' a1 c2 (((Kl n).1).way))∧(RS Kh G' a3 c4 ((Kl n).2.1))∧L'=[]):=by
 obtain ⟨a1,c1,rfl,w1,hs1⟩:=h_n
 refine JN Tryz.func111 50 [(0,.agg #[I n.now,Sl a1 n.way.length c1])] rfl (fun w0 G0=>?_)
 refine Je (Jc (Jv 1 #[I n.now,Sl a1 n.way.length c1] 65 (fun b1=>Jv 2 #[I 0,Sl none 0 0] 65 (fun b2=>Ja [0,0] [] (Jd (Jb (Je (Je (Jc (Ja [4] [(10,.agg #[I n.now,Sl a1 n.way.length c1])] (Jj 11 (I (Qf n)) (Jdq G [I n.now,Sl a1 n.way.length c1] n (⟨a1,c1,rfl,w1,hs1⟩)) (Ja [0] [(5,I (Qf n))] (Jd (Jb (Jf [0,0] [(13,Bo (!decide (Qf n=0)))] (Jk (!decide (Qf n=0)) (fun h1=>?_) (fun h1=>?_)))))))))))))))))
 refine Jf [0,0,3,0,0] [(3,Sl none 0 0),(4,I (Qf n))] (Jl (Jh ?_))
 have hf1:Kl n=((⟨0,[]⟩:YR),[],Qf n):=by
  unfold Kl JbK;(simp_all;done)
 refine Jm [0,0,0] [.agg #[I 0,Sl none 0 0],Sl none 0 0,I (Qf n)] (Jy [] (Jp.le_refl _) ?_)
 rw [hf1]
 try dsimp only
 exact ⟨none,0,none,0,rfl,J7,(RS.nil' Kh G),(RS.nil' Kh G),rfl⟩
 refine Jo (Jb (Je (Jf [0,4,0] [(18,Bo (decide (n.now=1000000000)))] (Jk (decide (n.now=1000000000)) (fun h2=>?_) (fun h2=>?_)))))
 refine Jf [0,3,0,0] [(3,Sl none 0 0),(4,I 9)] (Jl (Jh ?_))
 have hf2:Kl n=((⟨0,[]⟩:YR),[],9):=by
  unfold Kl JbK;(simp_all;done)
 refine Jm [0,0,0] [.agg #[I 0,Sl none 0 0],Sl none 0 0,I 9] (Jy [] (Jp.le_refl _) ?_)
 rw [hf2]
 try dsimp only
 exact ⟨none,0,none,0,rfl,J7,(RS.nil' Kh G),(RS.nil' Kh G),rfl⟩
 refine Jo (Jb (Je (Jc (Ja [0,4,0,0] [(23,.agg #[I (IntKind.i64.wrap (n.now+1)),Sl none 0 0])] ?_))))
 have e1:IntKind.i64.wrap (n.now+1)=n.now+1:=IntWalk.i64_in _ (by (have q_:=QW ‹_›;omega))
 refine KI 23 (.agg #[I (n.now+1),Sl none 0 0]) (show (.agg #[I (IntKind.i64.wrap (n.now+1)),Sl none 0 0]:Value)=.agg #[I (n.now+1),Sl none 0 0] by simp only [e1]) ?_
 clear e1
 refine Jv 6 #[I 0,Sl none 0 0] 65 (fun b3=>JV [3] [] [[Sg b3 0 [I (n.now+1),Sl none 0 0]],[Sg b2 0 [I 0,Sl none 0 0]],[Sg b1 0 [I n.now,Sl a1 n.way.length c1]]] (Jd (Jb (Jf [0] [(7,Sl none 0 0)] (Je (Je (Jc (Ja [0,6] [(25,Sl a1 n.way.length c1)] (JF 26 (Jbk G a1 c1 n.way hs1 (by (have q_:=QW ‹_›;omega))) (fun v G1 L1 hl1 hp=>?_))))))))))
 obtain ⟨a2,c2,_,rfl,hr1,rfl⟩:=hp
 refine Ja [0,0] [(27,I (n.way.length:Int)),(28,I 0)] (Jd (Jb (Jz (Jo2 (E:=Kh) 0 hr1 (by exact (hs1).fit) (fun G2 hl2 hs2=>Yh (Yh ?_))))))
 have hlm_hs2:n.way.length≤9223372036854775807:=Nat.le_trans (hs2).le (hs2).max
 refine Qh (σ:=Nat×Option Addr×Nat×List Kg×List JS×Option Addr×Nat×List Kg×List JS×Jp) (fun q_=>(Jp.le G2 q_.2.2.2.2.2.2.2.2.2)∧(q_.1≤n.way.length)∧(J0 Kh q_.2.2.2.2.2.2.2.2.2 q_.2.1 q_.2.2.1 q_.2.2.2.2.1 q_.2.2.2.1)∧(q_.2.2.2.2.1=(n.way.take q_.1).filter fun l=>decide (l.due=n.now+1))∧(J0 Kh q_.2.2.2.2.2.2.2.2.2 q_.2.2.2.2.2.1 q_.2.2.2.2.2.2.1 q_.2.2.2.2.2.2.2.2.1 q_.2.2.2.2.2.2.2.1)∧(q_.2.2.2.2.2.2.2.2.1=(n.way.take q_.1).filter fun l=>!decide (l.due=n.now+1))) (fun q_=>[(2,Pt b2 0),(6,Pt b3 0),(7,Sl q_.2.1 q_.2.2.2.2.1.length q_.2.2.1),(26,Sl a2 n.way.length c2),(27,I (n.way.length:Int)),(28,I (q_.1:Int))]) (fun q_=>q_.2.2.2.2.2.2.2.2.2) (fun q_=>[q_.2.2.2.2.2.2.2.1,q_.2.2.2.1,[],[Sg b3 0 [I (n.now+1),Sl q_.2.2.2.2.2.1 q_.2.2.2.2.2.2.2.2.1.length q_.2.2.2.2.2.2.1]],[Sg b2 0 [I 0,Sl none 0 0]],[Sg b1 0 [I n.now,Sl a1 n.way.length c1]]]) (fun q_=>n.way.length-q_.1) (0,none,0,[],[],none,0,[],[],G2) ⟨(Jp.le_refl _),(by (try dsimp only);exact Nat.zero_le _),(J0.none Kh _),(by (try dsimp only);rfl),(J0.none Kh _),(by (try dsimp only);rfl)⟩ (fun q_ hs=>?_)
 obtain ⟨i,ac,cc,rc,xc,aw,cw,rw,xw,g⟩:=q_
 obtain ⟨hle,hi,hrc,hxc,hrw,hxw⟩:=hs
 dsimp only at hle hi hrc hxc hrw hxw
 dsimp only
 refine Jf [0] [(29,Bo (decide ((i:Int)<(n.way.length:Int))))] (Je (Jk (decide ((i:Int)<(n.way.length:Int))) (fun h3=>?_) (fun h3=>?_)))
 refine Jo (Jb (Je (Jz (Je (Jc ?_)))))
 obtain ⟨b4,o1,rfl⟩:=RS.addr (hs2.mono hle) (k:=i) (by omega)
 obtain ⟨x1,hx1⟩:=We (l:=n.way) (k:=i) (by omega)
 obtain ⟨_,⟨a3,c3,a4,c4,a5,c5,rfl,w2,w3,w4,w5,hs3,w6,w7,w8,w9,w10,hs4,hs5⟩,hc1⟩:=RS.get (hs2.mono hle) hx1
 refine J3 (b:=b4) (off:=o1) (len:=n.way.length) (cap:=c2) (ik:=.i64) 30 51 12 i J7 (JW 31 51 (cs:=(Kp x1 a3 c3 a4 c4 a5 c5)) 0 (QZ x1 a3 c3 a4 c4 a5 c5) hc1 (Jv 9 #[I 0,I 0,I 0,I 0,Sl none 0 0,I 0,U 0,U 0,I 0,Sr ([]),Sl none 0 0,Sl none 0 0] 51 (fun b5=>JV [3] [] [[Sg b5 0 (Kp x1 a3 c3 a4 c4 a5 c5)],rw,rc,[],[Sg b3 0 [I (n.now+1),Sl aw xw.length cw]],[Sg b2 0 [I 0,Sl none 0 0]],[Sg b1 0 [I n.now,Sl a1 n.way.length c1]]] (Jd (Jb (Jf [0,2,0,10,0] [(36,Bo (decide (x1.due=n.now+1)))] (Jk (decide (x1.due=n.now+1)) (fun h4=>?_) (fun h4=>?_))))))))
 exact Jc (Ja [0,2] [(37,Sl ac xc.length cc),(38,(QZ x1 a3 c3 a4 c4 a5 c5))] (Kq 39 1 #[I x1.to_,I x1.from_,I x1.since,I x1.due,Sl a3 x1.heads.length c3,I x1.reply.head.epoch,U x1.reply.head.root,U x1.reply.head.prev,I x1.reply.head.at_,Sr x1.reply.proof.name,Sl a4 x1.reply.proof.entries.length c4,Sl a5 x1.reply.proof.sides.length c5] 51 (fun b6=>Qv (b:=b6) (cs:=(Kp x1 a3 c3 a4 c4 a5 c5)) 40 51 3 0 (E:=Kh) x1 hrc ⟨a3,c3,a4,c4,a5,c5,rfl,w2,w3,w4,w5,hs3,w6,w7,w8,w9,w10,hs4,hs5⟩ (by have q_:=QW ‹_›;have q1_:=congrArg List.length hxc;have q2_:=congrArg List.length hxw;have q3_:=Wc (fun l:JS=>decide (l.due=n.now+1)) n.way i;have q4_:=Wc (fun l:JS=>!decide (l.due=n.now+1)) n.way i;(try simp only [Kh,List.length_append,List.length_cons,List.length_nil,List.length_take,List.length_map] at *);omega) (by have q_:=QW ‹_›;have q1_:=congrArg List.length hxc;have q2_:=congrArg List.length hxw;have q3_:=Wc (fun l:JS=>decide (l.due=n.now+1)) n.way i;have q4_:=Wc (fun l:JS=>!decide (l.due=n.now+1)) n.way i;(try simp only [Kh,List.length_append,List.length_cons,List.length_nil,List.length_take,List.length_map] at *);omega) (fun a6 c6 r2 hr2=>Ja [0] [(7,Sl a6 ((xc++[x1]).length) c6)] (Jd (JM (Jb (Jc (Ja [0,0] [(28,I (IntKind.i64.wrap ((i:Int)+1)))] (Kw 28 ((i:Int)+1) J7 (Jd (QT [rw,r2,[],[Sg b3 0 [I (n.now+1),Sl aw xw.length cw]],[Sg b2 0 [I 0,Sl none 0 0]],[Sg b1 0 [I n.now,Sl a1 n.way.length c1]]] (Qr (i+1,a6,c6,r2,xc++[x1],aw,cw,rw,xw,g) ⟨(Jp.le_trans hle (Jp.le_refl _)),J7,hr2,(by rw [hxc];exact Jeu hx1 (by simp_all)),hrw,(by rw [hxw];exact Jev hx1 (by simp_all))⟩ (by (try dsimp only);omega))))))))))))))
 exact Jc (Ja [0,10,2] [(42,Sl aw xw.length cw),(43,(QZ x1 a3 c3 a4 c4 a5 c5))] (Kq 44 1 #[I x1.to_,I x1.from_,I x1.since,I x1.due,Sl a3 x1.heads.length c3,I x1.reply.head.epoch,U x1.reply.head.root,U x1.reply.head.prev,I x1.reply.head.at_,Sr x1.reply.proof.name,Sl a4 x1.reply.proof.entries.length c4,Sl a5 x1.reply.proof.sides.length c5] 51 (fun b7=>Qv (b:=b7) (cs:=(Kp x1 a3 c3 a4 c4 a5 c5)) 45 51 2 0 (E:=Kh) x1 hrw ⟨a3,c3,a4,c4,a5,c5,rfl,w2,w3,w4,w5,hs3,w6,w7,w8,w9,w10,hs4,hs5⟩ (by have q_:=QW ‹_›;have q1_:=congrArg List.length hxc;have q2_:=congrArg List.length hxw;have q3_:=Wc (fun l:JS=>decide (l.due=n.now+1)) n.way i;have q4_:=Wc (fun l:JS=>!decide (l.due=n.now+1)) n.way i;(try simp only [Kh,List.length_append,List.length_cons,List.length_nil,List.length_take,List.length_map] at *);omega) (by have q_:=QW ‹_›;have q1_:=congrArg List.length hxc;have q2_:=congrArg List.length hxw;have q3_:=Wc (fun l:JS=>decide (l.due=n.now+1)) n.way i;have q4_:=Wc (fun l:JS=>!decide (l.due=n.now+1)) n.way i;(try simp only [Kh,List.length_append,List.length_cons,List.length_nil,List.length_take,List.length_map] at *);omega) (fun a7 c7 r3 hr3=>JV [0,13] [] [[Sg b7 0 (Kp x1 a3 c3 a4 c4 a5 c5)],[Sg b5 0 (Kp x1 a3 c3 a4 c4 a5 c5)],r3,rc,[],[Sg b3 0 [I (n.now+1),Sl a7 ((xw++[x1]).length) c7]],[Sg b2 0 [I 0,Sl none 0 0]],[Sg b1 0 [I n.now,Sl a1 n.way.length c1]]] (Jd (JM (Jb (Jc (Ja [0,0] [(28,I (IntKind.i64.wrap ((i:Int)+1)))] (Kw 28 ((i:Int)+1) J7 (Jd (QT [r3,rc,[],[Sg b3 0 [I (n.now+1),Sl a7 ((xw++[x1]).length) c7]],[Sg b2 0 [I 0,Sl none 0 0]],[Sg b1 0 [I n.now,Sl a1 n.way.length c1]]] (Qr (i+1,ac,cc,rc,xc,a7,c7,r3,xw++[x1],g) ⟨(Jp.le_trans hle (Jp.le_refl _)),J7,hrc,(by rw [hxc];exact Jev hx1 (by simp_all)),hr3,(by rw [hxw];exact Jeu hx1 (by simp_all))⟩ (by (try dsimp only);omega))))))))))))))
 refine KW (JZ (J8 (JR (Jb (Qx [8,0,11,0,0] [(3,Sl ac xc.length cc),(4,I 0)] [rw,rc,[],[Sg b3 0 [I (n.now+1),Sl aw xw.length cw]],[Sg b2 0 [I (n.now+1),Sl aw xw.length cw]],[Sg b1 0 [I n.now,Sl a1 n.way.length c1]]] (Jl (WA (E:=Kh) 0 hrw (by have q_:=QW ‹_›;have q1_:=congrArg List.length hxc;have q2_:=congrArg List.length hxw;have q3_:=Wc (fun l:JS=>decide (l.due=n.now+1)) n.way i;have q4_:=Wc (fun l:JS=>!decide (l.due=n.now+1)) n.way i;(try simp only [Kh,List.length_append,List.length_cons,List.length_nil,List.length_take,List.length_map] at *);omega) (fun G3 hl3 hs6=>WA (E:=Kh) 1 (hrc.mono hl3) (by have q_:=QW ‹_›;have q1_:=congrArg List.length hxc;have q2_:=congrArg List.length hxw;have q3_:=Wc (fun l:JS=>decide (l.due=n.now+1)) n.way i;have q4_:=Wc (fun l:JS=>!decide (l.due=n.now+1)) n.way i;(try simp only [Kh,List.length_append,List.length_cons,List.length_nil,List.length_take,List.length_map] at *);omega) (fun G4 hl4 hs7=>?_)))))))))
 have hf3:Kl n=((⟨n.now+1,xw⟩:YR),xc,0):=by
  unfold Kl JbK;(rw [if_neg (by omega),if_neg (by omega),hxw,hxc,List.take_of_length_le (by omega)])
 refine Jm [4,0,0] [.agg #[I (n.now+1),Sl aw xw.length cw],Sl ac xc.length cc,I 0] (Jy [] (Jp.le_trans (Jp.le_trans (Jp.le_trans (Jp.le_trans hl1 hl2) hle) hl3) hl4) ?_)
 rw [hf3]
 try dsimp only
 exact ⟨aw,cw,ac,cc,rfl,(by (have q_:=QW ‹_›;omega)),(hs6.mono hl4),hs7,rfl⟩
structure JL where
 town:Wf
 reach:Int
 fates:List (List Int)
 events:List Jae
deriving DecidableEq
def W8 (t:JL) (k:Int):Bool:=decide (k ≥ 0) && decide (k<t.town.owners.length)
abbrev Q6 (t:JL) (kind who n a:Int):JL:=⟨t.town,t.reach,t.fates,t.events++[⟨kind,who,n,a⟩]⟩
def Jlq (t:JL):List Int:=if t.fates.length > 0 then t.fates[0]?.getD [] else [1]
def Wi (t:JL) (l:JS):JL:=⟨⟨t.town.clerk,t.town.owners,t.town.polls,if (Kr t.town.net l (Jlq t)).2=0 then (Kr t.town.net l (Jlq t)).1 else t.town.net⟩,t.reach,t.fates.drop 1,t.events⟩
theorem Joi {t:JL} (h:¬ 0<t.fates.length) (l:JS):Wi t l=⟨⟨t.town.clerk,t.town.owners,t.town.polls,if (Kr t.town.net l [1]).2=0 then (Kr t.town.net l [1]).1 else t.town.net⟩,t.reach,t.fates,t.events⟩:=by
 have h0:t.fates=[]:=List.eq_nil_of_length_eq_zero (by omega)
 unfold Wi Jlq
 rw [h0];rfl
theorem Joj {t:JL} (h:0<t.fates.length) {f:List Int} (hf:t.fates[0]? = some f) (l:JS):Wi t l=⟨⟨t.town.clerk,t.town.owners,t.town.polls,if (Kr t.town.net l f).2=0 then (Kr t.town.net l f).1 else t.town.net⟩,t.reach,t.fates.drop 1,t.events⟩:=by
 unfold Wi Jlq
 rw [if_pos h,hf];rfl
def Js (t:JL) (k:Int):K2:=t.town.owners[k.toNat]?.getD Vy
def QL (t:JL) (k:Int):Wa:=t.town.polls[k.toNat]?.getD Vt
theorem YI {t:JL} {n:Nat} (h:n<t.town.owners.length):t.town.owners[n]? = some (Js t (n:Int)):=by unfold Js;rw [Int.toNat_natCast,List.getElem?_eq_getElem h];rfl
theorem JfO {t:JL} {n:Nat} (h:n<t.town.polls.length):t.town.polls[n]? = some (QL t (n:Int)):=by unfold QL;rw [Int.toNat_natCast,List.getElem?_eq_getElem h];rfl
def Wg (t:JL) (d:Qc):JL :=
 if W8 t d.who=false then t
 else if ¬ (JO (Js t d.who) d.value).2.2=0∨Z2 (JO (Js t d.who) d.value).1.key (JO (Js t d.who) d.value).2.1=false then t
 else if ¬ (Kv t.town.clerk (JO (Js t d.who) d.value).2.1).2.2=0 then t
 else ⟨⟨(Kv t.town.clerk (JO (Js t d.who) d.value).2.1).1,t.town.owners.set d.who.toNat (JO (Js t d.who) d.value).1,t.town.polls,t.town.net⟩,t.reach,t.fates,t.events++[⟨1,d.who,(Js t d.who).wanted.length,(Kv t.town.clerk (JO (Js t d.who) d.value).2.1).2.1⟩]⟩
theorem tWant0 {t:JL} {d:Qc} (h:W8 t d.who=false):Wg t d=t:=by unfold Wg;rw [if_pos h]
theorem tWant1 {t:JL} {d:Qc} {k:Int} (hk:d.who=k) (h0:W8 t d.who=true) (h:¬ (JO (Js t k) d.value).2.2=0):Wg t d=t:=by
 subst hk;unfold Wg;rw [if_neg (by rw [h0];simp),if_pos (.inl h)]
theorem tWant2 {t:JL} {d:Qc} {k:Int} (hk:d.who=k) (h0:W8 t d.who=true) (h:Z2 (JO (Js t k) d.value).1.key (JO (Js t k) d.value).2.1=false):Wg t d=t:=by
 subst hk;unfold Wg;rw [if_neg (by rw [h0];simp),if_pos (.inr h)]
theorem tWant3 {t:JL} {d:Qc} {k:Int} (hk:d.who=k) (h0:W8 t d.who=true) (h:¬ (Kv t.town.clerk (JO (Js t k) d.value).2.1).2.2=0):Wg t d=t:=by
 subst hk;unfold Wg;rw [if_neg (by rw [h0];simp)]
 split
 · rfl
 · rfl
theorem tWant4 {t:JL} {d:Qc} {k:Int} {n:Nat} (hk:d.who=k) (hn:k=(n:Int)) (h0:W8 t d.who=true) (h1:(JO (Js t k) d.value).2.2=0) (h2:Z2 (JO (Js t k) d.value).1.key (JO (Js t k) d.value).2.1=true) (h3:(Kv t.town.clerk (JO (Js t k) d.value).2.1).2.2=0) :
  Wg t d=Q6 ⟨⟨(Kv t.town.clerk (JO (Js t k) d.value).2.1).1,t.town.owners.set n (JO (Js t k) d.value).1,t.town.polls,t.town.net⟩,t.reach,t.fates,t.events⟩ 1 k (Js t k).wanted.length (Kv t.town.clerk (JO (Js t k) d.value).2.1).2.1:=by
 subst hk;unfold Wg
 rw [if_neg (by rw [h0];simp),if_neg (by rw [h2];simp [h1]),if_neg (by simpa using h3)]
 unfold Q6;rw [show d.who.toNat=n by omega]
def ZV (t:JL) (l:JS):JL:=⟨⟨t.town.clerk,t.town.owners.set l.to_.toNat (Ju (Js t l.to_) l.heads l.reply).1,if (Ju (Js t l.to_) l.heads l.reply).2.1=0∨(Ju (Js t l.to_) l.heads l.reply).2.1=1 then t.town.polls.set l.to_.toNat (Q7 (QL t l.to_) t.town.clerk.now).1 else t.town.polls,t.town.net⟩,t.reach,t.fates,t.events++[⟨2,l.to_,(Ju (Js t l.to_) l.heads l.reply).2.1,(Ju (Js t l.to_) l.heads l.reply).1.head.epoch⟩]⟩
def minI (a b:Int):Int:=if b<a then b else a
def maxI (a b:Int):Int:=if b > a then b else a
def WN (t:JL):Int:=(t.town.clerk.heads.length:Int)-1
def WH (t:JL) (l:JS):Int:=maxI (minI l.since (WN t)) 0
def Vc (t:JL) (l:JS):Int:=minI (WH t l+t.reach-1) (WN t)
def Qi (t:JL) (l:JS):JL:=if W8 t l.from_=false then t else Wi t ⟨l.from_,0,0,0,(Zz t.town.clerk (WH t l) (Vc t l)).1,(JJ t.town.clerk (Js t l.from_).name (Vc t l)).1⟩
def JaZ (t:JL) (k:Int):JL:=Wi ⟨⟨t.town.clerk,t.town.owners,t.town.polls.set k.toNat (KG (QL t k) t.town.clerk.now).1,t.town.net⟩,t.reach,t.fates,t.events⟩ ⟨-1,k,(Js t k).head.epoch+1,0,[],Jd1⟩
def Zw (t:JL) (k:Int):JL :=
 if ¬ (KG (QL t k) t.town.clerk.now).2=0 then t
 else if JaY (KG (QL t k) t.town.clerk.now).1=true∧JaY (QL t k)=false then Q6 (JaZ t k) 3 k 0 t.town.clerk.now else JaZ t k
def Y7 (t:JL):JL:=⟨⟨(KT t.town.clerk).1,t.town.owners,t.town.polls,(Kl t.town.net).1⟩,t.reach,t.fates,t.events⟩
def Yw (t:JL) (l:JS):JL:=if l.to_<0 then Qi t l else ZV t l
def Zg (t:JL) (l:List JS):JL:=l.foldl Yw t
def JbL (t:JL) (n:Nat):JL:=(List.range n).foldl (fun t (k:Nat)=>Zw t (k:Int)) t
def Wz (t:JL):JL:=if (KT t.town.clerk).1.now=t.town.clerk.now then t else JbL (Zg (Y7 t) (Kl t.town.net).2.1) (Zg (Y7 t) (Kl t.town.net).2.1).town.owners.length
def Ji9 (l:JS) (k:Int):JS:=⟨k,l.from_,l.since,l.due,l.heads,l.reply⟩
def Jgn (t:JL) (d:Qc):JL:=if W8 t d.who=false then t else ⟨⟨t.town.clerk,t.town.owners,t.town.polls,if (Kr t.town.net (Ji9 d.letter d.who) [1]).2=0 then (Kr t.town.net (Ji9 d.letter d.who) [1]).1 else t.town.net⟩,t.reach,t.fates,t.events⟩
def YS (t:JL) (d:Qc):JL:=if d.kind=1 then Wg t d else if d.kind=2 then ⟨t.town,t.reach,t.fates++[d.fates],t.events⟩ else if d.kind=3 then Jgn t d else if d.kind=4 then Wz t else t
structure Yg (t u:JL) (k:Nat):Prop where
 ev:∃ m,u.events=t.events++m∧m.length≤k
 own:u.town.owners.length=t.town.owners.length
 polls:u.town.polls.length=t.town.polls.length
 reach:u.reach=t.reach
theorem Yg.refl (t:JL) (k:Nat):Yg t t k:=⟨⟨[],by simp,by simp⟩,rfl,rfl,rfl⟩
theorem Yg.trans {t u v:JL} {j k:Nat} (h:Yg t u j) (h2:Yg u v k):Yg t v (j+k):=by
 obtain ⟨m,e,l⟩:=h.ev;obtain ⟨n,e2,l2⟩:=h2.ev
 exact ⟨⟨m++n,by rw [e2,e,List.append_assoc],by simp;omega⟩,h2.own.trans h.own,h2.polls.trans h.polls,h2.reach.trans h.reach⟩
theorem Yg.mono {t u:JL} {j k:Nat} (h:Yg t u j) (hk:j≤k):Yg t u k:=by
 obtain ⟨m,e,l⟩:=h.ev
 exact ⟨⟨m,e,Nat.le_trans l hk⟩,h.own,h.polls,h.reach⟩
theorem Yg.len {t u:JL} {k:Nat} (h:Yg t u k):u.events.length≤t.events.length+k∧t.events.length≤u.events.length:=by
 obtain ⟨m,e,l⟩:=h.ev;rw [e];simp;omega
theorem g_send (t:JL) (l:JS):Yg t (Wi t l) 0:=⟨⟨[],by simp [Wi],by simp⟩,rfl,rfl,rfl⟩
theorem g_want (t:JL) (d:Qc):Yg t (Wg t d) 1:=by
 unfold Wg
 split
 · exact Yg.refl t 1
 split
 · exact Yg.refl t 1
 split
 · exact Yg.refl t 1
 · exact ⟨⟨_,rfl,by simp⟩,by simp,rfl,rfl⟩
theorem Jok (t:JL) (l:JS):Yg t (Qi t l) 0:=by
 unfold Qi
 split
 · exact Yg.refl t 0
 · exact g_send t _
theorem g_see (t:JL) (l:JS):Yg t (ZV t l) 1:=by
 refine ⟨⟨_,rfl,by simp⟩,by simp [ZV],?_,rfl⟩
 unfold ZV;simp only
 split <;> simp
theorem Jol (t:JL) (k:Int):Yg t (JaZ t k) 0:=⟨⟨[],by simp [JaZ,Wi],by simp⟩,rfl,by simp [JaZ,Wi],rfl⟩
theorem g_ask (t:JL) (k:Int):Yg t (Zw t k) 1:=by
 unfold Zw
 split
 · exact Yg.refl t 1
 split
 · refine (Jol t k).trans (k:=1) ⟨⟨_,rfl,by simp⟩,rfl,rfl,rfl⟩
 · exact (Jol t k).mono (by omega)
theorem Jja (t:JL) (l:JS):Yg t (Yw t l) 1:=by
 unfold Yw
 split
 · exact (Jok t l).mono (by omega)
 · exact g_see t l
theorem Jd3:∀ (l:List JS) (t:JL),Yg t (Zg t l) l.length
 | [],t=>Yg.refl t 0
 | x::l,t=>by
  have:=(Jja t x).trans (Jd3 l (Yw t x))
  exact this.mono (by simp;omega)
theorem Jgo (t:JL) (l:List JS) (x:JS):Zg t (l++[x])=Yw (Zg t l) x:=by simp [Zg,List.foldl_append]
theorem Jcp {t:JL} {l:List JS} {i:Nat} {x:JS} (h:l[i]? = some x):Yw (Zg t (l.take i)) x=Zg t (l.take (i+1)):=by
 rw [List.take_add_one,h,← Jgo];rfl
theorem Jar (t:JL) (n:Nat):Zw (JbL t n) (n:Int)=JbL t (n+1):=by simp [JbL,List.range_succ,List.foldl_append]
theorem Jkv (t:JL):∀ n,Yg t (JbL t n) n
 | 0=>Yg.refl t 0
 | n+1=>by rw [← Jar];exact (Jkv t n).trans (g_ask _ _)
theorem Jjb (n:YR):(Kl n).2.1.length≤60:=by
 unfold Kl
 split
 · simp
 split
 · simp
 ·
  rename_i h1 h2
  have:=QW (Decidable.not_not.1 h1)
  have h3:=List.length_filter_le (fun l:JS=>decide (l.due=n.now+1)) n.way
  simp only;omega
theorem g_tick {t:JL} (h:t.town.owners.length≤4):Yg t (Wz t) 64:=by
 unfold Wz
 split
 · exact Yg.refl t 64
 ·
  have h1:Yg t (Y7 t) 0:=⟨⟨[],by simp [Y7],by simp⟩,rfl,rfl,rfl⟩
  have h2:=h1.trans (Jd3 (Kl t.town.net).2.1 (Y7 t))
  have h3:=h2.trans (Jkv (Zg (Y7 t) (Kl t.town.net).2.1) (Zg (Y7 t) (Kl t.town.net).2.1).town.owners.length)
  have h4:=Jjb t.town.net
  exact h3.mono (by rw [h2.own];omega)
theorem g_say (t:JL) (d:Qc):Yg t (Jgn t d) 0:=by
 unfold Jgn
 split
 · exact Yg.refl t 0
 · exact ⟨⟨[],by simp,by simp⟩,rfl,rfl,rfl⟩
theorem g_do {t:JL} (h:t.town.owners.length≤4) (d:Qc):Yg t (YS t d) 64:=by
 unfold YS
 split
 · exact (g_want t d).mono (by omega)
 split
 · exact ⟨⟨[],by simp,by simp⟩,rfl,rfl,rfl⟩
 split
 · exact (g_say t d).mono (by omega)
 split
 · exact g_tick h
 · exact Yg.refl t 64
def WM (t:JL):Prop:=∀ l∈t.town.net.way,l.to_<t.town.owners.length
theorem Jex {n:YR} {l x:JS} {f:List Int} (hk:(Kr n l f).2=0) (h:x∈(Kr n l f).1.way):x∈n.way∨x.to_=l.to_:=by
 unfold Kr at hk h
 split at h
 · simp [JbK] at h
 split at h
 · simp [JbK] at h
 split at h
 · simp [JbK] at h
 ·
  simp only [List.mem_append,List.mem_map] at h
  rcases h with h | ⟨k,_,rfl⟩
  · exact .inl h
  · exact .inr rfl
theorem Jjc {n:YR} {x:JS} (h:x∈(Kl n).1.way):x∈n.way:=by
 unfold Kl at h
 split at h
 · simp [JbK] at h
 split at h
 · simp [JbK] at h
 · exact (List.mem_filter.1 h).1
theorem JfP {n:YR} {x:JS} (h:x∈(Kl n).2.1):x∈n.way:=by
 unfold Kl at h
 split at h
 · simp at h
 split at h
 · simp at h
 · exact (List.mem_filter.1 h).1
theorem Jom {t:JL} {l:JS} (h:WM t) (hl:l.to_<t.town.owners.length):WM (Wi t l):=by
 intro x hx
 unfold Wi at hx ⊢
 simp only at hx ⊢
 split at hx
 ·
  rename_i hk
  rcases Jex hk hx with h2 | h2
  · exact h x h2
  · omega
 · exact h x hx
theorem Jas {t:JL} {k:Int}:W8 t k=true ↔ 0≤k∧k<t.town.owners.length:=by unfold W8;simp
theorem w_want {t:JL} (h:WM t) (d:Qc):WM (Wg t d):=by
 unfold Wg
 split
 · exact h
 split
 · exact h
 split
 · exact h
 · intro x hx;have:=h x hx;simpa using this
theorem Jon {t:JL} (h:WM t) (l:JS):WM (Qi t l):=by
 unfold Qi
 split
 · exact h
 ·
  rename_i h1
  exact Jom h (Jas.1 (by simpa using h1)).2
theorem w_see {t:JL} (h:WM t) (l:JS):WM (ZV t l):=by
 intro x hx;have:=h x hx;simpa [ZV] using this
theorem Joo {t:JL} (h:WM t) (k:Int):WM (JaZ t k):=by
 unfold JaZ
 exact Jom (t:=⟨⟨t.town.clerk,t.town.owners,t.town.polls.set k.toNat (KG (QL t k) t.town.clerk.now).1,t.town.net⟩,t.reach,t.fates,t.events⟩) h (by simp only;omega)
theorem w_ask {t:JL} (h:WM t) (k:Int):WM (Zw t k):=by
 unfold Zw
 split
 · exact h
 split
 · exact Joo h k
 · exact Joo h k
theorem Jop {t:JL} (h:WM t) (l:JS):WM (Yw t l):=by
 unfold Yw
 split
 · exact Jon h l
 · exact w_see h l
theorem Jd4:∀ (l:List JS) {t:JL},WM t→WM (Zg t l)
 | [],_,h=>h
 | x::l,t,h=>Jd4 l (Jop h x)
theorem Jkw {t:JL} (h:WM t):∀ n,WM (JbL t n)
 | 0=>h
 | n+1=>by rw [← Jar];exact w_ask (Jkw h n) _
theorem Jlr {t:JL} (h:WM t):WM (Y7 t):=fun x hx=>h x (Jjc hx)
theorem w_tick {t:JL} (h:WM t):WM (Wz t):=by
 unfold Wz
 split
 · exact h
 · exact Jkw (Jd4 _ (Jlr h)) _
theorem w_say {t:JL} (h:WM t) (d:Qc):WM (Jgn t d):=by
 unfold Jgn
 split
 · exact h
 ·
  rename_i h1
  have h2:=(Jas.1 (by simpa using h1:W8 t d.who=true)).2
  intro x hx
  simp only at hx ⊢
  split at hx
  ·
   rename_i hk
   rcases Jex hk hx with h3 | h3
   · exact h x h3
   · rw [h3];exact h2
  · exact h x hx
theorem w_do {t:JL} (h:WM t) (d:Qc):WM (YS t d):=by
 unfold YS
 split
 · exact w_want h d
 split
 · exact h
 split
 · exact w_say h d
 split
 · exact w_tick h
 · exact h
def Jbl (t:JL) (l:List Qc):JL:=l.foldl YS t
theorem JmG {t:JL} {l:List Qc} {i:Nat} {d:Qc} (h:l[i]? = some d):YS (Jbl t (l.take i)) d=Jbl t (l.take (i+1)):=by
 unfold Jbl;rw [List.take_add_one,h];simp [List.foldl_append]
theorem Joq:∀ (l:List Qc) {t:JL},t.town.owners.length≤4→Yg t (Jbl t l) (64*l.length)
 | [],t,_=>Yg.refl t 0
 | d::l,t,h=>by
  have h1:=g_do h d
  have h2:=Joq l (t:=YS t d) (by rw [h1.own];exact h)
  exact (h1.trans h2).mono (by simp;omega)
def nmE:List (List UInt8)→List (List UInt8)→Int
 | _,[]=>0
 | p,n::l=>if KN n=false∨(p.any fun x=>decide (n=x))=true then 3 else nmE (p++[n]) l
def ZN (s:KC) (h:JQ):List K2:=(s.names.zip s.keys).map fun x=>(Kf x.1 x.2 h).1
def QM (s:KC):Int:=if ¬ (J4 s.most s.batch s.every).2=0 then (J4 s.most s.batch s.every).2 else if s.names.length > 4 then 2 else if ¬ s.keys.length=s.names.length then 3 else if ¬ nmE [] s.names=0 then nmE [] s.names else if ¬ (KM s.least s.top s.lost).2=0 then (KM s.least s.top s.lost).2 else if s.reach<1∨s.reach > 40 then 4 else 0
def QH (s:KC):JL:=⟨⟨(J4 s.most s.batch s.every).1,ZN s (WO (J4 s.most s.batch s.every).1.heads),List.replicate (ZN s (WO (J4 s.most s.batch s.every).1.heads)).length (KM s.least s.top s.lost).1,⟨0,[]⟩⟩,s.reach,[],[]⟩
def Jbs (s:KC) (l:List Qc):Int:=if ¬ QM s=0 then QM s else if l.length > 200 then 2 else 0
def Jls:Wf:=⟨ZU,[],[],⟨0,[]⟩⟩
def JB (s:KC) (l:List Qc):Wf×List Jae×Int:=if ¬ Jbs s l=0 then (Jls,[],Jbs s l) else ((Jbl (QH s) l).town,(Jbl (QH s) l).events,0)
theorem V3 {s:KC} (h:QM s=0):s.names.length≤4∧s.keys.length=s.names.length∧nmE [] s.names=0∧(J4 s.most s.batch s.every).2=0∧(KM s.least s.top s.lost).2=0∧1≤s.reach∧s.reach≤40:=by
 unfold QM at h
 split at h
 · contradiction
 split at h
 · cases h
 split at h
 · cases h
 split at h
 · contradiction
 split at h
 · contradiction
 split at h
 · cases h
 ·
  rename_i h1 h2 h3 h4 h5 h6
  exact ⟨by omega,Decidable.not_not.1 h3,Decidable.not_not.1 h4,Decidable.not_not.1 h1,Decidable.not_not.1 h5,by omega,by omega⟩
theorem Jdr {s:KC} (h:QM s=0) (x:JQ):(ZN s x).length=s.names.length:=by
 have:=V3 h
 unfold ZN;rw [List.length_map,List.length_zip];omega
theorem JhN {s:KC} {l:List Qc} (h:(JB s l).2.2=0):QM s=0∧l.length≤200∧JB s l=((Jbl (QH s) l).town,(Jbl (QH s) l).events,0):=by
 unfold JB at h ⊢
 split at h
 · contradiction
 ·
  rename_i h1
  rw [if_neg h1]
  have h2:=Decidable.not_not.1 h1
  unfold Jbs at h2
  split at h2
  · contradiction
  split at h2
  · cases h2
  · rename_i a b;exact ⟨Decidable.not_not.1 a,by omega,rfl⟩
theorem Jor {s:KC} {l:List Qc} (h:¬ (JB s l).2.2=0):JB s l=(Jls,[],Jbs s l):=by
 unfold JB at h ⊢
 split
 · rfl
 · rename_i h1;rw [if_neg h1] at h;exact absurd rfl h
structure ZB (s:KC) (t:JL):Prop where
 clerk:Zh t.town.clerk
 net:Qf t.town.net=0
 now:t.town.net.now=t.town.clerk.now
 own:∀ (i:Nat) o,t.town.owners[i]? = some o→Ka o=0∧s.names[i]? = some o.name∧s.keys[i]? = some o.key
 poll:∀ (i:Nat) p,t.town.polls[i]? = some p→KB p=0
theorem Jlt {n:YR} (h:Qf n=0):∀ l∈n.way,n.now<l.due:=by
 unfold Qf at h
 split at h
 · cases h
 split at h
 · cases h
 split at h
 · cases h
 ·
  rename_i h3
  intro l hl
  have:¬ JeH l n=true:=fun e=>h3 (List.any_eq_true.2 ⟨l,hl,e⟩)
  unfold JeH at this
  simp at this;omega
theorem Jkx {n:YR} (h1:0≤n.now) (h2:n.now≤1000000000) (h3:n.way.length≤60) (h4:∀ l∈n.way,n.now<l.due):Qf n=0:=by
 unfold Qf
 rw [if_neg (by omega),if_neg (by omega),if_neg]
 rw [List.any_eq_true]
 rintro ⟨l,hl,e⟩
 have:=h4 l hl
 unfold JeH at e
 simp at e;omega
theorem VD {n:YR} {l:JS} {f:List Int} (h:(Kr n l f).2=0):Qf (Kr n l f).1=0∧(Kr n l f).1.now=n.now:=by
 unfold Kr at h ⊢
 split at h
 · contradiction
 split at h
 · cases h
 split at h
 · cases h
 ·
  rename_i h1 h2 h3
  rw [if_neg h1,if_neg h2,if_neg h3]
  have hc:=QW (Decidable.not_not.1 h1)
  have ha:=Jlt (Decidable.not_not.1 h1)
  refine ⟨Jkx (by simp only;omega) (by simp only;omega) (by simp only [List.length_append,List.length_map];omega) (fun x hx=>?_),rfl⟩
  simp only [List.mem_append,List.mem_map] at hx
  rcases hx with hx | ⟨k,hk,rfl⟩
  · exact ha x hx
  ·
   have:¬ Vq k=true:=fun e=>h2 (List.any_eq_true.2 ⟨k,hk,e⟩)
   unfold Vq at this
   simp at this
   show n.now<n.now+k
   omega
theorem Jcq {n:YR} (h:Qf n=0) (hn:¬ n.now=1000000000):Qf (Kl n).1=0∧(Kl n).1.now=n.now+1:=by
 have hc:=QW h
 have ha:=Jlt h
 unfold Kl
 rw [if_neg (by omega),if_neg hn]
 refine ⟨Jkx (by simp only;omega) (by simp only;omega) ?_ (fun x hx=>?_),rfl⟩
 ·
  have:=List.length_filter_le (fun l:JS=>!decide (l.due=n.now+1)) n.way
  simp only;omega
 ·
  have hx':=List.mem_filter.1 hx
  have h1:=ha x hx'.1
  have h2:¬ x.due=n.now+1:=by simpa using hx'.2
  simp only;omega
theorem JeZ {α:Type} {l:List α} {k i:Nat} {v x:α} (h:(l.set k v)[i]? = some x):(k=i∧x=v∧k<l.length)∨(k ≠ i∧l[i]? = some x):=by
 by_cases e:k=i
 ·
  subst e
  have hl:=(List.getElem?_eq_some_iff.1 h).1
  rw [List.length_set] at hl
  rw [List.getElem?_set_self hl] at h
  exact .inl ⟨rfl,(Option.some.inj h).symm,hl⟩
 · rw [List.getElem?_set_ne e] at h;exact .inr ⟨e,h⟩
theorem Jey {t:JL} {k:Int} (h:k.toNat<t.town.owners.length):t.town.owners[k.toNat]? = some (Js t k):=by unfold Js;rw [List.getElem?_eq_getElem h];rfl
theorem Jky {t:JL} {k:Int} (h:k.toNat<t.town.polls.length):t.town.polls[k.toNat]? = some (QL t k):=by unfold QL;rw [List.getElem?_eq_getElem h];rfl
theorem Jos {s:KC} {t:JL} (h:ZB s t) (l:JS):ZB s (Wi t l):=by
 refine ⟨h.clerk,?_,?_,h.own,h.poll⟩ <;> (unfold Wi;simp only;split)
 · rename_i hk;exact (VD hk).1
 · exact h.net
 · rename_i hk;rw [(VD hk).2];exact h.now
 · exact h.now
theorem i_want {s:KC} {t:JL} (h:ZB s t) (d:Qc):ZB s (Wg t d):=by
 unfold Wg
 split
 · exact h
 rename_i h0
 split
 · exact h
 split
 · exact h
 ·
  rename_i h1 h2
  simp only [not_or,Bool.not_eq_false] at h1
  have hw:=Decidable.not_not.1 h1.1
  have ha:=Decidable.not_not.1 h2
  have hd:=Jas.1 (by simpa using h0:W8 t d.who=true)
  obtain ⟨w1,w2,w3,w4,w5⟩:=JhC hw
  have hnow:(Kv t.town.clerk (JO (Js t d.who) d.value).2.1).1.now=t.town.clerk.now:=by rw [(Jeq ha).2.2.2.2]
  refine ⟨JfJ ha,h.net,by simp only;rw [hnow];exact h.now,fun i o ho=>?_,h.poll⟩
  rcases JeZ ho with ⟨rfl,rfl,_⟩ | ⟨_,ho⟩
  ·
   obtain ⟨q1,q2,q3⟩:=h.own _ _ (Jey (k:=d.who) (by omega))
   refine ⟨w5.1,?_,?_⟩ <;> rw [w4]
   · exact q2
   · exact q3
  · exact h.own i o ho
theorem JmH {o:K2} {l:List JQ} {r:QB} (h:Ka o=0):Ka (Ju o l r).1=0∧(Ju o l r).1.name=o.name∧(Ju o l r).1.key=o.key∧(Ju o l r).1.wanted=o.wanted:=by
 by_cases hv:(JY o l r).1=0
 ·
  have e:Ju o l r=(⟨o.name,o.key,r.head,o.wanted,(JY o l r).2⟩,0,0):=by unfold Ju;rw [if_neg (by omega),if_pos hv]
  have h1:(Ju o l r).2.2=0:=by rw [e]
  have h2:(Ju o l r).2.1=0:=by rw [e]
  exact ⟨(JiT h1 h2).2.2.2.2.1,by rw [e],by rw [e],by rw [e]⟩
 ·
  have e:Ju o l r=(o,(JY o l r).1,0):=by unfold Ju;rw [if_neg (by omega),if_neg hv]
  rw [e];exact ⟨h,rfl,rfl,rfl⟩
theorem Jez {p:Wa} {now:Int} (h:KB p=0) (h1:0≤now) (h2:now≤1000000000):KB (Q7 p now).1=0:=by
 have hp:=(Zu p).1 h
 have ha:KF p now=0:=(JcL p now).2 ⟨hp,h1,h2⟩
 unfold Q7
 rw [if_neg (by omega)]
 simp only
 rw [Zu]
 unfold Y6 at hp ⊢
 unfold K3
 simp only
 (repeat' split) <;> omega
theorem i_see {s:KC} {t:JL} (h:ZB s t) {l:JS} (h0:0≤l.to_) (h1:l.to_<t.town.owners.length):ZB s (ZV t l):=by
 refine ⟨h.clerk,h.net,h.now,fun i o ho=>?_,fun i p hp=>?_⟩
 ·
  rcases JeZ ho with ⟨rfl,rfl,_⟩ | ⟨_,ho⟩
  ·
   obtain ⟨q1,q2,q3⟩:=h.own _ _ (Jey (k:=l.to_) (by omega))
   obtain ⟨k1,k2,k3,_⟩:=JmH (l:=l.heads) (r:=l.reply) q1
   exact ⟨k1,by rw [k2];exact q2,by rw [k3];exact q3⟩
  · exact h.own i o ho
 ·
  unfold ZV at hp
  simp only at hp
  split at hp
  ·
   rcases JeZ hp with ⟨rfl,rfl,hl⟩ | ⟨_,hp⟩
   · exact Jez (h.poll _ _ (Jky hl)) h.clerk.now.1 h.clerk.now.2
   · exact h.poll i p hp
  · exact h.poll i p hp
theorem Jot {s:KC} {t:JL} (h:ZB s t) (l:JS):ZB s (Qi t l):=by
 unfold Qi
 split
 · exact h
 · exact Jos h _
theorem Jou {s:KC} {t:JL} (h:ZB s t) {l:JS} (h1:l.to_<t.town.owners.length):ZB s (Yw t l):=by
 unfold Yw
 split
 · exact Jot h l
 · exact i_see h (by omega) h1
theorem Jd5 {s:KC}:∀ (l:List JS) {t:JL},ZB s t→(∀ x∈l,x.to_<t.town.owners.length)→ZB s (Zg t l)
 | [],_,h,_=>h
 | x::l,t,h,hl=>Jd5 l (Jou h (hl x (by simp))) (fun y hy=>by rw [(Jja t x).own];exact hl y (by simp [hy]))
theorem i_sent {s:KC} {t:JL} (h:ZB s t) {k:Int} (hk:(KG (QL t k) t.town.clerk.now).2=0):ZB s (JaZ t k):=by
 unfold JaZ
 refine Jos (t:=⟨⟨t.town.clerk,t.town.owners,t.town.polls.set k.toNat (KG (QL t k) t.town.clerk.now).1,t.town.net⟩,t.reach,t.fates,t.events⟩) ⟨h.clerk,h.net,h.now,h.own,fun i p hp=>?_⟩ _
 rcases JeZ hp with ⟨rfl,rfl,_⟩ | ⟨_,hp⟩
 · have:=Jet hk;omega
 · exact h.poll i p hp
theorem i_ask {s:KC} {t:JL} (h:ZB s t) (k:Int):ZB s (Zw t k):=by
 unfold Zw
 split
 · exact h
 rename_i h1
 have h2:=i_sent h (Decidable.not_not.1 h1)
 split
 · exact ⟨h2.clerk,h2.net,h2.now,h2.own,h2.poll⟩
 · exact h2
theorem Jkz {s:KC} {t:JL} (h:ZB s t):∀ n,ZB s (JbL t n)
 | 0=>h
 | n+1=>by rw [← Jar];exact i_ask (Jkz h n) _
theorem i_tick {s:KC} {t:JL} (h:ZB s t) (hw:WM t):ZB s (Wz t):=by
 unfold Wz
 split
 · exact h
 ·
  rename_i h1
  obtain ⟨t0,tk⟩:=Jdn h.clerk
  have hn:Zi t.town.clerk=false∧(KT t.town.clerk).1.now=t.town.clerk.now+1:=by
   rcases Jcl h.clerk with q | q
   · exact absurd q.1 h1
   · exact q
  have hne:¬ t.town.net.now=1000000000:=by
   rw [h.now]
   have:=hn.1;unfold Zi at this
   simp only [Bool.or_eq_false_iff,decide_eq_false_iff_not] at this
   exact this.2
  obtain ⟨n1,n2⟩:=Jcq h.net hne
  have hT:ZB s (Y7 t):=⟨tk.ok,n1,by show (Kl t.town.net).1.now=(KT t.town.clerk).1.now;rw [n2,hn.2,h.now],h.own,h.poll⟩
  exact Jkz (Jd5 _ hT (fun x hx=>hw x (JfP hx))) _
theorem i_do {s:KC} {t:JL} (h:ZB s t) (hw:WM t) (d:Qc):ZB s (YS t d):=by
 unfold YS
 split
 · exact i_want h d
 split
 · exact ⟨h.clerk,h.net,h.now,h.own,h.poll⟩
 split
 ·
  unfold Jgn
  split
  · exact h
  ·
   refine ⟨h.clerk,?_,?_,h.own,h.poll⟩ <;> (simp only;split)
   · rename_i hk;exact (VD hk).1
   · exact h.net
   · rename_i hk;rw [(VD hk).2];exact h.now
   · exact h.now
 split
 · exact i_tick h hw
 · exact h
theorem i_dos {s:KC}:∀ (l:List Qc) {t:JL},ZB s t→WM t→ZB s (Jbl t l)
 | [],_,h,_=>h
 | d::l,_,h,hw=>i_dos l (i_do h hw d) (w_do hw d)
theorem JbM {m b e:Int} (h:(J4 m b e).2=0):Zh (J4 m b e).1∧(J4 m b e).1.now=0∧(J4 m b e).1.books=[[]]∧(J4 m b e).1.queue.wait=[]∧(J4 m b e).1.heads.length=1:=by
 unfold J4 at h ⊢
 split at h
 · cases h
 ·
  rename_i h1
  rw [if_neg h1]
  simp only [not_or,Bool.not_eq_false] at h1
  obtain ⟨a1,a2,a3⟩:=h1
  have b1:=Vz.1 a1;have b2:=Vz.1 a2;have b3:=Vz.1 a3
  have hT:Zn []:=⟨by simp,by simp,by simp⟩
  have hroot:=Jfw (q:=[]) hT (by simp) (by simp)
  have hb:=Jep (Kz [] []) []
  have hc:JI ⟨0,(JT [] []).1,0,0⟩=0:=by
   rw [hroot];unfold JI;simp only
   rw [if_neg (by omega),if_neg (by simp)]
  have hf:KY (JT [] []).1 0=(⟨0,(JT [] []).1,0,0⟩,0):=by unfold KY;rw [if_neg (by omega)]
  rw [hf]
  refine ⟨⟨Qd.2 ⟨by simp only;omega,by simp only;omega,by simp;omega,by simp⟩,b2,b3,⟨by simp,by simp⟩,⟨by simp,by simp,?_,?_⟩,rfl,rfl,by simp [WU],?_,?_⟩,rfl,rfl,rfl,rfl⟩
  · intro x hx;simp at hx;rw [hx];exact hc
  · intro k x y hx hy;have:=(List.getElem?_eq_some_iff.1 hy).1;simp at this
  ·
   intro k x hx
   have hk:k=0:=by have:=(List.getElem?_eq_some_iff.1 hx).1;simp at this;exact this
   subst hk
   simp at hx
   subst hx
   exact ⟨by rw [hroot],by simp⟩
  · simp [JaA,Wr,Qe,Q5,nn,dd]
theorem Jlu:∀ (l p:List (List UInt8)),nmE p l=0→(∀ n∈l,KN n=true)∧l.Nodup∧∀ n∈l,n ∉ p
 | [],_,_=>by simp
 | n::l,p,h=>by
  unfold nmE at h
  split at h
  · cases h
  ·
   rename_i h1
   simp only [not_or,Bool.not_eq_false] at h1
   obtain ⟨q1,q2,q3⟩:=Jlu l (p++[n]) h
   have hn:n ∉ p:=fun hp=>h1.2 (List.any_eq_true.2 ⟨n,hp,by simp⟩)
   refine ⟨fun x hx=>?_,List.nodup_cons.2 ⟨fun hx=>(q3 n hx) (by simp),q2⟩,fun x hx=>?_⟩
   ·
    rcases List.mem_cons.1 hx with rfl | hx
    · exact h1.1
    · exact q1 x hx
   ·
    rcases List.mem_cons.1 hx with rfl | hx
    · exact hn
    · exact fun hp=>q3 x hx (by simp [hp])
theorem JhO {s:KC} {h:JQ} {i:Nat} {o:K2} (hh:JI h=0) (hn:nmE [] s.names=0) (ho:(ZN s h)[i]? = some o):Ka o=0∧s.names[i]? = some o.name∧s.keys[i]? = some o.key∧o.head=h∧o.wanted=[]∧o.had=0:=by
 unfold ZN at ho
 rw [List.getElem?_map,Option.map_eq_some_iff] at ho
 obtain ⟨⟨n,k⟩,hz,rfl⟩:=ho
 rw [List.getElem?_zip_eq_some] at hz
 obtain ⟨z1,z2⟩:=hz
 have hp:=(Jlu _ _ hn).1 n (List.mem_of_getElem? z1)
 have hc:Ka ⟨n,k,h,[],0⟩=0:=K8.2 ⟨hp,hh,by simp,by simp,by simp,by simp⟩
 have e:Kf n k h=(⟨n,k,h,[],0⟩,0):=by unfold Kf;rw [if_neg (by omega)]
 simp only [e]
 exact ⟨hc,z1,z2,by simp⟩
theorem JbN {s:KC} (h:QM s=0):ZB s (QH s)∧WM (QH s)∧(QH s).town.owners.length=s.names.length∧(QH s).town.polls.length=s.names.length:=by
 obtain ⟨b1,b2,b3,b4,b5,b6,b7⟩:=V3 h
 obtain ⟨c1,c2,c3,c4,c5⟩:=JbM b4
 have hf:JI (WO (J4 s.most s.batch s.every).1.heads)=0:=c1.chain.ok _ (List.mem_of_getElem? c1.chain.first)
 refine ⟨⟨c1,?_,?_,?_,?_⟩,?_,Jdr h _,?_⟩
 · show Qf ⟨0,[]⟩=0;exact Jkx (by simp) (by simp) (by simp) (by simp)
 · show (0:Int)=(J4 s.most s.batch s.every).1.now;exact c2.symm
 ·
  intro i o ho
  obtain ⟨q1,q2,q3,_⟩:=JhO hf b3 ho
  exact ⟨q1,q2,q3⟩
 ·
  intro i p hp
  have:=List.mem_of_getElem? hp
  have:=(List.mem_replicate.1 this).2
  rw [this]
  obtain ⟨q1,q2⟩:=JfN b5
  rw [q2];exact Jbj q1
 · intro l hl;simp [QH] at hl
 · show (List.replicate _ _).length=_;rw [List.length_replicate];exact Jdr h _
theorem JgU {s:KC} {l:List Qc} (h:(JB s l).2.2=0):Kb (JB s l).1.clerk=0∧Qf (JB s l).1.net=0∧(JB s l).1.net.now=(JB s l).1.clerk.now∧(JB s l).1.owners.length=s.names.length∧(JB s l).1.polls.length=s.names.length∧s.keys.length=s.names.length ∧
  (∀ (i:Nat) o,(JB s l).1.owners[i]? = some o→Ka o=0∧s.names[i]? = some o.name∧s.keys[i]? = some o.key)∧∀ (i:Nat) p,(JB s l).1.polls[i]? = some p→KB p=0:=by
 obtain ⟨h1,h2,h3⟩:=JhN h
 obtain ⟨b1,b2,b3,b4⟩:=JbN h1
 have hi:=i_dos l b1 b2
 have hb:=V3 h1
 have hg:=Joq l (t:=QH s) (by rw [b3];exact hb.1)
 rw [h3]
 exact ⟨Z5.2 hi.clerk,hi.net,hi.now,hg.own.trans b3,hg.polls.trans b4,hb.2.1,hi.own,hi.poll⟩
abbrev J6 (x:JL) (a0:Option Addr) (c0:Nat) (a1:Option Addr) (c1:Nat) (a2:Option Addr) (c2:Nat) (a3:Option Addr) (c3:Nat) (a4:Option Addr) (c4:Nat) (a5:Option Addr) (c5:Nat) (a6:Option Addr) (c6:Nat) (a7:Option Addr) (c7:Nat):List Value:=[I x.town.clerk.queue.most,Sl a0 x.town.clerk.queue.wait.length c0,I x.town.clerk.batch,I x.town.clerk.every,I x.town.clerk.now,Sl a1 x.town.clerk.heads.length c1,Sl a2 x.town.clerk.books.length c2,Sl a3 x.town.owners.length c3,Sl a4 x.town.polls.length c4,I x.town.net.now,Sl a5 x.town.net.way.length c5,I x.reach,Sl a6 x.fates.length c6,Sl a7 x.events.length c7]
abbrev vTownT (x:JL) (a0:Option Addr) (c0:Nat) (a1:Option Addr) (c1:Nat) (a2:Option Addr) (c2:Nat) (a3:Option Addr) (c3:Nat) (a4:Option Addr) (c4:Nat) (a5:Option Addr) (c5:Nat) (a6:Option Addr) (c6:Nat) (a7:Option Addr) (c7:Nat):Value:=.agg #[I x.town.clerk.queue.most,Sl a0 x.town.clerk.queue.wait.length c0,I x.town.clerk.batch,I x.town.clerk.every,I x.town.clerk.now,Sl a1 x.town.clerk.heads.length c1,Sl a2 x.town.clerk.books.length c2,Sl a3 x.town.owners.length c3,Sl a4 x.town.polls.length c4,I x.town.net.now,Sl a5 x.town.net.way.length c5,I x.reach,Sl a6 x.fates.length c6,Sl a7 x.events.length c7]
theorem JbO (G:Jp) (b:Nat) (t:JL) (a_1:Option Addr) (c_1:Nat) (a_5:Option Addr) (c_5:Nat) (a_6:Option Addr) (c_6:Nat) (a_7:Option Addr) (c_7:Nat) (a_8:Option Addr) (c_8:Nat) (a_10:Option Addr) (c_10:Nat) (a_12:Option Addr) (c_12:Nat) (a_13:Option Addr) (c_13:Nat) (r_7:List Kg) (r_8:List Kg) (r_12:List Kg) (r_13:List Kg) (h_0:rI t.town.clerk.queue.most) (h_1:RS Q3 G a_1 c_1 t.town.clerk.queue.wait) (h_2:rI t.town.clerk.batch) (h_3:rI t.town.clerk.every) (h_4:rI t.town.clerk.now) (h_5:RS KA G a_5 c_5 t.town.clerk.heads) (h_6:RS Qs G a_6 c_6 t.town.clerk.books) (h_7:J0 Q1 G a_7 c_7 t.town.owners r_7) (h_8:J0 Wy G a_8 c_8 t.town.polls r_8) (h_9:rI t.town.net.now) (h_10:RS Kh G a_10 c_10 t.town.net.way) (h_11:rI t.reach) (h_12:J0 Vk G a_12 c_12 t.fates r_12) (h_13:J0 Wn G a_13 c_13 t.events r_13) (k:Int) :Jcf 62 #[Pt b 0,I k] G [[Sg b 0 [I t.town.clerk.queue.most,Sl a_1 t.town.clerk.queue.wait.length c_1,I t.town.clerk.batch,I t.town.clerk.every,I t.town.clerk.now,Sl a_5 t.town.clerk.heads.length c_5,Sl a_6 t.town.clerk.books.length c_6,Sl a_7 t.town.owners.length c_7,Sl a_8 t.town.polls.length c_8,I t.town.net.now,Sl a_10 t.town.net.way.length c_10,I t.reach,Sl a_12 t.fates.length c_12,Sl a_13 t.events.length c_13]],r_7,r_8,r_12,r_13] (fun u G' L'=>∃ (a_z1:Option Addr) (c_z1:Nat) (a_z5:Option Addr) (c_z5:Nat) (a_z6:Option Addr) (c_z6:Nat) (a_z7:Option Addr) (c_z7:Nat) (a_z8:Option Addr) (c_z8:Nat) (a_z10:Option Addr) (c_z10:Nat) (a_z12:Option Addr) (c_z12:Nat) (a_z13:Option Addr) (c_z13:Nat) (r_z7:List Kg) (r_z8:List Kg) (r_z12:List Kg) (r_z13:List Kg),u=Bo (W8 t k)∧(rI t.town.clerk.queue.most)∧(RS Q3 G' a_z1 c_z1 t.town.clerk.queue.wait)∧(rI t.town.clerk.batch)∧(rI t.town.clerk.every)∧(rI t.town.clerk.now)∧(RS KA G' a_z5 c_z5 t.town.clerk.heads)∧(RS Qs G' a_z6 c_z6 t.town.clerk.books)∧(J0 Q1 G' a_z7 c_z7 t.town.owners r_z7)∧(J0 Wy G' a_z8 c_z8 t.town.polls r_z8)∧(rI t.town.net.now)∧(RS Kh G' a_z10 c_z10 t.town.net.way)∧(rI t.reach)∧(J0 Vk G' a_z12 c_z12 t.fates r_z12)∧(J0 Wn G' a_z13 c_z13 t.events r_z13)∧L'=[[Sg b 0 [I t.town.clerk.queue.most,Sl a_z1 t.town.clerk.queue.wait.length c_z1,I t.town.clerk.batch,I t.town.clerk.every,I t.town.clerk.now,Sl a_z5 t.town.clerk.heads.length c_z5,Sl a_z6 t.town.clerk.books.length c_z6,Sl a_z7 t.town.owners.length c_z7,Sl a_z8 t.town.polls.length c_z8,I t.town.net.now,Sl a_z10 t.town.net.way.length c_z10,I t.reach,Sl a_z12 t.fates.length c_z12,Sl a_z13 t.events.length c_z13]],r_z7,r_z8,r_z12,r_z13]):=by
 intro Lr
 refine JN Tryz.func62 17 [(0,Pt b 0),(1,I k)] rfl (fun w0 G0=>?_)
 show TC _ _ _ _ _ ([Sg b 0 (J6 t a_1 c_1 a_5 c_5 a_6 c_6 a_7 c_7 a_8 c_8 a_10 c_10 a_12 c_12 a_13 c_13)]::r_7::r_8::r_12::r_13::Lr)
 refine Jf [0] [] (Je (Jc (Ja [0,0,0] [(7,Bo (decide (k ≥ 0)))] (Kn (decide (k ≥ 0)) [7] [0,0,0,0,0,2,0,0,0] [1,1,1,1,1,1,1,1,0] (fun bb=>[(16,Bo (bb && (decide (k<(t.town.owners.length:Int)))))]) (Ja [0] [(4,Bo ((decide (k ≥ 0)) && (decide (k<(t.town.owners.length:Int)))))] (Jd (Jb (Jl (Ji 4 (Ji 4 (Ji 4 (Ji 4 (Ji 4 ?_)))))))))))))
 have hf1:(t,W8 t k)=(t,(decide (k ≥ 0)) && (decide (k<(t.town.owners.length:Int)))):=by
  rfl
 refine Jm [0] [Bo ((decide (k ≥ 0)) && (decide (k<(t.town.owners.length:Int))))] (KQ (Lr:=Lr) [[Sg b 0 (J6 t a_1 c_1 a_5 c_5 a_6 c_6 a_7 c_7 a_8 c_8 a_10 c_10 a_12 c_12 a_13 c_13)],r_7,r_8,r_12,r_13] (Jp.le_refl _) ?_)
 try rw [hf1];try dsimp only
 exact ⟨a_1,c_1,a_5,c_5,a_6,c_6,a_7,c_7,a_8,c_8,a_10,c_10,a_12,c_12,a_13,c_13,r_7,r_8,r_12,r_13,rfl,h_0,h_1,h_2,h_3,h_4,h_5,h_6,h_7,h_8,h_9,h_10,h_11,h_12,h_13,rfl⟩
theorem Jd6 (G:Jp) (b:Nat) (t:JL) (a_1:Option Addr) (c_1:Nat) (a_5:Option Addr) (c_5:Nat) (a_6:Option Addr) (c_6:Nat) (a_7:Option Addr) (c_7:Nat) (a_8:Option Addr) (c_8:Nat) (a_10:Option Addr) (c_10:Nat) (a_12:Option Addr) (c_12:Nat) (a_13:Option Addr) (c_13:Nat) (r_7:List Kg) (r_8:List Kg) (r_12:List Kg) (r_13:List Kg) (h_0:rI t.town.clerk.queue.most) (h_1:RS Q3 G a_1 c_1 t.town.clerk.queue.wait) (h_2:rI t.town.clerk.batch) (h_3:rI t.town.clerk.every) (h_4:rI t.town.clerk.now) (h_5:RS KA G a_5 c_5 t.town.clerk.heads) (h_6:RS Qs G a_6 c_6 t.town.clerk.books) (h_7:J0 Q1 G a_7 c_7 t.town.owners r_7) (h_8:J0 Wy G a_8 c_8 t.town.polls r_8) (h_9:rI t.town.net.now) (h_10:RS Kh G a_10 c_10 t.town.net.way) (h_11:rI t.reach) (h_12:J0 Vk G a_12 c_12 t.fates r_12) (h_13:J0 Wn G a_13 c_13 t.events r_13) (kind:Int) (hw_kind:rI kind) (who:Int) (hw_who:rI who) (n:Int) (hw_n:rI n) (at_:Int) (hw_at_:rI at_) (hev:t.events.length≤1000000):Jcf 104 #[Pt b 0,I kind,I who,I n,I at_] G [[Sg b 0 [I t.town.clerk.queue.most,Sl a_1 t.town.clerk.queue.wait.length c_1,I t.town.clerk.batch,I t.town.clerk.every,I t.town.clerk.now,Sl a_5 t.town.clerk.heads.length c_5,Sl a_6 t.town.clerk.books.length c_6,Sl a_7 t.town.owners.length c_7,Sl a_8 t.town.polls.length c_8,I t.town.net.now,Sl a_10 t.town.net.way.length c_10,I t.reach,Sl a_12 t.fates.length c_12,Sl a_13 t.events.length c_13]],r_7,r_8,r_12,r_13] (fun u G' L'=>∃ (a_z1:Option Addr) (c_z1:Nat) (a_z5:Option Addr) (c_z5:Nat) (a_z6:Option Addr) (c_z6:Nat) (a_z7:Option Addr) (c_z7:Nat) (a_z8:Option Addr) (c_z8:Nat) (a_z10:Option Addr) (c_z10:Nat) (a_z12:Option Addr) (c_z12:Nat) (a_z13:Option Addr) (c_z13:Nat) (r_z7:List Kg) (r_z8:List Kg) (r_z12:List Kg) (r_z13:List Kg),u=.tuple #[]∧(rI ((Q6 t kind who n at_).town.clerk.queue.most))∧(RS Q3 G' a_z1 c_z1 ((Q6 t kind who n at_).town.clerk.queue.wait))∧(rI ((Q6 t kind who n at_).town.clerk.batch))∧(rI ((Q6 t kind who n at_).town.clerk.every))∧(rI ((Q6 t kind who n at_).town.clerk.now))∧(RS KA G' a_z5 c_z5 ((Q6 t kind who n at_).town.clerk.heads))∧(RS Qs G' a_z6 c_z6 ((Q6 t kind who n at_).town.clerk.books))∧(J0 Q1 G' a_z7 c_z7 ((Q6 t kind who n at_).town.owners) r_z7)∧(J0 Wy G' a_z8 c_z8 ((Q6 t kind who n at_).town.polls) r_z8)∧(rI ((Q6 t kind who n at_).town.net.now))∧(RS Kh G' a_z10 c_z10 ((Q6 t kind who n at_).town.net.way))∧(rI ((Q6 t kind who n at_).reach))∧(J0 Vk G' a_z12 c_z12 ((Q6 t kind who n at_).fates) r_z12)∧(J0 Wn G' a_z13 c_z13 ((Q6 t kind who n at_).events) r_z13)∧L'=[[Sg b 0 [I ((Q6 t kind who n at_).town.clerk.queue.most),Sl a_z1 (((Q6 t kind who n at_).town.clerk.queue.wait).length) c_z1,I ((Q6 t kind who n at_).town.clerk.batch),I ((Q6 t kind who n at_).town.clerk.every),I ((Q6 t kind who n at_).town.clerk.now),Sl a_z5 (((Q6 t kind who n at_).town.clerk.heads).length) c_z5,Sl a_z6 (((Q6 t kind who n at_).town.clerk.books).length) c_z6,Sl a_z7 (((Q6 t kind who n at_).town.owners).length) c_z7,Sl a_z8 (((Q6 t kind who n at_).town.polls).length) c_z8,I ((Q6 t kind who n at_).town.net.now),Sl a_z10 (((Q6 t kind who n at_).town.net.way).length) c_z10,I ((Q6 t kind who n at_).reach),Sl a_z12 (((Q6 t kind who n at_).fates).length) c_z12,Sl a_z13 (((Q6 t kind who n at_).events).length) c_z13]],r_z7,r_z8,r_z12,r_z13]):=by
 intro Lr
 refine JN Tryz.func104 24 [(0,Pt b 0),(1,I kind),(2,I who),(3,I n),(4,I at_)] rfl (fun w0 G0=>?_)
 show TC _ _ _ _ _ ([Sg b 0 (J6 t a_1 c_1 a_5 c_5 a_6 c_6 a_7 c_7 a_8 c_8 a_10 c_10 a_12 c_12 a_13 c_13)]::r_7::r_8::r_12::r_13::Lr)
 refine Jc (Ja [0,0,0,0,2,0,0,0,0,0] [(10,Pt b 0),(14,Sl a_13 t.events.length c_13),(19,.agg #[I kind,I who,I n,I at_])] (Kq 20 1 #[I kind,I who,I n,I at_] 74 (fun b1=>Qv (b:=b1) (cs:=[I kind,I who,I n,I at_]) 21 74 5 0 (E:=Wn) (⟨kind,who,n,at_⟩:Jae) h_13 ⟨rfl,hw_kind,hw_who,hw_n,hw_at_⟩ (by (try simp only [Wn,List.length_append,List.length_cons,List.length_nil]);omega) (by (try simp only [Wn,List.length_append,List.length_cons,List.length_nil]);omega) (fun a1 c1 r1 hr1=>JV [0,0,5] [] ([Sg b1 0 [I kind,I who,I n,I at_]]::[Sg b 0 (J6 (⟨t.town,t.reach,t.fates,(t.events++[(⟨kind,who,n,at_⟩:Jae)])⟩:JL) a_1 c_1 a_5 c_5 a_6 c_6 a_7 c_7 a_8 c_8 a_10 c_10 a_12 c_12 a1 c1)]::r_7::r_8::r_12::r1::Lr) (Jd (Ji 5 (Ji 5 (Ji 5 (Ji 5 (Ji 5 ?_))))))))))
 have hf1:Q6 t kind who n at_=(⟨t.town,t.reach,t.fates,t.events++[(⟨kind,who,n,at_⟩:Jae)]⟩:JL):=by
  rfl
 refine ZC [] [] (KQ (Lr:=Lr) [[Sg b 0 (J6 (⟨t.town,t.reach,t.fates,(t.events++[(⟨kind,who,n,at_⟩:Jae)])⟩:JL) a_1 c_1 a_5 c_5 a_6 c_6 a_7 c_7 a_8 c_8 a_10 c_10 a_12 c_12 a1 c1)],r_7,r_8,r_12,r1] (Jp.le_refl _) ?_)
 rw [hf1];try dsimp only
 exact ⟨a_1,c_1,a_5,c_5,a_6,c_6,a_7,c_7,a_8,c_8,a_10,c_10,a_12,c_12,a1,c1,r_7,r_8,r_12,r1,rfl,h_0,h_1,h_2,h_3,h_4,h_5,h_6,h_7,h_8,h_9,h_10,h_11,h_12,hr1,rfl⟩
set_option maxRecDepth 20000 in
abbrev ZW (l:JS) (t:JL):=Kr t.town.net l ([1])
abbrev z3_1 (t:JL):=(⟨t.town,t.reach,(t.fates.drop 1),t.events⟩:JL)
theorem JgV (G:Jp) (b:Nat) (t:JL) (a_1:Option Addr) (c_1:Nat) (a_5:Option Addr) (c_5:Nat) (a_6:Option Addr) (c_6:Nat) (a_7:Option Addr) (c_7:Nat) (a_8:Option Addr) (c_8:Nat) (a_10:Option Addr) (c_10:Nat) (a_12:Option Addr) (c_12:Nat) (a_13:Option Addr) (c_13:Nat) (r_7:List Kg) (r_8:List Kg) (r_12:List Kg) (r_13:List Kg) (h_0:rI t.town.clerk.queue.most) (h_1:RS Q3 G a_1 c_1 t.town.clerk.queue.wait) (h_2:rI t.town.clerk.batch) (h_3:rI t.town.clerk.every) (h_4:rI t.town.clerk.now) (h_5:RS KA G a_5 c_5 t.town.clerk.heads) (h_6:RS Qs G a_6 c_6 t.town.clerk.books) (h_7:J0 Q1 G a_7 c_7 t.town.owners r_7) (h_8:J0 Wy G a_8 c_8 t.town.polls r_8) (h_9:rI t.town.net.now) (h_10:RS Kh G a_10 c_10 t.town.net.way) (h_11:rI t.reach) (h_12:J0 Vk G a_12 c_12 t.fates r_12) (h_13:J0 Wn G a_13 c_13 t.events r_13) (vs_l:List Value) (l:JS) (h_l:Kh.R G vs_l l) :Jcf 168 #[Pt b 0,.agg vs_l.toArray] G [[Sg b 0 [I t.town.clerk.queue.most,Sl a_1 t.town.clerk.queue.wait.length c_1,I t.town.clerk.batch,I t.town.clerk.every,I t.town.clerk.now,Sl a_5 t.town.clerk.heads.length c_5,Sl a_6 t.town.clerk.books.length c_6,Sl a_7 t.town.owners.length c_7,Sl a_8 t.town.polls.length c_8,I t.town.net.now,Sl a_10 t.town.net.way.length c_10,I t.reach,Sl a_12 t.fates.length c_12,Sl a_13 t.events.length c_13]],r_7,r_8,r_12,r_13] (fun u G' L'=>∃ (a_z1:Option Addr) (c_z1:Nat) (a_z5:Option Addr) (c_z5:Nat) (a_z6:Option Addr) (c_z6:Nat) (a_z7:Option Addr) (c_z7:Nat) (a_z8:Option Addr) (c_z8:Nat) (a_z10:Option Addr) (c_z10:Nat) (a_z12:Option Addr) (c_z12:Nat) (a_z13:Option Addr) (c_z13:Nat) (r_z7:List Kg) (r_z8:List Kg) (r_z12:List Kg) (r_z13:List Kg),u=.tuple #[]∧(rI ((Wi t l).town.clerk.queue.most))∧(RS Q3 G' a_z1 c_z1 ((Wi t l).town.clerk.queue.wait))∧(rI ((Wi t l).town.clerk.batch))∧(rI ((Wi t l).town.clerk.every))∧(rI ((Wi t l).town.clerk.now))∧(RS KA G' a_z5 c_z5 ((Wi t l).town.clerk.heads))∧(RS Qs G' a_z6 c_z6 ((Wi t l).town.clerk.books))∧(J0 Q1 G' a_z7 c_z7 ((Wi t l).town.owners) r_z7)∧(J0 Wy G' a_z8 c_z8 ((Wi t l).town.polls) r_z8)∧(rI ((Wi t l).town.net.now))∧(RS Kh G' a_z10 c_z10 ((Wi t l).town.net.way))∧(rI ((Wi t l).reach))∧(J0 Vk G' a_z12 c_z12 ((Wi t l).fates) r_z12)∧(J0 Wn G' a_z13 c_z13 ((Wi t l).events) r_z13)∧L'=[[Sg b 0 [I ((Wi t l).town.clerk.queue.most),Sl a_z1 (((Wi t l).town.clerk.queue.wait).length) c_z1,I ((Wi t l).town.clerk.batch),I ((Wi t l).town.clerk.every),I ((Wi t l).town.clerk.now),Sl a_z5 (((Wi t l).town.clerk.heads).length) c_z5,Sl a_z6 (((Wi t l).town.clerk.books).length) c_z6,Sl a_z7 (((Wi t l).town.owners).length) c_z7,Sl a_z8 (((Wi t l).town.polls).length) c_z8,I ((Wi t l).town.net.now),Sl a_z10 (((Wi t l).town.net.way).length) c_z10,I ((Wi t l).reach),Sl a_z12 (((Wi t l).fates).length) c_z12,Sl a_z13 (((Wi t l).events).length) c_z13]],r_z7,r_z8,r_z12,r_z13]):=by
 obtain ⟨a1,c1,a2,c2,a3,c3,rfl,w1,w2,w3,w4,hs1,w5,w6,w7,w8,w9,hs2,hs3⟩:=h_l
 intro Lr
 refine JN Tryz.func168 46 [(0,Pt b 0),(1,(QZ l a1 c1 a2 c2 a3 c3))] rfl (fun w0 G0=>?_)
 show TC _ _ _ _ _ ([Sg b 0 (J6 t a_1 c_1 a_5 c_5 a_6 c_6 a_7 c_7 a_8 c_8 a_10 c_10 a_12 c_12 a_13 c_13)]::r_7::r_8::r_12::r_13::Lr)
 refine Je (Jc (Jv 3 #[I l.to_,I l.from_,I l.since,I l.due,Sl a1 l.heads.length c1,I l.reply.head.epoch,U l.reply.head.root,U l.reply.head.prev,I l.reply.head.at_,Sr l.reply.proof.name,Sl a2 l.reply.proof.entries.length c2,Sl a3 l.reply.proof.sides.length c3] 51 (fun b1=>Jd (Jb (Je (Jc (Kq 7 1 #[I 1] 3 (fun b2=>Ja [0] [(4,Sl (At b2 0) 1 1)] (Jd (Jb (Je (Jf [0,0,0,6,0,0] [(13,Bo (decide ((t.fates.length:Int) > 0)))] (Jk (decide ((t.fates.length:Int) > 0)) (fun h1=>?_) (fun h1=>?_))))))))))))))
 obtain ⟨x1,hx1⟩:=We (l:=t.fates) (k:=0) (by omega)
 obtain ⟨b3,o1,_,_,⟨a4,c4,rfl,hs4⟩,ha1,hre1,hc1⟩:=J0.ix h_12 hx1
 obtain ⟨r1,hr1,hsh1⟩:=J0.dropX h_12 1 (by omega)
 obtain ⟨a5,ea1⟩:∃ z_:Option Addr,z_=(if c_12=1 then a_12 else (a_12).map (·.add (1*1))):=⟨_,rfl⟩
 have hr1:J0 Vk G a5 (c_12-1) (t.fates.drop 1) r1:=by rw [ea1];exact hr1
 refine Ko [15] (Wm [(0,Pt b 0),(1,Pt b 0),(2,Pt b 0),(3,Pt b 12),(4,Sl a_12 t.fates.length c_12),(5,Pt b3 (o1+0*1)),(6,Sl a4 x1.length c4),(7,Pt b 0),(8,Pt b 0),(9,Pt b 12),(10,Sl a_12 t.fates.length c_12),(11,Sl a5 ((t.fates.drop 1).length) (c_12-1)),(12,Sl a4 x1.length c4),(13,Pt b 0),(14,Pt b 12)] (JK [] [(0,0),(1,0),(2,0),(3,0),(4,6),(7,0),(8,0),(9,0),(10,6),(12,0),(13,0),(14,0)] [5,6,11] [15] (Ke ?_ (Ke ?_ (Ke ?_ K4))) (Ke ?_ K4)))
 refine Jr 5 19 (Pt b3 (o1+0*1)) [(18,Sl a_12 t.fates.length c_12)] (fun X=>?_)
 exact QI (b:=b3) (off:=o1) (len:=t.fates.length) (cap:=c_12) (ik:=.i64) 19 39 1 0 ha1 J7 Jn
 refine Jr 6 20 (Sl a4 x1.length c4) [(19,Pt b3 (o1+0*1))] (fun X=>?_)
 exact W5 (off:=o1) (p:=0*1) (cs:=[Sl a4 x1.length c4]) 20 39 5 0 (Sl a4 x1.length c4) hre1 hc1 Jn
 refine Jr 11 25 (Sl a5 ((t.fates.drop 1).length) (c_12-1)) [(24,Sl a_12 t.fates.length c_12)] (fun X=>?_)
 exact WD (a:=a_12) (len:=t.fates.length) (cap:=c_12) 25 1 (some (I 1)) none 1 t.fates.length (.inr ⟨_,rfl⟩) (.inl ⟨rfl,rfl⟩) J7 ea1 rfl (by rw [List.length_drop]) (by have q_:=h_12.lec;omega) Jn
 refine JD 15 [(25,Sl a5 ((t.fates.drop 1).length) (c_12-1)),(27,Pt b 12)] (fun X=>?_)
 refine KL 2 ([Sg b2 0 [I 1]]::[Sg b1 0 (Kp l a1 c1 a2 c2 a3 c3)]::[Sg b 0 (J6 (z3_1 t) a_1 c_1 a_5 c_5 a_6 c_6 a_7 c_7 a_8 c_8 a_10 c_10 a5 (c_12-1) a_13 c_13)]::r_7::r_8::r_12::r_13::Lr) (Kc [] (Km [0,1,2,3,4,5,6,7,8,9,10,11,12,13,14] [] [] [(0,Pt b 0),(3,Pt b1 0),(4,Sl a4 x1.length c4)] (List.forall_mem_nil _) (tq_shr 5 hsh1 (Jb ?_))))
 refine Yv (σ:=Nat×(Option Addr)×Nat×Jp) (fun q_=>(Jp.le G q_.2.2.2)∧(rI (((Kr t.town.net l x1).1).now))∧(RS Kh q_.2.2.2 q_.2.1 q_.2.2.1 (((Kr t.town.net l x1).1).way))) (fun q_=>[(0,Pt b 0),(5,Pt q_.1 0),(6,I ((Kr t.town.net l x1).2))]) (fun q_=>q_.2.2.2) (fun q_=>([Sg q_.1 0 [I (((Kr t.town.net l x1).1).now),Sl q_.2.1 ((((Kr t.town.net l x1).1).way).length) q_.2.2.1]]::[Sg b2 0 [I 1]]::[Sg b1 0 (Kp l a1 c1 a2 c2 a3 c3)]::[Sg b 0 (J6 (z3_1 t) a_1 c_1 a_5 c_5 a_6 c_6 a_7 c_7 a_8 c_8 a_10 c_10 a5 (c_12-1) a_13 c_13)]::r_7::r_8::r1::r_13::Lr)) ?_ (fun q_ hs=>?_)
 refine Ko [7,11,12] (Wm [(0,Pt b 0),(1,Pt b 0),(2,Pt b 0),(3,Pt b 9),(4,.agg #[I t.town.net.now,Sl a_10 t.town.net.way.length c_10]),(5,(QZ l a1 c1 a2 c2 a3 c3)),(6,Sl a4 x1.length c4)] (JK [] [(0,0),(1,0),(2,0),(3,0),(4,6),(5,4),(6,0)] [] [7,11] (List.forall_mem_nil _) (Ke ?_ (Ke ?_ K4))))
 refine JD 7 [(33,.agg #[I t.town.net.now,Sl a_10 t.town.net.way.length c_10]),(34,(QZ l a1 c1 a2 c2 a3 c3)),(35,Sl a4 x1.length c4)] (fun X=>?_)
 refine JF 36 (YH G [I t.town.net.now,Sl a_10 t.town.net.way.length c_10] t.town.net (⟨a_10,c_10,rfl,h_9,h_10⟩) (Kp l a1 c1 a2 c2 a3 c3) l (⟨a1,c1,a2,c2,a3,c3,rfl,w1,w2,w3,w4,hs1,w5,w6,w7,w8,w9,hs2,hs3⟩) a4 c4 x1 hs4) (fun v G1 L1 hl1 hp=>?_)
 obtain ⟨a6,c5,rfl,w10,hs5,rfl⟩:=hp
 refine JC [(7,.tuple #[.agg #[I (((Kr t.town.net l x1).1).now),Sl a6 ((((Kr t.town.net l x1).1).way).length) c5],I ((Kr t.town.net l x1).2)]),(8,.tuple #[.agg #[I (((Kr t.town.net l x1).1).now),Sl a6 ((((Kr t.town.net l x1).1).way).length) c5],I ((Kr t.town.net l x1).2)]),(9,.agg #[I (((Kr t.town.net l x1).1).now),Sl a6 ((((Kr t.town.net l x1).1).way).length) c5]),(10,I ((Kr t.town.net l x1).2))] (JK [0,1,2,3,4,5,6] [(8,0),(9,0),(10,0)] [] [11] (List.forall_mem_nil _) (Ke ?_ K4))
 refine JD 11 [] (fun X=>?_)
 refine Jv 5 #[I 0,Sl none 0 0] 65 (fun b4=>JC [(11,Pt b4 0)] (JK [0,1,2,3,4,5,6] [(8,0),(9,0),(10,0)] [] [12] (List.forall_mem_nil _) (Ke ?_ K4)))
 refine JD 12 [(5,Pt b4 0),(37,.agg #[I (((Kr t.town.net l x1).1).now),Sl a6 ((((Kr t.town.net l x1).1).way).length) c5])] (fun X=>?_)
 exact KL 0 ([Sg b4 0 [I (((Kr t.town.net l x1).1).now),Sl a6 ((((Kr t.town.net l x1).1).way).length) c5]]::[Sg b2 0 [I 1]]::[Sg b1 0 (Kp l a1 c1 a2 c2 a3 c3)]::[Sg b 0 (J6 (z3_1 t) a_1 c_1 a_5 c_5 a_6 c_6 a_7 c_7 a_8 c_8 a_10 c_10 a5 (c_12-1) a_13 c_13)]::r_7::r_8::r1::r_13::Lr) (Kc [(13,I ((Kr t.town.net l x1).2))] (Km [0,1,2,3,4,5,6,8,9] [(10,0),(13,0)] [] [(0,Pt b 0),(5,Pt b4 0),(6,I ((Kr t.town.net l x1).2))] (List.forall_mem_nil _) (Wb (b4,a6,c5,G1) ⟨hl1,w10,hs5⟩)))
 refine JD 11 [] (fun X=>?_)
 refine Jv 5 #[I 0,Sl none 0 0] 65 (fun b5=>JC [(11,Pt b5 0)] (JK [] [(0,0),(1,0),(2,0),(3,0),(4,8),(5,6),(6,0)] [] [7] (List.forall_mem_nil _) (Ke ?_ K4)))
 refine JD 7 [(33,.agg #[I t.town.net.now,Sl a_10 t.town.net.way.length c_10]),(34,(QZ l a1 c1 a2 c2 a3 c3)),(35,Sl a4 x1.length c4)] (fun X=>?_)
 refine JF 36 (YH G [I t.town.net.now,Sl a_10 t.town.net.way.length c_10] t.town.net (⟨a_10,c_10,rfl,h_9,h_10⟩) (Kp l a1 c1 a2 c2 a3 c3) l (⟨a1,c1,a2,c2,a3,c3,rfl,w1,w2,w3,w4,hs1,w5,w6,w7,w8,w9,hs2,hs3⟩) a4 c4 x1 hs4) (fun v G2 L1 hl2 hp=>?_)
 obtain ⟨a7,c6,rfl,w11,hs6,rfl⟩:=hp
 refine JC [(7,.tuple #[.agg #[I (((Kr t.town.net l x1).1).now),Sl a7 ((((Kr t.town.net l x1).1).way).length) c6],I ((Kr t.town.net l x1).2)]),(8,.tuple #[.agg #[I (((Kr t.town.net l x1).1).now),Sl a7 ((((Kr t.town.net l x1).1).way).length) c6],I ((Kr t.town.net l x1).2)]),(9,.agg #[I (((Kr t.town.net l x1).1).now),Sl a7 ((((Kr t.town.net l x1).1).way).length) c6]),(10,I ((Kr t.town.net l x1).2))] (JK [0,1,2,3,4,5,6] [(8,0),(9,0),(10,0)] [] [12] (List.forall_mem_nil _) (Ke ?_ K4))
 refine JD 12 [(5,Pt b5 0),(37,.agg #[I (((Kr t.town.net l x1).1).now),Sl a7 ((((Kr t.town.net l x1).1).way).length) c6])] (fun X=>?_)
 exact KL 0 ([Sg b5 0 [I (((Kr t.town.net l x1).1).now),Sl a7 ((((Kr t.town.net l x1).1).way).length) c6]]::[Sg b2 0 [I 1]]::[Sg b1 0 (Kp l a1 c1 a2 c2 a3 c3)]::[Sg b 0 (J6 (z3_1 t) a_1 c_1 a_5 c_5 a_6 c_6 a_7 c_7 a_8 c_8 a_10 c_10 a5 (c_12-1) a_13 c_13)]::r_7::r_8::r1::r_13::Lr) (Kc [(13,I ((Kr t.town.net l x1).2))] (Km [0,1,2,3,4,5,6,8,9] [(10,0),(13,0)] [] [(0,Pt b 0),(5,Pt b5 0),(6,I ((Kr t.town.net l x1).2))] (List.forall_mem_nil _) (Wb (b5,a7,c6,G2) ⟨hl2,w11,hs6⟩)))
 obtain ⟨b4,a6,c5,G1⟩:=q_
 obtain ⟨hle1,hj1,hj2⟩:=hs
 dsimp only at hle1 hj1 hj2
 dsimp only
 refine Jf [0,0] [(40,Bo (decide ((Kr t.town.net l x1).2=0)))] (Jk (decide ((Kr t.town.net l x1).2=0)) (fun h2=>?_) (fun h2=>?_))
 refine Jc (JV [0,2,0,0,0,9] [] ([Sg b4 0 [I (((Kr t.town.net l x1).1).now),Sl a6 ((((Kr t.town.net l x1).1).way).length) c5]]::[Sg b2 0 [I 1]]::[Sg b1 0 (Kp l a1 c1 a2 c2 a3 c3)]::[Sg b 0 (J6 (⟨(⟨t.town.clerk,t.town.owners,t.town.polls,(Kr t.town.net l x1).1⟩:Wf),t.reach,(t.fates.drop 1),t.events⟩:JL) a_1 c_1 a_5 c_5 a_6 c_6 a_7 c_7 a_8 c_8 a6 c5 a5 (c_12-1) a_13 c_13)]::r_7::r_8::r1::r_13::Lr) (Jd (Ji 7 (Ji 7 (Ji 7 (Ji 7 (Ji 7 ?_)))))))
 have hf1:Wi t l=(⟨(⟨t.town.clerk,t.town.owners,t.town.polls,((Kr t.town.net l x1).1)⟩:Wf),t.reach,t.fates.drop 1,t.events⟩:JL):=by
  (rw [Joj (by omega) ‹_›,if_pos ‹_›];done)
 refine ZC [] [] (KQ (Lr:=Lr) [[Sg b 0 (J6 (⟨(⟨t.town.clerk,t.town.owners,t.town.polls,(Kr t.town.net l x1).1⟩:Wf),t.reach,(t.fates.drop 1),t.events⟩:JL) a_1 c_1 a_5 c_5 a_6 c_6 a_7 c_7 a_8 c_8 a6 c5 a5 (c_12-1) a_13 c_13)],r_7,r_8,r1,r_13] hle1 ?_)
 rw [hf1];try dsimp only
 exact ⟨a_1,c_1,a_5,c_5,a_6,c_6,a_7,c_7,a_8,c_8,a6,c5,a5,(c_12-1),a_13,c_13,r_7,r_8,r1,r_13,rfl,h_0,(h_1.mono hle1),h_2,h_3,h_4,(h_5.mono hle1),(h_6.mono hle1),(h_7.mono hle1),(h_8.mono hle1),hj1,hj2,h_11,(hr1.mono hle1),(h_13.mono hle1),rfl⟩
 refine Jo (Ji 7 (Ji 7 (Ji 7 (Ji 7 (Ji 7 ?_)))))
 have hf2:Wi t l=(⟨t.town,t.reach,t.fates.drop 1,t.events⟩:JL):=by
  (rw [Joj (by omega) ‹_›,if_neg ‹_›];done)
 refine ZC [] [] (KQ (Lr:=Lr) [[Sg b 0 (J6 (z3_1 t) a_1 c_1 a_5 c_5 a_6 c_6 a_7 c_7 a_8 c_8 a_10 c_10 a5 (c_12-1) a_13 c_13)],r_7,r_8,r1,r_13] hle1 ?_)
 rw [hf2];try dsimp only
 exact ⟨a_1,c_1,a_5,c_5,a_6,c_6,a_7,c_7,a_8,c_8,a_10,c_10,a5,(c_12-1),a_13,c_13,r_7,r_8,r1,r_13,rfl,h_0,(h_1.mono hle1),h_2,h_3,h_4,(h_5.mono hle1),(h_6.mono hle1),(h_7.mono hle1),(h_8.mono hle1),h_9,(h_10.mono hle1),h_11,(hr1.mono hle1),(h_13.mono hle1),rfl⟩
 refine Jo (Jb ?_)
 refine Yv (σ:=Nat×(Option Addr)×Nat×Jp) (fun q_=>(Jp.le G q_.2.2.2)∧(rI (((ZW l t).1).now))∧(RS Kh q_.2.2.2 q_.2.1 q_.2.2.1 (((ZW l t).1).way))) (fun q_=>[(0,Pt b 0),(5,Pt q_.1 0),(6,I ((ZW l t).2))]) (fun q_=>q_.2.2.2) (fun q_=>([Sg q_.1 0 [I (((ZW l t).1).now),Sl q_.2.1 ((((ZW l t).1).way).length) q_.2.2.1]]::[]::[Sg b1 0 (Kp l a1 c1 a2 c2 a3 c3)]::[Sg b 0 (J6 t a_1 c_1 a_5 c_5 a_6 c_6 a_7 c_7 a_8 c_8 a_10 c_10 a_12 c_12 a_13 c_13)]::r_7::r_8::r_12::r_13::Lr)) ?_ (fun q_ hs=>?_)
 refine Ko [7,11,12] (Wm [(0,Pt b 0),(1,Pt b 0),(2,Pt b 0),(3,Pt b 9),(4,.agg #[I t.town.net.now,Sl a_10 t.town.net.way.length c_10]),(5,(QZ l a1 c1 a2 c2 a3 c3)),(6,Sl (At b2 0) 1 1)] (JK [] [(0,0),(1,0),(2,0),(3,0),(4,6),(5,4),(6,0)] [] [7,11] (List.forall_mem_nil _) (Ke ?_ (Ke ?_ K4))))
 refine JD 7 [(33,.agg #[I t.town.net.now,Sl a_10 t.town.net.way.length c_10]),(34,(QZ l a1 c1 a2 c2 a3 c3)),(35,Sl (At b2 0) 1 1)] (fun X=>?_)
 refine QV (b:=b2) (o:=0) (cs:=[I 1]) 0 (fun G3 hl3 hz1=>?_)
 have hs7:RS EI G3 (At b2 0) 1 [1]:=RS.lit [[I 1]] [1] ⟨⟨rfl,(by omega)⟩,trivial⟩ hz1 (Nat.le_of_ble_eq_true rfl) (Nat.le_of_ble_eq_true rfl)
 refine JF 36 (YH G3 [I t.town.net.now,Sl a_10 t.town.net.way.length c_10] t.town.net (⟨a_10,c_10,rfl,h_9,(h_10.mono hl3)⟩) (Kp l a1 c1 a2 c2 a3 c3) l (⟨a1,c1,a2,c2,a3,c3,rfl,w1,w2,w3,w4,(hs1.mono hl3),w5,w6,w7,w8,w9,(hs2.mono hl3),(hs3.mono hl3)⟩) (At b2 0) 1 ([1]) hs7) (fun v G4 L1 hl4 hp=>?_)
 obtain ⟨a8,c7,rfl,w12,hs8,rfl⟩:=hp
 refine JC [(7,.tuple #[.agg #[I (((ZW l t).1).now),Sl a8 ((((ZW l t).1).way).length) c7],I ((ZW l t).2)]),(8,.tuple #[.agg #[I (((ZW l t).1).now),Sl a8 ((((ZW l t).1).way).length) c7],I ((ZW l t).2)]),(9,.agg #[I (((ZW l t).1).now),Sl a8 ((((ZW l t).1).way).length) c7]),(10,I ((ZW l t).2))] (JK [0,1,2,3,4,5,6] [(8,0),(9,0),(10,0)] [] [11] (List.forall_mem_nil _) (Ke ?_ K4))
 refine JD 11 [] (fun X=>?_)
 refine Jv 5 #[I 0,Sl none 0 0] 65 (fun b6=>JC [(11,Pt b6 0)] (JK [0,1,2,3,4,5,6] [(8,0),(9,0),(10,0)] [] [12] (List.forall_mem_nil _) (Ke ?_ K4)))
 refine JD 12 [(5,Pt b6 0),(37,.agg #[I (((ZW l t).1).now),Sl a8 ((((ZW l t).1).way).length) c7])] (fun X=>?_)
 exact KL 0 ([Sg b6 0 [I (((ZW l t).1).now),Sl a8 ((((ZW l t).1).way).length) c7]]::[]::[Sg b1 0 (Kp l a1 c1 a2 c2 a3 c3)]::[Sg b 0 (J6 t a_1 c_1 a_5 c_5 a_6 c_6 a_7 c_7 a_8 c_8 a_10 c_10 a_12 c_12 a_13 c_13)]::r_7::r_8::r_12::r_13::Lr) (Kc [(13,I ((ZW l t).2))] (Km [0,1,2,3,4,5,6,8,9] [(10,0),(13,0)] [] [(0,Pt b 0),(5,Pt b6 0),(6,I ((ZW l t).2))] (List.forall_mem_nil _) (Wb (b6,a8,c7,G4) ⟨(Jp.le_trans hl3 hl4),w12,hs8⟩)))
 refine JD 11 [] (fun X=>?_)
 refine Jv 5 #[I 0,Sl none 0 0] 65 (fun b7=>JC [(11,Pt b7 0)] (JK [] [(0,0),(1,0),(2,0),(3,0),(4,8),(5,6),(6,0)] [] [7] (List.forall_mem_nil _) (Ke ?_ K4)))
 refine JD 7 [(33,.agg #[I t.town.net.now,Sl a_10 t.town.net.way.length c_10]),(34,(QZ l a1 c1 a2 c2 a3 c3)),(35,Sl (At b2 0) 1 1)] (fun X=>?_)
 refine QV (b:=b2) (o:=0) (cs:=[I 1]) 1 (fun G5 hl5 hz2=>?_)
 have hs9:RS EI G5 (At b2 0) 1 [1]:=RS.lit [[I 1]] [1] ⟨⟨rfl,(by omega)⟩,trivial⟩ hz2 (Nat.le_of_ble_eq_true rfl) (Nat.le_of_ble_eq_true rfl)
 refine JF 36 (YH G5 [I t.town.net.now,Sl a_10 t.town.net.way.length c_10] t.town.net (⟨a_10,c_10,rfl,h_9,(h_10.mono hl5)⟩) (Kp l a1 c1 a2 c2 a3 c3) l (⟨a1,c1,a2,c2,a3,c3,rfl,w1,w2,w3,w4,(hs1.mono hl5),w5,w6,w7,w8,w9,(hs2.mono hl5),(hs3.mono hl5)⟩) (At b2 0) 1 ([1]) hs9) (fun v G6 L1 hl6 hp=>?_)
 obtain ⟨a9,c8,rfl,w13,hs10,rfl⟩:=hp
 refine JC [(7,.tuple #[.agg #[I (((ZW l t).1).now),Sl a9 ((((ZW l t).1).way).length) c8],I ((ZW l t).2)]),(8,.tuple #[.agg #[I (((ZW l t).1).now),Sl a9 ((((ZW l t).1).way).length) c8],I ((ZW l t).2)]),(9,.agg #[I (((ZW l t).1).now),Sl a9 ((((ZW l t).1).way).length) c8]),(10,I ((ZW l t).2))] (JK [0,1,2,3,4,5,6] [(8,0),(9,0),(10,0)] [] [12] (List.forall_mem_nil _) (Ke ?_ K4))
 refine JD 12 [(5,Pt b7 0),(37,.agg #[I (((ZW l t).1).now),Sl a9 ((((ZW l t).1).way).length) c8])] (fun X=>?_)
 exact KL 0 ([Sg b7 0 [I (((ZW l t).1).now),Sl a9 ((((ZW l t).1).way).length) c8]]::[]::[Sg b1 0 (Kp l a1 c1 a2 c2 a3 c3)]::[Sg b 0 (J6 t a_1 c_1 a_5 c_5 a_6 c_6 a_7 c_7 a_8 c_8 a_10 c_10 a_12 c_12 a_13 c_13)]::r_7::r_8::r_12::r_13::Lr) (Kc [(13,I ((ZW l t).2))] (Km [0,1,2,3,4,5,6,8,9] [(10,0),(13,0)] [] [(0,Pt b 0),(5,Pt b7 0),(6,I ((ZW l t).2))] (List.forall_mem_nil _) (Wb (b7,a9,c8,G6) ⟨(Jp.le_trans hl5 hl6),w13,hs10⟩)))
 obtain ⟨b6,a8,c7,G4⟩:=q_
 obtain ⟨hle2,hj3,hj4⟩:=hs
 dsimp only at hle2 hj3 hj4
 dsimp only
 refine Jf [0,0] [(40,Bo (decide ((ZW l t).2=0)))] (Jk (decide ((ZW l t).2=0)) (fun h3=>?_) (fun h3=>?_))
 refine Jc (JV [0,2,0,0,0,9] [] ([Sg b6 0 [I (((ZW l t).1).now),Sl a8 ((((ZW l t).1).way).length) c7]]::[]::[Sg b1 0 (Kp l a1 c1 a2 c2 a3 c3)]::[Sg b 0 (J6 (⟨(⟨t.town.clerk,t.town.owners,t.town.polls,(ZW l t).1⟩:Wf),t.reach,t.fates,t.events⟩:JL) a_1 c_1 a_5 c_5 a_6 c_6 a_7 c_7 a_8 c_8 a8 c7 a_12 c_12 a_13 c_13)]::r_7::r_8::r_12::r_13::Lr) (Jd (Ji 7 (Ji 7 (Ji 7 (Ji 7 (Ji 7 ?_)))))))
 have hf3:Wi t l=(⟨(⟨t.town.clerk,t.town.owners,t.town.polls,((ZW l t).1)⟩:Wf),t.reach,t.fates,t.events⟩:JL):=by
  (rw [Joi (by omega),if_pos ‹_›];done)
 refine ZC [] [] (KQ (Lr:=Lr) [[Sg b 0 (J6 (⟨(⟨t.town.clerk,t.town.owners,t.town.polls,(ZW l t).1⟩:Wf),t.reach,t.fates,t.events⟩:JL) a_1 c_1 a_5 c_5 a_6 c_6 a_7 c_7 a_8 c_8 a8 c7 a_12 c_12 a_13 c_13)],r_7,r_8,r_12,r_13] hle2 ?_)
 rw [hf3];try dsimp only
 exact ⟨a_1,c_1,a_5,c_5,a_6,c_6,a_7,c_7,a_8,c_8,a8,c7,a_12,c_12,a_13,c_13,r_7,r_8,r_12,r_13,rfl,h_0,(h_1.mono hle2),h_2,h_3,h_4,(h_5.mono hle2),(h_6.mono hle2),(h_7.mono hle2),(h_8.mono hle2),hj3,hj4,h_11,(h_12.mono hle2),(h_13.mono hle2),rfl⟩
 refine Jo (Ji 7 (Ji 7 (Ji 7 (Ji 7 (Ji 7 ?_)))))
 have hf4:Wi t l=t:=by
  (rw [Joi (by omega),if_neg ‹_›];done)
 refine ZC [] [] (KQ (Lr:=Lr) [[Sg b 0 (J6 t a_1 c_1 a_5 c_5 a_6 c_6 a_7 c_7 a_8 c_8 a_10 c_10 a_12 c_12 a_13 c_13)],r_7,r_8,r_12,r_13] hle2 ?_)
 rw [hf4];try dsimp only
 exact ⟨a_1,c_1,a_5,c_5,a_6,c_6,a_7,c_7,a_8,c_8,a_10,c_10,a_12,c_12,a_13,c_13,r_7,r_8,r_12,r_13,rfl,h_0,(h_1.mono hle2),h_2,h_3,h_4,(h_5.mono hle2),(h_6.mono hle2),(h_7.mono hle2),(h_8.mono hle2),h_9,(h_10.mono hle2),h_11,(h_12.mono hle2),(h_13.mono hle2),rfl⟩
end Go.Proofs.YteaampgpgokjmaaGreatDoor
