import Derived.Test.YtnnlpbjdignhaaaGreatDoorTgProve
import Derived.Test.YtnnlpbjdignhaaaGreatDoorTgMap
namespace Go.Proofs.YtnnlpbjdignhaaaGreatDoor
open Go.Tx
set_option linter.unusedVariables false
set_option linter.unusedSimpArgs false
open Go.Tx Go.Proofs
def Qy (l:List (List JW)):List JW:=l[l.length-1]?.getD []
theorem Jkq {l:List (List JW)} {k:Nat} {x:List JW} (hk:k=l.length-1) (h:l[k]? = some x):x=Qy l:=by unfold Qy;rw [← hk,h];rfl
def KL (l:List JW):List (List UInt8):=l.map fun x=>x.name
def Qj (l:List WU):List (List UInt8):=l.map fun x=>x.name
def Vv (c:Kw) (m:List (List UInt8)):List (List UInt8):=KL (Qy c.books)++Qj c.queue.wait++m
def WJ (c:Kw) (m:List (List UInt8)):Int:=(nn (Vv c m):Int)
theorem JeR {l:List JW} {i:Nat} {x:JW} (h:l[i]? = some x):KL (l.take (i+1))=KL (l.take i)++[x.name]:=by unfold KL;rw [List.take_add_one,h];simp
theorem JeS {l:List WU} {i:Nat} {x:WU} (h:l[i]? = some x):Qj (l.take (i+1))=Qj (l.take i)++[x.name]:=by unfold Qj;rw [List.take_add_one,h];simp
theorem JlI {l:List (List UInt8)} {i:Nat} {x:List UInt8} (h:l[i]? = some x):l.take (i+1)=l.take i++[x]:=by rw [List.take_add_one,h];rfl
def ZL (n most:Int):Bool:=decide (n ≥ 1) && decide (n≤most)
theorem Y9 {n most:Int}:ZL n most=true ↔ 1≤n∧n≤most:=by unfold ZL;simp
def KU (root a:Int):JS×Int:=if ¬ JE ⟨0,root,0,a⟩=0 then (W0,JE ⟨0,root,0,a⟩) else (⟨0,root,0,a⟩,0)
theorem Vw {r a:Int} (hr:0≤r∧r<18446744073709551616) (ha:-9223372036854775808≤a∧a<9223372036854775808):(-9223372036854775808≤(KU r a).1.epoch∧(KU r a).1.epoch<9223372036854775808)∧(0≤(KU r a).1.root∧(KU r a).1.root<18446744073709551616)∧(0≤(KU r a).1.prev∧(KU r a).1.prev<18446744073709551616)∧(-9223372036854775808≤(KU r a).1.at_∧(KU r a).1.at_<9223372036854775808):=by
 unfold KU W0;split <;> simp <;> omega
theorem Jgi (l:List JW):(KL l).length=l.length:=by simp [KL]
theorem Jgj (l:List WU):(Qj l).length=l.length:=by simp [Qj]
def Zz:Kw:=⟨⟨0,[]⟩,0,0,0,[],[]⟩
def JO (most batch every:Int):Kw×Int:=if ZL most 30=false∨ZL batch 30=false∨ZL every 1000=false then (Zz,4) else (⟨⟨most,[]⟩,batch,every,0,[(KU (JP [] []).1 0).1],[[]]⟩,0)
def YG:List JS→List (List JW)→Int
 | _,[]=>0
 | hs,l::bs=>if ¬ (JP l []).2=0 then (JP l []).2 else if ¬ (JP l []).1=(QX hs).root then 8 else YG (hs.drop 1) bs
def Qv (c:Kw):Int:=if (¬ (QX c.heads).epoch=0∨¬ (c.books.length:Int)=c.heads.length)∨(WC c.heads).at_ > c.now then 3 else YG c.heads c.books
theorem Ja9 {hs:List JS} {bs:List (List JW)} {i:Nat} {x:List JW} (hx:bs[i]? = some x):YG (hs.drop i) (bs.drop i)=if ¬ (JP x []).2=0 then (JP x []).2 else if ¬ (JP x []).1=(hs[i]?.getD W0).root then 8 else YG (hs.drop (i+1)) (bs.drop (i+1)):=by
 obtain ⟨hl,he⟩:=List.getElem?_eq_some_iff.1 hx
 rw [List.drop_eq_getElem_cons hl,he]
 show (if _ then _ else if _ then _ else _)=_
 have:QX (hs.drop i)=hs[i]?.getD W0:=by unfold QX;rw [List.getElem?_drop];simp
 rw [this,List.drop_drop]
theorem Jhs {hs:List JS} {bs:List (List JW)} {i:Nat} {x:List JW} {h:JS} (hx:bs[i]? = some x) (hh:hs[i]? = some h) (h0:(JP x []).2=0) (h1:(JP x []).1=h.root):YG (hs.drop i) (bs.drop i)=YG (hs.drop (i+1)) (bs.drop (i+1)):=by
 rw [Ja9 hx,if_neg (by omega),hh,if_neg (by simpa using h1)]
theorem Jip {hs:List JS} {bs:List (List JW)} {i:Nat} {x:List JW} (hx:bs[i]? = some x) (h0:¬ (JP x []).2=0):YG (hs.drop i) (bs.drop i)=(JP x []).2:=by
 rw [Ja9 hx,if_pos h0]
theorem Jiq {hs:List JS} {bs:List (List JW)} {i:Nat} {x:List JW} {h:JS} (hx:bs[i]? = some x) (hh:hs[i]? = some h) (h0:(JP x []).2=0) (h1:¬ (JP x []).1=h.root):YG (hs.drop i) (bs.drop i)=8:=by
 rw [Ja9 hx,if_neg (by omega),hh,if_pos (by simpa using h1)]
theorem Jek:∀ (bs:List (List JW)) (hs:List JS),YG hs bs=0 ↔ ∀ (k:Nat) x,bs[k]? = some x→(JP x []).2=0∧(JP x []).1=(hs[k]?.getD W0).root
 | [],hs=>by simp [YG]
 | l::bs,hs=>by
  have ih:=Jek bs (hs.drop 1)
  have e:QX hs=hs[0]?.getD W0:=rfl
  unfold YG
  constructor
  ·
   intro h
   split at h
   ·
    contradiction
   split at h
   ·
    cases h
   ·
    rename_i h1 h2
    intro k x hx
    cases k with
    | zero=>simp only [List.getElem?_cons_zero,Option.some.injEq] at hx;subst hx;exact ⟨Decidable.not_not.1 h1,by rw [← e];exact Decidable.not_not.1 h2⟩
    | succ k =>
     have:=ih.1 h k x (by simpa using hx)
     rw [List.getElem?_drop,Nat.add_comm] at this;exact this
  ·
   intro h
   obtain ⟨h1,h2⟩:=h 0 l rfl
   rw [if_neg (by omega),if_neg (by rw [e];omega)]
   refine ih.2 fun k x hx=>?_
   rw [List.getElem?_drop,Nat.add_comm]
   exact h (k+1) x (by simpa using hx)
def J8 (c:Kw):Int:=if ¬ J7 c.queue=0 then J7 c.queue else if (ZL c.batch 30=false∨ZL c.every 1000=false)∨c.now<0∨c.now > 1000000000 then 4 else if ¬ (Kc c.heads).1=0 then (Kc c.heads).1 else if ¬ Qv c=0 then Qv c else if WJ c [] > 24 then 7 else 0
structure Q8 (c:Kw):Prop where
 queue:J7 c.queue=0
 batch:1≤c.batch∧c.batch≤30
 every:1≤c.every∧c.every≤1000
 now:0≤c.now∧c.now≤1000000000
 chain:Wc c.heads
 first:(QX c.heads).epoch=0
 len:c.books.length=c.heads.length
 at_:(WC c.heads).at_≤c.now
 root:∀ (k:Nat) x,c.books[k]? = some x→(JP x []).2=0∧(JP x []).1=(c.heads[k]?.getD W0).root
 names:nn (Vv c [])≤24
theorem VS {c:Kw}:Qv c=0 ↔ (QX c.heads).epoch=0∧c.books.length=c.heads.length∧(WC c.heads).at_≤c.now∧∀ (k:Nat) x,c.books[k]? = some x→(JP x []).2=0∧(JP x []).1=(c.heads[k]?.getD W0).root:=by
 unfold Qv
 rw [← Jek]
 split
 ·
  rename_i h
  refine ⟨fun e=>(by cases e),fun ⟨a,b,d,_⟩=>?_⟩
  rcases h with (h | h) | h
  ·
   exact absurd a h
  ·
   omega
  ·
   omega
 ·
  rename_i h
  simp only [not_or,Decidable.not_not] at h
  refine ⟨fun e=>⟨h.1.1,by have:=h.1.2;omega,by omega,e⟩,fun e=>e.2.2.2⟩
theorem WK {c:Kw}:J8 c=0 ↔ Q8 c:=by
 unfold J8
 constructor
 ·
  intro h
  split at h
  ·
   contradiction
  split at h
  ·
   cases h
  split at h
  ·
   contradiction
  split at h
  ·
   contradiction
  split at h
  ·
   cases h
  ·
   rename_i h1 h2 h3 h4 h5
   simp only [not_or,Bool.not_eq_false] at h2
   obtain ⟨⟨a1,a2⟩,a3,a4⟩:=h2
   obtain ⟨b1,b2,b3,b4⟩:=VS.1 (Decidable.not_not.1 h4)
   unfold WJ at h5
   exact ⟨Decidable.not_not.1 h1,Y9.1 a1,Y9.1 a2,⟨by omega,by omega⟩,KZ.1 (Decidable.not_not.1 h3),b1,b2,b3,b4,by omega⟩
 ·
  intro h
  have e1:=Y9.2 h.batch
  have e2:=Y9.2 h.every
  have e3:=VS.2 ⟨h.first,h.len,h.at_,h.root⟩
  have e4:=KZ.2 h.chain
  have e5:=h.names
  have e6:=h.now
  rw [if_neg (by rw [h.queue];simp),if_neg (by rw [e1,e2];simp;omega),if_neg (by rw [e4];simp),if_neg (by rw [e3];simp),if_neg (by unfold WJ;omega)]
theorem Jir {c:Kw} {x:JS} (h:(c.heads[0]? = some x∧¬ x.epoch=0)∨¬ (c.books.length:Int)=c.heads.length∨(∃ y,c.heads[c.heads.length-1]? = some y∧y.at_ > c.now)):Qv c=3:=by
 unfold Qv
 rw [if_pos]
 rcases h with ⟨h,h2⟩ | h | ⟨y,h,h2⟩
 ·
  rw [WB h] at h2;exact .inl (.inl h2)
 ·
  exact .inl (.inr h)
 ·
  rw [Wk rfl h] at h2;exact .inr h2
theorem JlJ {c:Kw} {x y:JS} (hx:c.heads[0]? = some x) (h1:x.epoch=0) (h2:(c.books.length:Int)=c.heads.length) (hy:c.heads[c.heads.length-1]? = some y) (h3:¬ y.at_ > c.now):Qv c=YG c.heads c.books:=by
 unfold Qv
 rw [WB hx] at h1;rw [Wk rfl hy] at h3
 rw [if_neg]
 rintro ((h | h) | h)
 ·
  exact h h1
 ·
  exact h h2
 ·
  exact h3 h
theorem JdL {c:Kw} (hq:J7 c.queue=0) (hc:(Kc c.heads).1=0) (hb:Qv c=0):0<c.books.length∧c.books.length≤1000∧(Qy c.books).length≤1000∧c.queue.wait.length≤1000:=by
 have h1:=K5.1 hq
 have h2:=KZ.1 hc
 obtain ⟨_,b2,_,b4⟩:=VS.1 hb
 have l1:=h2.len1;have l2:=h2.len
 have hl:c.books.length-1<c.books.length:=by omega
 have e:c.books[c.books.length-1]? = some (Qy c.books):=by unfold Qy;rw [List.getElem?_eq_getElem hl];rfl
 have:=(JbS (b4 _ _ e).1).1.len
 omega
def Kb (c:Kw) (epoch:Int):List JW×Int:=if ¬ J8 c=0 then ([],J8 c) else if epoch<0∨epoch ≥ c.books.length then ([],4) else (c.books[epoch.toNat]?.getD [],0)
theorem JaJ {c:Kw} {e:Int} (h:(Kb c e).2=0):Q8 c∧0≤e∧e<c.books.length∧c.books[e.toNat]? = some (Kb c e).1:=by
 unfold Kb at h ⊢
 split at h
 ·
  contradiction
 split at h
 ·
  cases h
 ·
  rename_i h1 h2
  rw [if_neg h1,if_neg h2]
  have hl:e.toNat<c.books.length:=by omega
  refine ⟨WK.1 (Decidable.not_not.1 h1),by omega,by omega,?_⟩
  simp only
  rw [List.getElem?_eq_getElem hl];rfl
theorem JlK (c:Kw) (e:Int):(Kb c e).1.length≤24:=by
 by_cases h:(Kb c e).2=0
 ·
  obtain ⟨ok,_,_,hx⟩:=JaJ h
  exact (JbS (ok.root _ _ hx).1).1.len
 ·
  unfold Kb at h ⊢
  split
  ·
   simp
  split
  ·
   simp
  ·
   rename_i h1 h2;rw [if_neg h1,if_neg h2] at h;exact absurd rfl h
def Jel:Go.Shelf.Ren:=⟨fun x=>if Nat.beq x 7 then 79 else if Nat.beq x 8 then 78 else if Nat.beq x 10 then 119 else if Nat.beq x 11 then 118 else 0,fun x=>if Nat.beq x 0 then 0 else if Nat.beq x 4 then 4 else if Nat.beq x 23 then 152 else if Nat.beq x 24 then 22 else if Nat.beq x 26 then 9 else if Nat.beq x 27 then 154 else if Nat.beq x 28 then 155 else if Nat.beq x 33 then 110 else if Nat.beq x 3 then 4 else 0,fun x=>x⟩
theorem lay_n7:SlLaysZ.n7 Tryz.prog Jel:={
 mixed:=rfl,
 f7:=⟨Tryz.f79.name,by decide,Tryz.func79.trans (by kernel_rfl)⟩,
 f10:=⟨Tryz.f119.name,by decide,Tryz.func119.trans (by kernel_rfl)⟩,
 t0:=by kernel_rfl,
 a0:=by intro w;kernel_rfl,
 z0:=by intro w;kernel_rfl,
 v0:=by intro w;kernel_rfl,
 t4:=by kernel_rfl,
 a4:=by intro w;kernel_rfl,
 z4:=by intro w;kernel_rfl,
 v4:=by intro w;kernel_rfl,
 t23:=by kernel_rfl,
 a23:=by intro w;kernel_rfl,
 z23:=by intro w;kernel_rfl,
 v23:=by intro w;kernel_rfl,
 t26:=by kernel_rfl,
 a26:=by intro w;kernel_rfl,
 z26:=by intro w;kernel_rfl,
 v26:=by intro w;kernel_rfl,
 t27:=by kernel_rfl,
 a27:=by intro w;kernel_rfl,
 z27:=by intro w;kernel_rfl,
 v27:=by intro w;kernel_rfl,
 t28:=by kernel_rfl,
 a28:=by intro w;kernel_rfl,
 z28:=by intro w;kernel_rfl,
 v28:=by intro w;kernel_rfl,
 t33:=by kernel_rfl,
 a33:=by intro w;kernel_rfl,
 z33:=by intro w;kernel_rfl,
 v33:=by intro w;kernel_rfl }
theorem lay_n8:SlLaysZ.n8 Tryz.prog Jel:={
 mixed:=rfl,
 f8:=⟨Tryz.f78.name,by decide,Tryz.func78.trans (by kernel_rfl)⟩,
 f11:=⟨Tryz.f118.name,by decide,Tryz.func118.trans (by kernel_rfl)⟩,
 t0:=by kernel_rfl,
 a0:=by intro w;kernel_rfl,
 z0:=by intro w;kernel_rfl,
 v0:=by intro w;kernel_rfl,
 t24:=by kernel_rfl,
 a24:=by intro w;kernel_rfl,
 z24:=by intro w;kernel_rfl,
 v24:=by intro w;kernel_rfl,
 t26:=by kernel_rfl,
 a26:=by intro w;kernel_rfl,
 z26:=by intro w;kernel_rfl,
 v26:=by intro w;kernel_rfl,
 t28:=by kernel_rfl,
 a28:=by intro w;kernel_rfl,
 z28:=by intro w;kernel_rfl,
 v28:=by intro w;kernel_rfl,
 i26:=by kernel_rfl }
theorem JmL:SlLaysZ.n10 Tryz.prog Jel:={
 mixed:=rfl,
 f10:=⟨Tryz.f119.name,by decide,Tryz.func119.trans (by kernel_rfl)⟩,
 t0:=by kernel_rfl,
 a0:=by intro w;kernel_rfl,
 z0:=by intro w;kernel_rfl,
 v0:=by intro w;kernel_rfl,
 t4:=by kernel_rfl,
 a4:=by intro w;kernel_rfl,
 z4:=by intro w;kernel_rfl,
 v4:=by intro w;kernel_rfl,
 t23:=by kernel_rfl,
 a23:=by intro w;kernel_rfl,
 z23:=by intro w;kernel_rfl,
 v23:=by intro w;kernel_rfl,
 t26:=by kernel_rfl,
 a26:=by intro w;kernel_rfl,
 z26:=by intro w;kernel_rfl,
 v26:=by intro w;kernel_rfl,
 t33:=by kernel_rfl,
 a33:=by intro w;kernel_rfl,
 z33:=by intro w;kernel_rfl,
 v33:=by intro w;kernel_rfl }
theorem JeT (G:Jt) (root:Int) (hw_root:rU root) (a:Int) (hw_a:rI a) :QI Tryz.prog 85 #[U root,I a] G [] (fun u G' L'=>u=.tuple #[.agg #[I (((KU root a).1).epoch),U (((KU root a).1).root),U (((KU root a).1).prev),I (((KU root a).1).at_)],I ((KU root a).2)]):=by
 refine JK Tryz.func85 18 [(0,U root),(1,I a)] rfl (fun w0 G0=>?_)
 refine Je (Jb (Ju 4 #[I 0,U 0,U 0,I 0] 50 (fun b1=>Jd [0] [(0,U root),(1,I a),(4,Pt b1 0)] (Jc (Ja (Je (Jb (Jd [0,0,0] [(4,Pt b1 0),(10,.agg #[I 0,U root,U 0,I a])] (Ju 6 #[I 0,U 0,U 0,I 0] 50 (fun b2=>Kd [3] [(4,Pt b1 0),(6,Pt b2 0)] [[Sg b2 0 [I 0,U root,U 0,I a]],[Sg b1 0 [I 0,U 0,U 0,I 0]]] (Jc (Ja (Je (Je (Jb (Jd [2] [(4,Pt b1 0),(6,Pt b2 0),(11,.agg #[I 0,U root,U 0,I a])] (Ji 12 (I (JE (⟨0,root,0,a⟩:JS))) (Zw (⟨0,root,0,a⟩:JS) G) (Jd [0] [(4,Pt b1 0),(6,Pt b2 0),(7,I (JE (⟨0,root,0,a⟩:JS)))] (Jc (Ja (Jg [0,0] [(4,Pt b1 0),(6,Pt b2 0),(7,I (JE (⟨0,root,0,a⟩:JS))),(14,Bo (!decide (JE (⟨0,root,0,a⟩:JS)=0)))] (Jo (!decide (JE (⟨0,root,0,a⟩:JS)=0)) (fun h1=>?_) (fun h1=>?_)))))))))))))))))))))))
 try simp only [BB] at h1
 refine Jg [0,0,5,0] [(4,Pt b1 0),(5,I (JE (⟨0,root,0,a⟩:JS)))] (Jk (Jh (Jl [1,0] [.agg #[I 0,U 0,U 0,I 0],I (JE (⟨0,root,0,a⟩:JS))] (Jv (Jt.le_refl _) ?_))))
 have hf_:(KU root a)=((⟨0,0,0,0⟩:JS),(JE (⟨0,root,0,a⟩:JS))):=by
  unfold KU W0;(rw [if_pos ‹_›];done)
 · (try rw [hf_]);(simp only [JM];done)
 try simp only [BB] at h1
 refine Jn (Ja (WO [2,5,0] [(4,Pt b1 0),(5,I 0)] [[Sg b2 0 [I 0,U root,U 0,I a]],[Sg b1 0 [I 0,U root,U 0,I a]]] (Jk (Jl [1,0] [.agg #[I 0,U root,U 0,I a],I 0] (Jv (Jt.le_refl _) ?_)))))
 have hf_:(KU root a)=((⟨0,root,0,a⟩:JS),0):=by
  unfold KU W0;(rw [if_neg (by omega)];done)
 · (try rw [hf_]);(simp only [JM];done)
theorem Jap (G:Jt) (n:Int) (most:Int) :QI Tryz.prog 35 #[I n,I most] G [] (fun u G' L'=>u=Bo (ZL n most)):=by
 refine JK Tryz.func35 12 [(0,I n),(1,I most)] rfl (fun w0 G0=>?_)
 refine Jg [0] [(0,I n),(1,I most)] (Je (Jb (Jd [0,0,0] [(0,I n),(1,I most),(7,Bo (decide (n ≥ 1)))] (KD (decide (n ≥ 1)) (fun bb=>[(0,I n),(1,I most),(7,Bo bb)]) [0,0,0,0] [1,1,1,0] (fun bb=>[(11,Bo (bb && (decide (n≤most))))]) (Jd [0] [(4,Bo ((decide (n ≥ 1)) && (decide (n≤most))))] (Jc (Ja (Jk (Jl [0] [Bo ((decide (n ≥ 1)) && (decide (n≤most)))] (Jv (Jt.le_refl _) ?_))))))))))
 have hf_:(ZL n most)=((decide (n ≥ 1)) && (decide (n≤most))):=by
  rfl
 · (try rw [hf_]);(simp only [JM];done)
theorem Jem (G:Jt) (vs_c:List Value) (c:Kw) (h_c:VJ.R G vs_c c) (hb:0<c.books.length) (hb2:c.books.length≤1000):QI Tryz.prog 60 #[.agg vs_c.toArray] G [] (fun u G' L'=>∃ (a1:Option Addr) (c2:Nat),u=Sl a1 ((Qy c.books).length) c2∧(RS Qr G' a1 c2 (Qy c.books))∧L'=[]):=by
 obtain ⟨a1,c1,a2,c2,a3,c3,rfl,_,_,_,_,_,_,hs3⟩:=h_c
 refine JK Tryz.func60 11 [(0,(KX c a1 c1 a2 c2 a3 c3))] rfl (fun w0 G0=>?_)
 refine Je (Jb (Ju 1 #[I c.queue.most,Sl a1 c.queue.wait.length c1,I c.batch,I c.every,I c.now,Sl a2 c.heads.length c2,Sl a3 c.books.length c3] 34 (fun b1=>Jd [0] [(1,Pt b1 0)] (Jc (Ja (Je (Jb (Jd [0,2,0,2,0,0] [(4,Sl a3 c.books.length c3),(8,I (IntKind.i64.wrap ((c.books.length:Int)-1)))] ?_))))))))
 have e1:IntKind.i64.wrap ((c.books.length:Int)-1)=((c.books.length-1:Nat):Int):=(IntWalk.i64_in _ (by omega)).trans (show (c.books.length:Int)-1=((c.books.length-1:Nat):Int) by omega)
 refine J4 (fr':=[(4,Sl a3 c.books.length c3),(8,I ((c.books.length-1:Nat):Int))]) (L':=[[Sg b1 0 [I c.queue.most,Sl a1 c.queue.wait.length c1,I c.batch,I c.every,I c.now,Sl a2 c.heads.length c2,Sl a3 c.books.length c3]]]) (by simp only [KX,e1];first | done | rfl) (by rfl) ?_
 clear e1
 obtain ⟨b2,o1,rfl⟩:=RS.addr hs3 (k:=c.books.length-1) (by omega)
 obtain ⟨x1,hx1⟩:=Wj (l:=c.books) (k:=c.books.length-1) (by omega)
 obtain ⟨_,⟨a4,c4,rfl,hs4⟩,hc1⟩:=RS.get hs3 hx1
 refine Ki (b:=b2) (off:=o1) (len:=c.books.length) (cap:=c3) (ik:=.i64) 9 66 1 (c.books.length-1) (by omega) (Ka 10 66 (cs:=[Sl a4 x1.length c4]) 0 (Sl a4 x1.length c4) hc1 (Jd [0] [(2,Sl a4 x1.length c4)] (Jc (Ja (Jk ?_)))))
 have hf1:Qy c.books=x1:=by
  exact (Jkq rfl hx1).symm
 refine Jl [0] [Sl a4 x1.length c4] (JY [] (.cons _ .slnil) (Jt.le_refl _) ?_)
 rw [hf1]
 try dsimp only
 exact ⟨a4,c4,rfl,hs4,rfl⟩
theorem Jba (G:Jt) (vs_c:List Value) (c:Kw) (h_c:VJ.R G vs_c c) (a_more:Option Addr) (c_more:Nat) (more:List (List UInt8)) (h_more:RS ES G a_more c_more more) (hb:0<c.books.length) (hb2:c.books.length≤1000) (hn1:(Qy c.books).length≤1000) (hn2:c.queue.wait.length≤1000) (hn3:more.length≤1000):QI Tryz.prog 38 #[.agg vs_c.toArray,Sl a_more more.length c_more] G [] (fun u G' L'=>u=I (WJ c more)):=by
 obtain ⟨a1,c1,a2,c2,a3,c3,rfl,w1,hs1,w2,w3,w4,hs2,hs3⟩:=h_c
 refine JK Tryz.func38 49 [(0,(KX c a1 c1 a2 c2 a3 c3)),(1,Sl a_more more.length c_more)] rfl (fun w0 G0=>?_)
 refine Je (Jb (Ju 2 #[I c.queue.most,Sl a1 c.queue.wait.length c1,I c.batch,I c.every,I c.now,Sl a2 c.heads.length c2,Sl a3 c.books.length c3] 34 (fun b1=>Jd [0] [(1,Sl a_more more.length c_more),(2,Pt b1 0)] (Jc (Ja (Je (Jb (Jim 12 9 4 (fun b2 ob1 hm1=>Jd [0] [(1,Sl a_more more.length c_more),(2,Pt b1 0),(5,.map (some b2))] (Jc (Ja (Je (Je (Jb (Jd [4] [(1,Sl a_more more.length c_more),(2,Pt b1 0),(5,.map (some b2)),(13,(KX c a1 c1 a2 c2 a3 c3))] (JQ 14 (Jem G (Ko c a1 c1 a2 c2 a3 c3) c (⟨a1,c1,a2,c2,a3,c3,rfl,w1,hs1,w2,w3,w4,hs2,hs3⟩) ‹_› ‹_›) (fun v G1 L1 hl1 hp=>?_)))))))))))))))))
 obtain ⟨a4,c4,rfl,hs4,rfl⟩:=hp
 refine Jd [0,0] [(1,Sl a_more more.length c_more),(2,Pt b1 0),(5,.map (some b2)),(14,Sl a4 ((Qy c.books).length) c4),(15,I ((Qy c.books).length:Int)),(16,I 0)] (Jc (Ja (Jz ?_)))
 have hlm_h_more:more.length≤9223372036854775807:=Nat.le_trans (h_more).le (h_more).max
 have hlm_hs4:(Qy c.books).length≤9223372036854775807:=Nat.le_trans (hs4).le (hs4).max
 refine Qe (σ:=Nat×Obj) (fun q_=>(q_.1≤(Qy c.books).length)∧(JcQ Tryz.prog 9 4 q_.2 q_.1 (Dn (KL ((Qy c.books).take q_.1))))) (fun q_=>[(1,Sl a_more more.length c_more),(2,Pt b1 0),(5,.map (some b2)),(14,Sl a4 ((Qy c.books).length) c4),(15,I ((Qy c.books).length:Int)),(16,I (q_.1:Int))]) (fun q_=>G1) (fun q_=>[[Ob b2 q_.2],[Sg b1 0 (Ko c a1 c1 a2 c2 a3 c3)]]) (fun q_=>(Qy c.books).length-q_.1) (0,ob1) ⟨(by (try dsimp only);exact Nat.zero_le _),(by (try dsimp only);exact hm1)⟩ (fun q_ hs=>?_)
 obtain ⟨i,ob1⟩:=q_
 obtain ⟨hi,hm1⟩:=hs
 dsimp only at hi hm1
 refine KP (fr':=[(1,Sl a_more more.length c_more),(2,Pt b1 0),(5,.map (some b2)),(14,Sl a4 ((Qy c.books).length) c4),(15,I ((Qy c.books).length:Int)),(16,I (i:Int))]) (L':=[[Ob b2 ob1],[Sg b1 0 (Ko c a1 c1 a2 c2 a3 c3)]]) rfl rfl (Jg [0] [(1,Sl a_more more.length c_more),(2,Pt b1 0),(5,.map (some b2)),(14,Sl a4 ((Qy c.books).length) c4),(15,I ((Qy c.books).length:Int)),(16,I (i:Int)),(17,Bo (decide ((i:Int)<((Qy c.books).length:Int))))] (Je (Jo (decide ((i:Int)<((Qy c.books).length:Int))) (fun h1=>?_) (fun h1=>?_))))
 try simp only [BB] at h1
 refine Jn (Ja (Je (Jz (Je (Jb ?_)))))
 obtain ⟨b3,o1,rfl⟩:=RS.addr hs4 (k:=i) (by omega)
 obtain ⟨x1,hx1⟩:=Wj (l:=Qy c.books) (k:=i) (by omega)
 obtain ⟨_,⟨rfl,w5,_⟩,hc1⟩:=RS.get hs4 hx1
 refine Ki (b:=b3) (off:=o1) (len:=(Qy c.books).length) (cap:=c4) (ik:=.i64) 18 94 2 i (by omega) (Ka 19 94 (cs:=[Sr x1.name,Sr x1.value]) 0 (.agg #[Sr x1.name,Sr x1.value]) hc1 (Ju 7 #[Sr ([]),Sr ([])] 94 (fun b4=>Kd [3] [(1,Sl a_more more.length c_more),(2,Pt b1 0),(5,.map (some b2)),(7,Pt b4 0),(14,Sl (At b3 o1) ((Qy c.books).length) c4),(15,I ((Qy c.books).length:Int)),(16,I (i:Int))] [[Sg b4 0 [Sr x1.name,Sr x1.value]],[Ob b2 ob1],[Sg b1 0 (Ko c a1 c1 a2 c2 a3 c3)]] (Jc (Ja (Jb (Jd [0,0,2] [(1,Sl a_more more.length c_more),(2,Pt b1 0),(5,.map (some b2)),(14,Sl (At b3 o1) ((Qy c.books).length) c4),(15,I ((Qy c.books).length:Int)),(16,I (i:Int)),(20,.map (some b2)),(22,Sr x1.name)] (JcR (n:=i) (D:=Dn (KL ((Qy c.books).take i))) (s:=x1.name) 1 152 9 4 true hm1 (Go.Maps.string_keyed (by kernel_rfl)) (by kernel_rfl) (by kernel_rfl) (by kernel_rfl) (Nat.le_trans w5 (by decide)) (Nat.lt_of_lt_of_le (m:=1000000) (by omega) (by decide)) (fun ob2 hm2=>?_)))))))))
 rw [← JdK] at hm2
 refine Jc (JN (Ja (Jb (Jd [0,0] [(1,Sl a_more more.length c_more),(2,Pt b1 0),(5,.map (some b2)),(14,Sl (At b3 o1) ((Qy c.books).length) c4),(15,I ((Qy c.books).length:Int)),(16,I (IntKind.i64.wrap ((i:Int)+1)))] ?_))))
 have e1:IntKind.i64.wrap ((i:Int)+1)=(i:Int)+1:=IntWalk.i64_in _ (by omega)
 refine J4 (fr':=[(1,Sl a_more more.length c_more),(2,Pt b1 0),(5,.map (some b2)),(14,Sl (At b3 o1) ((Qy c.books).length) c4),(15,I ((Qy c.books).length:Int)),(16,I ((i:Int)+1))]) (L':=[[Sg b4 0 [Sr x1.name,Sr x1.value]],[Ob b2 ob2],[Sg b1 0 [I c.queue.most,Sl a1 c.queue.wait.length c1,I c.batch,I c.every,I c.now,Sl a2 c.heads.length c2,Sl a3 c.books.length c3]]]) (by simp only [Ko,KX,e1];first | done | rfl) (by rfl) ?_
 clear e1
 exact Jc (Q4 [[Ob b2 ob2],[Sg b1 0 (Ko c a1 c1 a2 c2 a3 c3)]] (.cons _ (.cons_cons _ (.cons_cons _ .slnil))) (Qh (i+1,ob2) ⟨(by omega),(by rw [JeR hx1];exact hm2)⟩ (by (try dsimp only);omega)))
 try simp only [BB] at h1
 refine K2 (J3 (Kf (JV (Ja (Je (Jg [0,0,4,0,0] [(1,Sl a_more more.length c_more),(5,.map (some b2)),(26,Sl a1 c.queue.wait.length c1),(27,I (c.queue.wait.length:Int)),(28,I 0)] (Jz ?_)))))))
 have hlm_h_more:more.length≤9223372036854775807:=Nat.le_trans (h_more).le (h_more).max
 have hlm_hs1:c.queue.wait.length≤9223372036854775807:=Nat.le_trans (hs1).le (hs1).max
 refine Qe (σ:=Nat×Obj) (fun q_=>(q_.1≤c.queue.wait.length)∧(JcQ Tryz.prog 9 4 q_.2 ((Qy c.books).length+q_.1) (Dn (KL (Qy c.books)++Qj (c.queue.wait.take q_.1))))) (fun q_=>[(1,Sl a_more more.length c_more),(5,.map (some b2)),(26,Sl a1 c.queue.wait.length c1),(27,I (c.queue.wait.length:Int)),(28,I (q_.1:Int))]) (fun q_=>G1) (fun q_=>[[Ob b2 q_.2],[Sg b1 0 (Ko c a1 c1 a2 c2 a3 c3)]]) (fun q_=>c.queue.wait.length-q_.1) (0,ob1) ⟨(by (try dsimp only);exact Nat.zero_le _),(by (try dsimp only);have e_:=List.take_of_length_le (i:=i) (l:=Qy c.books) (by omega);have e2_:i=(Qy c.books).length:=(by omega);have q_:=hm1;rw [e_] at q_;rw [e2_] at q_;simpa [Qj] using q_)⟩ (fun q_ hs=>?_)
 obtain ⟨j,ob2⟩:=q_
 obtain ⟨hi,hm2⟩:=hs
 dsimp only at hi hm2
 refine KP (fr':=[(1,Sl a_more more.length c_more),(5,.map (some b2)),(26,Sl a1 c.queue.wait.length c1),(27,I (c.queue.wait.length:Int)),(28,I (j:Int))]) (L':=[[Ob b2 ob2],[Sg b1 0 (Ko c a1 c1 a2 c2 a3 c3)]]) rfl rfl (Jg [0] [(1,Sl a_more more.length c_more),(5,.map (some b2)),(26,Sl a1 c.queue.wait.length c1),(27,I (c.queue.wait.length:Int)),(28,I (j:Int)),(29,Bo (decide ((j:Int)<(c.queue.wait.length:Int))))] (Je (Jo (decide ((j:Int)<(c.queue.wait.length:Int))) (fun h2=>?_) (fun h2=>?_))))
 try simp only [BB] at h2
 refine Jn (Ja (Je (Jz (Je (Jb ?_)))))
 obtain ⟨b5,o2,rfl⟩:=RS.addr (hs1.mono hl1) (k:=j) (by omega)
 obtain ⟨x2,hx2⟩:=Wj (l:=c.queue.wait) (k:=j) (by omega)
 obtain ⟨_,⟨rfl,w7,_,_,_⟩,hc2⟩:=RS.get (hs1.mono hl1) hx2
 refine Ki (b:=b5) (off:=o2) (len:=c.queue.wait.length) (cap:=c1) (ik:=.i64) 30 83 4 j (by omega) (Ka 31 83 (cs:=[Sr x2.name,Sr x2.value,U x2.n,U x2.tag]) 0 (.agg #[Sr x2.name,Sr x2.value,U x2.n,U x2.tag]) hc2 (Ju 9 #[Sr ([]),Sr ([]),U 0,U 0] 83 (fun b6=>Kd [3] [(1,Sl a_more more.length c_more),(5,.map (some b2)),(9,Pt b6 0),(26,Sl (At b5 o2) c.queue.wait.length c1),(27,I (c.queue.wait.length:Int)),(28,I (j:Int))] [[Sg b6 0 [Sr x2.name,Sr x2.value,U x2.n,U x2.tag]],[Ob b2 ob2],[Sg b1 0 (Ko c (At b5 o2) c1 a2 c2 a3 c3)]] (Jc (Ja (Jb (Jd [0,0,2] [(1,Sl a_more more.length c_more),(5,.map (some b2)),(26,Sl (At b5 o2) c.queue.wait.length c1),(27,I (c.queue.wait.length:Int)),(28,I (j:Int)),(32,.map (some b2)),(34,Sr x2.name)] (JcR (n:=(Qy c.books).length+j) (D:=Dn (KL (Qy c.books)++Qj (c.queue.wait.take j))) (s:=x2.name) 1 152 9 4 true hm2 (Go.Maps.string_keyed (by kernel_rfl)) (by kernel_rfl) (by kernel_rfl) (by kernel_rfl) (Nat.le_trans w7 (by decide)) (Nat.lt_of_lt_of_le (m:=1000000) (by omega) (by decide)) (fun ob3 hm3=>?_)))))))))
 rw [← JdK] at hm3
 refine Jc (JN (Ja (Jb (Jd [0,0] [(1,Sl a_more more.length c_more),(5,.map (some b2)),(26,Sl (At b5 o2) c.queue.wait.length c1),(27,I (c.queue.wait.length:Int)),(28,I (IntKind.i64.wrap ((j:Int)+1)))] ?_))))
 have e2:IntKind.i64.wrap ((j:Int)+1)=(j:Int)+1:=IntWalk.i64_in _ (by omega)
 refine J4 (fr':=[(1,Sl a_more more.length c_more),(5,.map (some b2)),(26,Sl (At b5 o2) c.queue.wait.length c1),(27,I (c.queue.wait.length:Int)),(28,I ((j:Int)+1))]) (L':=[[Sg b6 0 [Sr x2.name,Sr x2.value,U x2.n,U x2.tag]],[Ob b2 ob3],[Sg b1 0 [I c.queue.most,Sl (At b5 o2) c.queue.wait.length c1,I c.batch,I c.every,I c.now,Sl a2 c.heads.length c2,Sl a3 c.books.length c3]]]) (by simp only [Ko,KX,e2];first | done | rfl) (by rfl) ?_
 clear e2
 exact Jc (Q4 [[Ob b2 ob3],[Sg b1 0 (Ko c (At b5 o2) c1 a2 c2 a3 c3)]] (.cons _ (.cons_cons _ (.cons_cons _ .slnil))) (Qh (j+1,ob3) ⟨(by omega),(by rw [JeS hx2,← List.append_assoc];exact hm3)⟩ (by (try dsimp only);omega)))
 try simp only [BB] at h2
 refine K2 (J3 (Kf (JV (Ja (Je (Jg [0,0,0] [(5,.map (some b2)),(36,Sl a_more more.length c_more),(37,I (more.length:Int)),(38,I 0)] (Jz ?_)))))))
 have hlm_h_more:more.length≤9223372036854775807:=Nat.le_trans (h_more).le (h_more).max
 refine Qe (σ:=Nat×Obj) (fun q_=>(q_.1≤more.length)∧(JcQ Tryz.prog 9 4 q_.2 ((Qy c.books).length+c.queue.wait.length+q_.1) (Dn (KL (Qy c.books)++Qj c.queue.wait++more.take q_.1)))) (fun q_=>[(5,.map (some b2)),(36,Sl a_more more.length c_more),(37,I (more.length:Int)),(38,I (q_.1:Int))]) (fun q_=>G1) (fun q_=>[[Ob b2 q_.2],[Sg b1 0 (Ko c a1 c1 a2 c2 a3 c3)]]) (fun q_=>more.length-q_.1) (0,ob2) ⟨(by (try dsimp only);exact Nat.zero_le _),(by (try dsimp only);have e_:=List.take_of_length_le (i:=j) (l:=c.queue.wait) (by omega);have e2_:j=c.queue.wait.length:=(by omega);have q_:=hm2;rw [e_] at q_;rw [e2_] at q_;simpa using q_)⟩ (fun q_ hs=>?_)
 obtain ⟨k,ob3⟩:=q_
 obtain ⟨hi,hm3⟩:=hs
 dsimp only at hi hm3
 refine KP (fr':=[(5,.map (some b2)),(36,Sl a_more more.length c_more),(37,I (more.length:Int)),(38,I (k:Int))]) (L':=[[Ob b2 ob3],[Sg b1 0 (Ko c a1 c1 a2 c2 a3 c3)]]) rfl rfl (Jg [0] [(5,.map (some b2)),(36,Sl a_more more.length c_more),(37,I (more.length:Int)),(38,I (k:Int)),(39,Bo (decide ((k:Int)<(more.length:Int))))] (Je (Jo (decide ((k:Int)<(more.length:Int))) (fun h3=>?_) (fun h3=>?_))))
 try simp only [BB] at h3
 refine Jn (Ja (Je (Jz (Je (Jb ?_)))))
 obtain ⟨b7,o3,rfl⟩:=RS.addr (h_more.mono hl1) (k:=k) (by omega)
 obtain ⟨x3,hx3⟩:=Wj (l:=more) (k:=k) (by omega)
 obtain ⟨_,⟨rfl,w11⟩,hc3⟩:=RS.get (h_more.mono hl1) hx3
 refine Ki (b:=b7) (off:=o3) (len:=more.length) (cap:=c_more) (ik:=.i64) 40 9 1 k (by omega) (Ka 41 9 (cs:=[Sr x3]) 0 (Sr x3) hc3 (Jd [0] [(5,.map (some b2)),(11,Sr x3),(36,Sl (At b7 o3) more.length c_more),(37,I (more.length:Int)),(38,I (k:Int))] (Jc (Ja (Jb (Jd [0,0] [(5,.map (some b2)),(36,Sl (At b7 o3) more.length c_more),(37,I (more.length:Int)),(38,I (k:Int)),(42,.map (some b2)),(43,Sr x3)] (JcR (n:=(Qy c.books).length+c.queue.wait.length+k) (D:=Dn (KL (Qy c.books)++Qj c.queue.wait++more.take k)) (s:=x3) 0 152 9 4 true hm3 (Go.Maps.string_keyed (by kernel_rfl)) (by kernel_rfl) (by kernel_rfl) (by kernel_rfl) (Nat.le_trans w11 (by decide)) (Nat.lt_of_lt_of_le (m:=1000000) (by omega) (by decide)) (fun ob4 hm4=>?_))))))))
 rw [← JdK] at hm4
 refine Jc (JN (Ja (Jb (Jd [0,0] [(5,.map (some b2)),(36,Sl (At b7 o3) more.length c_more),(37,I (more.length:Int)),(38,I (IntKind.i64.wrap ((k:Int)+1)))] ?_))))
 have e3:IntKind.i64.wrap ((k:Int)+1)=(k:Int)+1:=IntWalk.i64_in _ (by omega)
 refine J4 (fr':=[(5,.map (some b2)),(36,Sl (At b7 o3) more.length c_more),(37,I (more.length:Int)),(38,I ((k:Int)+1))]) (L':=[[Ob b2 ob4],[Sg b1 0 [I c.queue.most,Sl a1 c.queue.wait.length c1,I c.batch,I c.every,I c.now,Sl a2 c.heads.length c2,Sl a3 c.books.length c3]]]) (by simp only [Ko,KX,e3];first | done | rfl) (by rfl) ?_
 clear e3
 exact Jc (Qh (k+1,ob4) ⟨(by omega),(by rw [JlI hx3,← List.append_assoc];exact hm4)⟩ (by (try dsimp only);omega))
 try simp only [BB] at h3
 refine K2 (J3 (Kf (JV (Ja (Je (Jb (Jd [0] [(45,.map (some b2))] (Jkp (ρ:=Jel) (b:=b2) 46 lay_n7 (fun bk1=>Jgh (ρ:=Jel) (b:=b2) (bk:=bk1) (D:=Dn (KL (Qy c.books)++Qj c.queue.wait++more.take k)) 47 1 0 lay_n8 JmL hm3 (by rw [(Jji _).2.2];refine Nat.le_trans (nn_le _) ?_;simp only [List.length_append,Jgi,Jgj,List.length_take];omega) (fun a5 c5=>?_))))))))))
 refine Jd [0,0] [(4,I (((strKeys (Dn (KL (Qy c.books)++Qj c.queue.wait++more.take k))).length:Nat):Int))] (Jc (Ja (Jk (Jl [0] [I (((strKeys (Dn (KL (Qy c.books)++Qj c.queue.wait++more.take k))).length:Nat):Int)] (Jv hl1 ?_)))))
 have hf_:(WJ c more)=(((strKeys (Dn (KL (Qy c.books)++Qj c.queue.wait++more.take k))).length:Nat):Int):=by
  rw [JmK];unfold WJ Vv;rw [List.take_of_length_le (i:=k) (l:=more) (by omega)]
 · (try rw [hf_]);(simp only [JM];done)
theorem Jgk (G:Jt) (most:Int) (hw_most:rI most) (batch:Int) (hw_batch:rI batch) (every:Int) (hw_every:rI every) :QI Tryz.prog 48 #[I most,I batch,I every] G [] (fun u G' L'=>∃ (a1:Option Addr) (c2:Nat) (a3:Option Addr) (c4:Nat) (a5:Option Addr) (c6:Nat),u=.tuple #[.agg #[I (((JO most batch every).1).queue.most),Sl a1 ((((JO most batch every).1).queue.wait).length) c2,I (((JO most batch every).1).batch),I (((JO most batch every).1).every),I (((JO most batch every).1).now),Sl a3 ((((JO most batch every).1).heads).length) c4,Sl a5 ((((JO most batch every).1).books).length) c6],I ((JO most batch every).2)]∧(rI (((JO most batch every).1).queue.most))∧(RS QV G' a1 c2 (((JO most batch every).1).queue.wait))∧(rI (((JO most batch every).1).batch))∧(rI (((JO most batch every).1).every))∧(rI (((JO most batch every).1).now))∧(RS KE G' a3 c4 (((JO most batch every).1).heads))∧(RS Qp G' a5 c6 (((JO most batch every).1).books))∧L'=[]):=by
 refine JK Tryz.func48 43 [(0,I most),(1,I batch),(2,I every)] rfl (fun w0 G0=>?_)
 refine Je (Jb (Ju 6 #[I 0,Sl none 0 0,I 0,I 0,I 0,Sl none 0 0,Sl none 0 0] 34 (fun b1=>Jd [0] [(0,I most),(1,I batch),(2,I every),(6,Pt b1 0)] (Jc (Ja (Je (Je (Jb (Jd [0] [(0,I most),(1,I batch),(2,I every),(6,Pt b1 0),(12,I most)] (Ji 13 (Bo (ZL most 30)) (Jap G most 30) (Jd [0,0] [(0,I most),(1,I batch),(2,I every),(6,Pt b1 0),(15,Bo (!(ZL most 30)))] (We (fun bb=>[(0,I most),(1,I batch),(2,I every),(6,Pt b1 0),(15,Bo bb)]) (!(ZL most 30)) (fun h1=>?_) (fun h1=>?_)))))))))))))
 try simp only [BB] at h1
 refine Jd [1,1,1,0,0,1,1,1,0] [(0,I most),(1,I batch),(2,I every),(6,Pt b1 0),(24,Bo true)] (Jc (Ja (JZ (Jg [0,3,0] [(6,Pt b1 0),(7,I 4)] (Jk (Jh ?_))))))
 have hf1:JO most batch every=((⟨(⟨0,[]⟩:QN),0,0,0,[],[]⟩:Kw),4):=by
  unfold JO Zz;simp_all
 refine Jl [0,0] [.agg #[I 0,Sl none 0 0,I 0,I 0,I 0,Sl none 0 0,Sl none 0 0],I 4] (JY [] (.cons _ .slnil) (Jt.le_refl _) ?_)
 rw [hf1]
 try dsimp only
 exact ⟨none,0,none,0,none,0,rfl,(by omega),(RS.nil' QV G),(by omega),(by omega),(by omega),(RS.nil' KE G),(RS.nil' Qp G),rfl⟩
 try simp only [BB] at h1
 refine Jd [0] [(0,I most),(1,I batch),(2,I every),(6,Pt b1 0),(15,Bo false),(16,I batch)] (Ji 17 (Bo (ZL batch 30)) (Jap G batch 30) (Jd [0,0,0] [(0,I most),(1,I batch),(2,I every),(6,Pt b1 0),(20,Bo (!(ZL batch 30)))] (We (fun bb=>[(0,I most),(1,I batch),(2,I every),(6,Pt b1 0),(20,Bo bb)]) (!(ZL batch 30)) (fun h2=>?_) (fun h2=>?_))))
 try simp only [BB] at h2
 refine Jd [1,1,1,0] [(0,I most),(1,I batch),(2,I every),(6,Pt b1 0),(24,Bo true)] (Jc (Ja (JZ (Jg [0,3,0] [(6,Pt b1 0),(7,I 4)] (Jk (Jh ?_))))))
 have hf2:JO most batch every=((⟨(⟨0,[]⟩:QN),0,0,0,[],[]⟩:Kw),4):=by
  unfold JO Zz;simp_all
 refine Jl [0,0] [.agg #[I 0,Sl none 0 0,I 0,I 0,I 0,Sl none 0 0,Sl none 0 0],I 4] (JY [] (.cons _ .slnil) (Jt.le_refl _) ?_)
 rw [hf2]
 try dsimp only
 exact ⟨none,0,none,0,none,0,rfl,(by omega),(RS.nil' QV G),(by omega),(by omega),(by omega),(RS.nil' KE G),(RS.nil' Qp G),rfl⟩
 try simp only [BB] at h2
 refine Jd [0] [(0,I most),(1,I batch),(2,I every),(6,Pt b1 0),(20,Bo false),(21,I every)] (Ji 22 (Bo (ZL every 1000)) (Jap G every 1000) (Jd [0,0] [(0,I most),(1,I batch),(2,I every),(6,Pt b1 0),(24,Bo (!(ZL every 1000)))] (Jc (Ja (Jo (!(ZL every 1000)) (fun h3=>?_) (fun h3=>?_))))))
 try simp only [BB] at h3
 refine Jg [0,3,0] [(6,Pt b1 0),(7,I 4)] (Jk (Jh ?_))
 have hf3:JO most batch every=((⟨(⟨0,[]⟩:QN),0,0,0,[],[]⟩:Kw),4):=by
  unfold JO Zz;simp_all
 refine Jl [0,0] [.agg #[I 0,Sl none 0 0,I 0,I 0,I 0,Sl none 0 0,Sl none 0 0],I 4] (JY [] (.cons _ .slnil) (Jt.le_refl _) ?_)
 rw [hf3]
 try dsimp only
 exact ⟨none,0,none,0,none,0,rfl,(by omega),(RS.nil' QV G),(by omega),(by omega),(by omega),(RS.nil' KE G),(RS.nil' Qp G),rfl⟩
 try simp only [BB] at h3
 refine Jn (Ja (Je (Jb (Ji 27 (.tuple #[U ((JP ([]) []).1),I ((JP ([]) []).2)]) (JaG G none 0 ([]) (RS.nil' Qr G)) (Jd [0,0,0,0,0] [(0,I most),(1,I batch),(2,I every),(6,Pt b1 0),(8,U ((JP ([]) []).1))] (Jc (Ja (Je (Jb (Jd [0] [(0,I most),(1,I batch),(2,I every),(6,Pt b1 0),(31,U ((JP ([]) []).1))] (Ji 32 (.tuple #[(YJ (KU ((JP ([]) []).1) 0).1),I ((KU ((JP ([]) []).1) 0).2)]) (JeT G ((JP ([]) []).1) (YE _ _) 0 (by omega)) (Jd [0,0,0] [(0,I most),(1,I batch),(2,I every),(6,Pt b1 0),(33,(YJ (KU ((JP ([]) []).1) 0).1)),(34,I ((KU ((JP ([]) []).1) 0).2))] (Ju 10 #[I 0,U 0,U 0,I 0] 50 (fun b2=>Kd [3,0] [(0,I most),(1,I batch),(2,I every),(6,Pt b1 0),(10,Pt b2 0)] [[Sg b2 0 (JaZ (KU ((JP ([]) []).1) 0).1)],[Sg b1 0 [I 0,Sl none 0 0,I 0,I 0,I 0,Sl none 0 0,Sl none 0 0]]] (Jc (Ja (Je (Jb (Jd [0,0,0,0,2] [(6,Pt b1 0),(36,.agg #[I most,Sl none 0 0]),(37,I batch),(38,I every),(39,(YJ (KU ((JP ([]) []).1) 0).1))] (KG 40 1 #[I (((KU ((JP ([]) []).1) 0).1).epoch),U (((KU ((JP ([]) []).1) 0).1).root),U (((KU ((JP ([]) []).1) 0).1).prev),I (((KU ((JP ([]) []).1) 0).1).at_)] 50 (fun b3=>KG 41 1 #[Sl none 0 0] 66 (fun b4=>?_))))))))))))))))))))))
 refine Kd [0,9,0] [(6,Pt b1 0),(7,I 0)] [[Sg b4 0 [Sl none 0 0]],[Sg b3 0 (JaZ (KU ((JP ([]) []).1) 0).1)],[Sg b2 0 (JaZ (KU ((JP ([]) []).1) 0).1)],[Sg b1 0 [I most,Sl none 0 0,I batch,I every,I 0,Sl (At b3 0) 1 1,Sl (At b4 0) 1 1]]] (Jc (Ja (Jk (Jjj (b:=b3) (o:=0) (cs:=(JaZ (KU ((JP ([]) []).1) 0).1)) 1 (fun G1 hl1 hz1=>?_)))))
 have hs1:RS KE G1 (At b3 0) 1 [((KU ((JP ([]) []).1) 0).1)]:=RS.lit [(JaZ (KU ((JP ([]) []).1) 0).1)] [((KU ((JP ([]) []).1) 0).1)] ⟨⟨rfl,(by have q_:=Vw (r:=(JP [] []).1) (a:=0) (YE _ _) (by omega);omega),(by have q_:=Vw (r:=(JP [] []).1) (a:=0) (YE _ _) (by omega);omega),(by have q_:=Vw (r:=(JP [] []).1) (a:=0) (YE _ _) (by omega);omega),(by have q_:=Vw (r:=(JP [] []).1) (a:=0) (YE _ _) (by omega);omega)⟩,trivial⟩ hz1 (Nat.le_of_ble_eq_true rfl) (Nat.le_of_ble_eq_true rfl)
 refine Jjj (b:=b4) (o:=0) (cs:=[Sl none 0 0]) 0 (fun G2 hl2 hz2=>?_)
 have hs2:RS Qp G2 (At b4 0) 1 [[]]:=RS.lit [[Sl none 0 0]] [[]] ⟨⟨none,0,rfl,(RS.nil' Qr G2)⟩,trivial⟩ hz2 (Nat.le_of_ble_eq_true rfl) (Nat.le_of_ble_eq_true rfl)
 have hf4:JO most batch every=((⟨(⟨most,[]⟩:QN),batch,every,0,[((KU ((JP ([]) []).1) 0).1)],[[]]⟩:Kw),0):=by
  unfold JO Zz;simp_all
 refine Jl [3,0] [.agg #[I most,Sl none 0 0,I batch,I every,I 0,Sl (At b3 0) 1 1,Sl (At b4 0) 1 1],I 0] (JY [] (.cons _ (.cons _ (.cons _ (.cons _ .slnil)))) (Jt.le_trans hl1 hl2) ?_)
 rw [hf4]
 try dsimp only
 exact ⟨none,0,(At b3 0),1,(At b4 0),1,rfl,hw_most,(RS.nil' QV G2),hw_batch,hw_every,(by omega),(hs1.mono hl2),hs2,rfl⟩
set_option maxRecDepth 20000 in
theorem Jen (G:Jt) (vs_c:List Value) (c:Kw) (h_c:VJ.R G vs_c c) (h0:1≤c.heads.length) (h9:c.heads.length≤40):QI Tryz.prog 37 #[.agg vs_c.toArray] G [] (fun u G' L'=>u=I (Qv c)):=by
 obtain ⟨a1,c1,a2,c2,a3,c3,rfl,_,_,_,_,_,hs2,hs3⟩:=h_c
 refine JK Tryz.func37 63 [(0,(KX c a1 c1 a2 c2 a3 c3))] rfl (fun w0 G0=>?_)
 refine Je (Jb (Ju 1 #[I c.queue.most,Sl a1 c.queue.wait.length c1,I c.batch,I c.every,I c.now,Sl a2 c.heads.length c2,Sl a3 c.books.length c3] 34 (fun b1=>Jd [0] [(1,Pt b1 0)] (Jc (Ja (Jg [0,2,0,0] [(1,Pt b1 0),(3,I (c.heads.length:Int))] (Je (Je ?_))))))))
 obtain ⟨b2,o1,rfl⟩:=RS.addr hs2 (k:=0) (by omega)
 obtain ⟨x1,hx1⟩:=Wj (l:=c.heads) (k:=0) (by omega)
 obtain ⟨_,⟨rfl,_,_,_,_⟩,hc1⟩:=RS.get hs2 hx1
 rcases Bool.eq_false_or_eq_true (!decide (x1.epoch=0)) with h1 | h1
 have h1d:=h1
 try simp only [BB] at h1d
 refine KA [] (Ws [(0,Pt b1 5),(1,Sl (At b2 o1) c.heads.length c2),(2,Pt b2 (o1+0*4)),(3,Pt b2 (o1+0*4)),(4,I x1.epoch),(5,Bo true),(6,Bo true),(7,undef),(8,undef),(9,undef),(10,undef),(11,undef),(12,Bo true),(13,Bo true),(14,undef),(15,undef),(16,undef),(17,undef),(18,undef),(19,undef),(20,undef),(21,undef),(22,undef),(23,undef),(24,Bo true)] (Kz [] [(0,0),(1,2),(3,0),(6,0),(7,1),(8,1),(9,1),(10,1),(11,1),(12,0),(13,0),(14,1),(15,1),(16,1),(17,1),(18,1),(19,1),(20,1),(21,1),(22,1),(23,1),(24,0)] [2,4,5] [(1,Pt b1 0),(35,Bo true)] (List.forall_mem_cons.2 ⟨?_,(List.forall_mem_cons.2 ⟨?_,(List.forall_mem_cons.2 ⟨?_,List.forall_mem_nil _⟩)⟩)⟩) ?_))
 refine Jr 2 13 (Pt b2 (o1+0*4)) [(12,Sl (At b2 o1) c.heads.length c2)] (fun X=>?_)
 exact Ki (b:=b2) (off:=o1) (len:=c.heads.length) (cap:=c2) (ik:=.i64) 13 50 4 0 (by omega) Jp
 refine Jr 4 15 (I x1.epoch) [(14,Pt b2 (o1+0*4))] (fun X=>?_)
 exact Ka 15 2 (cs:=[I x1.epoch,U x1.root,U x1.prev,I x1.at_]) 0 (I x1.epoch) hc1 Jp
 refine Jr 5 16 (Bo true) [(15,I x1.epoch)] (fun X=>?_)
 exact K7 16 (Bo (!decide (x1.epoch=0))) (Bo true) (by rw [h1]) Jp
 refine Ja (JZ (Jg [0] [(2,I 3)] (Jk (Jh (Jl [0] [I 3] (Jv (Jt.le_refl _) ?_))))))
 have hf_:(Qv c)=3:=by
  exact Jir (.inl ⟨hx1,by assumption⟩)
 · (try rw [hf_]);(simp only [JM];done)
 have h1d:=h1
 try simp only [BB] at h1d
 rcases Bool.eq_false_or_eq_true (!decide ((c.books.length:Int)=(c.heads.length:Int))) with h2 | h2
 have h2d:=h2
 try simp only [BB] at h2d
 refine KA [] (Ws [(0,Pt b1 5),(1,Sl (At b2 o1) c.heads.length c2),(2,Pt b2 (o1+0*4)),(3,Pt b2 (o1+0*4)),(4,I x1.epoch),(5,Bo false),(6,Bo false),(7,Pt b1 6),(8,Sl a3 c.books.length c3),(9,I (c.books.length:Int)),(10,I (c.heads.length:Int)),(11,Bo true),(12,Bo true),(13,Bo true),(14,undef),(15,undef),(16,undef),(17,undef),(18,undef),(19,undef),(20,undef),(21,undef),(22,undef),(23,undef),(24,Bo true)] (Kz [] [(0,0),(1,2),(3,0),(6,0),(7,0),(8,2),(9,0),(10,0),(12,0),(13,0),(14,1),(15,1),(16,1),(17,1),(18,1),(19,1),(20,1),(21,1),(22,1),(23,1),(24,0)] [2,4,5,11] [(1,Pt b1 0),(35,Bo true)] (List.forall_mem_cons.2 ⟨?_,(List.forall_mem_cons.2 ⟨?_,(List.forall_mem_cons.2 ⟨?_,(List.forall_mem_cons.2 ⟨?_,List.forall_mem_nil _⟩)⟩)⟩)⟩) ?_))
 refine Jr 2 13 (Pt b2 (o1+0*4)) [(12,Sl (At b2 o1) c.heads.length c2)] (fun X=>?_)
 exact Ki (b:=b2) (off:=o1) (len:=c.heads.length) (cap:=c2) (ik:=.i64) 13 50 4 0 (by omega) Jp
 refine Jr 4 15 (I x1.epoch) [(14,Pt b2 (o1+0*4))] (fun X=>?_)
 exact Ka 15 2 (cs:=[I x1.epoch,U x1.root,U x1.prev,I x1.at_]) 0 (I x1.epoch) hc1 Jp
 refine Jr 5 16 (Bo false) [(15,I x1.epoch)] (fun X=>?_)
 exact K7 16 (Bo (!decide (x1.epoch=0))) (Bo false) (by rw [h1]) Jp
 refine Jr 11 22 (Bo true) [(17,Bo false),(20,I (c.books.length:Int)),(21,I (c.heads.length:Int))] (fun X=>?_)
 exact K7 22 (Bo (!decide ((c.books.length:Int)=(c.heads.length:Int)))) (Bo true) (by rw [h2]) Jp
 refine Ja (JZ (Jg [0] [(2,I 3)] (Jk (Jh (Jl [0] [I 3] (Jv (Jt.le_refl _) ?_))))))
 have hf_:(Qv c)=3:=by
  exact Jir (x:=W0) (.inr (.inl ‹_›))
 · (try rw [hf_]);(simp only [JM];done)
 have h2d:=h2
 try simp only [BB] at h2d
 have e1:IntKind.i64.wrap ((c.heads.length:Int)-1)=((c.heads.length-1:Nat):Int):=(IntWalk.i64_in _ (by omega)).trans (show (c.heads.length:Int)-1=((c.heads.length-1:Nat):Int) by omega)
 obtain ⟨x2,hx2⟩:=Wj (l:=c.heads) (k:=c.heads.length-1) (by omega)
 obtain ⟨_,⟨rfl,_,_,_,_⟩,hc2⟩:=RS.get hs2 hx2
 refine KA [] (Ws [(0,Pt b1 5),(1,Sl (At b2 o1) c.heads.length c2),(2,Pt b2 (o1+0*4)),(3,Pt b2 (o1+0*4)),(4,I x1.epoch),(5,Bo false),(6,Bo false),(7,Pt b1 6),(8,Sl a3 c.books.length c3),(9,I (c.books.length:Int)),(10,I (c.heads.length:Int)),(11,Bo false),(12,Bo false),(13,Bo false),(14,Pt b1 5),(15,Sl (At b2 o1) c.heads.length c2),(16,I (c.heads.length:Int)),(17,I ((c.heads.length-1:Nat):Int)),(18,Pt b2 (o1+(c.heads.length-1)*4)),(19,Pt b2 (o1+(c.heads.length-1)*4+3)),(20,I x2.at_),(21,Pt b1 4),(22,I c.now),(23,Bo (decide (x2.at_ > c.now))),(24,Bo (decide (x2.at_ > c.now)))] (Kz [] [(0,0),(1,2),(3,0),(6,0),(7,0),(8,2),(9,0),(10,0),(12,0),(13,0),(14,0),(15,2),(16,0),(19,0),(21,0),(22,2),(23,0),(24,0)] [2,4,5,11,17,18,20] [(1,Pt b1 0),(35,Bo (decide (x2.at_ > c.now)))] (List.forall_mem_cons.2 ⟨?_,(List.forall_mem_cons.2 ⟨?_,(List.forall_mem_cons.2 ⟨?_,(List.forall_mem_cons.2 ⟨?_,(List.forall_mem_cons.2 ⟨?_,(List.forall_mem_cons.2 ⟨?_,(List.forall_mem_cons.2 ⟨?_,List.forall_mem_nil _⟩)⟩)⟩)⟩)⟩)⟩)⟩) ?_))
 refine Jr 2 13 (Pt b2 (o1+0*4)) [(12,Sl (At b2 o1) c.heads.length c2)] (fun X=>?_)
 exact Ki (b:=b2) (off:=o1) (len:=c.heads.length) (cap:=c2) (ik:=.i64) 13 50 4 0 (by omega) Jp
 refine Jr 4 15 (I x1.epoch) [(14,Pt b2 (o1+0*4))] (fun X=>?_)
 exact Ka 15 2 (cs:=[I x1.epoch,U x1.root,U x1.prev,I x1.at_]) 0 (I x1.epoch) hc1 Jp
 refine Jr 5 16 (Bo false) [(15,I x1.epoch)] (fun X=>?_)
 exact K7 16 (Bo (!decide (x1.epoch=0))) (Bo false) (by rw [h1]) Jp
 refine Jr 11 22 (Bo false) [(17,Bo false),(20,I (c.books.length:Int)),(21,I (c.heads.length:Int))] (fun X=>?_)
 exact K7 22 (Bo (!decide ((c.books.length:Int)=(c.heads.length:Int)))) (Bo false) (by rw [h2]) Jp
 refine Jr 17 28 (I ((c.heads.length-1:Nat):Int)) [(24,Bo false),(27,I (c.heads.length:Int))] (fun X=>?_)
 exact K7 28 (I (IntKind.i64.wrap ((c.heads.length:Int)-1))) (I ((c.heads.length-1:Nat):Int)) (by simp only [e1]) Jp
 refine Jr 18 29 (Pt b2 (o1+(c.heads.length-1)*4)) [(24,Bo false),(26,Sl (At b2 o1) c.heads.length c2),(28,I ((c.heads.length-1:Nat):Int))] (fun X=>?_)
 exact Ki (b:=b2) (off:=o1) (len:=c.heads.length) (cap:=c2) (ik:=.i64) 29 50 4 (c.heads.length-1) (by omega) Jp
 refine Jr 20 31 (I x2.at_) [(24,Bo false),(30,Pt b2 (o1+(c.heads.length-1)*4+3))] (fun X=>?_)
 exact Ka 31 2 (cs:=[I x2.epoch,U x2.root,U x2.prev,I x2.at_]) 3 (I x2.at_) hc2 Jp
 refine Ja (Jo (decide (x2.at_ > c.now)) (fun h3=>?_) (fun h3=>?_))
 try simp only [BB] at h3
 refine Jg [0] [(2,I 3)] (Jk (Jh (Jl [0] [I 3] (Jv (Jt.le_refl _) ?_))))
 have hf_:(Qv c)=3:=by
  exact Jir (x:=W0) (.inr (.inr ⟨_,hx2,by omega⟩))
 · (try rw [hf_]);(simp only [JM];done)
 try simp only [BB] at h3
 refine Jn (Ja (Je (Jg [0,2,0,0] [(1,Pt b1 0),(37,Sl a3 c.books.length c3),(38,I (c.books.length:Int)),(39,I 0)] (Jz ?_))))
 have hlm_hs3:c.books.length≤9223372036854775807:=Nat.le_trans (hs3).le (hs3).max
 refine Qe (σ:=Nat) (fun q_=>(q_≤c.books.length)∧(YG c.heads c.books=YG (c.heads.drop q_) (c.books.drop q_))) (fun q_=>[(1,Pt b1 0),(37,Sl a3 c.books.length c3),(38,I (c.books.length:Int)),(39,I (q_:Int))]) (fun q_=>G) (fun q_=>[[Sg b1 0 (Ko c a1 c1 (At b2 o1) c2 a3 c3)]]) (fun q_=>c.books.length-q_) 0 ⟨(by (try dsimp only);exact Nat.zero_le _),rfl⟩ (fun q_ hs=>?_)
 revert hs;revert q_;intro i hs
 obtain ⟨hi,hn⟩:=hs
 refine KP (fr':=[(1,Pt b1 0),(37,Sl a3 c.books.length c3),(38,I (c.books.length:Int)),(39,I (i:Int))]) (L':=[[Sg b1 0 (Ko c a1 c1 (At b2 o1) c2 a3 c3)]]) rfl rfl (Jg [0] [(1,Pt b1 0),(37,Sl a3 c.books.length c3),(38,I (c.books.length:Int)),(39,I (i:Int)),(40,Bo (decide ((i:Int)<(c.books.length:Int))))] (Je (Jo (decide ((i:Int)<(c.books.length:Int))) (fun h4=>?_) (fun h4=>?_))))
 try simp only [BB] at h4
 refine Jn (Ja (Je (Jz (Je (Jb (Jd [0] [(1,Pt b1 0),(37,Sl a3 c.books.length c3),(38,I (c.books.length:Int)),(39,I (i:Int)),(41,I (i:Int))] ?_))))))
 obtain ⟨b3,o2,rfl⟩:=RS.addr hs3 (k:=i) (by omega)
 obtain ⟨x3,hx3⟩:=Wj (l:=c.books) (k:=i) (by omega)
 obtain ⟨_,⟨a4,c4,rfl,hs4⟩,hc3⟩:=RS.get hs3 hx3
 refine Ki (b:=b3) (off:=o2) (len:=c.books.length) (cap:=c3) (ik:=.i64) 42 66 1 i (by omega) (Ka 43 66 (cs:=[Sl a4 x3.length c4]) 0 (Sl a4 x3.length c4) hc3 (Jd [0,0] [(1,Pt b1 0),(4,I (i:Int)),(5,Sl a4 x3.length c4),(37,Sl (At b3 o2) c.books.length c3),(38,I (c.books.length:Int)),(39,I (i:Int))] (Jc (Ja (Je (Jb (Jd [0] [(1,Pt b1 0),(4,I (i:Int)),(37,Sl (At b3 o2) c.books.length c3),(38,I (c.books.length:Int)),(39,I (i:Int)),(45,Sl a4 x3.length c4)] (Ji 46 (.tuple #[U ((JP x3 []).1),I ((JP x3 []).2)]) (JaG G a4 c4 x3 hs4) (Jd [0,0,0,0,0] [(1,Pt b1 0),(4,I (i:Int)),(6,U ((JP x3 []).1)),(7,I ((JP x3 []).2)),(37,Sl (At b3 o2) c.books.length c3),(38,I (c.books.length:Int)),(39,I (i:Int))] (Jc (Ja (Jz (Jg [0,0,0] [(1,Pt b1 0),(4,I (i:Int)),(6,U ((JP x3 []).1)),(7,I ((JP x3 []).2)),(37,Sl (At b3 o2) c.books.length c3),(38,I (c.books.length:Int)),(39,I (i:Int)),(49,Bo (!decide ((JP x3 []).2=0)))] (Jo (!decide ((JP x3 []).2=0)) (fun h5=>?_) (fun h5=>?_)))))))))))))))
 try simp only [BB] at h5
 refine Jg [0,0] [(2,I ((JP x3 []).2))] (Jk (Js (Js (Jh (QD (Js (Jh (Jl [0] [I ((JP x3 []).2)] (Jv (Jt.le_refl _) ?_)))))))))
 have hf_:(Qv c)=((JP x3 []).2):=by
  (rw [JlJ hx1 ‹_› ‹_› hx2 (by omega),hn];exact Jip hx3 ‹_›)
 · (try rw [hf_]);(simp only [JM];done)
 try simp only [BB] at h5
 refine Je (Jb (Jd [0,0,2,0] [(1,Pt b1 0),(37,Sl (At b3 o2) c.books.length c3),(38,I (c.books.length:Int)),(39,I (i:Int)),(54,U ((JP x3 []).1)),(56,Sl (At b2 o1) c.heads.length c2),(57,I (i:Int))] ?_))
 obtain ⟨x4,hx4⟩:=Wj (l:=c.heads) (k:=i) (by omega)
 obtain ⟨_,⟨rfl,_,_,_,_⟩,hc4⟩:=RS.get hs2 hx4
 refine Ki (b:=b2) (off:=o1) (len:=c.heads.length) (cap:=c2) (ik:=.i64) 58 50 4 i (by omega) (Jd [0] [(1,Pt b1 0),(37,Sl (At b3 o2) c.books.length c3),(38,I (c.books.length:Int)),(39,I (i:Int)),(54,U ((JP x3 []).1)),(59,Pt b2 (o1+i*4+1))] (Ka 60 48 (cs:=[I x4.epoch,U x4.root,U x4.prev,I x4.at_]) 1 (U x4.root) hc4 (Jd [0,0] [(1,Pt b1 0),(37,Sl (At b3 o2) c.books.length c3),(38,I (c.books.length:Int)),(39,I (i:Int)),(53,Bo (!decide ((JP x3 []).1=x4.root)))] (Jc (Ja (Jo (!decide ((JP x3 []).1=x4.root)) (fun h6=>?_) (fun h6=>?_)))))))
 try simp only [BB] at h6
 refine Jg [0] [(2,I 8)] (Jk (Js (Js (Jh (QD (Js (Jh (Jl [0] [I 8] (Jv (Jt.le_refl _) ?_)))))))))
 have hf_:(Qv c)=8:=by
  (rw [JlJ hx1 ‹_› ‹_› hx2 (by omega),hn];exact Jiq hx3 hx4 ‹_› ‹_›)
 · (try rw [hf_]);(simp only [JM];done)
 try simp only [BB] at h6
 refine Jn (JN (JN (Ja (Jb (Jd [0,0] [(1,Pt b1 0),(37,Sl (At b3 o2) c.books.length c3),(38,I (c.books.length:Int)),(39,I (IntKind.i64.wrap ((i:Int)+1)))] ?_)))))
 have e2:IntKind.i64.wrap ((i:Int)+1)=(i:Int)+1:=IntWalk.i64_in _ (by omega)
 refine J4 (fr':=[(1,Pt b1 0),(37,Sl (At b3 o2) c.books.length c3),(38,I (c.books.length:Int)),(39,I ((i:Int)+1))]) (L':=[[Sg b1 0 [I c.queue.most,Sl a1 c.queue.wait.length c1,I c.batch,I c.every,I c.now,Sl (At b2 o1) c.heads.length c2,Sl (At b3 o2) c.books.length c3]]]) (by simp only [Ko,KX,e2];first | done | rfl) (by rfl) ?_
 clear e2
 exact Jc (Qh (i+1) ⟨(by omega),(by rw [hn];exact Jhs hx3 hx4 ‹_› ‹_›)⟩ (by (try dsimp only);omega))
 try simp only [BB] at h4
 refine K2 (J3 (Kf (JV (Ja (Jg [0] [(2,I 0)] (Jk (Jl [0] [I 0] (Jv (Jt.le_refl _) ?_))))))))
 have hf_:(Qv c)=0:=by
  (rw [JlJ hx1 ‹_› ‹_› hx2 (by omega),hn];(have e_:c.books.drop i=[]:=List.drop_eq_nil_of_le (by omega);rw [e_];simp [YG]))
 · (try rw [hf_]);(simp only [JM];done)
theorem YX (G:Jt) (vs_c:List Value) (c:Kw) (h_c:VJ.R G vs_c c) :QI Tryz.prog 11 #[.agg vs_c.toArray] G [] (fun u G' L'=>u=I (J8 c)):=by
 obtain ⟨a1,c1,a2,c2,a3,c3,rfl,w1,hs1,w2,w3,w4,hs2,hs3⟩:=h_c
 refine JK Tryz.func11 50 [(0,(KX c a1 c1 a2 c2 a3 c3))] rfl (fun w0 G0=>?_)
 refine Je (Jb (Ju 1 #[I c.queue.most,Sl a1 c.queue.wait.length c1,I c.batch,I c.every,I c.now,Sl a2 c.heads.length c2,Sl a3 c.books.length c3] 34 (fun b1=>Jd [0] [(1,Pt b1 0)] (Jc (Ja (Je (Je (Jb (Jd [0,2] [(1,Pt b1 0),(8,.agg #[I c.queue.most,Sl a1 c.queue.wait.length c1])] (Ji 9 (I (J7 c.queue)) (VK G [I c.queue.most,Sl a1 c.queue.wait.length c1] c.queue (⟨a1,c1,rfl,w1,hs1⟩)) (Jd [0] [(1,Pt b1 0),(3,I (J7 c.queue))] (Jc (Ja (Jg [0,0] [(1,Pt b1 0),(3,I (J7 c.queue)),(11,Bo (!decide (J7 c.queue=0)))] (Jo (!decide (J7 c.queue=0)) (fun h1=>?_) (fun h1=>?_))))))))))))))))
 try simp only [BB] at h1
 refine Jg [0,0] [(2,I (J7 c.queue))] (Jk (Jh (Jl [0] [I (J7 c.queue)] (Jv (Jt.le_refl _) ?_))))
 have hf_:(J8 c)=(J7 c.queue):=by
  unfold J8;(rw [if_pos ‹_›];done)
 · (try rw [hf_]);(simp only [JM];done)
 try simp only [BB] at h1
 refine Jn (Ja (Je (Je (Jb (Jd [0,2] [(1,Pt b1 0),(14,I c.batch)] (Ji 15 (Bo (ZL c.batch 30)) (Jap G c.batch 30) (Jd [0,0] [(1,Pt b1 0),(17,Bo (!(ZL c.batch 30)))] (We (fun bb=>[(1,Pt b1 0),(17,Bo bb)]) (!(ZL c.batch 30)) (fun h2=>?_) (fun h2=>?_)))))))))
 try simp only [BB] at h2
 refine Jd [1,1,1,1,0,0,1,1,1,0,0,1,1,1,0] [(1,Pt b1 0),(32,Bo true)] (Jc (Ja (JZ (Jg [0] [(2,I 4)] (Jk (Jh (Jl [0] [I 4] (Jv (Jt.le_refl _) ?_))))))))
 have hf_:(J8 c)=4:=by
  unfold J8;(rw [if_neg (by simp_all)];(rw [if_pos (by (simp_all;done))];done))
 · (try rw [hf_]);(simp only [JM];done)
 try simp only [BB] at h2
 refine Jd [0,2] [(1,Pt b1 0),(17,Bo false),(19,I c.every)] (Ji 20 (Bo (ZL c.every 1000)) (Jap G c.every 1000) (Jd [0,0,0] [(1,Pt b1 0),(23,Bo (!(ZL c.every 1000)))] (KD (!(ZL c.every 1000)) (fun bb=>[(1,Pt b1 0),(23,Bo bb)]) [1,1,1,0] [0,2,0,0] (fun bb=>[(1,Pt b1 0),(27,Bo (bb || (decide (c.now<0))))]) (Jd [0] [(1,Pt b1 0),(28,Bo ((!(ZL c.every 1000)) || (decide (c.now<0))))] (KD ((!(ZL c.every 1000)) || (decide (c.now<0))) (fun bb=>[(1,Pt b1 0),(28,Bo bb)]) [1,1,1,0] [0,2,0,0] (fun bb=>[(1,Pt b1 0),(32,Bo (bb || (decide (c.now > 1000000000))))]) (Jc (Ja (Jo (((!(ZL c.every 1000)) || (decide (c.now<0))) || (decide (c.now > 1000000000))) (fun h3=>?_) (fun h3=>?_)))))))))
 try simp only [BB] at h3
 refine Jg [0] [(2,I 4)] (Jk (Jh (Jl [0] [I 4] (Jv (Jt.le_refl _) ?_))))
 have hf_:(J8 c)=4:=by
  unfold J8;(rw [if_neg (by simp_all)];(rw [if_pos (by (simp_all;grind))];done))
 · (try rw [hf_]);(simp only [JM];done)
 try simp only [BB] at h3
 refine Jn (Ja (Je (Je (Jb (Jd [0,2] [(1,Pt b1 0),(35,Sl a2 c.heads.length c2)] (Ji 36 (.tuple #[I ((Kc c.heads).1),I ((Kc c.heads).2)]) (VQ G a2 c2 c.heads hs2) (Jd [0,0,0,0,0] [(1,Pt b1 0),(4,I ((Kc c.heads).1))] (Jc (Ja (Jg [0,0] [(1,Pt b1 0),(4,I ((Kc c.heads).1)),(40,Bo (!decide ((Kc c.heads).1=0)))] (Jo (!decide ((Kc c.heads).1=0)) (fun h4=>?_) (fun h4=>?_))))))))))))
 try simp only [BB] at h4
 refine Jg [0,0] [(2,I ((Kc c.heads).1))] (Jk (Jh (Jl [0] [I ((Kc c.heads).1)] (Jv (Jt.le_refl _) ?_))))
 have hf_:(J8 c)=((Kc c.heads).1):=by
  unfold J8;(rw [if_neg (by simp_all)];(rw [if_neg (by simp_all)];(rw [if_pos (by (simp_all;done))];done)))
 · (try rw [hf_]);(simp only [JM];done)
 try simp only [BB] at h4
 refine Jn (Ja (Je (Je (Jb (Jd [2] [(1,Pt b1 0),(42,(KX c a1 c1 a2 c2 a3 c3))] (Ji 43 (I (Qv c)) (Jen G (Ko c a1 c1 a2 c2 a3 c3) c (⟨a1,c1,a2,c2,a3,c3,rfl,w1,hs1,w2,w3,w4,hs2,hs3⟩) (by (have q_:=KZ.1 ‹_›;have q1_:=q_.len1;have q2_:=q_.len;omega)) (by (have q_:=KZ.1 ‹_›;have q1_:=q_.len1;have q2_:=q_.len;omega))) (Jd [0] [(1,Pt b1 0),(6,I (Qv c))] (Jc (Ja (Jg [0,0] [(1,Pt b1 0),(6,I (Qv c)),(45,Bo (!decide (Qv c=0)))] (Jo (!decide (Qv c=0)) (fun h5=>?_) (fun h5=>?_))))))))))))
 try simp only [BB] at h5
 refine Jg [0,0] [(2,I (Qv c))] (Jk (Jh (Jl [0] [I (Qv c)] (Jv (Jt.le_refl _) ?_))))
 have hf_:(J8 c)=(Qv c):=by
  unfold J8;(rw [if_neg (by simp_all)];(rw [if_neg (by simp_all)];(rw [if_neg (by simp_all)];(rw [if_pos (by (simp_all;done))];done))))
 · (try rw [hf_]);(simp only [JM];done)
 try simp only [BB] at h5
 refine Jn (Ja (Je (Je (Jb (Jd [2] [(47,(KX c a1 c1 a2 c2 a3 c3))] (Ji 48 (I (WJ c ([]))) (Jba G (Ko c a1 c1 a2 c2 a3 c3) c (⟨a1,c1,a2,c2,a3,c3,rfl,w1,hs1,w2,w3,w4,hs2,hs3⟩) none 0 ([]) (RS.nil' ES G) (by (obtain ⟨q1_,q2_,q3_,q4_⟩:=JdL (c:=c) ‹_› ‹_› ‹_›;assumption)) (by (obtain ⟨q1_,q2_,q3_,q4_⟩:=JdL (c:=c) ‹_› ‹_› ‹_›;assumption)) (by (obtain ⟨q1_,q2_,q3_,q4_⟩:=JdL (c:=c) ‹_› ‹_› ‹_›;assumption)) (by (obtain ⟨q1_,q2_,q3_,q4_⟩:=JdL (c:=c) ‹_› ‹_› ‹_›;assumption)) (by (simp;done))) (Jd [0] [(49,Bo (decide (WJ c ([]) > 24)))] (Jc (Ja (Jo (decide (WJ c ([]) > 24)) (fun h6=>?_) (fun h6=>?_)))))))))))
 try simp only [BB] at h6
 refine Jg [0] [(2,I 7)] (Jk (Jh (Jl [0] [I 7] (Jv (Jt.le_refl _) ?_))))
 have hf_:(J8 c)=7:=by
  unfold J8;(rw [if_neg (by simp_all)];(rw [if_neg (by simp_all)];(rw [if_neg (by simp_all)];(rw [if_neg (by simp_all)];(rw [if_pos (by (simp_all;done))];done)))))
 · (try rw [hf_]);(simp only [JM];done)
 try simp only [BB] at h6
 refine Jn (Ja (Jg [0] [(2,I 0)] (Jk (Jl [0] [I 0] (Jv (Jt.le_refl _) ?_)))))
 have hf_:(J8 c)=0:=by
  unfold J8;(rw [if_neg (by simp_all)];(rw [if_neg (by simp_all)];(rw [if_neg (by simp_all)];(rw [if_neg (by simp_all)];(rw [if_neg (by simp_all)];done)))))
 · (try rw [hf_]);(simp only [JM];done)
theorem JeU (G:Jt) (vs_c:List Value) (c:Kw) (h_c:VJ.R G vs_c c) (epoch:Int) (hw_epoch:rI epoch) :QI Tryz.prog 30 #[.agg vs_c.toArray,I epoch] G [] (fun u G' L'=>∃ (a1:Option Addr) (c2:Nat) (r3:List Ks),u=.tuple #[Sl a1 (((Kb c epoch).1).length) c2,I ((Kb c epoch).2)]∧(J9 Qr G' a1 c2 ((Kb c epoch).1) r3)∧L'=[r3]):=by
 obtain ⟨a1,c1,a2,c2,a3,c3,rfl,w1,hs1,w2,w3,w4,hs2,hs3⟩:=h_c
 refine JK Tryz.func30 27 [(0,(KX c a1 c1 a2 c2 a3 c3)),(1,I epoch)] rfl (fun w0 G0=>?_)
 refine Je (Jb (Ju 2 #[I c.queue.most,Sl a1 c.queue.wait.length c1,I c.batch,I c.every,I c.now,Sl a2 c.heads.length c2,Sl a3 c.books.length c3] 34 (fun b1=>Jd [0,0] [(1,I epoch),(2,Pt b1 0)] (Jc (Ja (Je (Je (Jb (Jd [2] [(1,I epoch),(2,Pt b1 0),(7,(KX c a1 c1 a2 c2 a3 c3))] (Ji 8 (I (J8 c)) (YX G (Ko c a1 c1 a2 c2 a3 c3) c (⟨a1,c1,a2,c2,a3,c3,rfl,w1,hs1,w2,w3,w4,hs2,hs3⟩)) (Jd [0] [(1,I epoch),(2,Pt b1 0),(6,I (J8 c))] (Jc (Ja (Jg [0,0] [(1,I epoch),(2,Pt b1 0),(6,I (J8 c)),(10,Bo (!decide (J8 c=0)))] (Jo (!decide (J8 c=0)) (fun h1=>?_) (fun h1=>?_))))))))))))))))
 try simp only [BB] at h1
 refine Jg [0,0,0] [(4,Sl none 0 0),(5,I (J8 c))] (Jk (Jh (Zd (Jj 0 ?_))))
 have hf1:Kb c epoch=([],J8 c):=by
  unfold Kb;simp_all
 refine Jl [0,0] [Sl none 0 0,I (J8 c)] (JY [[]] (.cons_cons _ (.cons _ .slnil)) (Jt.le_refl _) ?_)
 rw [hf1]
 try dsimp only
 exact ⟨none,0,([]),rfl,(J9.none Qr _),rfl⟩
 try simp only [BB] at h1
 refine Jn (Ja (Je (Je (Jb (Jd [0,0,0] [(1,I epoch),(2,Pt b1 0),(14,Bo (decide (epoch<0)))] (KD (decide (epoch<0)) (fun bb=>[(1,I epoch),(2,Pt b1 0),(14,Bo bb)]) [1,1,1,1,1,0] [0,0,2,0,0,0] (fun bb=>[(1,I epoch),(2,Pt b1 0),(20,Bo (bb || (decide (epoch ≥ (c.books.length:Int)))))]) (Jc (Ja (Jo ((decide (epoch<0)) || (decide (epoch ≥ (c.books.length:Int)))) (fun h2=>?_) (fun h2=>?_))))))))))
 try simp only [BB] at h2
 refine Jg [0,0] [(4,Sl none 0 0),(5,I 4)] (Jk (Jh (Zd (Jj 0 ?_))))
 have hf2:Kb c epoch=([],4):=by
  unfold Kb;simp_all
 refine Jl [0,0] [Sl none 0 0,I 4] (JY [[]] (.cons_cons _ (.cons _ .slnil)) (Jt.le_refl _) ?_)
 rw [hf2]
 try dsimp only
 exact ⟨none,0,([]),rfl,(J9.none Qr _),rfl⟩
 try simp only [BB] at h2
 refine Jn (Ja (Je (Jb (Jd [0,2,0] [(22,Sl a3 c.books.length c3),(23,I epoch)] ?_))))
 obtain ⟨kn1,hkn1⟩:∃ k_:Nat,epoch=(k_:Int):=⟨(epoch).toNat,by omega⟩
 have e1:epoch=(kn1:Int):=hkn1
 refine Jd [] [(22,Sl a3 c.books.length c3),(23,I epoch)] (J4 (fr':=[(22,Sl a3 c.books.length c3),(23,I (kn1:Int))]) (L':=[[Sg b1 0 [I c.queue.most,Sl a1 c.queue.wait.length c1,I c.batch,I c.every,I c.now,Sl a2 c.heads.length c2,Sl a3 c.books.length c3]]]) (by (simp only [Ko,KX,e1];first | done | rfl)) (by rfl) ?_)
 obtain ⟨b2,o1,rfl⟩:=RS.addr hs3 (k:=kn1) (by omega)
 obtain ⟨x1,hx1⟩:=Wj (l:=c.books) (k:=kn1) (by omega)
 obtain ⟨_,⟨a4,c4,rfl,hs4⟩,hc1⟩:=RS.get hs3 hx1
 refine Ki (b:=b2) (off:=o1) (len:=c.books.length) (cap:=c3) (ik:=.i64) 24 66 1 kn1 (by omega) (Ka 25 66 (cs:=[Sl a4 x1.length c4]) 0 (Sl a4 x1.length c4) hc1 (JQ 26 (Z7 G a4 c4 x1 hs4) (fun v G1 L1 hl1 hp=>?_)))
 obtain ⟨a5,c5,r1,rfl,hr1,rfl⟩:=hp
 refine Jd [0,0] [(4,Sl a5 x1.length c5),(5,I 0)] (Jc (Ja (Jk (Jj 0 ?_))))
 have hf3:Kb c epoch=(x1,0):=by
  unfold Kb;simp_all
 refine Jl [0,0] [Sl a5 x1.length c5,I 0] (JY [r1] (.cons_cons _ (.cons _ .slnil)) hl1 ?_)
 rw [hf3]
 try dsimp only
 exact ⟨a5,c5,r1,rfl,hr1,rfl⟩
end Go.Proofs.YtnnlpbjdignhaaaGreatDoor
