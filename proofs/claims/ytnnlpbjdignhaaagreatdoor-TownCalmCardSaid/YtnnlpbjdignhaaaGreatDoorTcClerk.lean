import Derived.Test.YtnnlpbjdignhaaaGreatDoorTcProve
import Derived.Test.YtnnlpbjdignhaaaGreatDoorTcMap
namespace Go.Proofs.YtnnlpbjdignhaaaGreatDoor
open Go.Tx
set_option linter.unusedVariables false
set_option linter.unusedSimpArgs false
open Go.Tx Go.Proofs
def Qx (l:List (List JV)):List JV:=l[l.length-1]?.getD []
theorem Jki {l:List (List JV)} {k:Nat} {x:List JV} (hk:k=l.length-1) (h:l[k]? = some x):x=Qx l:=by unfold Qx;rw [← hk,h];rfl
def KM (l:List JV):List (List UInt8):=l.map fun x=>x.name
def Qi (l:List WT):List (List UInt8):=l.map fun x=>x.name
def Vq (c:Kw) (m:List (List UInt8)):List (List UInt8):=KM (Qx c.books)++Qi c.queue.wait++m
def WI (c:Kw) (m:List (List UInt8)):Int:=(nn (Vq c m):Int)
theorem JeI {l:List JV} {i:Nat} {x:JV} (h:l[i]? = some x):KM (l.take (i+1))=KM (l.take i)++[x.name]:=by unfold KM;rw [List.take_add_one,h];simp
theorem JeJ {l:List WT} {i:Nat} {x:WT} (h:l[i]? = some x):Qi (l.take (i+1))=Qi (l.take i)++[x.name]:=by unfold Qi;rw [List.take_add_one,h];simp
theorem Jlz {l:List (List UInt8)} {i:Nat} {x:List UInt8} (h:l[i]? = some x):l.take (i+1)=l.take i++[x]:=by rw [List.take_add_one,h];rfl
def ZI (n most:Int):Bool:=decide (n ≥ 1) && decide (n≤most)
theorem Y3 {n most:Int}:ZI n most=true ↔ 1≤n∧n≤most:=by unfold ZI;simp
def KU (root a:Int):JR×Int:=if ¬ JD ⟨0,root,0,a⟩=0 then (WY,JD ⟨0,root,0,a⟩) else (⟨0,root,0,a⟩,0)
theorem Vr {r a:Int} (hr:0≤r∧r<18446744073709551616) (ha:-9223372036854775808≤a∧a<9223372036854775808):(-9223372036854775808≤(KU r a).1.epoch∧(KU r a).1.epoch<9223372036854775808)∧(0≤(KU r a).1.root∧(KU r a).1.root<18446744073709551616)∧(0≤(KU r a).1.prev∧(KU r a).1.prev<18446744073709551616)∧(-9223372036854775808≤(KU r a).1.at_∧(KU r a).1.at_<9223372036854775808):=by
 unfold KU WY;split <;> simp <;> omega
theorem Jf9 (l:List JV):(KM l).length=l.length:=by simp [KM]
theorem Jga (l:List WT):(Qi l).length=l.length:=by simp [Qi]
def Zy:Kw:=⟨⟨0,[]⟩,0,0,0,[],[]⟩
def JN (most batch every:Int):Kw×Int:=if ZI most 30=false∨ZI batch 30=false∨ZI every 1000=false then (Zy,4) else (⟨⟨most,[]⟩,batch,every,0,[(KU (JO [] []).1 0).1],[[]]⟩,0)
def Yz:List JR→List (List JV)→Int
 | _,[]=>0
 | hs,l::bs=>if ¬ (JO l []).2=0 then (JO l []).2 else if ¬ (JO l []).1=(QW hs).root then 8 else Yz (hs.drop 1) bs
def Qu (c:Kw):Int:=if (¬ (QW c.heads).epoch=0∨¬ (c.books.length:Int)=c.heads.length)∨(WA c.heads).at_ > c.now then 3 else Yz c.heads c.books
theorem Ja2 {hs:List JR} {bs:List (List JV)} {i:Nat} {x:List JV} (hx:bs[i]? = some x):Yz (hs.drop i) (bs.drop i)=if ¬ (JO x []).2=0 then (JO x []).2 else if ¬ (JO x []).1=(hs[i]?.getD WY).root then 8 else Yz (hs.drop (i+1)) (bs.drop (i+1)):=by
 obtain ⟨hl,he⟩:=List.getElem?_eq_some_iff.1 hx
 rw [List.drop_eq_getElem_cons hl,he]
 show (if _ then _ else if _ then _ else _)=_
 have:QW (hs.drop i)=hs[i]?.getD WY:=by unfold QW;rw [List.getElem?_drop];simp
 rw [this,List.drop_drop]
theorem Jhj {hs:List JR} {bs:List (List JV)} {i:Nat} {x:List JV} {h:JR} (hx:bs[i]? = some x) (hh:hs[i]? = some h) (h0:(JO x []).2=0) (h1:(JO x []).1=h.root):Yz (hs.drop i) (bs.drop i)=Yz (hs.drop (i+1)) (bs.drop (i+1)):=by
 rw [Ja2 hx,if_neg (by omega),hh,if_neg (by simpa using h1)]
theorem Jih {hs:List JR} {bs:List (List JV)} {i:Nat} {x:List JV} (hx:bs[i]? = some x) (h0:¬ (JO x []).2=0):Yz (hs.drop i) (bs.drop i)=(JO x []).2:=by
 rw [Ja2 hx,if_pos h0]
theorem Jii {hs:List JR} {bs:List (List JV)} {i:Nat} {x:List JV} {h:JR} (hx:bs[i]? = some x) (hh:hs[i]? = some h) (h0:(JO x []).2=0) (h1:¬ (JO x []).1=h.root):Yz (hs.drop i) (bs.drop i)=8:=by
 rw [Ja2 hx,if_neg (by omega),hh,if_pos (by simpa using h1)]
theorem Jeb:∀ (bs:List (List JV)) (hs:List JR),Yz hs bs=0 ↔ ∀ (k:Nat) x,bs[k]? = some x→(JO x []).2=0∧(JO x []).1=(hs[k]?.getD WY).root
 | [],hs=>by simp [Yz]
 | l::bs,hs=>by
  have ih:=Jeb bs (hs.drop 1)
  have e:QW hs=hs[0]?.getD WY:=rfl
  unfold Yz
  constructor
  ·
   intro h
   split at h
   ·
    contradiction
   split at h
   ·
    cases h
   ·
    rename_i h1 h2
    intro k x hx
    cases k with
    | zero=>simp only [List.getElem?_cons_zero,Option.some.injEq] at hx;subst hx;exact ⟨Decidable.not_not.1 h1,by rw [← e];exact Decidable.not_not.1 h2⟩
    | succ k =>
     have:=ih.1 h k x (by simpa using hx)
     rw [List.getElem?_drop,Nat.add_comm] at this;exact this
  ·
   intro h
   obtain ⟨h1,h2⟩:=h 0 l rfl
   rw [if_neg (by omega),if_neg (by rw [e];omega)]
   refine ih.2 fun k x hx=>?_
   rw [List.getElem?_drop,Nat.add_comm]
   exact h (k+1) x (by simpa using hx)
def J8 (c:Kw):Int:=if ¬ J7 c.queue=0 then J7 c.queue else if (ZI c.batch 30=false∨ZI c.every 1000=false)∨c.now<0∨c.now > 1000000000 then 4 else if ¬ (Kc c.heads).1=0 then (Kc c.heads).1 else if ¬ Qu c=0 then Qu c else if WI c [] > 24 then 7 else 0
structure Wb (c:Kw):Prop where
 queue:J7 c.queue=0
 batch:1≤c.batch∧c.batch≤30
 every:1≤c.every∧c.every≤1000
 now:0≤c.now∧c.now≤1000000000
 chain:Wa c.heads
 first:(QW c.heads).epoch=0
 len:c.books.length=c.heads.length
 at_:(WA c.heads).at_≤c.now
 root:∀ (k:Nat) x,c.books[k]? = some x→(JO x []).2=0∧(JO x []).1=(c.heads[k]?.getD WY).root
 names:nn (Vq c [])≤24
theorem VN {c:Kw}:Qu c=0 ↔ (QW c.heads).epoch=0∧c.books.length=c.heads.length∧(WA c.heads).at_≤c.now∧∀ (k:Nat) x,c.books[k]? = some x→(JO x []).2=0∧(JO x []).1=(c.heads[k]?.getD WY).root:=by
 unfold Qu
 rw [← Jeb]
 split
 ·
  rename_i h
  refine ⟨fun e=>(by cases e),fun ⟨a,b,d,_⟩=>?_⟩
  rcases h with (h | h) | h
  ·
   exact absurd a h
  ·
   omega
  ·
   omega
 ·
  rename_i h
  simp only [not_or,Decidable.not_not] at h
  refine ⟨fun e=>⟨h.1.1,by have:=h.1.2;omega,by omega,e⟩,fun e=>e.2.2.2⟩
theorem WJ {c:Kw}:J8 c=0 ↔ Wb c:=by
 unfold J8
 constructor
 ·
  intro h
  split at h
  ·
   contradiction
  split at h
  ·
   cases h
  split at h
  ·
   contradiction
  split at h
  ·
   contradiction
  split at h
  ·
   cases h
  ·
   rename_i h1 h2 h3 h4 h5
   simp only [not_or,Bool.not_eq_false] at h2
   obtain ⟨⟨a1,a2⟩,a3,a4⟩:=h2
   obtain ⟨b1,b2,b3,b4⟩:=VN.1 (Decidable.not_not.1 h4)
   unfold WI at h5
   exact ⟨Decidable.not_not.1 h1,Y3.1 a1,Y3.1 a2,⟨by omega,by omega⟩,KY.1 (Decidable.not_not.1 h3),b1,b2,b3,b4,by omega⟩
 ·
  intro h
  have e1:=Y3.2 h.batch
  have e2:=Y3.2 h.every
  have e3:=VN.2 ⟨h.first,h.len,h.at_,h.root⟩
  have e4:=KY.2 h.chain
  have e5:=h.names
  have e6:=h.now
  rw [if_neg (by rw [h.queue];simp),if_neg (by rw [e1,e2];simp;omega),if_neg (by rw [e4];simp),if_neg (by rw [e3];simp),if_neg (by unfold WI;omega)]
theorem Jij {c:Kw} {x:JR} (h:(c.heads[0]? = some x∧¬ x.epoch=0)∨¬ (c.books.length:Int)=c.heads.length∨(∃ y,c.heads[c.heads.length-1]? = some y∧y.at_ > c.now)):Qu c=3:=by
 unfold Qu
 rw [if_pos]
 rcases h with ⟨h,h2⟩ | h | ⟨y,h,h2⟩
 ·
  rw [Wz h] at h2;exact .inl (.inl h2)
 ·
  exact .inl (.inr h)
 ·
  rw [Wi rfl h] at h2;exact .inr h2
theorem JlA {c:Kw} {x y:JR} (hx:c.heads[0]? = some x) (h1:x.epoch=0) (h2:(c.books.length:Int)=c.heads.length) (hy:c.heads[c.heads.length-1]? = some y) (h3:¬ y.at_ > c.now):Qu c=Yz c.heads c.books:=by
 unfold Qu
 rw [Wz hx] at h1;rw [Wi rfl hy] at h3
 rw [if_neg]
 rintro ((h | h) | h)
 ·
  exact h h1
 ·
  exact h h2
 ·
  exact h3 h
theorem JdD {c:Kw} (hq:J7 c.queue=0) (hc:(Kc c.heads).1=0) (hb:Qu c=0):0<c.books.length∧c.books.length≤1000∧(Qx c.books).length≤1000∧c.queue.wait.length≤1000:=by
 have h1:=K4.1 hq
 have h2:=KY.1 hc
 obtain ⟨_,b2,_,b4⟩:=VN.1 hb
 have l1:=h2.len1;have l2:=h2.len
 have hl:c.books.length-1<c.books.length:=by omega
 have e:c.books[c.books.length-1]? = some (Qx c.books):=by unfold Qx;rw [List.getElem?_eq_getElem hl];rfl
 have:=(JbM (b4 _ _ e).1).1.len
 omega
def Kb (c:Kw) (epoch:Int):List JV×Int:=if ¬ J8 c=0 then ([],J8 c) else if epoch<0∨epoch ≥ c.books.length then ([],4) else (c.books[epoch.toNat]?.getD [],0)
theorem JaB {c:Kw} {e:Int} (h:(Kb c e).2=0):Wb c∧0≤e∧e<c.books.length∧c.books[e.toNat]? = some (Kb c e).1:=by
 unfold Kb at h ⊢
 split at h
 ·
  contradiction
 split at h
 ·
  cases h
 ·
  rename_i h1 h2
  rw [if_neg h1,if_neg h2]
  have hl:e.toNat<c.books.length:=by omega
  refine ⟨WJ.1 (Decidable.not_not.1 h1),by omega,by omega,?_⟩
  simp only
  rw [List.getElem?_eq_getElem hl];rfl
theorem JlB (c:Kw) (e:Int):(Kb c e).1.length≤24:=by
 by_cases h:(Kb c e).2=0
 ·
  obtain ⟨ok,_,_,hx⟩:=JaB h
  exact (JbM (ok.root _ _ hx).1).1.len
 ·
  unfold Kb at h ⊢
  split
  ·
   simp
  split
  ·
   simp
  ·
   rename_i h1 h2;rw [if_neg h1,if_neg h2] at h;exact absurd rfl h
def Jec:Go.Shelf.Ren:=⟨fun x=>if Nat.beq x 7 then 79 else if Nat.beq x 8 then 78 else if Nat.beq x 10 then 119 else if Nat.beq x 11 then 118 else 0,fun x=>if Nat.beq x 0 then 0 else if Nat.beq x 4 then 4 else if Nat.beq x 23 then 152 else if Nat.beq x 24 then 22 else if Nat.beq x 26 then 9 else if Nat.beq x 27 then 154 else if Nat.beq x 28 then 155 else if Nat.beq x 33 then 110 else if Nat.beq x 3 then 4 else 0,fun x=>x⟩
theorem lay_n7:SlLaysZ.n7 Tryz.prog Jec:={
 mixed:=rfl,
 f7:=⟨Tryz.f79.name,by decide,Tryz.func79.trans (by kernel_rfl)⟩,
 f10:=⟨Tryz.f119.name,by decide,Tryz.func119.trans (by kernel_rfl)⟩,
 t0:=by kernel_rfl,
 a0:=by intro w;kernel_rfl,
 z0:=by intro w;kernel_rfl,
 v0:=by intro w;kernel_rfl,
 t4:=by kernel_rfl,
 a4:=by intro w;kernel_rfl,
 z4:=by intro w;kernel_rfl,
 v4:=by intro w;kernel_rfl,
 t23:=by kernel_rfl,
 a23:=by intro w;kernel_rfl,
 z23:=by intro w;kernel_rfl,
 v23:=by intro w;kernel_rfl,
 t26:=by kernel_rfl,
 a26:=by intro w;kernel_rfl,
 z26:=by intro w;kernel_rfl,
 v26:=by intro w;kernel_rfl,
 t27:=by kernel_rfl,
 a27:=by intro w;kernel_rfl,
 z27:=by intro w;kernel_rfl,
 v27:=by intro w;kernel_rfl,
 t28:=by kernel_rfl,
 a28:=by intro w;kernel_rfl,
 z28:=by intro w;kernel_rfl,
 v28:=by intro w;kernel_rfl,
 t33:=by kernel_rfl,
 a33:=by intro w;kernel_rfl,
 z33:=by intro w;kernel_rfl,
 v33:=by intro w;kernel_rfl }
theorem lay_n8:SlLaysZ.n8 Tryz.prog Jec:={
 mixed:=rfl,
 f8:=⟨Tryz.f78.name,by decide,Tryz.func78.trans (by kernel_rfl)⟩,
 f11:=⟨Tryz.f118.name,by decide,Tryz.func118.trans (by kernel_rfl)⟩,
 t0:=by kernel_rfl,
 a0:=by intro w;kernel_rfl,
 z0:=by intro w;kernel_rfl,
 v0:=by intro w;kernel_rfl,
 t24:=by kernel_rfl,
 a24:=by intro w;kernel_rfl,
 z24:=by intro w;kernel_rfl,
 v24:=by intro w;kernel_rfl,
 t26:=by kernel_rfl,
 a26:=by intro w;kernel_rfl,
 z26:=by intro w;kernel_rfl,
 v26:=by intro w;kernel_rfl,
 t28:=by kernel_rfl,
 a28:=by intro w;kernel_rfl,
 z28:=by intro w;kernel_rfl,
 v28:=by intro w;kernel_rfl,
 i26:=by kernel_rfl }
theorem JmD:SlLaysZ.n10 Tryz.prog Jec:={
 mixed:=rfl,
 f10:=⟨Tryz.f119.name,by decide,Tryz.func119.trans (by kernel_rfl)⟩,
 t0:=by kernel_rfl,
 a0:=by intro w;kernel_rfl,
 z0:=by intro w;kernel_rfl,
 v0:=by intro w;kernel_rfl,
 t4:=by kernel_rfl,
 a4:=by intro w;kernel_rfl,
 z4:=by intro w;kernel_rfl,
 v4:=by intro w;kernel_rfl,
 t23:=by kernel_rfl,
 a23:=by intro w;kernel_rfl,
 z23:=by intro w;kernel_rfl,
 v23:=by intro w;kernel_rfl,
 t26:=by kernel_rfl,
 a26:=by intro w;kernel_rfl,
 z26:=by intro w;kernel_rfl,
 v26:=by intro w;kernel_rfl,
 t33:=by kernel_rfl,
 a33:=by intro w;kernel_rfl,
 z33:=by intro w;kernel_rfl,
 v33:=by intro w;kernel_rfl }
theorem JeK (G:Jt) (root:Int) (hw_root:rU root) (a:Int) (hw_a:rI a) :QF Tryz.prog 85 #[U root,I a] G [] (fun u G' L'=>u=.tuple #[.agg #[I (((KU root a).1).epoch),U (((KU root a).1).root),U (((KU root a).1).prev),I (((KU root a).1).at_)],I ((KU root a).2)]):=by
 refine JJ Tryz.func85 18 [(0,U root),(1,I a)] rfl (fun w0 G0=>?_)
 refine Je (Jb (Ju 4 #[I 0,U 0,U 0,I 0] 50 (fun b1=>Jd [0] [(0,U root),(1,I a),(4,Pt b1 0)] (Jc (Ja (Je (Jb (Jd [0,0,0] [(4,Pt b1 0),(10,.agg #[I 0,U root,U 0,I a])] (Ju 6 #[I 0,U 0,U 0,I 0] 50 (fun b2=>Kd [3] [(4,Pt b1 0),(6,Pt b2 0)] [[Sg b2 0 [I 0,U root,U 0,I a]],[Sg b1 0 [I 0,U 0,U 0,I 0]]] (Jc (Ja (Je (Je (Jb (Jd [2] [(4,Pt b1 0),(6,Pt b2 0),(11,.agg #[I 0,U root,U 0,I a])] (Ji 12 (I (JD (⟨0,root,0,a⟩:JR))) (Zv (⟨0,root,0,a⟩:JR) G) (Jd [0] [(4,Pt b1 0),(6,Pt b2 0),(7,I (JD (⟨0,root,0,a⟩:JR)))] (Jc (Ja (Jg [0,0] [(4,Pt b1 0),(6,Pt b2 0),(7,I (JD (⟨0,root,0,a⟩:JR))),(14,Bo (!decide (JD (⟨0,root,0,a⟩:JR)=0)))] (Jo (!decide (JD (⟨0,root,0,a⟩:JR)=0)) (fun h1=>?_) (fun h1=>?_)))))))))))))))))))))))
 try simp only [BB] at h1
 refine Jg [0,0,5,0] [(4,Pt b1 0),(5,I (JD (⟨0,root,0,a⟩:JR)))] (Jk (Jh (Jl [1,0] [.agg #[I 0,U 0,U 0,I 0],I (JD (⟨0,root,0,a⟩:JR))] (Jv (Jt.le_refl _) ?_))))
 have hf_:(KU root a)=((⟨0,0,0,0⟩:JR),(JD (⟨0,root,0,a⟩:JR))):=by
  unfold KU WY;(rw [if_pos ‹_›];done)
 · (try rw [hf_]);(simp only [JL];done)
 try simp only [BB] at h1
 refine Jm (Ja (WM [2,5,0] [(4,Pt b1 0),(5,I 0)] [[Sg b2 0 [I 0,U root,U 0,I a]],[Sg b1 0 [I 0,U root,U 0,I a]]] (Jk (Jl [1,0] [.agg #[I 0,U root,U 0,I a],I 0] (Jv (Jt.le_refl _) ?_)))))
 have hf_:(KU root a)=((⟨0,root,0,a⟩:JR),0):=by
  unfold KU WY;(rw [if_neg (by omega)];done)
 · (try rw [hf_]);(simp only [JL];done)
theorem Jah (G:Jt) (n:Int) (most:Int) :QF Tryz.prog 35 #[I n,I most] G [] (fun u G' L'=>u=Bo (ZI n most)):=by
 refine JJ Tryz.func35 12 [(0,I n),(1,I most)] rfl (fun w0 G0=>?_)
 refine Jg [0] [(0,I n),(1,I most)] (Je (Jb (Jd [0,0,0] [(0,I n),(1,I most),(7,Bo (decide (n ≥ 1)))] (KD (decide (n ≥ 1)) (fun bb=>[(0,I n),(1,I most),(7,Bo bb)]) [0,0,0,0] [1,1,1,0] (fun bb=>[(11,Bo (bb && (decide (n≤most))))]) (Jd [0] [(4,Bo ((decide (n ≥ 1)) && (decide (n≤most))))] (Jc (Ja (Jk (Jl [0] [Bo ((decide (n ≥ 1)) && (decide (n≤most)))] (Jv (Jt.le_refl _) ?_))))))))))
 have hf_:(ZI n most)=((decide (n ≥ 1)) && (decide (n≤most))):=by
  rfl
 · (try rw [hf_]);(simp only [JL];done)
theorem Jed (G:Jt) (vs_c:List Value) (c:Kw) (h_c:VE.R G vs_c c) (hb:0<c.books.length) (hb2:c.books.length≤1000):QF Tryz.prog 60 #[.agg vs_c.toArray] G [] (fun u G' L'=>∃ (a1:Option Addr) (c2:Nat),u=Sl a1 ((Qx c.books).length) c2∧(RS Qo G' a1 c2 (Qx c.books))∧L'=[]):=by
 obtain ⟨a1,c1,a2,c2,a3,c3,rfl,_,_,_,_,_,_,hs3⟩:=h_c
 refine JJ Tryz.func60 11 [(0,(KW c a1 c1 a2 c2 a3 c3))] rfl (fun w0 G0=>?_)
 refine Je (Jb (Ju 1 #[I c.queue.most,Sl a1 c.queue.wait.length c1,I c.batch,I c.every,I c.now,Sl a2 c.heads.length c2,Sl a3 c.books.length c3] 34 (fun b1=>Jd [0] [(1,Pt b1 0)] (Jc (Ja (Je (Jb (Jd [0,2,0,2,0,0] [(4,Sl a3 c.books.length c3),(8,I (IntKind.i64.wrap ((c.books.length:Int)-1)))] ?_))))))))
 have e1:IntKind.i64.wrap ((c.books.length:Int)-1)=((c.books.length-1:Nat):Int):=(IntWalk.i64_in _ (by omega)).trans (show (c.books.length:Int)-1=((c.books.length-1:Nat):Int) by omega)
 refine J3 (fr':=[(4,Sl a3 c.books.length c3),(8,I ((c.books.length-1:Nat):Int))]) (L':=[[Sg b1 0 [I c.queue.most,Sl a1 c.queue.wait.length c1,I c.batch,I c.every,I c.now,Sl a2 c.heads.length c2,Sl a3 c.books.length c3]]]) (by simp only [KW,e1];first | done | rfl) (by rfl) ?_
 clear e1
 obtain ⟨b2,o1,rfl⟩:=RS.addr hs3 (k:=c.books.length-1) (by omega)
 obtain ⟨x1,hx1⟩:=Wh (l:=c.books) (k:=c.books.length-1) (by omega)
 obtain ⟨_,⟨a4,c4,rfl,hs4⟩,hc1⟩:=RS.get hs3 hx1
 refine Kh (b:=b2) (off:=o1) (len:=c.books.length) (cap:=c3) (ik:=.i64) 9 66 1 (c.books.length-1) (by omega) (Ka 10 66 (cs:=[Sl a4 x1.length c4]) 0 (Sl a4 x1.length c4) hc1 (Jd [0] [(2,Sl a4 x1.length c4)] (Jc (Ja (Jk ?_)))))
 have hf1:Qx c.books=x1:=by
  exact (Jki rfl hx1).symm
 refine Jl [0] [Sl a4 x1.length c4] (JY [] (.cons _ .slnil) (Jt.le_refl _) ?_)
 rw [hf1]
 try dsimp only
 exact ⟨a4,c4,rfl,hs4,rfl⟩
theorem Ja3 (G:Jt) (vs_c:List Value) (c:Kw) (h_c:VE.R G vs_c c) (a_more:Option Addr) (c_more:Nat) (more:List (List UInt8)) (h_more:RS ES G a_more c_more more) (hb:0<c.books.length) (hb2:c.books.length≤1000) (hn1:(Qx c.books).length≤1000) (hn2:c.queue.wait.length≤1000) (hn3:more.length≤1000):QF Tryz.prog 38 #[.agg vs_c.toArray,Sl a_more more.length c_more] G [] (fun u G' L'=>u=I (WI c more)):=by
 obtain ⟨a1,c1,a2,c2,a3,c3,rfl,w1,hs1,w2,w3,w4,hs2,hs3⟩:=h_c
 refine JJ Tryz.func38 49 [(0,(KW c a1 c1 a2 c2 a3 c3)),(1,Sl a_more more.length c_more)] rfl (fun w0 G0=>?_)
 refine Je (Jb (Ju 2 #[I c.queue.most,Sl a1 c.queue.wait.length c1,I c.batch,I c.every,I c.now,Sl a2 c.heads.length c2,Sl a3 c.books.length c3] 34 (fun b1=>Jd [0] [(1,Sl a_more more.length c_more),(2,Pt b1 0)] (Jc (Ja (Je (Jb (Jie 12 9 4 (fun b2 ob1 hm1=>Jd [0] [(1,Sl a_more more.length c_more),(2,Pt b1 0),(5,.map (some b2))] (Jc (Ja (Je (Je (Jb (Jd [4] [(1,Sl a_more more.length c_more),(2,Pt b1 0),(5,.map (some b2)),(13,(KW c a1 c1 a2 c2 a3 c3))] (JQ 14 (Jed G (Kn c a1 c1 a2 c2 a3 c3) c (⟨a1,c1,a2,c2,a3,c3,rfl,w1,hs1,w2,w3,w4,hs2,hs3⟩) ‹_› ‹_›) (fun v G1 L1 hl1 hp=>?_)))))))))))))))))
 obtain ⟨a4,c4,rfl,hs4,rfl⟩:=hp
 refine Jd [0,0] [(1,Sl a_more more.length c_more),(2,Pt b1 0),(5,.map (some b2)),(14,Sl a4 ((Qx c.books).length) c4),(15,I ((Qx c.books).length:Int)),(16,I 0)] (Jc (Ja (Jz ?_)))
 have hlm_h_more:more.length≤9223372036854775807:=Nat.le_trans (h_more).le (h_more).max
 have hlm_hs4:(Qx c.books).length≤9223372036854775807:=Nat.le_trans (hs4).le (hs4).max
 refine Qc (σ:=Nat×Obj) (fun q_=>(q_.1≤(Qx c.books).length)∧(JcG Tryz.prog 9 4 q_.2 q_.1 (Dn (KM ((Qx c.books).take q_.1))))) (fun q_=>[(1,Sl a_more more.length c_more),(2,Pt b1 0),(5,.map (some b2)),(14,Sl a4 ((Qx c.books).length) c4),(15,I ((Qx c.books).length:Int)),(16,I (q_.1:Int))]) (fun q_=>G1) (fun q_=>[[Ob b2 q_.2],[Sg b1 0 (Kn c a1 c1 a2 c2 a3 c3)]]) (fun q_=>(Qx c.books).length-q_.1) (0,ob1) ⟨(by (try dsimp only);exact Nat.zero_le _),(by (try dsimp only);exact hm1)⟩ (fun q_ hs=>?_)
 obtain ⟨i,ob1⟩:=q_
 obtain ⟨hi,hm1⟩:=hs
 dsimp only at hi hm1
 refine KQ (fr':=[(1,Sl a_more more.length c_more),(2,Pt b1 0),(5,.map (some b2)),(14,Sl a4 ((Qx c.books).length) c4),(15,I ((Qx c.books).length:Int)),(16,I (i:Int))]) (L':=[[Ob b2 ob1],[Sg b1 0 (Kn c a1 c1 a2 c2 a3 c3)]]) rfl rfl (Jg [0] [(1,Sl a_more more.length c_more),(2,Pt b1 0),(5,.map (some b2)),(14,Sl a4 ((Qx c.books).length) c4),(15,I ((Qx c.books).length:Int)),(16,I (i:Int)),(17,Bo (decide ((i:Int)<((Qx c.books).length:Int))))] (Je (Jo (decide ((i:Int)<((Qx c.books).length:Int))) (fun h1=>?_) (fun h1=>?_))))
 try simp only [BB] at h1
 refine Jm (Ja (Je (Jz (Je (Jb ?_)))))
 obtain ⟨b3,o1,rfl⟩:=RS.addr hs4 (k:=i) (by omega)
 obtain ⟨x1,hx1⟩:=Wh (l:=Qx c.books) (k:=i) (by omega)
 obtain ⟨_,⟨rfl,w5,_⟩,hc1⟩:=RS.get hs4 hx1
 refine Kh (b:=b3) (off:=o1) (len:=(Qx c.books).length) (cap:=c4) (ik:=.i64) 18 94 2 i (by omega) (Ka 19 94 (cs:=[Sr x1.name,Sr x1.value]) 0 (.agg #[Sr x1.name,Sr x1.value]) hc1 (Ju 7 #[Sr ([]),Sr ([])] 94 (fun b4=>Kd [3] [(1,Sl a_more more.length c_more),(2,Pt b1 0),(5,.map (some b2)),(7,Pt b4 0),(14,Sl (At b3 o1) ((Qx c.books).length) c4),(15,I ((Qx c.books).length:Int)),(16,I (i:Int))] [[Sg b4 0 [Sr x1.name,Sr x1.value]],[Ob b2 ob1],[Sg b1 0 (Kn c a1 c1 a2 c2 a3 c3)]] (Jc (Ja (Jb (Jd [0,0,2] [(1,Sl a_more more.length c_more),(2,Pt b1 0),(5,.map (some b2)),(14,Sl (At b3 o1) ((Qx c.books).length) c4),(15,I ((Qx c.books).length:Int)),(16,I (i:Int)),(20,.map (some b2)),(22,Sr x1.name)] (JcH (n:=i) (D:=Dn (KM ((Qx c.books).take i))) (s:=x1.name) 1 152 9 4 true hm1 (Go.Maps.string_keyed (by kernel_rfl)) (by kernel_rfl) (by kernel_rfl) (by kernel_rfl) (Nat.le_trans w5 (by decide)) (Nat.lt_of_lt_of_le (m:=1000000) (by omega) (by decide)) (fun ob2 hm2=>?_)))))))))
 rw [← JdC] at hm2
 refine Jc (JM (Ja (Jb (Jd [0,0] [(1,Sl a_more more.length c_more),(2,Pt b1 0),(5,.map (some b2)),(14,Sl (At b3 o1) ((Qx c.books).length) c4),(15,I ((Qx c.books).length:Int)),(16,I (IntKind.i64.wrap ((i:Int)+1)))] ?_))))
 have e1:IntKind.i64.wrap ((i:Int)+1)=(i:Int)+1:=IntWalk.i64_in _ (by omega)
 refine J3 (fr':=[(1,Sl a_more more.length c_more),(2,Pt b1 0),(5,.map (some b2)),(14,Sl (At b3 o1) ((Qx c.books).length) c4),(15,I ((Qx c.books).length:Int)),(16,I ((i:Int)+1))]) (L':=[[Sg b4 0 [Sr x1.name,Sr x1.value]],[Ob b2 ob2],[Sg b1 0 [I c.queue.most,Sl a1 c.queue.wait.length c1,I c.batch,I c.every,I c.now,Sl a2 c.heads.length c2,Sl a3 c.books.length c3]]]) (by simp only [Kn,KW,e1];first | done | rfl) (by rfl) ?_
 clear e1
 exact Jc (Q4 [[Ob b2 ob2],[Sg b1 0 (Kn c a1 c1 a2 c2 a3 c3)]] (.cons _ (.cons_cons _ (.cons_cons _ .slnil))) (Qg (i+1,ob2) ⟨(by omega),(by rw [JeI hx1];exact hm2)⟩ (by (try dsimp only);omega)))
 try simp only [BB] at h1
 refine K0 (J2 (Kf (JU (Ja (Je (Jg [0,0,4,0,0] [(1,Sl a_more more.length c_more),(5,.map (some b2)),(26,Sl a1 c.queue.wait.length c1),(27,I (c.queue.wait.length:Int)),(28,I 0)] (Jz ?_)))))))
 have hlm_h_more:more.length≤9223372036854775807:=Nat.le_trans (h_more).le (h_more).max
 have hlm_hs1:c.queue.wait.length≤9223372036854775807:=Nat.le_trans (hs1).le (hs1).max
 refine Qc (σ:=Nat×Obj) (fun q_=>(q_.1≤c.queue.wait.length)∧(JcG Tryz.prog 9 4 q_.2 ((Qx c.books).length+q_.1) (Dn (KM (Qx c.books)++Qi (c.queue.wait.take q_.1))))) (fun q_=>[(1,Sl a_more more.length c_more),(5,.map (some b2)),(26,Sl a1 c.queue.wait.length c1),(27,I (c.queue.wait.length:Int)),(28,I (q_.1:Int))]) (fun q_=>G1) (fun q_=>[[Ob b2 q_.2],[Sg b1 0 (Kn c a1 c1 a2 c2 a3 c3)]]) (fun q_=>c.queue.wait.length-q_.1) (0,ob1) ⟨(by (try dsimp only);exact Nat.zero_le _),(by (try dsimp only);have e_:=List.take_of_length_le (i:=i) (l:=Qx c.books) (by omega);have e2_:i=(Qx c.books).length:=(by omega);have q_:=hm1;rw [e_] at q_;rw [e2_] at q_;simpa [Qi] using q_)⟩ (fun q_ hs=>?_)
 obtain ⟨j,ob2⟩:=q_
 obtain ⟨hi,hm2⟩:=hs
 dsimp only at hi hm2
 refine KQ (fr':=[(1,Sl a_more more.length c_more),(5,.map (some b2)),(26,Sl a1 c.queue.wait.length c1),(27,I (c.queue.wait.length:Int)),(28,I (j:Int))]) (L':=[[Ob b2 ob2],[Sg b1 0 (Kn c a1 c1 a2 c2 a3 c3)]]) rfl rfl (Jg [0] [(1,Sl a_more more.length c_more),(5,.map (some b2)),(26,Sl a1 c.queue.wait.length c1),(27,I (c.queue.wait.length:Int)),(28,I (j:Int)),(29,Bo (decide ((j:Int)<(c.queue.wait.length:Int))))] (Je (Jo (decide ((j:Int)<(c.queue.wait.length:Int))) (fun h2=>?_) (fun h2=>?_))))
 try simp only [BB] at h2
 refine Jm (Ja (Je (Jz (Je (Jb ?_)))))
 obtain ⟨b5,o2,rfl⟩:=RS.addr (hs1.mono hl1) (k:=j) (by omega)
 obtain ⟨x2,hx2⟩:=Wh (l:=c.queue.wait) (k:=j) (by omega)
 obtain ⟨_,⟨rfl,w7,_,_,_⟩,hc2⟩:=RS.get (hs1.mono hl1) hx2
 refine Kh (b:=b5) (off:=o2) (len:=c.queue.wait.length) (cap:=c1) (ik:=.i64) 30 83 4 j (by omega) (Ka 31 83 (cs:=[Sr x2.name,Sr x2.value,U x2.n,U x2.tag]) 0 (.agg #[Sr x2.name,Sr x2.value,U x2.n,U x2.tag]) hc2 (Ju 9 #[Sr ([]),Sr ([]),U 0,U 0] 83 (fun b6=>Kd [3] [(1,Sl a_more more.length c_more),(5,.map (some b2)),(9,Pt b6 0),(26,Sl (At b5 o2) c.queue.wait.length c1),(27,I (c.queue.wait.length:Int)),(28,I (j:Int))] [[Sg b6 0 [Sr x2.name,Sr x2.value,U x2.n,U x2.tag]],[Ob b2 ob2],[Sg b1 0 (Kn c (At b5 o2) c1 a2 c2 a3 c3)]] (Jc (Ja (Jb (Jd [0,0,2] [(1,Sl a_more more.length c_more),(5,.map (some b2)),(26,Sl (At b5 o2) c.queue.wait.length c1),(27,I (c.queue.wait.length:Int)),(28,I (j:Int)),(32,.map (some b2)),(34,Sr x2.name)] (JcH (n:=(Qx c.books).length+j) (D:=Dn (KM (Qx c.books)++Qi (c.queue.wait.take j))) (s:=x2.name) 1 152 9 4 true hm2 (Go.Maps.string_keyed (by kernel_rfl)) (by kernel_rfl) (by kernel_rfl) (by kernel_rfl) (Nat.le_trans w7 (by decide)) (Nat.lt_of_lt_of_le (m:=1000000) (by omega) (by decide)) (fun ob3 hm3=>?_)))))))))
 rw [← JdC] at hm3
 refine Jc (JM (Ja (Jb (Jd [0,0] [(1,Sl a_more more.length c_more),(5,.map (some b2)),(26,Sl (At b5 o2) c.queue.wait.length c1),(27,I (c.queue.wait.length:Int)),(28,I (IntKind.i64.wrap ((j:Int)+1)))] ?_))))
 have e2:IntKind.i64.wrap ((j:Int)+1)=(j:Int)+1:=IntWalk.i64_in _ (by omega)
 refine J3 (fr':=[(1,Sl a_more more.length c_more),(5,.map (some b2)),(26,Sl (At b5 o2) c.queue.wait.length c1),(27,I (c.queue.wait.length:Int)),(28,I ((j:Int)+1))]) (L':=[[Sg b6 0 [Sr x2.name,Sr x2.value,U x2.n,U x2.tag]],[Ob b2 ob3],[Sg b1 0 [I c.queue.most,Sl (At b5 o2) c.queue.wait.length c1,I c.batch,I c.every,I c.now,Sl a2 c.heads.length c2,Sl a3 c.books.length c3]]]) (by simp only [Kn,KW,e2];first | done | rfl) (by rfl) ?_
 clear e2
 exact Jc (Q4 [[Ob b2 ob3],[Sg b1 0 (Kn c (At b5 o2) c1 a2 c2 a3 c3)]] (.cons _ (.cons_cons _ (.cons_cons _ .slnil))) (Qg (j+1,ob3) ⟨(by omega),(by rw [JeJ hx2,← List.append_assoc];exact hm3)⟩ (by (try dsimp only);omega)))
 try simp only [BB] at h2
 refine K0 (J2 (Kf (JU (Ja (Je (Jg [0,0,0] [(5,.map (some b2)),(36,Sl a_more more.length c_more),(37,I (more.length:Int)),(38,I 0)] (Jz ?_)))))))
 have hlm_h_more:more.length≤9223372036854775807:=Nat.le_trans (h_more).le (h_more).max
 refine Qc (σ:=Nat×Obj) (fun q_=>(q_.1≤more.length)∧(JcG Tryz.prog 9 4 q_.2 ((Qx c.books).length+c.queue.wait.length+q_.1) (Dn (KM (Qx c.books)++Qi c.queue.wait++more.take q_.1)))) (fun q_=>[(5,.map (some b2)),(36,Sl a_more more.length c_more),(37,I (more.length:Int)),(38,I (q_.1:Int))]) (fun q_=>G1) (fun q_=>[[Ob b2 q_.2],[Sg b1 0 (Kn c a1 c1 a2 c2 a3 c3)]]) (fun q_=>more.length-q_.1) (0,ob2) ⟨(by (try dsimp only);exact Nat.zero_le _),(by (try dsimp only);have e_:=List.take_of_length_le (i:=j) (l:=c.queue.wait) (by omega);have e2_:j=c.queue.wait.length:=(by omega);have q_:=hm2;rw [e_] at q_;rw [e2_] at q_;simpa using q_)⟩ (fun q_ hs=>?_)
 obtain ⟨k,ob3⟩:=q_
 obtain ⟨hi,hm3⟩:=hs
 dsimp only at hi hm3
 refine KQ (fr':=[(5,.map (some b2)),(36,Sl a_more more.length c_more),(37,I (more.length:Int)),(38,I (k:Int))]) (L':=[[Ob b2 ob3],[Sg b1 0 (Kn c a1 c1 a2 c2 a3 c3)]]) rfl rfl (Jg [0] [(5,.map (some b2)),(36,Sl a_more more.length c_more),(37,I (more.length:Int)),(38,I (k:Int)),(39,Bo (decide ((k:Int)<(more.length:Int))))] (Je (Jo (decide ((k:Int)<(more.length:Int))) (fun h3=>?_) (fun h3=>?_))))
 try simp only [BB] at h3
 refine Jm (Ja (Je (Jz (Je (Jb ?_)))))
 obtain ⟨b7,o3,rfl⟩:=RS.addr (h_more.mono hl1) (k:=k) (by omega)
 obtain ⟨x3,hx3⟩:=Wh (l:=more) (k:=k) (by omega)
 obtain ⟨_,⟨rfl,w11⟩,hc3⟩:=RS.get (h_more.mono hl1) hx3
 refine Kh (b:=b7) (off:=o3) (len:=more.length) (cap:=c_more) (ik:=.i64) 40 9 1 k (by omega) (Ka 41 9 (cs:=[Sr x3]) 0 (Sr x3) hc3 (Jd [0] [(5,.map (some b2)),(11,Sr x3),(36,Sl (At b7 o3) more.length c_more),(37,I (more.length:Int)),(38,I (k:Int))] (Jc (Ja (Jb (Jd [0,0] [(5,.map (some b2)),(36,Sl (At b7 o3) more.length c_more),(37,I (more.length:Int)),(38,I (k:Int)),(42,.map (some b2)),(43,Sr x3)] (JcH (n:=(Qx c.books).length+c.queue.wait.length+k) (D:=Dn (KM (Qx c.books)++Qi c.queue.wait++more.take k)) (s:=x3) 0 152 9 4 true hm3 (Go.Maps.string_keyed (by kernel_rfl)) (by kernel_rfl) (by kernel_rfl) (by kernel_rfl) (Nat.le_trans w11 (by decide)) (Nat.lt_of_lt_of_le (m:=1000000) (by omega) (by decide)) (fun ob4 hm4=>?_))))))))
 rw [← JdC] at hm4
 refine Jc (JM (Ja (Jb (Jd [0,0] [(5,.map (some b2)),(36,Sl (At b7 o3) more.length c_more),(37,I (more.length:Int)),(38,I (IntKind.i64.wrap ((k:Int)+1)))] ?_))))
 have e3:IntKind.i64.wrap ((k:Int)+1)=(k:Int)+1:=IntWalk.i64_in _ (by omega)
 refine J3 (fr':=[(5,.map (some b2)),(36,Sl (At b7 o3) more.length c_more),(37,I (more.length:Int)),(38,I ((k:Int)+1))]) (L':=[[Ob b2 ob4],[Sg b1 0 [I c.queue.most,Sl a1 c.queue.wait.length c1,I c.batch,I c.every,I c.now,Sl a2 c.heads.length c2,Sl a3 c.books.length c3]]]) (by simp only [Kn,KW,e3];first | done | rfl) (by rfl) ?_
 clear e3
 exact Jc (Qg (k+1,ob4) ⟨(by omega),(by rw [Jlz hx3,← List.append_assoc];exact hm4)⟩ (by (try dsimp only);omega))
 try simp only [BB] at h3
 refine K0 (J2 (Kf (JU (Ja (Je (Jb (Jd [0] [(45,.map (some b2))] (Jkh (ρ:=Jec) (b:=b2) 46 lay_n7 (fun bk1=>Jf8 (ρ:=Jec) (b:=b2) (bk:=bk1) (D:=Dn (KM (Qx c.books)++Qi c.queue.wait++more.take k)) 47 1 0 lay_n8 JmD hm3 (by rw [(Jja _).2.2];refine Nat.le_trans (nn_le _) ?_;simp only [List.length_append,Jf9,Jga,List.length_take];omega) (fun a5 c5=>?_))))))))))
 refine Jd [0,0] [(4,I (((strKeys (Dn (KM (Qx c.books)++Qi c.queue.wait++more.take k))).length:Nat):Int))] (Jc (Ja (Jk (Jl [0] [I (((strKeys (Dn (KM (Qx c.books)++Qi c.queue.wait++more.take k))).length:Nat):Int)] (Jv hl1 ?_)))))
 have hf_:(WI c more)=(((strKeys (Dn (KM (Qx c.books)++Qi c.queue.wait++more.take k))).length:Nat):Int):=by
  rw [JmC];unfold WI Vq;rw [List.take_of_length_le (i:=k) (l:=more) (by omega)]
 · (try rw [hf_]);(simp only [JL];done)
theorem Jgb (G:Jt) (most:Int) (hw_most:rI most) (batch:Int) (hw_batch:rI batch) (every:Int) (hw_every:rI every) :QF Tryz.prog 48 #[I most,I batch,I every] G [] (fun u G' L'=>∃ (a1:Option Addr) (c2:Nat) (a3:Option Addr) (c4:Nat) (a5:Option Addr) (c6:Nat),u=.tuple #[.agg #[I (((JN most batch every).1).queue.most),Sl a1 ((((JN most batch every).1).queue.wait).length) c2,I (((JN most batch every).1).batch),I (((JN most batch every).1).every),I (((JN most batch every).1).now),Sl a3 ((((JN most batch every).1).heads).length) c4,Sl a5 ((((JN most batch every).1).books).length) c6],I ((JN most batch every).2)]∧(rI (((JN most batch every).1).queue.most))∧(RS QV G' a1 c2 (((JN most batch every).1).queue.wait))∧(rI (((JN most batch every).1).batch))∧(rI (((JN most batch every).1).every))∧(rI (((JN most batch every).1).now))∧(RS KE G' a3 c4 (((JN most batch every).1).heads))∧(RS Qm G' a5 c6 (((JN most batch every).1).books))∧L'=[]):=by
 refine JJ Tryz.func48 43 [(0,I most),(1,I batch),(2,I every)] rfl (fun w0 G0=>?_)
 refine Je (Jb (Ju 6 #[I 0,Sl none 0 0,I 0,I 0,I 0,Sl none 0 0,Sl none 0 0] 34 (fun b1=>Jd [0] [(0,I most),(1,I batch),(2,I every),(6,Pt b1 0)] (Jc (Ja (Je (Je (Jb (Jd [0] [(0,I most),(1,I batch),(2,I every),(6,Pt b1 0),(12,I most)] (Ji 13 (Bo (ZI most 30)) (Jah G most 30) (Jd [0,0] [(0,I most),(1,I batch),(2,I every),(6,Pt b1 0),(15,Bo (!(ZI most 30)))] (Wd (fun bb=>[(0,I most),(1,I batch),(2,I every),(6,Pt b1 0),(15,Bo bb)]) (!(ZI most 30)) (fun h1=>?_) (fun h1=>?_)))))))))))))
 try simp only [BB] at h1
 refine Jd [1,1,1,0,0,1,1,1,0] [(0,I most),(1,I batch),(2,I every),(6,Pt b1 0),(24,Bo true)] (Jc (Ja (JZ (Jg [0,3,0] [(6,Pt b1 0),(7,I 4)] (Jk (Jh ?_))))))
 have hf1:JN most batch every=((⟨(⟨0,[]⟩:QL),0,0,0,[],[]⟩:Kw),4):=by
  unfold JN Zy;simp_all
 refine Jl [0,0] [.agg #[I 0,Sl none 0 0,I 0,I 0,I 0,Sl none 0 0,Sl none 0 0],I 4] (JY [] (.cons _ .slnil) (Jt.le_refl _) ?_)
 rw [hf1]
 try dsimp only
 exact ⟨none,0,none,0,none,0,rfl,(by omega),(RS.nil' QV G),(by omega),(by omega),(by omega),(RS.nil' KE G),(RS.nil' Qm G),rfl⟩
 try simp only [BB] at h1
 refine Jd [0] [(0,I most),(1,I batch),(2,I every),(6,Pt b1 0),(15,Bo false),(16,I batch)] (Ji 17 (Bo (ZI batch 30)) (Jah G batch 30) (Jd [0,0,0] [(0,I most),(1,I batch),(2,I every),(6,Pt b1 0),(20,Bo (!(ZI batch 30)))] (Wd (fun bb=>[(0,I most),(1,I batch),(2,I every),(6,Pt b1 0),(20,Bo bb)]) (!(ZI batch 30)) (fun h2=>?_) (fun h2=>?_))))
 try simp only [BB] at h2
 refine Jd [1,1,1,0] [(0,I most),(1,I batch),(2,I every),(6,Pt b1 0),(24,Bo true)] (Jc (Ja (JZ (Jg [0,3,0] [(6,Pt b1 0),(7,I 4)] (Jk (Jh ?_))))))
 have hf2:JN most batch every=((⟨(⟨0,[]⟩:QL),0,0,0,[],[]⟩:Kw),4):=by
  unfold JN Zy;simp_all
 refine Jl [0,0] [.agg #[I 0,Sl none 0 0,I 0,I 0,I 0,Sl none 0 0,Sl none 0 0],I 4] (JY [] (.cons _ .slnil) (Jt.le_refl _) ?_)
 rw [hf2]
 try dsimp only
 exact ⟨none,0,none,0,none,0,rfl,(by omega),(RS.nil' QV G),(by omega),(by omega),(by omega),(RS.nil' KE G),(RS.nil' Qm G),rfl⟩
 try simp only [BB] at h2
 refine Jd [0] [(0,I most),(1,I batch),(2,I every),(6,Pt b1 0),(20,Bo false),(21,I every)] (Ji 22 (Bo (ZI every 1000)) (Jah G every 1000) (Jd [0,0] [(0,I most),(1,I batch),(2,I every),(6,Pt b1 0),(24,Bo (!(ZI every 1000)))] (Jc (Ja (Jo (!(ZI every 1000)) (fun h3=>?_) (fun h3=>?_))))))
 try simp only [BB] at h3
 refine Jg [0,3,0] [(6,Pt b1 0),(7,I 4)] (Jk (Jh ?_))
 have hf3:JN most batch every=((⟨(⟨0,[]⟩:QL),0,0,0,[],[]⟩:Kw),4):=by
  unfold JN Zy;simp_all
 refine Jl [0,0] [.agg #[I 0,Sl none 0 0,I 0,I 0,I 0,Sl none 0 0,Sl none 0 0],I 4] (JY [] (.cons _ .slnil) (Jt.le_refl _) ?_)
 rw [hf3]
 try dsimp only
 exact ⟨none,0,none,0,none,0,rfl,(by omega),(RS.nil' QV G),(by omega),(by omega),(by omega),(RS.nil' KE G),(RS.nil' Qm G),rfl⟩
 try simp only [BB] at h3
 refine Jm (Ja (Je (Jb (Ji 27 (.tuple #[U ((JO ([]) []).1),I ((JO ([]) []).2)]) (Jay G none 0 ([]) (RS.nil' Qo G)) (Jd [0,0,0,0,0] [(0,I most),(1,I batch),(2,I every),(6,Pt b1 0),(8,U ((JO ([]) []).1))] (Jc (Ja (Je (Jb (Jd [0] [(0,I most),(1,I batch),(2,I every),(6,Pt b1 0),(31,U ((JO ([]) []).1))] (Ji 32 (.tuple #[(YC (KU ((JO ([]) []).1) 0).1),I ((KU ((JO ([]) []).1) 0).2)]) (JeK G ((JO ([]) []).1) (Yx _ _) 0 (by omega)) (Jd [0,0,0] [(0,I most),(1,I batch),(2,I every),(6,Pt b1 0),(33,(YC (KU ((JO ([]) []).1) 0).1)),(34,I ((KU ((JO ([]) []).1) 0).2))] (Ju 10 #[I 0,U 0,U 0,I 0] 50 (fun b2=>Kd [3,0] [(0,I most),(1,I batch),(2,I every),(6,Pt b1 0),(10,Pt b2 0)] [[Sg b2 0 (JaS (KU ((JO ([]) []).1) 0).1)],[Sg b1 0 [I 0,Sl none 0 0,I 0,I 0,I 0,Sl none 0 0,Sl none 0 0]]] (Jc (Ja (Je (Jb (Jd [0,0,0,0,2] [(6,Pt b1 0),(36,.agg #[I most,Sl none 0 0]),(37,I batch),(38,I every),(39,(YC (KU ((JO ([]) []).1) 0).1))] (KH 40 1 #[I (((KU ((JO ([]) []).1) 0).1).epoch),U (((KU ((JO ([]) []).1) 0).1).root),U (((KU ((JO ([]) []).1) 0).1).prev),I (((KU ((JO ([]) []).1) 0).1).at_)] 50 (fun b3=>KH 41 1 #[Sl none 0 0] 66 (fun b4=>?_))))))))))))))))))))))
 refine Kd [0,9,0] [(6,Pt b1 0),(7,I 0)] [[Sg b4 0 [Sl none 0 0]],[Sg b3 0 (JaS (KU ((JO ([]) []).1) 0).1)],[Sg b2 0 (JaS (KU ((JO ([]) []).1) 0).1)],[Sg b1 0 [I most,Sl none 0 0,I batch,I every,I 0,Sl (At b3 0) 1 1,Sl (At b4 0) 1 1]]] (Jc (Ja (Jk (Jjb (b:=b3) (o:=0) (cs:=(JaS (KU ((JO ([]) []).1) 0).1)) 1 (fun G1 hl1 hz1=>?_)))))
 have hs1:RS KE G1 (At b3 0) 1 [((KU ((JO ([]) []).1) 0).1)]:=RS.lit [(JaS (KU ((JO ([]) []).1) 0).1)] [((KU ((JO ([]) []).1) 0).1)] ⟨⟨rfl,(by have q_:=Vr (r:=(JO [] []).1) (a:=0) (Yx _ _) (by omega);omega),(by have q_:=Vr (r:=(JO [] []).1) (a:=0) (Yx _ _) (by omega);omega),(by have q_:=Vr (r:=(JO [] []).1) (a:=0) (Yx _ _) (by omega);omega),(by have q_:=Vr (r:=(JO [] []).1) (a:=0) (Yx _ _) (by omega);omega)⟩,trivial⟩ hz1 (Nat.le_of_ble_eq_true rfl) (Nat.le_of_ble_eq_true rfl)
 refine Jjb (b:=b4) (o:=0) (cs:=[Sl none 0 0]) 0 (fun G2 hl2 hz2=>?_)
 have hs2:RS Qm G2 (At b4 0) 1 [[]]:=RS.lit [[Sl none 0 0]] [[]] ⟨⟨none,0,rfl,(RS.nil' Qo G2)⟩,trivial⟩ hz2 (Nat.le_of_ble_eq_true rfl) (Nat.le_of_ble_eq_true rfl)
 have hf4:JN most batch every=((⟨(⟨most,[]⟩:QL),batch,every,0,[((KU ((JO ([]) []).1) 0).1)],[[]]⟩:Kw),0):=by
  unfold JN Zy;simp_all
 refine Jl [3,0] [.agg #[I most,Sl none 0 0,I batch,I every,I 0,Sl (At b3 0) 1 1,Sl (At b4 0) 1 1],I 0] (JY [] (.cons _ (.cons _ (.cons _ (.cons _ .slnil)))) (Jt.le_trans hl1 hl2) ?_)
 rw [hf4]
 try dsimp only
 exact ⟨none,0,(At b3 0),1,(At b4 0),1,rfl,hw_most,(RS.nil' QV G2),hw_batch,hw_every,(by omega),(hs1.mono hl2),hs2,rfl⟩
set_option maxRecDepth 20000 in
theorem Jee (G:Jt) (vs_c:List Value) (c:Kw) (h_c:VE.R G vs_c c) (h0:1≤c.heads.length) (h9:c.heads.length≤40):QF Tryz.prog 37 #[.agg vs_c.toArray] G [] (fun u G' L'=>u=I (Qu c)):=by
 obtain ⟨a1,c1,a2,c2,a3,c3,rfl,_,_,_,_,_,hs2,hs3⟩:=h_c
 refine JJ Tryz.func37 63 [(0,(KW c a1 c1 a2 c2 a3 c3))] rfl (fun w0 G0=>?_)
 refine Je (Jb (Ju 1 #[I c.queue.most,Sl a1 c.queue.wait.length c1,I c.batch,I c.every,I c.now,Sl a2 c.heads.length c2,Sl a3 c.books.length c3] 34 (fun b1=>Jd [0] [(1,Pt b1 0)] (Jc (Ja (Jg [0,2,0,0] [(1,Pt b1 0),(3,I (c.heads.length:Int))] (Je (Je ?_))))))))
 obtain ⟨b2,o1,rfl⟩:=RS.addr hs2 (k:=0) (by omega)
 obtain ⟨x1,hx1⟩:=Wh (l:=c.heads) (k:=0) (by omega)
 obtain ⟨_,⟨rfl,_,_,_,_⟩,hc1⟩:=RS.get hs2 hx1
 rcases Bool.eq_false_or_eq_true (!decide (x1.epoch=0)) with h1 | h1
 have h1d:=h1
 try simp only [BB] at h1d
 refine KB [] (Wr [(0,Pt b1 5),(1,Sl (At b2 o1) c.heads.length c2),(2,Pt b2 (o1+0*4)),(3,Pt b2 (o1+0*4)),(4,I x1.epoch),(5,Bo true),(6,Bo true),(7,undef),(8,undef),(9,undef),(10,undef),(11,undef),(12,Bo true),(13,Bo true),(14,undef),(15,undef),(16,undef),(17,undef),(18,undef),(19,undef),(20,undef),(21,undef),(22,undef),(23,undef),(24,Bo true)] (KA [] [(0,0),(1,2),(3,0),(6,0),(7,1),(8,1),(9,1),(10,1),(11,1),(12,0),(13,0),(14,1),(15,1),(16,1),(17,1),(18,1),(19,1),(20,1),(21,1),(22,1),(23,1),(24,0)] [2,4,5] [(1,Pt b1 0),(35,Bo true)] (List.forall_mem_cons.2 ⟨?_,(List.forall_mem_cons.2 ⟨?_,(List.forall_mem_cons.2 ⟨?_,List.forall_mem_nil _⟩)⟩)⟩) ?_))
 refine Jr 2 13 (Pt b2 (o1+0*4)) [(12,Sl (At b2 o1) c.heads.length c2)] (fun X=>?_)
 exact Kh (b:=b2) (off:=o1) (len:=c.heads.length) (cap:=c2) (ik:=.i64) 13 50 4 0 (by omega) Jp
 refine Jr 4 15 (I x1.epoch) [(14,Pt b2 (o1+0*4))] (fun X=>?_)
 exact Ka 15 2 (cs:=[I x1.epoch,U x1.root,U x1.prev,I x1.at_]) 0 (I x1.epoch) hc1 Jp
 refine Jr 5 16 (Bo true) [(15,I x1.epoch)] (fun X=>?_)
 exact K6 16 (Bo (!decide (x1.epoch=0))) (Bo true) (by rw [h1]) Jp
 refine Ja (JZ (Jg [0] [(2,I 3)] (Jk (Jh (Jl [0] [I 3] (Jv (Jt.le_refl _) ?_))))))
 have hf_:(Qu c)=3:=by
  exact Jij (.inl ⟨hx1,by assumption⟩)
 · (try rw [hf_]);(simp only [JL];done)
 have h1d:=h1
 try simp only [BB] at h1d
 rcases Bool.eq_false_or_eq_true (!decide ((c.books.length:Int)=(c.heads.length:Int))) with h2 | h2
 have h2d:=h2
 try simp only [BB] at h2d
 refine KB [] (Wr [(0,Pt b1 5),(1,Sl (At b2 o1) c.heads.length c2),(2,Pt b2 (o1+0*4)),(3,Pt b2 (o1+0*4)),(4,I x1.epoch),(5,Bo false),(6,Bo false),(7,Pt b1 6),(8,Sl a3 c.books.length c3),(9,I (c.books.length:Int)),(10,I (c.heads.length:Int)),(11,Bo true),(12,Bo true),(13,Bo true),(14,undef),(15,undef),(16,undef),(17,undef),(18,undef),(19,undef),(20,undef),(21,undef),(22,undef),(23,undef),(24,Bo true)] (KA [] [(0,0),(1,2),(3,0),(6,0),(7,0),(8,2),(9,0),(10,0),(12,0),(13,0),(14,1),(15,1),(16,1),(17,1),(18,1),(19,1),(20,1),(21,1),(22,1),(23,1),(24,0)] [2,4,5,11] [(1,Pt b1 0),(35,Bo true)] (List.forall_mem_cons.2 ⟨?_,(List.forall_mem_cons.2 ⟨?_,(List.forall_mem_cons.2 ⟨?_,(List.forall_mem_cons.2 ⟨?_,List.forall_mem_nil _⟩)⟩)⟩)⟩) ?_))
 refine Jr 2 13 (Pt b2 (o1+0*4)) [(12,Sl (At b2 o1) c.heads.length c2)] (fun X=>?_)
 exact Kh (b:=b2) (off:=o1) (len:=c.heads.length) (cap:=c2) (ik:=.i64) 13 50 4 0 (by omega) Jp
 refine Jr 4 15 (I x1.epoch) [(14,Pt b2 (o1+0*4))] (fun X=>?_)
 exact Ka 15 2 (cs:=[I x1.epoch,U x1.root,U x1.prev,I x1.at_]) 0 (I x1.epoch) hc1 Jp
 refine Jr 5 16 (Bo false) [(15,I x1.epoch)] (fun X=>?_)
 exact K6 16 (Bo (!decide (x1.epoch=0))) (Bo false) (by rw [h1]) Jp
 refine Jr 11 22 (Bo true) [(17,Bo false),(20,I (c.books.length:Int)),(21,I (c.heads.length:Int))] (fun X=>?_)
 exact K6 22 (Bo (!decide ((c.books.length:Int)=(c.heads.length:Int)))) (Bo true) (by rw [h2]) Jp
 refine Ja (JZ (Jg [0] [(2,I 3)] (Jk (Jh (Jl [0] [I 3] (Jv (Jt.le_refl _) ?_))))))
 have hf_:(Qu c)=3:=by
  exact Jij (x:=WY) (.inr (.inl ‹_›))
 · (try rw [hf_]);(simp only [JL];done)
 have h2d:=h2
 try simp only [BB] at h2d
 have e1:IntKind.i64.wrap ((c.heads.length:Int)-1)=((c.heads.length-1:Nat):Int):=(IntWalk.i64_in _ (by omega)).trans (show (c.heads.length:Int)-1=((c.heads.length-1:Nat):Int) by omega)
 obtain ⟨x2,hx2⟩:=Wh (l:=c.heads) (k:=c.heads.length-1) (by omega)
 obtain ⟨_,⟨rfl,_,_,_,_⟩,hc2⟩:=RS.get hs2 hx2
 refine KB [] (Wr [(0,Pt b1 5),(1,Sl (At b2 o1) c.heads.length c2),(2,Pt b2 (o1+0*4)),(3,Pt b2 (o1+0*4)),(4,I x1.epoch),(5,Bo false),(6,Bo false),(7,Pt b1 6),(8,Sl a3 c.books.length c3),(9,I (c.books.length:Int)),(10,I (c.heads.length:Int)),(11,Bo false),(12,Bo false),(13,Bo false),(14,Pt b1 5),(15,Sl (At b2 o1) c.heads.length c2),(16,I (c.heads.length:Int)),(17,I ((c.heads.length-1:Nat):Int)),(18,Pt b2 (o1+(c.heads.length-1)*4)),(19,Pt b2 (o1+(c.heads.length-1)*4+3)),(20,I x2.at_),(21,Pt b1 4),(22,I c.now),(23,Bo (decide (x2.at_ > c.now))),(24,Bo (decide (x2.at_ > c.now)))] (KA [] [(0,0),(1,2),(3,0),(6,0),(7,0),(8,2),(9,0),(10,0),(12,0),(13,0),(14,0),(15,2),(16,0),(19,0),(21,0),(22,2),(23,0),(24,0)] [2,4,5,11,17,18,20] [(1,Pt b1 0),(35,Bo (decide (x2.at_ > c.now)))] (List.forall_mem_cons.2 ⟨?_,(List.forall_mem_cons.2 ⟨?_,(List.forall_mem_cons.2 ⟨?_,(List.forall_mem_cons.2 ⟨?_,(List.forall_mem_cons.2 ⟨?_,(List.forall_mem_cons.2 ⟨?_,(List.forall_mem_cons.2 ⟨?_,List.forall_mem_nil _⟩)⟩)⟩)⟩)⟩)⟩)⟩) ?_))
 refine Jr 2 13 (Pt b2 (o1+0*4)) [(12,Sl (At b2 o1) c.heads.length c2)] (fun X=>?_)
 exact Kh (b:=b2) (off:=o1) (len:=c.heads.length) (cap:=c2) (ik:=.i64) 13 50 4 0 (by omega) Jp
 refine Jr 4 15 (I x1.epoch) [(14,Pt b2 (o1+0*4))] (fun X=>?_)
 exact Ka 15 2 (cs:=[I x1.epoch,U x1.root,U x1.prev,I x1.at_]) 0 (I x1.epoch) hc1 Jp
 refine Jr 5 16 (Bo false) [(15,I x1.epoch)] (fun X=>?_)
 exact K6 16 (Bo (!decide (x1.epoch=0))) (Bo false) (by rw [h1]) Jp
 refine Jr 11 22 (Bo false) [(17,Bo false),(20,I (c.books.length:Int)),(21,I (c.heads.length:Int))] (fun X=>?_)
 exact K6 22 (Bo (!decide ((c.books.length:Int)=(c.heads.length:Int)))) (Bo false) (by rw [h2]) Jp
 refine Jr 17 28 (I ((c.heads.length-1:Nat):Int)) [(24,Bo false),(27,I (c.heads.length:Int))] (fun X=>?_)
 exact K6 28 (I (IntKind.i64.wrap ((c.heads.length:Int)-1))) (I ((c.heads.length-1:Nat):Int)) (by simp only [e1]) Jp
 refine Jr 18 29 (Pt b2 (o1+(c.heads.length-1)*4)) [(24,Bo false),(26,Sl (At b2 o1) c.heads.length c2),(28,I ((c.heads.length-1:Nat):Int))] (fun X=>?_)
 exact Kh (b:=b2) (off:=o1) (len:=c.heads.length) (cap:=c2) (ik:=.i64) 29 50 4 (c.heads.length-1) (by omega) Jp
 refine Jr 20 31 (I x2.at_) [(24,Bo false),(30,Pt b2 (o1+(c.heads.length-1)*4+3))] (fun X=>?_)
 exact Ka 31 2 (cs:=[I x2.epoch,U x2.root,U x2.prev,I x2.at_]) 3 (I x2.at_) hc2 Jp
 refine Ja (Jo (decide (x2.at_ > c.now)) (fun h3=>?_) (fun h3=>?_))
 try simp only [BB] at h3
 refine Jg [0] [(2,I 3)] (Jk (Jh (Jl [0] [I 3] (Jv (Jt.le_refl _) ?_))))
 have hf_:(Qu c)=3:=by
  exact Jij (x:=WY) (.inr (.inr ⟨_,hx2,by omega⟩))
 · (try rw [hf_]);(simp only [JL];done)
 try simp only [BB] at h3
 refine Jm (Ja (Je (Jg [0,2,0,0] [(1,Pt b1 0),(37,Sl a3 c.books.length c3),(38,I (c.books.length:Int)),(39,I 0)] (Jz ?_))))
 have hlm_hs3:c.books.length≤9223372036854775807:=Nat.le_trans (hs3).le (hs3).max
 refine Qc (σ:=Nat) (fun q_=>(q_≤c.books.length)∧(Yz c.heads c.books=Yz (c.heads.drop q_) (c.books.drop q_))) (fun q_=>[(1,Pt b1 0),(37,Sl a3 c.books.length c3),(38,I (c.books.length:Int)),(39,I (q_:Int))]) (fun q_=>G) (fun q_=>[[Sg b1 0 (Kn c a1 c1 (At b2 o1) c2 a3 c3)]]) (fun q_=>c.books.length-q_) 0 ⟨(by (try dsimp only);exact Nat.zero_le _),rfl⟩ (fun q_ hs=>?_)
 revert hs;revert q_;intro i hs
 obtain ⟨hi,hn⟩:=hs
 refine KQ (fr':=[(1,Pt b1 0),(37,Sl a3 c.books.length c3),(38,I (c.books.length:Int)),(39,I (i:Int))]) (L':=[[Sg b1 0 (Kn c a1 c1 (At b2 o1) c2 a3 c3)]]) rfl rfl (Jg [0] [(1,Pt b1 0),(37,Sl a3 c.books.length c3),(38,I (c.books.length:Int)),(39,I (i:Int)),(40,Bo (decide ((i:Int)<(c.books.length:Int))))] (Je (Jo (decide ((i:Int)<(c.books.length:Int))) (fun h4=>?_) (fun h4=>?_))))
 try simp only [BB] at h4
 refine Jm (Ja (Je (Jz (Je (Jb (Jd [0] [(1,Pt b1 0),(37,Sl a3 c.books.length c3),(38,I (c.books.length:Int)),(39,I (i:Int)),(41,I (i:Int))] ?_))))))
 obtain ⟨b3,o2,rfl⟩:=RS.addr hs3 (k:=i) (by omega)
 obtain ⟨x3,hx3⟩:=Wh (l:=c.books) (k:=i) (by omega)
 obtain ⟨_,⟨a4,c4,rfl,hs4⟩,hc3⟩:=RS.get hs3 hx3
 refine Kh (b:=b3) (off:=o2) (len:=c.books.length) (cap:=c3) (ik:=.i64) 42 66 1 i (by omega) (Ka 43 66 (cs:=[Sl a4 x3.length c4]) 0 (Sl a4 x3.length c4) hc3 (Jd [0,0] [(1,Pt b1 0),(4,I (i:Int)),(5,Sl a4 x3.length c4),(37,Sl (At b3 o2) c.books.length c3),(38,I (c.books.length:Int)),(39,I (i:Int))] (Jc (Ja (Je (Jb (Jd [0] [(1,Pt b1 0),(4,I (i:Int)),(37,Sl (At b3 o2) c.books.length c3),(38,I (c.books.length:Int)),(39,I (i:Int)),(45,Sl a4 x3.length c4)] (Ji 46 (.tuple #[U ((JO x3 []).1),I ((JO x3 []).2)]) (Jay G a4 c4 x3 hs4) (Jd [0,0,0,0,0] [(1,Pt b1 0),(4,I (i:Int)),(6,U ((JO x3 []).1)),(7,I ((JO x3 []).2)),(37,Sl (At b3 o2) c.books.length c3),(38,I (c.books.length:Int)),(39,I (i:Int))] (Jc (Ja (Jz (Jg [0,0,0] [(1,Pt b1 0),(4,I (i:Int)),(6,U ((JO x3 []).1)),(7,I ((JO x3 []).2)),(37,Sl (At b3 o2) c.books.length c3),(38,I (c.books.length:Int)),(39,I (i:Int)),(49,Bo (!decide ((JO x3 []).2=0)))] (Jo (!decide ((JO x3 []).2=0)) (fun h5=>?_) (fun h5=>?_)))))))))))))))
 try simp only [BB] at h5
 refine Jg [0,0] [(2,I ((JO x3 []).2))] (Jk (Js (Js (Jh (QC (Js (Jh (Jl [0] [I ((JO x3 []).2)] (Jv (Jt.le_refl _) ?_)))))))))
 have hf_:(Qu c)=((JO x3 []).2):=by
  (rw [JlA hx1 ‹_› ‹_› hx2 (by omega),hn];exact Jih hx3 ‹_›)
 · (try rw [hf_]);(simp only [JL];done)
 try simp only [BB] at h5
 refine Je (Jb (Jd [0,0,2,0] [(1,Pt b1 0),(37,Sl (At b3 o2) c.books.length c3),(38,I (c.books.length:Int)),(39,I (i:Int)),(54,U ((JO x3 []).1)),(56,Sl (At b2 o1) c.heads.length c2),(57,I (i:Int))] ?_))
 obtain ⟨x4,hx4⟩:=Wh (l:=c.heads) (k:=i) (by omega)
 obtain ⟨_,⟨rfl,_,_,_,_⟩,hc4⟩:=RS.get hs2 hx4
 refine Kh (b:=b2) (off:=o1) (len:=c.heads.length) (cap:=c2) (ik:=.i64) 58 50 4 i (by omega) (Jd [0] [(1,Pt b1 0),(37,Sl (At b3 o2) c.books.length c3),(38,I (c.books.length:Int)),(39,I (i:Int)),(54,U ((JO x3 []).1)),(59,Pt b2 (o1+i*4+1))] (Ka 60 48 (cs:=[I x4.epoch,U x4.root,U x4.prev,I x4.at_]) 1 (U x4.root) hc4 (Jd [0,0] [(1,Pt b1 0),(37,Sl (At b3 o2) c.books.length c3),(38,I (c.books.length:Int)),(39,I (i:Int)),(53,Bo (!decide ((JO x3 []).1=x4.root)))] (Jc (Ja (Jo (!decide ((JO x3 []).1=x4.root)) (fun h6=>?_) (fun h6=>?_)))))))
 try simp only [BB] at h6
 refine Jg [0] [(2,I 8)] (Jk (Js (Js (Jh (QC (Js (Jh (Jl [0] [I 8] (Jv (Jt.le_refl _) ?_)))))))))
 have hf_:(Qu c)=8:=by
  (rw [JlA hx1 ‹_› ‹_› hx2 (by omega),hn];exact Jii hx3 hx4 ‹_› ‹_›)
 · (try rw [hf_]);(simp only [JL];done)
 try simp only [BB] at h6
 refine Jm (JM (JM (Ja (Jb (Jd [0,0] [(1,Pt b1 0),(37,Sl (At b3 o2) c.books.length c3),(38,I (c.books.length:Int)),(39,I (IntKind.i64.wrap ((i:Int)+1)))] ?_)))))
 have e2:IntKind.i64.wrap ((i:Int)+1)=(i:Int)+1:=IntWalk.i64_in _ (by omega)
 refine J3 (fr':=[(1,Pt b1 0),(37,Sl (At b3 o2) c.books.length c3),(38,I (c.books.length:Int)),(39,I ((i:Int)+1))]) (L':=[[Sg b1 0 [I c.queue.most,Sl a1 c.queue.wait.length c1,I c.batch,I c.every,I c.now,Sl (At b2 o1) c.heads.length c2,Sl (At b3 o2) c.books.length c3]]]) (by simp only [Kn,KW,e2];first | done | rfl) (by rfl) ?_
 clear e2
 exact Jc (Qg (i+1) ⟨(by omega),(by rw [hn];exact Jhj hx3 hx4 ‹_› ‹_›)⟩ (by (try dsimp only);omega))
 try simp only [BB] at h4
 refine K0 (J2 (Kf (JU (Ja (Jg [0] [(2,I 0)] (Jk (Jl [0] [I 0] (Jv (Jt.le_refl _) ?_))))))))
 have hf_:(Qu c)=0:=by
  (rw [JlA hx1 ‹_› ‹_› hx2 (by omega),hn];(have e_:c.books.drop i=[]:=List.drop_eq_nil_of_le (by omega);rw [e_];simp [Yz]))
 · (try rw [hf_]);(simp only [JL];done)
theorem YP (G:Jt) (vs_c:List Value) (c:Kw) (h_c:VE.R G vs_c c) :QF Tryz.prog 11 #[.agg vs_c.toArray] G [] (fun u G' L'=>u=I (J8 c)):=by
 obtain ⟨a1,c1,a2,c2,a3,c3,rfl,w1,hs1,w2,w3,w4,hs2,hs3⟩:=h_c
 refine JJ Tryz.func11 50 [(0,(KW c a1 c1 a2 c2 a3 c3))] rfl (fun w0 G0=>?_)
 refine Je (Jb (Ju 1 #[I c.queue.most,Sl a1 c.queue.wait.length c1,I c.batch,I c.every,I c.now,Sl a2 c.heads.length c2,Sl a3 c.books.length c3] 34 (fun b1=>Jd [0] [(1,Pt b1 0)] (Jc (Ja (Je (Je (Jb (Jd [0,2] [(1,Pt b1 0),(8,.agg #[I c.queue.most,Sl a1 c.queue.wait.length c1])] (Ji 9 (I (J7 c.queue)) (VF G [I c.queue.most,Sl a1 c.queue.wait.length c1] c.queue (⟨a1,c1,rfl,w1,hs1⟩)) (Jd [0] [(1,Pt b1 0),(3,I (J7 c.queue))] (Jc (Ja (Jg [0,0] [(1,Pt b1 0),(3,I (J7 c.queue)),(11,Bo (!decide (J7 c.queue=0)))] (Jo (!decide (J7 c.queue=0)) (fun h1=>?_) (fun h1=>?_))))))))))))))))
 try simp only [BB] at h1
 refine Jg [0,0] [(2,I (J7 c.queue))] (Jk (Jh (Jl [0] [I (J7 c.queue)] (Jv (Jt.le_refl _) ?_))))
 have hf_:(J8 c)=(J7 c.queue):=by
  unfold J8;(rw [if_pos ‹_›];done)
 · (try rw [hf_]);(simp only [JL];done)
 try simp only [BB] at h1
 refine Jm (Ja (Je (Je (Jb (Jd [0,2] [(1,Pt b1 0),(14,I c.batch)] (Ji 15 (Bo (ZI c.batch 30)) (Jah G c.batch 30) (Jd [0,0] [(1,Pt b1 0),(17,Bo (!(ZI c.batch 30)))] (Wd (fun bb=>[(1,Pt b1 0),(17,Bo bb)]) (!(ZI c.batch 30)) (fun h2=>?_) (fun h2=>?_)))))))))
 try simp only [BB] at h2
 refine Jd [1,1,1,1,0,0,1,1,1,0,0,1,1,1,0] [(1,Pt b1 0),(32,Bo true)] (Jc (Ja (JZ (Jg [0] [(2,I 4)] (Jk (Jh (Jl [0] [I 4] (Jv (Jt.le_refl _) ?_))))))))
 have hf_:(J8 c)=4:=by
  unfold J8;(rw [if_neg (by simp_all)];(rw [if_pos (by (simp_all;done))];done))
 · (try rw [hf_]);(simp only [JL];done)
 try simp only [BB] at h2
 refine Jd [0,2] [(1,Pt b1 0),(17,Bo false),(19,I c.every)] (Ji 20 (Bo (ZI c.every 1000)) (Jah G c.every 1000) (Jd [0,0,0] [(1,Pt b1 0),(23,Bo (!(ZI c.every 1000)))] (KD (!(ZI c.every 1000)) (fun bb=>[(1,Pt b1 0),(23,Bo bb)]) [1,1,1,0] [0,2,0,0] (fun bb=>[(1,Pt b1 0),(27,Bo (bb || (decide (c.now<0))))]) (Jd [0] [(1,Pt b1 0),(28,Bo ((!(ZI c.every 1000)) || (decide (c.now<0))))] (KD ((!(ZI c.every 1000)) || (decide (c.now<0))) (fun bb=>[(1,Pt b1 0),(28,Bo bb)]) [1,1,1,0] [0,2,0,0] (fun bb=>[(1,Pt b1 0),(32,Bo (bb || (decide (c.now > 1000000000))))]) (Jc (Ja (Jo (((!(ZI c.every 1000)) || (decide (c.now<0))) || (decide (c.now > 1000000000))) (fun h3=>?_) (fun h3=>?_)))))))))
 try simp only [BB] at h3
 refine Jg [0] [(2,I 4)] (Jk (Jh (Jl [0] [I 4] (Jv (Jt.le_refl _) ?_))))
 have hf_:(J8 c)=4:=by
  unfold J8;(rw [if_neg (by simp_all)];(rw [if_pos (by (simp_all;grind))];done))
 · (try rw [hf_]);(simp only [JL];done)
 try simp only [BB] at h3
 refine Jm (Ja (Je (Je (Jb (Jd [0,2] [(1,Pt b1 0),(35,Sl a2 c.heads.length c2)] (Ji 36 (.tuple #[I ((Kc c.heads).1),I ((Kc c.heads).2)]) (VL G a2 c2 c.heads hs2) (Jd [0,0,0,0,0] [(1,Pt b1 0),(4,I ((Kc c.heads).1))] (Jc (Ja (Jg [0,0] [(1,Pt b1 0),(4,I ((Kc c.heads).1)),(40,Bo (!decide ((Kc c.heads).1=0)))] (Jo (!decide ((Kc c.heads).1=0)) (fun h4=>?_) (fun h4=>?_))))))))))))
 try simp only [BB] at h4
 refine Jg [0,0] [(2,I ((Kc c.heads).1))] (Jk (Jh (Jl [0] [I ((Kc c.heads).1)] (Jv (Jt.le_refl _) ?_))))
 have hf_:(J8 c)=((Kc c.heads).1):=by
  unfold J8;(rw [if_neg (by simp_all)];(rw [if_neg (by simp_all)];(rw [if_pos (by (simp_all;done))];done)))
 · (try rw [hf_]);(simp only [JL];done)
 try simp only [BB] at h4
 refine Jm (Ja (Je (Je (Jb (Jd [2] [(1,Pt b1 0),(42,(KW c a1 c1 a2 c2 a3 c3))] (Ji 43 (I (Qu c)) (Jee G (Kn c a1 c1 a2 c2 a3 c3) c (⟨a1,c1,a2,c2,a3,c3,rfl,w1,hs1,w2,w3,w4,hs2,hs3⟩) (by (have q_:=KY.1 ‹_›;have q1_:=q_.len1;have q2_:=q_.len;omega)) (by (have q_:=KY.1 ‹_›;have q1_:=q_.len1;have q2_:=q_.len;omega))) (Jd [0] [(1,Pt b1 0),(6,I (Qu c))] (Jc (Ja (Jg [0,0] [(1,Pt b1 0),(6,I (Qu c)),(45,Bo (!decide (Qu c=0)))] (Jo (!decide (Qu c=0)) (fun h5=>?_) (fun h5=>?_))))))))))))
 try simp only [BB] at h5
 refine Jg [0,0] [(2,I (Qu c))] (Jk (Jh (Jl [0] [I (Qu c)] (Jv (Jt.le_refl _) ?_))))
 have hf_:(J8 c)=(Qu c):=by
  unfold J8;(rw [if_neg (by simp_all)];(rw [if_neg (by simp_all)];(rw [if_neg (by simp_all)];(rw [if_pos (by (simp_all;done))];done))))
 · (try rw [hf_]);(simp only [JL];done)
 try simp only [BB] at h5
 refine Jm (Ja (Je (Je (Jb (Jd [2] [(47,(KW c a1 c1 a2 c2 a3 c3))] (Ji 48 (I (WI c ([]))) (Ja3 G (Kn c a1 c1 a2 c2 a3 c3) c (⟨a1,c1,a2,c2,a3,c3,rfl,w1,hs1,w2,w3,w4,hs2,hs3⟩) none 0 ([]) (RS.nil' ES G) (by (obtain ⟨q1_,q2_,q3_,q4_⟩:=JdD (c:=c) ‹_› ‹_› ‹_›;assumption)) (by (obtain ⟨q1_,q2_,q3_,q4_⟩:=JdD (c:=c) ‹_› ‹_› ‹_›;assumption)) (by (obtain ⟨q1_,q2_,q3_,q4_⟩:=JdD (c:=c) ‹_› ‹_› ‹_›;assumption)) (by (obtain ⟨q1_,q2_,q3_,q4_⟩:=JdD (c:=c) ‹_› ‹_› ‹_›;assumption)) (by (simp;done))) (Jd [0] [(49,Bo (decide (WI c ([]) > 24)))] (Jc (Ja (Jo (decide (WI c ([]) > 24)) (fun h6=>?_) (fun h6=>?_)))))))))))
 try simp only [BB] at h6
 refine Jg [0] [(2,I 7)] (Jk (Jh (Jl [0] [I 7] (Jv (Jt.le_refl _) ?_))))
 have hf_:(J8 c)=7:=by
  unfold J8;(rw [if_neg (by simp_all)];(rw [if_neg (by simp_all)];(rw [if_neg (by simp_all)];(rw [if_neg (by simp_all)];(rw [if_pos (by (simp_all;done))];done)))))
 · (try rw [hf_]);(simp only [JL];done)
 try simp only [BB] at h6
 refine Jm (Ja (Jg [0] [(2,I 0)] (Jk (Jl [0] [I 0] (Jv (Jt.le_refl _) ?_)))))
 have hf_:(J8 c)=0:=by
  unfold J8;(rw [if_neg (by simp_all)];(rw [if_neg (by simp_all)];(rw [if_neg (by simp_all)];(rw [if_neg (by simp_all)];(rw [if_neg (by simp_all)];done)))))
 · (try rw [hf_]);(simp only [JL];done)
theorem JeL (G:Jt) (vs_c:List Value) (c:Kw) (h_c:VE.R G vs_c c) (epoch:Int) (hw_epoch:rI epoch) :QF Tryz.prog 30 #[.agg vs_c.toArray,I epoch] G [] (fun u G' L'=>∃ (a1:Option Addr) (c2:Nat) (r3:List Ks),u=.tuple #[Sl a1 (((Kb c epoch).1).length) c2,I ((Kb c epoch).2)]∧(J9 Qo G' a1 c2 ((Kb c epoch).1) r3)∧L'=[r3]):=by
 obtain ⟨a1,c1,a2,c2,a3,c3,rfl,w1,hs1,w2,w3,w4,hs2,hs3⟩:=h_c
 refine JJ Tryz.func30 27 [(0,(KW c a1 c1 a2 c2 a3 c3)),(1,I epoch)] rfl (fun w0 G0=>?_)
 refine Je (Jb (Ju 2 #[I c.queue.most,Sl a1 c.queue.wait.length c1,I c.batch,I c.every,I c.now,Sl a2 c.heads.length c2,Sl a3 c.books.length c3] 34 (fun b1=>Jd [0,0] [(1,I epoch),(2,Pt b1 0)] (Jc (Ja (Je (Je (Jb (Jd [2] [(1,I epoch),(2,Pt b1 0),(7,(KW c a1 c1 a2 c2 a3 c3))] (Ji 8 (I (J8 c)) (YP G (Kn c a1 c1 a2 c2 a3 c3) c (⟨a1,c1,a2,c2,a3,c3,rfl,w1,hs1,w2,w3,w4,hs2,hs3⟩)) (Jd [0] [(1,I epoch),(2,Pt b1 0),(6,I (J8 c))] (Jc (Ja (Jg [0,0] [(1,I epoch),(2,Pt b1 0),(6,I (J8 c)),(10,Bo (!decide (J8 c=0)))] (Jo (!decide (J8 c=0)) (fun h1=>?_) (fun h1=>?_))))))))))))))))
 try simp only [BB] at h1
 refine Jg [0,0,0] [(4,Sl none 0 0),(5,I (J8 c))] (Jk (Jh (Zb (Jj 0 ?_))))
 have hf1:Kb c epoch=([],J8 c):=by
  unfold Kb;simp_all
 refine Jl [0,0] [Sl none 0 0,I (J8 c)] (JY [[]] (.cons_cons _ (.cons _ .slnil)) (Jt.le_refl _) ?_)
 rw [hf1]
 try dsimp only
 exact ⟨none,0,([]),rfl,(J9.none Qo _),rfl⟩
 try simp only [BB] at h1
 refine Jm (Ja (Je (Je (Jb (Jd [0,0,0] [(1,I epoch),(2,Pt b1 0),(14,Bo (decide (epoch<0)))] (KD (decide (epoch<0)) (fun bb=>[(1,I epoch),(2,Pt b1 0),(14,Bo bb)]) [1,1,1,1,1,0] [0,0,2,0,0,0] (fun bb=>[(1,I epoch),(2,Pt b1 0),(20,Bo (bb || (decide (epoch ≥ (c.books.length:Int)))))]) (Jc (Ja (Jo ((decide (epoch<0)) || (decide (epoch ≥ (c.books.length:Int)))) (fun h2=>?_) (fun h2=>?_))))))))))
 try simp only [BB] at h2
 refine Jg [0,0] [(4,Sl none 0 0),(5,I 4)] (Jk (Jh (Zb (Jj 0 ?_))))
 have hf2:Kb c epoch=([],4):=by
  unfold Kb;simp_all
 refine Jl [0,0] [Sl none 0 0,I 4] (JY [[]] (.cons_cons _ (.cons _ .slnil)) (Jt.le_refl _) ?_)
 rw [hf2]
 try dsimp only
 exact ⟨none,0,([]),rfl,(J9.none Qo _),rfl⟩
 try simp only [BB] at h2
 refine Jm (Ja (Je (Jb (Jd [0,2,0] [(22,Sl a3 c.books.length c3),(23,I epoch)] ?_))))
 obtain ⟨kn1,hkn1⟩:∃ k_:Nat,epoch=(k_:Int):=⟨(epoch).toNat,by omega⟩
 have e1:epoch=(kn1:Int):=hkn1
 refine Jd [] [(22,Sl a3 c.books.length c3),(23,I epoch)] (J3 (fr':=[(22,Sl a3 c.books.length c3),(23,I (kn1:Int))]) (L':=[[Sg b1 0 [I c.queue.most,Sl a1 c.queue.wait.length c1,I c.batch,I c.every,I c.now,Sl a2 c.heads.length c2,Sl a3 c.books.length c3]]]) (by (simp only [Kn,KW,e1];first | done | rfl)) (by rfl) ?_)
 obtain ⟨b2,o1,rfl⟩:=RS.addr hs3 (k:=kn1) (by omega)
 obtain ⟨x1,hx1⟩:=Wh (l:=c.books) (k:=kn1) (by omega)
 obtain ⟨_,⟨a4,c4,rfl,hs4⟩,hc1⟩:=RS.get hs3 hx1
 refine Kh (b:=b2) (off:=o1) (len:=c.books.length) (cap:=c3) (ik:=.i64) 24 66 1 kn1 (by omega) (Ka 25 66 (cs:=[Sl a4 x1.length c4]) 0 (Sl a4 x1.length c4) hc1 (JQ 26 (Z3 G a4 c4 x1 hs4) (fun v G1 L1 hl1 hp=>?_)))
 obtain ⟨a5,c5,r1,rfl,hr1,rfl⟩:=hp
 refine Jd [0,0] [(4,Sl a5 x1.length c5),(5,I 0)] (Jc (Ja (Jk (Jj 0 ?_))))
 have hf3:Kb c epoch=(x1,0):=by
  unfold Kb;simp_all
 refine Jl [0,0] [Sl a5 x1.length c5,I 0] (JY [r1] (.cons_cons _ (.cons _ .slnil)) hl1 ?_)
 rw [hf3]
 try dsimp only
 exact ⟨a5,c5,r1,rfl,hr1,rfl⟩
end Go.Proofs.YtnnlpbjdignhaaaGreatDoor
