import Derived.Test.YtnnlpbjdignhaaaGreatDoorTcTownO
import Derived.Test.YtnnlpbjdignhaaaGreatDoorTcRepP
namespace Go.Proofs.YtnnlpbjdignhaaaGreatDoor
open Go.Tx
set_option linter.unusedVariables false
set_option linter.unusedSimpArgs false
open Go.Tx Go.Proofs
def Jjj (s:KI):JR:=QW (JN s.most s.batch s.every).1.heads
def Ja9 (s:KI) (i:Nat):JC:=⟨⟨(JN s.most s.batch s.every).1,(Zs s (Jjj s)).take i,[],⟨0,[]⟩⟩,s.reach,[],[]⟩
theorem JeV {s:KI} {h:JR} {i:Nat} {n:List UInt8} {k:Int} (hn:s.names[i]? = some n) (hk:s.keys[i]? = some k):(Zs s h).take i++[(JF n k h).1]=(Zs s h).take (i+1):=by
 have:(Zs s h)[i]? = some (JF n k h).1:=by
  have hz:(s.names.zip s.keys)[i]? = some (n,k):=List.getElem?_zip_eq_some.2 ⟨hn,hk⟩
  unfold Zs
  rw [List.getElem?_map,hz];rfl
 rw [List.take_add_one,this];rfl
theorem Jdi {s:KI} {bt:JC} {i:Nat} {n:List UInt8} {k:Int} {x:JR} (hB:bt=Ja9 s i) (hn:s.names[i]? = some n) (hk:s.keys[i]? = some k) (hx:(JN s.most s.batch s.every).1.heads[0]? = some x) :
  (⟨⟨bt.town.clerk,bt.town.owners++[(JF n k x).1],bt.town.polls,bt.town.net⟩,bt.reach,bt.fates,bt.events⟩:JC)=Ja9 s (i+1):=by
 subst hB
 have e:=Wz hx
 subst e
 unfold Ja9
 simp only
 congr 2
 exact JeV hn hk
theorem Jhy {s:KI} {i:Nat} {n:List UInt8} (hN:nmE (s.names.take i) (s.names.drop i)=nmE [] s.names) (hn:s.names[i]? = some n) (h1:Kt n=true) (h2:((s.names.take i).any fun x=>decide (n=x))=false):nmE (s.names.take (i+1)) (s.names.drop (i+1))=nmE [] s.names:=by
 have hl:=(List.getElem?_eq_some_iff.1 hn)
 rw [← hN,List.drop_eq_getElem_cons hl.1,hl.2]
 show _=if _ then _ else _
 rw [if_neg (by rw [h1,h2];simp),List.take_add_one,hn];rfl
theorem Jjk {s:KI} {i:Nat} {n:List UInt8} (hN:nmE (s.names.take i) (s.names.drop i)=nmE [] s.names) (hn:s.names[i]? = some n) (h:Kt n=false∨((s.names.take i).any fun x=>decide (n=x))=true):nmE [] s.names=3:=by
 have hl:=(List.getElem?_eq_some_iff.1 hn)
 rw [← hN,List.drop_eq_getElem_cons hl.1,hl.2]
 show (if _ then _ else _)=_
 rw [if_pos h]
theorem Jgl {s:KI} (h:¬ (JN s.most s.batch s.every).2=0):Ql s=(JN s.most s.batch s.every).2∧¬ (JN s.most s.batch s.every).2=0:=⟨by unfold Ql;rw [if_pos h],h⟩
theorem Jhz {s:KI} (h:(JN s.most s.batch s.every).2=0) (h1:s.names.length > 4):Ql s=2∧¬ (2:Int)=0:=⟨by unfold Ql;rw [if_neg (by omega),if_pos h1],by decide⟩
theorem JhA {s:KI} (h:(JN s.most s.batch s.every).2=0) (h1:¬ s.names.length > 4) (h2:¬ s.keys.length=s.names.length):Ql s=3∧¬ (3:Int)=0:=⟨by unfold Ql;rw [if_neg (by omega),if_neg h1,if_pos h2],by decide⟩
theorem Jdj {s:KI} (h:(JN s.most s.batch s.every).2=0) (h1:¬ s.names.length > 4) (h2:s.keys.length=s.names.length) (h3:nmE [] s.names=3):Ql s=3∧¬ (3:Int)=0:=⟨by unfold Ql;rw [if_neg (by omega),if_neg h1,if_neg (by omega),if_pos (by omega),h3],by decide⟩
theorem Jeo {s:KI} {i:Nat} (hN:nmE (s.names.take i) (s.names.drop i)=nmE [] s.names) (hi:s.names.length≤i):nmE [] s.names=0:=by rw [← hN,List.drop_of_length_le hi];unfold nmE;rfl
theorem JhB {s:KI} (h:(JN s.most s.batch s.every).2=0) (h1:¬ s.names.length > 4) (h2:s.keys.length=s.names.length) (h3:nmE [] s.names=0) (h4:¬ (KL s.least s.top s.lost).2=0):Ql s=(KL s.least s.top s.lost).2∧¬ (KL s.least s.top s.lost).2=0:=⟨by unfold Ql;rw [if_neg (by omega),if_neg h1,if_neg (by omega),if_neg (by omega),if_pos h4],h4⟩
theorem Jgm {s:KI} (h:(JN s.most s.batch s.every).2=0) (h1:¬ s.names.length > 4) (h2:s.keys.length=s.names.length) (h3:nmE [] s.names=0) (h4:(KL s.least s.top s.lost).2=0) (h5:s.reach<1∨s.reach > 40):Ql s=4∧¬ (4:Int)=0:=⟨by unfold Ql;rw [if_neg (by omega),if_neg h1,if_neg (by omega),if_neg (by omega),if_neg (by omega),if_pos h5],by decide⟩
theorem Jkp {s:KI} (h:(JN s.most s.batch s.every).2=0) (h1:¬ s.names.length > 4) (h2:s.keys.length=s.names.length) (h3:nmE [] s.names=0) (h4:(KL s.least s.top s.lost).2=0) (h5:¬ (s.reach<1∨s.reach > 40)):Ql s=0:=by unfold Ql;rw [if_neg (by omega),if_neg h1,if_neg (by omega),if_neg (by omega),if_neg (by omega),if_neg h5]
theorem Jkq {s:KI} {bt:JC} {i:Nat} (hB:bt=Ja9 s i) (hi:s.names.length≤i):Qq s=(⟨⟨bt.town.clerk,bt.town.owners,List.replicate bt.town.owners.length (KL s.least s.top s.lost).1,bt.town.net⟩,bt.reach,bt.fates,bt.events⟩:JC):=by
 subst hB
 have hl:(Zs s (Jjj s)).length≤i:=by unfold Zs;rw [List.length_map,List.length_zip];omega
 unfold Ja9 Qq Jjj
 unfold Jjj at hl
 simp only
 rw [List.take_of_length_le hl]
theorem Jgn {s:KI} (h:(JN s.most s.batch s.every).2=0):(JN s.most s.batch s.every).1.heads.length=1:=(VP h).2.2.2.2
theorem VQ {s:KI} {bt:JC} {i:Nat} (hB:bt=Ja9 s i):bt.town.owners.length≤s.names.length:=by
 subst hB
 unfold Ja9 Zs
 simp only [List.length_take,List.length_map,List.length_zip];omega
theorem Jfs (a b c:Int):Jfr (KL a b c).1:=by
 by_cases h:(KL a b c).2=0
 ·
  obtain ⟨q1,q2⟩:=Jei h
  rw [q2];exact .ok q1
 ·
  rw [Jhn h];exact Jgj
set_option maxRecDepth 20000 in
set_option maxHeartbeats 1600000 in
theorem Jkr (G:Jt) (vs_s:List Value) (s:KI) (h_s:JdS.R G vs_s s):QF Tryz.prog 32 #[.agg vs_s.toArray] G [] (fun u G' L'=>(¬ Ql s=0∧u=.tuple #[.pointer none,I (Ql s)]∧L'=[])∨(Ql s=0∧∃ (b:Nat) (a_1:Option Addr) (c_1:Nat) (a_5:Option Addr) (c_5:Nat) (a_6:Option Addr) (c_6:Nat) (a_7:Option Addr) (c_7:Nat) (a_8:Option Addr) (c_8:Nat) (a_10:Option Addr) (c_10:Nat) (a_12:Option Addr) (c_12:Nat) (a_13:Option Addr) (c_13:Nat) (r_7:List Ks) (r_8:List Ks) (r_12:List Ks) (r_13:List Ks),u=.tuple #[Pt b 0,I 0]∧(rI ((Qq s).town.clerk.queue.most))∧(RS QV G' a_1 c_1 ((Qq s).town.clerk.queue.wait))∧(rI ((Qq s).town.clerk.batch))∧(rI ((Qq s).town.clerk.every))∧(rI ((Qq s).town.clerk.now))∧(RS KE G' a_5 c_5 ((Qq s).town.clerk.heads))∧(RS Qm G' a_6 c_6 ((Qq s).town.clerk.books))∧(J9 QO G' a_7 c_7 ((Qq s).town.owners) r_7)∧(J9 Ws G' a_8 c_8 ((Qq s).town.polls) r_8)∧(rI ((Qq s).town.net.now))∧(RS Ki G' a_10 c_10 ((Qq s).town.net.way))∧(rI ((Qq s).reach))∧(J9 YT G' a_12 c_12 ((Qq s).fates) r_12)∧(J9 Q1 G' a_13 c_13 ((Qq s).events) r_13)∧L'=[[Sg b 0 [I ((Qq s).town.clerk.queue.most),Sl a_1 (((Qq s).town.clerk.queue.wait).length) c_1,I ((Qq s).town.clerk.batch),I ((Qq s).town.clerk.every),I ((Qq s).town.clerk.now),Sl a_5 (((Qq s).town.clerk.heads).length) c_5,Sl a_6 (((Qq s).town.clerk.books).length) c_6,Sl a_7 (((Qq s).town.owners).length) c_7,Sl a_8 (((Qq s).town.polls).length) c_8,I ((Qq s).town.net.now),Sl a_10 (((Qq s).town.net.way).length) c_10,I ((Qq s).reach),Sl a_12 (((Qq s).fates).length) c_12,Sl a_13 (((Qq s).events).length) c_13]],r_7,r_8,r_12,r_13])):=by
 obtain ⟨a1,c1,a2,c2,rfl,hs1,hs2,w1,w2,w3,w4,w5,w6,w7⟩:=h_s
 refine JJ Tryz.func32 130 [(0,(V3 s a1 c1 a2 c2))] rfl (fun w0 G0=>?_)
 refine Je (Jb (Ju 1 #[Sl a1 s.names.length c1,Sl a2 s.keys.length c2,I s.most,I s.batch,I s.every,I s.least,I s.top,I s.lost,I s.reach] 25 (fun b1=>Jd [0,0] [(1,Pt b1 0)] (Jc (Ja (Je (Jb (Jd [0,2,0,2,0,2] [(1,Pt b1 0),(14,I s.most),(16,I s.batch),(18,I s.every)] (JQ 19 (Jgb G s.most w1 s.batch w2 s.every w3) (fun v G1 L1 hl1 hp=>?_))))))))))
 obtain ⟨a3,c3,a4,c4,a5,c5,rfl,w8,hs3,w9,w10,w11,hs4,hs5,rfl⟩:=hp
 refine Jd [0,0,0] [(1,Pt b1 0),(20,(KW (JN s.most s.batch s.every).1 a3 c3 a4 c4 a5 c5)),(21,I ((JN s.most s.batch s.every).2))] (Ju 4 #[I 0,Sl none 0 0,I 0,I 0,I 0,Sl none 0 0,Sl none 0 0] 34 (fun b2=>Kd [3,0] [(1,Pt b1 0),(4,Pt b2 0),(5,I ((JN s.most s.batch s.every).2))] [[Sg b2 0 (Kn (JN s.most s.batch s.every).1 a3 c3 a4 c4 a5 c5)],[Sg b1 0 (W4 s a1 c1 a2 c2)]] (Jc (Ja (Je (Jg [0,0] [(1,Pt b1 0),(4,Pt b2 0),(5,I ((JN s.most s.batch s.every).2)),(23,Bo (!decide ((JN s.most s.batch s.every).2=0)))] (Jo (!decide ((JN s.most s.batch s.every).2=0)) (fun h1=>?_) (fun h1=>?_))))))))
 try simp only [BB] at h1
 refine Jg [0,0,0] [(2,.pointer none),(3,I ((JN s.most s.batch s.every).2))] (Jk (Jh ?_))
 have hf1:Ql s=(JN s.most s.batch s.every).2∧¬ ((JN s.most s.batch s.every).2)=0:=by
  exact Jgl ‹_›
 refine Jl [0,0] [.pointer none,I ((JN s.most s.batch s.every).2)] (JY [] (.cons _ (.cons _ .slnil)) hl1 ?_)
 rw [← hf1.1];exact .inl ⟨by rw [hf1.1];exact hf1.2,rfl,rfl⟩
 try simp only [BB] at h1
 refine Jm (Ja (Je (Jz (Jg [0,4,0,0,0] [(1,Pt b1 0),(4,Pt b2 0),(25,Bo (decide ((s.names.length:Int) > 4)))] (Jo (decide ((s.names.length:Int) > 4)) (fun h2=>?_) (fun h2=>?_))))))
 try simp only [BB] at h2
 refine Jg [0,0] [(2,.pointer none),(3,I 2)] (Jk (Js (Jh ?_)))
 have hf2:Ql s=2∧¬ (2:Int)=0:=by
  exact Jhz ‹_› (by omega)
 refine Jl [0,0] [.pointer none,I 2] (JY [] (.cons _ (.cons _ .slnil)) hl1 ?_)
 rw [← hf2.1];exact .inl ⟨by rw [hf2.1];exact hf2.2,rfl,rfl⟩
 try simp only [BB] at h2
 refine Jg [0,4,0,0,4,0,0,0] [(1,Pt b1 0),(4,Pt b2 0),(30,Bo (!decide ((s.keys.length:Int)=(s.names.length:Int))))] (Jo (!decide ((s.keys.length:Int)=(s.names.length:Int))) (fun h3=>?_) (fun h3=>?_))
 try simp only [BB] at h3
 refine Jg [0,0] [(2,.pointer none),(3,I 3)] (Jk (Js (Jh ?_)))
 have hf3:Ql s=3∧¬ (3:Int)=0:=by
  exact JhA ‹_› (by omega) (by omega)
 refine Jl [0,0] [.pointer none,I 3] (JY [] (.cons _ (.cons _ .slnil)) hl1 ?_)
 rw [← hf3.1];exact .inl ⟨by rw [hf3.1];exact hf3.2,rfl,rfl⟩
 try simp only [BB] at h3
 refine Jm (JM (Ja (Je (Jb (Jd [0,4,0] [(1,Pt b1 0),(4,Pt b2 0),(40,.agg #[I 0,Sl none 0 0,I 0,I 0,I 0,Sl none 0 0,Sl none 0 0,Sl none 0 0,Sl none 0 0,I 0,Sl none 0 0,I s.reach,Sl none 0 0,Sl none 0 0])] (Ju 41 #[I 0,Sl none 0 0,I 0,I 0,I 0,Sl none 0 0,Sl none 0 0,Sl none 0 0,Sl none 0 0,I 0,Sl none 0 0,I s.reach,Sl none 0 0,Sl none 0 0] 102 (fun b3=>Jd [0] [(1,Pt b1 0),(4,Pt b2 0),(6,Pt b3 0)] (Jc (Ja (WM [0,4,0,0,0,3] [(1,Pt b1 0),(4,Pt b2 0),(6,Pt b3 0)] [[Sg b3 0 [I (((JN s.most s.batch s.every).1).queue.most),Sl a3 ((((JN s.most s.batch s.every).1).queue.wait).length) c3,I (((JN s.most s.batch s.every).1).batch),I (((JN s.most s.batch s.every).1).every),I (((JN s.most s.batch s.every).1).now),Sl a4 ((((JN s.most s.batch s.every).1).heads).length) c4,Sl a5 ((((JN s.most s.batch s.every).1).books).length) c5,Sl none 0 0,Sl none 0 0,I 0,Sl none 0 0,I s.reach,Sl none 0 0,Sl none 0 0]],[Sg b2 0 (Kn (JN s.most s.batch s.every).1 a3 c3 a4 c4 a5 c5)],[Sg b1 0 (W4 s a1 c1 a2 c2)]] (Je (Jg [0,6,0,0] [(1,Pt b1 0),(4,Pt b2 0),(6,Pt b3 0),(48,Sl a1 s.names.length c1),(49,I (s.names.length:Int)),(50,I 0)] (Jz (Yq (Yq (Yq (Yq ?_)))))))))))))))))
 have hlm_hs1:s.names.length≤9223372036854775807:=Nat.le_trans (hs1).le (hs1).max
 refine Qc (σ:=Nat×JC×Option Addr×Nat×Option Addr×Nat×Option Addr×Nat×Option Addr×Nat×List Ks×Option Addr×Nat×List Ks×Option Addr×Nat×Option Addr×Nat×List Ks×Option Addr×Nat×List Ks×Jt) (fun q_=>(Jt.le G1 q_.2.2.2.2.2.2.2.2.2.2.2.2.2.2.2.2.2.2.2.2.2.2)∧(q_.1≤s.names.length)∧(RS QV q_.2.2.2.2.2.2.2.2.2.2.2.2.2.2.2.2.2.2.2.2.2.2 q_.2.2.1 q_.2.2.2.1 q_.2.1.town.clerk.queue.wait)∧(RS KE q_.2.2.2.2.2.2.2.2.2.2.2.2.2.2.2.2.2.2.2.2.2.2 q_.2.2.2.2.1 q_.2.2.2.2.2.1 q_.2.1.town.clerk.heads)∧(RS Qm q_.2.2.2.2.2.2.2.2.2.2.2.2.2.2.2.2.2.2.2.2.2.2 q_.2.2.2.2.2.2.1 q_.2.2.2.2.2.2.2.1 q_.2.1.town.clerk.books)∧(J9 QO q_.2.2.2.2.2.2.2.2.2.2.2.2.2.2.2.2.2.2.2.2.2.2 q_.2.2.2.2.2.2.2.2.1 q_.2.2.2.2.2.2.2.2.2.1 q_.2.1.town.owners q_.2.2.2.2.2.2.2.2.2.2.1)∧(J9 Ws q_.2.2.2.2.2.2.2.2.2.2.2.2.2.2.2.2.2.2.2.2.2.2 q_.2.2.2.2.2.2.2.2.2.2.2.1 q_.2.2.2.2.2.2.2.2.2.2.2.2.1 q_.2.1.town.polls q_.2.2.2.2.2.2.2.2.2.2.2.2.2.1)∧(RS Ki q_.2.2.2.2.2.2.2.2.2.2.2.2.2.2.2.2.2.2.2.2.2.2 q_.2.2.2.2.2.2.2.2.2.2.2.2.2.2.1 q_.2.2.2.2.2.2.2.2.2.2.2.2.2.2.2.1 q_.2.1.town.net.way)∧(J9 YT q_.2.2.2.2.2.2.2.2.2.2.2.2.2.2.2.2.2.2.2.2.2.2 q_.2.2.2.2.2.2.2.2.2.2.2.2.2.2.2.2.1 q_.2.2.2.2.2.2.2.2.2.2.2.2.2.2.2.2.2.1 q_.2.1.fates q_.2.2.2.2.2.2.2.2.2.2.2.2.2.2.2.2.2.2.1)∧(J9 Q1 q_.2.2.2.2.2.2.2.2.2.2.2.2.2.2.2.2.2.2.2.2.2.2 q_.2.2.2.2.2.2.2.2.2.2.2.2.2.2.2.2.2.2.2.1 q_.2.2.2.2.2.2.2.2.2.2.2.2.2.2.2.2.2.2.2.2.1 q_.2.1.events q_.2.2.2.2.2.2.2.2.2.2.2.2.2.2.2.2.2.2.2.2.2.1)∧(rI q_.2.1.town.clerk.queue.most)∧(rI q_.2.1.town.clerk.batch)∧(rI q_.2.1.town.clerk.every)∧(rI q_.2.1.town.clerk.now)∧(rI q_.2.1.town.net.now)∧(rI q_.2.1.reach)∧(q_.2.1=Ja9 s q_.1)∧(nmE (s.names.take q_.1) (s.names.drop q_.1)=nmE [] s.names)) (fun q_=>[(1,Pt b1 0),(4,Pt b2 0),(6,Pt b3 0),(48,Sl a1 s.names.length c1),(49,I (s.names.length:Int)),(50,I (q_.1:Int))]) (fun q_=>q_.2.2.2.2.2.2.2.2.2.2.2.2.2.2.2.2.2.2.2.2.2.2) (fun q_=>[q_.2.2.2.2.2.2.2.2.2.2.2.2.2.2.2.2.2.2.2.2.2.1,q_.2.2.2.2.2.2.2.2.2.2.2.2.2.2.2.2.2.2.1,q_.2.2.2.2.2.2.2.2.2.2.2.2.2.1,q_.2.2.2.2.2.2.2.2.2.2.1,[Sg b3 0 (JT q_.2.1 q_.2.2.1 q_.2.2.2.1 q_.2.2.2.2.1 q_.2.2.2.2.2.1 q_.2.2.2.2.2.2.1 q_.2.2.2.2.2.2.2.1 q_.2.2.2.2.2.2.2.2.1 q_.2.2.2.2.2.2.2.2.2.1 q_.2.2.2.2.2.2.2.2.2.2.2.1 q_.2.2.2.2.2.2.2.2.2.2.2.2.1 q_.2.2.2.2.2.2.2.2.2.2.2.2.2.2.1 q_.2.2.2.2.2.2.2.2.2.2.2.2.2.2.2.1 q_.2.2.2.2.2.2.2.2.2.2.2.2.2.2.2.2.1 q_.2.2.2.2.2.2.2.2.2.2.2.2.2.2.2.2.2.1 q_.2.2.2.2.2.2.2.2.2.2.2.2.2.2.2.2.2.2.2.1 q_.2.2.2.2.2.2.2.2.2.2.2.2.2.2.2.2.2.2.2.2.1)],[Sg b2 0 (Kn (JN s.most s.batch s.every).1 a3 c3 a4 c4 a5 c5)],[Sg b1 0 (W4 s a1 c1 a2 c2)]]) (fun q_=>s.names.length-q_.1) (0,(⟨(⟨((JN s.most s.batch s.every).1),([]:List KP),([]:List QT),(⟨0,[]⟩:Yh)⟩:QU),s.reach,([]:List (List Int)),([]:List Ym)⟩:JC),a3,c3,a4,c4,a5,c5,none,0,[],none,0,[],none,0,none,0,[],none,0,[],G1) ⟨(Jt.le_refl _),(by (try dsimp only);exact Nat.zero_le _),hs3,hs4,hs5,(J9.none QO _),(J9.none Ws _),(RS.nil' Ki G1),(J9.none YT _),(J9.none Q1 _),w8,w9,w10,w11,(by (try dsimp only);omega),w7,(by (try dsimp only);rfl),rfl⟩ (fun q_ hs=>?_)
 obtain ⟨i,bt,abt0,cbt0,abt1,cbt1,abt2,cbt2,abt3,cbt3,rbt7,abt4,cbt4,rbt8,abt5,cbt5,abt6,cbt6,rbt12,abt7,cbt7,rbt13,g⟩:=q_
 obtain ⟨hle,hi,hbt1,hbt5,hbt6,hbt7,hbt8,hbt10,hbt12,hbt13,hbt0,hbt2,hbt3,hbt4,hbt9,hbt11,hB,hN⟩:=hs
 dsimp only at hle hi hbt1 hbt5 hbt6 hbt7 hbt8 hbt10 hbt12 hbt13 hbt0 hbt2 hbt3 hbt4 hbt9 hbt11 hB hN
 refine KQ (fr':=[(1,Pt b1 0),(4,Pt b2 0),(6,Pt b3 0),(48,Sl a1 s.names.length c1),(49,I (s.names.length:Int)),(50,I (i:Int))]) (L':=[rbt13,rbt12,rbt8,rbt7,[Sg b3 0 (JT bt abt0 cbt0 abt1 cbt1 abt2 cbt2 abt3 cbt3 abt4 cbt4 abt5 cbt5 abt6 cbt6 abt7 cbt7)],[Sg b2 0 (Kn (JN s.most s.batch s.every).1 a3 c3 a4 c4 a5 c5)],[Sg b1 0 (W4 s a1 c1 a2 c2)]]) rfl rfl (Jg [0] [(1,Pt b1 0),(4,Pt b2 0),(6,Pt b3 0),(48,Sl a1 s.names.length c1),(49,I (s.names.length:Int)),(50,I (i:Int)),(51,Bo (decide ((i:Int)<(s.names.length:Int))))] (Je (Jo (decide ((i:Int)<(s.names.length:Int))) (fun h4=>?_) (fun h4=>?_))))
 try simp only [BB] at h4
 refine Jm (Ja (Je (Jz (Je (Jb (Jd [0] [(1,Pt b1 0),(4,Pt b2 0),(6,Pt b3 0),(48,Sl a1 s.names.length c1),(49,I (s.names.length:Int)),(50,I (i:Int)),(52,I (i:Int))] ?_))))))
 obtain ⟨b4,o1,rfl⟩:=RS.addr (hs1.mono (Jt.le_trans hl1 hle)) (k:=i) (by omega)
 obtain ⟨x1,hx1⟩:=Wh (l:=s.names) (k:=i) (by omega)
 obtain ⟨_,⟨rfl,w12⟩,hc1⟩:=RS.get (hs1.mono (Jt.le_trans hl1 hle)) hx1
 refine Kh (b:=b4) (off:=o1) (len:=s.names.length) (cap:=c1) (ik:=.i64) 53 9 1 i (by omega) (Ka 54 9 (cs:=[Sr x1]) 0 (Sr x1) hc1 (Jd [0,0] [(1,Pt b1 0),(4,Pt b2 0),(6,Pt b3 0),(7,I (i:Int)),(8,Sr x1),(48,Sl (At b4 o1) s.names.length c1),(49,I (s.names.length:Int)),(50,I (i:Int))] (Jc (Ja (Je (Je (Jb (Jd [0] [(1,Pt b1 0),(4,Pt b2 0),(6,Pt b3 0),(7,I (i:Int)),(8,Sr x1),(48,Sl (At b4 o1) s.names.length c1),(49,I (s.names.length:Int)),(50,I (i:Int)),(55,Sr x1)] (Ji 56 (Bo (Kt x1)) (Zk g x1) (Jd [0,0] [(1,Pt b1 0),(4,Pt b2 0),(6,Pt b3 0),(7,I (i:Int)),(8,Sr x1),(48,Sl (At b4 o1) s.names.length c1),(49,I (s.names.length:Int)),(50,I (i:Int)),(58,Bo (!(Kt x1)))] (Wd (fun bb=>[(1,Pt b1 0),(4,Pt b2 0),(6,Pt b3 0),(7,I (i:Int)),(8,Sr x1),(48,Sl (At b4 o1) s.names.length c1),(49,I (s.names.length:Int)),(50,I (i:Int)),(58,Bo bb)]) (!(Kt x1)) (fun h5=>?_) (fun h5=>?_))))))))))))
 try simp only [BB] at h5
 refine Jd [1,1,1,1,1,1,0] [(1,Pt b1 0),(4,Pt b2 0),(6,Pt b3 0),(7,I (i:Int)),(8,Sr x1),(48,Sl (At b4 o1) s.names.length c1),(49,I (s.names.length:Int)),(50,I (i:Int)),(65,Bo true)] (Jc (Ja (JZ (Jg [0,0] [(2,.pointer none),(3,I 3)] (Jk (Jh (Js (Jh (QC (Js (Jh ?_)))))))))))
 have hf4:Ql s=3∧¬ (3:Int)=0:=by
  exact Jdj ‹_› (by omega) (by omega) (Jjk hN ‹_› (.inl ‹_›))
 refine Jl [0,0] [.pointer none,I 3] (JY [] (.cons _ (.cons _ (.cons _ (.cons _ (.cons _ (.cons _ (.cons _ .slnil))))))) (Jt.le_trans hl1 hle) ?_)
 rw [← hf4.1];exact .inl ⟨by rw [hf4.1];exact hf4.2,rfl,rfl⟩
 try simp only [BB] at h5
 refine Jd [0,14,0] [(1,Pt b1 0),(4,Pt b2 0),(6,Pt b3 0),(7,I (i:Int)),(8,Sr x1),(48,Sl (At b4 o1) s.names.length c1),(49,I (s.names.length:Int)),(50,I (i:Int)),(58,Bo false),(60,Sl (At b4 o1) s.names.length c1),(61,I (i:Int))] ?_
 obtain ⟨a6,c6,ea1,ec1,en1,eh1,hs6⟩:=RS.reslXT (hs1.mono (Jt.le_trans hl1 hle)) i (by omega)
 refine W3 (a:=At b4 o1) (len:=s.names.length) (cap:=c1) 62 1 none (some (I (i:Int))) 0 i (.inl ⟨rfl,rfl⟩) (.inr ⟨_,rfl⟩) (by exact Nat.zero_le _) ea1 ec1 en1 eh1 (Jd [0] [(1,Pt b1 0),(4,Pt b2 0),(6,Pt b3 0),(7,I (i:Int)),(8,Sr x1),(48,Sl (At b4 o1) s.names.length c1),(49,I (s.names.length:Int)),(50,I (i:Int)),(58,Bo false),(62,Sl a6 ((s.names.take i).length) c6),(63,Sr x1)] (Ji 64 (Bo ((s.names.take i).any (fun x=>decide (x1=x)))) (Jmq g a6 c6 (s.names.take i) hs6 x1) (Jd [0] [(1,Pt b1 0),(4,Pt b2 0),(6,Pt b3 0),(7,I (i:Int)),(8,Sr x1),(48,Sl (At b4 o1) s.names.length c1),(49,I (s.names.length:Int)),(50,I (i:Int)),(65,Bo ((s.names.take i).any (fun x=>decide (x1=x))))] (Jc (Ja (Jo ((s.names.take i).any (fun x=>decide (x1=x))) (fun h6=>?_) (fun h6=>?_)))))))
 try simp only [BB] at h6
 refine Jg [0,0] [(2,.pointer none),(3,I 3)] (Jk (Jh (Js (Jh (QC (Js (Jh ?_)))))))
 have hf5:Ql s=3∧¬ (3:Int)=0:=by
  exact Jdj ‹_› (by omega) (by omega) (Jjk hN ‹_› (.inr ‹_›))
 refine Jl [0,0] [.pointer none,I 3] (JY [] (.cons _ (.cons _ (.cons _ (.cons _ (.cons _ (.cons _ (.cons _ .slnil))))))) (Jt.le_trans hl1 hle) ?_)
 rw [← hf5.1];exact .inl ⟨by rw [hf5.1];exact hf5.2,rfl,rfl⟩
 try simp only [BB] at h6
 refine Jm (Ja (Je ?_))
 obtain ⟨b5,o2,rfl⟩:=RS.addr (hs2.mono (Jt.le_trans hl1 hle)) (k:=i) (by omega)
 obtain ⟨x2,hx2⟩:=Wh (l:=s.keys) (k:=i) (by omega)
 obtain ⟨_,⟨rfl,w13⟩,hc2⟩:=RS.get (hs2.mono (Jt.le_trans hl1 hle)) hx2
 obtain ⟨b6,o3,rfl⟩:=RS.addr (hs4.mono hle) (k:=0) (by (have q_:=Jgn ‹_›;omega))
 obtain ⟨x3,hx3⟩:=Wh (l:=((JN s.most s.batch s.every).1).heads) (k:=0) (by (have q_:=Jgn ‹_›;omega))
 obtain ⟨_,⟨rfl,w14,w15,w16,w17⟩,hc3⟩:=RS.get (hs4.mono hle) hx3
 refine KB [10,14,15] (Wr [(0,Sr x1),(1,Pt b1 1),(2,Sl (At b5 o2) s.keys.length c2),(3,I (i:Int)),(4,Pt b5 (o2+i*1)),(5,U x2),(6,Pt b2 5),(7,Sl (At b6 o3) ((((JN s.most s.batch s.every).1).heads).length) c4),(8,Pt b6 (o3+0*4)),(9,.agg #[I x3.epoch,U x3.root,U x3.prev,I x3.at_])] (J1 [] [(0,0),(1,0),(2,14),(3,0),(6,0),(7,12)] [4,5,8,9] [10,14] (List.forall_mem_cons.2 ⟨?_,(List.forall_mem_cons.2 ⟨?_,(List.forall_mem_cons.2 ⟨?_,(List.forall_mem_cons.2 ⟨?_,List.forall_mem_nil _⟩)⟩)⟩)⟩) (List.forall_mem_cons.2 ⟨?_,(List.forall_mem_cons.2 ⟨?_,List.forall_mem_nil _⟩)⟩)))
 refine Jr 4 71 (Pt b5 (o2+i*1)) [(69,Sl (At b5 o2) s.keys.length c2),(70,I (i:Int))] (fun X=>?_)
 exact Kh (b:=b5) (off:=o2) (len:=s.keys.length) (cap:=c2) (ik:=.i64) 71 48 1 i (by omega) Jp
 refine Jr 5 72 (U x2) [(71,Pt b5 (o2+i*1))] (fun X=>?_)
 exact Ka 72 48 (cs:=[U x2]) 0 (U x2) hc2 Jp
 refine Jr 8 75 (Pt b6 (o3+0*4)) [(74,Sl (At b6 o3) ((((JN s.most s.batch s.every).1).heads).length) c4)] (fun X=>?_)
 exact Kh (b:=b6) (off:=o3) (len:=(((JN s.most s.batch s.every).1).heads).length) (cap:=c4) (ik:=.i64) 75 50 4 0 (by (have q_:=Jgn ‹_›;omega)) Jp
 refine Jr 9 76 (.agg #[I x3.epoch,U x3.root,U x3.prev,I x3.at_]) [(75,Pt b6 (o3+0*4))] (fun X=>?_)
 exact Ka 76 50 (cs:=[I x3.epoch,U x3.root,U x3.prev,I x3.at_]) 0 (.agg #[I x3.epoch,U x3.root,U x3.prev,I x3.at_]) hc3 Jp
 refine JS 10 [(67,Sr x1),(72,U x2),(76,.agg #[I x3.epoch,U x3.root,U x3.prev,I x3.at_])] (fun X=>?_)
 refine JQ 77 (Jb4 g x1 w12 x2 w13 [I x3.epoch,U x3.root,U x3.prev,I x3.at_] x3 (⟨rfl,w14,w15,w16,w17⟩)) (fun v G2 L1 hl2 hp=>?_)
 obtain ⟨a7,c7,rfl,w18,w19,w20,w21,w22,w23,hs7,w24,rfl⟩:=hp
 refine JW [(10,.tuple #[(Ko (JF x1 x2 x3).1 a7 c7),I ((JF x1 x2 x3).2)]),(11,.tuple #[(Ko (JF x1 x2 x3).1 a7 c7),I ((JF x1 x2 x3).2)]),(12,(Ko (JF x1 x2 x3).1 a7 c7)),(13,I ((JF x1 x2 x3).2))] (J1 [0,1,2,3,4,5,6,7,8,9] [(11,0),(12,0),(13,0)] [] [14] (List.forall_mem_nil _) (List.forall_mem_cons.2 ⟨?_,List.forall_mem_nil _⟩))
 refine JS 14 [] (fun X=>?_)
 refine Ju 9 #[Sr ([]),U 0,I 0,U 0,U 0,I 0,Sl none 0 0,I 0] 52 (fun b7=>JW [(14,Pt b7 0)] (J1 [0,1,2,3,4,5,6,7,8,9] [(11,0),(12,0),(13,0)] [] [15] (List.forall_mem_nil _) (List.forall_mem_cons.2 ⟨?_,List.forall_mem_nil _⟩)))
 refine JS 15 [(9,Pt b7 0),(78,(Ko (JF x1 x2 x3).1 a7 c7))] (fun X=>?_)
 refine K2 0 [[Sg b7 0 (Kv (JF x1 x2 x3).1 a7 c7)],rbt13,rbt12,rbt8,rbt7,[Sg b3 0 (JT bt abt0 cbt0 abt1 cbt1 abt2 cbt2 abt3 cbt3 abt4 cbt4 abt5 cbt5 abt6 cbt6 abt7 cbt7)],[Sg b2 0 (Kn (JN s.most s.batch s.every).1 a3 c3 (At b6 o3) c4 a5 c5)],[Sg b1 0 (W4 s (At b4 o1) c1 (At b5 o2) c2)]] (Kp [(16,I ((JF x1 x2 x3).2))] (KA [0,1,2,3,4,5,6,7,8,9,11,12] [(13,0),(16,0)] [] [(1,Pt b1 0),(4,Pt b2 0),(6,Pt b3 0),(9,Pt b7 0),(48,Sl (At b4 o1) s.names.length c1),(49,I (s.names.length:Int)),(50,I (i:Int))] (List.forall_mem_nil _) (Ja (KB [7,8,12] (Wr [(0,Pt b3 0),(1,Pt b3 0),(2,Pt b3 0),(3,Pt b3 0),(4,Pt b3 7),(5,Sl abt3 bt.town.owners.length cbt3),(6,(Ko (JF x1 x2 x3).1 a7 c7))] (J1 [] [(0,0),(1,0),(2,0),(3,0),(4,0),(5,12),(6,2)] [] [7] (List.forall_mem_nil _) (List.forall_mem_cons.2 ⟨?_,List.forall_mem_nil _⟩)))))))
 refine JS 7 [(86,(Ko (JF x1 x2 x3).1 a7 c7))] (fun X=>?_)
 refine KH 87 1 #[Sr (((JF x1 x2 x3).1).name),U (((JF x1 x2 x3).1).key),I (((JF x1 x2 x3).1).head.epoch),U (((JF x1 x2 x3).1).head.root),U (((JF x1 x2 x3).1).head.prev),I (((JF x1 x2 x3).1).head.at_),Sl a7 ((((JF x1 x2 x3).1).wanted).length) c7,I (((JF x1 x2 x3).1).had)] 52 (fun b8=>JW [(7,Sl (At b8 0) 1 1)] (J1 [6] [(0,0),(1,0),(2,0),(3,0),(4,0),(5,14)] [] [8] (List.forall_mem_nil _) (List.forall_mem_cons.2 ⟨?_,List.forall_mem_nil _⟩)))
 refine JS 8 [(85,Sl abt3 bt.town.owners.length cbt3),(87,Sl (At b8 0) 1 1)] (fun X=>?_)
 refine QJ (b:=b8) (cs:=(Kv (JF x1 x2 x3).1 a7 c7)) 88 52 5 0 (E:=QO) ((JF x1 x2 x3).1) (hbt7.mono hl2) ⟨a7,c7,rfl,w18,w19,w20,w21,w22,w23,hs7,w24⟩ (by (try simp only [QO,List.length_append,List.length_cons,List.length_nil]);(have q_:=VQ hB);omega) (by (try simp only [QO,List.length_append,List.length_cons,List.length_nil]);(have q_:=VQ hB);omega) (fun a8 c8 r1 hr1=>JW [(8,Sl a8 ((bt.town.owners++[((JF x1 x2 x3).1)]).length) c8),(9,Pt b3 0),(10,Pt b3 0),(11,Pt b3 7)] (J1 [1,2,3,4,5,6] [(0,0),(9,0),(10,0),(11,0)] [] [12] (List.forall_mem_nil _) (List.forall_mem_cons.2 ⟨?_,List.forall_mem_nil _⟩)))
 refine JS 12 [(88,Sl a8 ((bt.town.owners++[((JF x1 x2 x3).1)]).length) c8),(91,Pt b3 7)] (fun X=>?_)
 refine K2 6 [[Sg b8 0 (Kv (JF x1 x2 x3).1 a7 c7)],[Sg b7 0 (Kv (JF x1 x2 x3).1 a7 c7)],rbt13,rbt12,rbt8,r1,[Sg b3 0 (JT (⟨(⟨bt.town.clerk,(bt.town.owners++[((JF x1 x2 x3).1)]),bt.town.polls,bt.town.net⟩:QU),bt.reach,bt.fates,bt.events⟩:JC) abt0 cbt0 abt1 cbt1 abt2 cbt2 a8 c8 abt4 cbt4 abt5 cbt5 abt6 cbt6 abt7 cbt7)],[Sg b2 0 (Kn (JN s.most s.batch s.every).1 a3 c3 (At b6 o3) c4 a5 c5)],[Sg b1 0 (W4 s (At b4 o1) c1 (At b5 o2) c2)]] (Kp [] (KA [0,1,2,3,4,5,6,9,10,11] [] [] [(1,Pt b1 0),(4,Pt b2 0),(6,Pt b3 0),(48,Sl (At b4 o1) s.names.length c1),(49,I (s.names.length:Int)),(50,I (i:Int))] (List.forall_mem_nil _) (JM (Ja (Jb (Jd [0,0] [(1,Pt b1 0),(4,Pt b2 0),(6,Pt b3 0),(48,Sl (At b4 o1) s.names.length c1),(49,I (s.names.length:Int)),(50,I (IntKind.i64.wrap ((i:Int)+1)))] ?_))))))
 have e1:IntKind.i64.wrap ((i:Int)+1)=(i:Int)+1:=IntWalk.i64_in _ (by omega)
 refine J3 (fr':=[(1,Pt b1 0),(4,Pt b2 0),(6,Pt b3 0),(48,Sl (At b4 o1) s.names.length c1),(49,I (s.names.length:Int)),(50,I ((i:Int)+1))]) (L':=[[Sg b8 0 [Sr (((JF x1 x2 x3).1).name),U (((JF x1 x2 x3).1).key),I (((JF x1 x2 x3).1).head.epoch),U (((JF x1 x2 x3).1).head.root),U (((JF x1 x2 x3).1).head.prev),I (((JF x1 x2 x3).1).head.at_),Sl a7 ((((JF x1 x2 x3).1).wanted).length) c7,I (((JF x1 x2 x3).1).had)]],[Sg b7 0 [Sr (((JF x1 x2 x3).1).name),U (((JF x1 x2 x3).1).key),I (((JF x1 x2 x3).1).head.epoch),U (((JF x1 x2 x3).1).head.root),U (((JF x1 x2 x3).1).head.prev),I (((JF x1 x2 x3).1).head.at_),Sl a7 ((((JF x1 x2 x3).1).wanted).length) c7,I (((JF x1 x2 x3).1).had)]],rbt13,rbt12,rbt8,r1,[Sg b3 0 [I bt.town.clerk.queue.most,Sl abt0 bt.town.clerk.queue.wait.length cbt0,I bt.town.clerk.batch,I bt.town.clerk.every,I bt.town.clerk.now,Sl abt1 bt.town.clerk.heads.length cbt1,Sl abt2 bt.town.clerk.books.length cbt2,Sl a8 ((bt.town.owners++[((JF x1 x2 x3).1)]).length) c8,Sl abt4 bt.town.polls.length cbt4,I bt.town.net.now,Sl abt5 bt.town.net.way.length cbt5,I bt.reach,Sl abt6 bt.fates.length cbt6,Sl abt7 bt.events.length cbt7]],[Sg b2 0 [I (((JN s.most s.batch s.every).1).queue.most),Sl a3 ((((JN s.most s.batch s.every).1).queue.wait).length) c3,I (((JN s.most s.batch s.every).1).batch),I (((JN s.most s.batch s.every).1).every),I (((JN s.most s.batch s.every).1).now),Sl (At b6 o3) ((((JN s.most s.batch s.every).1).heads).length) c4,Sl a5 ((((JN s.most s.batch s.every).1).books).length) c5]],[Sg b1 0 [Sl (At b4 o1) s.names.length c1,Sl (At b5 o2) s.keys.length c2,I s.most,I s.batch,I s.every,I s.least,I s.top,I s.lost,I s.reach]]]) (by simp only [Kn,Kv,ZE,W4,JT,KW,Ko,WO,V3,e1];first | done | rfl) (by rfl) ?_
 clear e1
 exact Jc (Jj 8 (Jj 8 (Jj 8 (Jj 8 (Jj 8 (Jj 8 (Jj 8 (Q4 [rbt13,rbt12,rbt8,r1,[Sg b3 0 (JT (⟨(⟨bt.town.clerk,(bt.town.owners++[((JF x1 x2 x3).1)]),bt.town.polls,bt.town.net⟩:QU),bt.reach,bt.fates,bt.events⟩:JC) abt0 cbt0 abt1 cbt1 abt2 cbt2 a8 c8 abt4 cbt4 abt5 cbt5 abt6 cbt6 abt7 cbt7)],[Sg b2 0 (Kn (JN s.most s.batch s.every).1 a3 c3 (At b6 o3) c4 a5 c5)],[Sg b1 0 (W4 s (At b4 o1) c1 (At b5 o2) c2)]] (.cons_cons _ (.cons_cons _ (.cons_cons _ (.cons_cons _ (.cons_cons _ (.cons_cons _ (.cons_cons _ (.cons _ (.cons _ .slnil))))))))) (Qg (i+1,(⟨(⟨bt.town.clerk,bt.town.owners++[((JF x1 x2 x3).1)],bt.town.polls,bt.town.net⟩:QU),bt.reach,bt.fates,bt.events⟩:JC),abt0,cbt0,abt1,cbt1,abt2,cbt2,a8,c8,r1,abt4,cbt4,rbt8,abt5,cbt5,abt6,cbt6,rbt12,abt7,cbt7,rbt13,G2) ⟨(Jt.le_trans hle hl2),(by omega),(hbt1.mono hl2),(hbt5.mono hl2),(hbt6.mono hl2),hr1,(hbt8.mono hl2),(hbt10.mono hl2),(hbt12.mono hl2),(hbt13.mono hl2),‹_›,‹_›,‹_›,‹_›,‹_›,‹_›,(by (try dsimp only);exact Jdi hB ‹_› ‹_› ‹_›),(by (try dsimp only);exact Jhy hN ‹_› ‹_› ‹_›)⟩ (by (try dsimp only);omega))))))))))
 refine JS 14 [] (fun X=>?_)
 refine Ju 9 #[Sr ([]),U 0,I 0,U 0,U 0,I 0,Sl none 0 0,I 0] 52 (fun b9=>JW [(14,Pt b9 0)] (J1 [] [(0,0),(1,0),(2,16),(3,0),(6,0),(7,14)] [4,5,8,9] [10] (List.forall_mem_cons.2 ⟨?_,(List.forall_mem_cons.2 ⟨?_,(List.forall_mem_cons.2 ⟨?_,(List.forall_mem_cons.2 ⟨?_,List.forall_mem_nil _⟩)⟩)⟩)⟩) (List.forall_mem_cons.2 ⟨?_,List.forall_mem_nil _⟩)))
 refine Jr 4 71 (Pt b5 (o2+i*1)) [(69,Sl (At b5 o2) s.keys.length c2),(70,I (i:Int))] (fun X=>?_)
 exact Kh (b:=b5) (off:=o2) (len:=s.keys.length) (cap:=c2) (ik:=.i64) 71 48 1 i (by omega) Jp
 refine Jr 5 72 (U x2) [(71,Pt b5 (o2+i*1))] (fun X=>?_)
 exact Ka 72 48 (cs:=[U x2]) 0 (U x2) hc2 Jp
 refine Jr 8 75 (Pt b6 (o3+0*4)) [(74,Sl (At b6 o3) ((((JN s.most s.batch s.every).1).heads).length) c4)] (fun X=>?_)
 exact Kh (b:=b6) (off:=o3) (len:=(((JN s.most s.batch s.every).1).heads).length) (cap:=c4) (ik:=.i64) 75 50 4 0 (by (have q_:=Jgn ‹_›;omega)) Jp
 refine Jr 9 76 (.agg #[I x3.epoch,U x3.root,U x3.prev,I x3.at_]) [(75,Pt b6 (o3+0*4))] (fun X=>?_)
 exact Ka 76 50 (cs:=[I x3.epoch,U x3.root,U x3.prev,I x3.at_]) 0 (.agg #[I x3.epoch,U x3.root,U x3.prev,I x3.at_]) hc3 Jp
 refine JS 10 [(67,Sr x1),(72,U x2),(76,.agg #[I x3.epoch,U x3.root,U x3.prev,I x3.at_])] (fun X=>?_)
 refine JQ 77 (Jb4 g x1 w12 x2 w13 [I x3.epoch,U x3.root,U x3.prev,I x3.at_] x3 (⟨rfl,w14,w15,w16,w17⟩)) (fun v G3 L1 hl3 hp=>?_)
 obtain ⟨a9,c9,rfl,w25,w26,w27,w28,w29,w30,hs8,w31,rfl⟩:=hp
 refine JW [(10,.tuple #[(Ko (JF x1 x2 x3).1 a9 c9),I ((JF x1 x2 x3).2)]),(11,.tuple #[(Ko (JF x1 x2 x3).1 a9 c9),I ((JF x1 x2 x3).2)]),(12,(Ko (JF x1 x2 x3).1 a9 c9)),(13,I ((JF x1 x2 x3).2))] (J1 [0,1,2,3,4,5,6,7,8,9] [(11,0),(12,0),(13,0)] [] [15] (List.forall_mem_nil _) (List.forall_mem_cons.2 ⟨?_,List.forall_mem_nil _⟩))
 refine JS 15 [(9,Pt b9 0),(78,(Ko (JF x1 x2 x3).1 a9 c9))] (fun X=>?_)
 refine K2 0 [[Sg b9 0 (Kv (JF x1 x2 x3).1 a9 c9)],rbt13,rbt12,rbt8,rbt7,[Sg b3 0 (JT bt abt0 cbt0 abt1 cbt1 abt2 cbt2 abt3 cbt3 abt4 cbt4 abt5 cbt5 abt6 cbt6 abt7 cbt7)],[Sg b2 0 (Kn (JN s.most s.batch s.every).1 a3 c3 (At b6 o3) c4 a5 c5)],[Sg b1 0 (W4 s (At b4 o1) c1 (At b5 o2) c2)]] (Kp [(16,I ((JF x1 x2 x3).2))] (KA [0,1,2,3,4,5,6,7,8,9,11,12] [(13,0),(16,0)] [] [(1,Pt b1 0),(4,Pt b2 0),(6,Pt b3 0),(9,Pt b9 0),(48,Sl (At b4 o1) s.names.length c1),(49,I (s.names.length:Int)),(50,I (i:Int))] (List.forall_mem_nil _) (Ja (KB [7,8,12] (Wr [(0,Pt b3 0),(1,Pt b3 0),(2,Pt b3 0),(3,Pt b3 0),(4,Pt b3 7),(5,Sl abt3 bt.town.owners.length cbt3),(6,(Ko (JF x1 x2 x3).1 a9 c9))] (J1 [] [(0,0),(1,0),(2,0),(3,0),(4,0),(5,12),(6,2)] [] [7] (List.forall_mem_nil _) (List.forall_mem_cons.2 ⟨?_,List.forall_mem_nil _⟩)))))))
 refine JS 7 [(86,(Ko (JF x1 x2 x3).1 a9 c9))] (fun X=>?_)
 refine KH 87 1 #[Sr (((JF x1 x2 x3).1).name),U (((JF x1 x2 x3).1).key),I (((JF x1 x2 x3).1).head.epoch),U (((JF x1 x2 x3).1).head.root),U (((JF x1 x2 x3).1).head.prev),I (((JF x1 x2 x3).1).head.at_),Sl a9 ((((JF x1 x2 x3).1).wanted).length) c9,I (((JF x1 x2 x3).1).had)] 52 (fun b10=>JW [(7,Sl (At b10 0) 1 1)] (J1 [6] [(0,0),(1,0),(2,0),(3,0),(4,0),(5,14)] [] [8] (List.forall_mem_nil _) (List.forall_mem_cons.2 ⟨?_,List.forall_mem_nil _⟩)))
 refine JS 8 [(85,Sl abt3 bt.town.owners.length cbt3),(87,Sl (At b10 0) 1 1)] (fun X=>?_)
 refine QJ (b:=b10) (cs:=(Kv (JF x1 x2 x3).1 a9 c9)) 88 52 5 0 (E:=QO) ((JF x1 x2 x3).1) (hbt7.mono hl3) ⟨a9,c9,rfl,w25,w26,w27,w28,w29,w30,hs8,w31⟩ (by (try simp only [QO,List.length_append,List.length_cons,List.length_nil]);(have q_:=VQ hB);omega) (by (try simp only [QO,List.length_append,List.length_cons,List.length_nil]);(have q_:=VQ hB);omega) (fun a10 c10 r2 hr2=>JW [(8,Sl a10 ((bt.town.owners++[((JF x1 x2 x3).1)]).length) c10),(9,Pt b3 0),(10,Pt b3 0),(11,Pt b3 7)] (J1 [1,2,3,4,5,6] [(0,0),(9,0),(10,0),(11,0)] [] [12] (List.forall_mem_nil _) (List.forall_mem_cons.2 ⟨?_,List.forall_mem_nil _⟩)))
 refine JS 12 [(88,Sl a10 ((bt.town.owners++[((JF x1 x2 x3).1)]).length) c10),(91,Pt b3 7)] (fun X=>?_)
 refine K2 6 [[Sg b10 0 (Kv (JF x1 x2 x3).1 a9 c9)],[Sg b9 0 (Kv (JF x1 x2 x3).1 a9 c9)],rbt13,rbt12,rbt8,r2,[Sg b3 0 (JT (⟨(⟨bt.town.clerk,(bt.town.owners++[((JF x1 x2 x3).1)]),bt.town.polls,bt.town.net⟩:QU),bt.reach,bt.fates,bt.events⟩:JC) abt0 cbt0 abt1 cbt1 abt2 cbt2 a10 c10 abt4 cbt4 abt5 cbt5 abt6 cbt6 abt7 cbt7)],[Sg b2 0 (Kn (JN s.most s.batch s.every).1 a3 c3 (At b6 o3) c4 a5 c5)],[Sg b1 0 (W4 s (At b4 o1) c1 (At b5 o2) c2)]] (Kp [] (KA [0,1,2,3,4,5,6,9,10,11] [] [] [(1,Pt b1 0),(4,Pt b2 0),(6,Pt b3 0),(48,Sl (At b4 o1) s.names.length c1),(49,I (s.names.length:Int)),(50,I (i:Int))] (List.forall_mem_nil _) (JM (Ja (Jb (Jd [0,0] [(1,Pt b1 0),(4,Pt b2 0),(6,Pt b3 0),(48,Sl (At b4 o1) s.names.length c1),(49,I (s.names.length:Int)),(50,I (IntKind.i64.wrap ((i:Int)+1)))] ?_))))))
 have e2:IntKind.i64.wrap ((i:Int)+1)=(i:Int)+1:=IntWalk.i64_in _ (by omega)
 refine J3 (fr':=[(1,Pt b1 0),(4,Pt b2 0),(6,Pt b3 0),(48,Sl (At b4 o1) s.names.length c1),(49,I (s.names.length:Int)),(50,I ((i:Int)+1))]) (L':=[[Sg b10 0 [Sr (((JF x1 x2 x3).1).name),U (((JF x1 x2 x3).1).key),I (((JF x1 x2 x3).1).head.epoch),U (((JF x1 x2 x3).1).head.root),U (((JF x1 x2 x3).1).head.prev),I (((JF x1 x2 x3).1).head.at_),Sl a9 ((((JF x1 x2 x3).1).wanted).length) c9,I (((JF x1 x2 x3).1).had)]],[Sg b9 0 [Sr (((JF x1 x2 x3).1).name),U (((JF x1 x2 x3).1).key),I (((JF x1 x2 x3).1).head.epoch),U (((JF x1 x2 x3).1).head.root),U (((JF x1 x2 x3).1).head.prev),I (((JF x1 x2 x3).1).head.at_),Sl a9 ((((JF x1 x2 x3).1).wanted).length) c9,I (((JF x1 x2 x3).1).had)]],rbt13,rbt12,rbt8,r2,[Sg b3 0 [I bt.town.clerk.queue.most,Sl abt0 bt.town.clerk.queue.wait.length cbt0,I bt.town.clerk.batch,I bt.town.clerk.every,I bt.town.clerk.now,Sl abt1 bt.town.clerk.heads.length cbt1,Sl abt2 bt.town.clerk.books.length cbt2,Sl a10 ((bt.town.owners++[((JF x1 x2 x3).1)]).length) c10,Sl abt4 bt.town.polls.length cbt4,I bt.town.net.now,Sl abt5 bt.town.net.way.length cbt5,I bt.reach,Sl abt6 bt.fates.length cbt6,Sl abt7 bt.events.length cbt7]],[Sg b2 0 [I (((JN s.most s.batch s.every).1).queue.most),Sl a3 ((((JN s.most s.batch s.every).1).queue.wait).length) c3,I (((JN s.most s.batch s.every).1).batch),I (((JN s.most s.batch s.every).1).every),I (((JN s.most s.batch s.every).1).now),Sl (At b6 o3) ((((JN s.most s.batch s.every).1).heads).length) c4,Sl a5 ((((JN s.most s.batch s.every).1).books).length) c5]],[Sg b1 0 [Sl (At b4 o1) s.names.length c1,Sl (At b5 o2) s.keys.length c2,I s.most,I s.batch,I s.every,I s.least,I s.top,I s.lost,I s.reach]]]) (by simp only [Kn,Kv,ZE,W4,JT,KW,Ko,WO,V3,e2];first | done | rfl) (by rfl) ?_
 clear e2
 exact Jc (Jj 8 (Jj 8 (Jj 8 (Jj 8 (Jj 8 (Jj 8 (Jj 8 (Q4 [rbt13,rbt12,rbt8,r2,[Sg b3 0 (JT (⟨(⟨bt.town.clerk,(bt.town.owners++[((JF x1 x2 x3).1)]),bt.town.polls,bt.town.net⟩:QU),bt.reach,bt.fates,bt.events⟩:JC) abt0 cbt0 abt1 cbt1 abt2 cbt2 a10 c10 abt4 cbt4 abt5 cbt5 abt6 cbt6 abt7 cbt7)],[Sg b2 0 (Kn (JN s.most s.batch s.every).1 a3 c3 (At b6 o3) c4 a5 c5)],[Sg b1 0 (W4 s (At b4 o1) c1 (At b5 o2) c2)]] (.cons_cons _ (.cons_cons _ (.cons_cons _ (.cons_cons _ (.cons_cons _ (.cons_cons _ (.cons_cons _ (.cons _ (.cons _ .slnil))))))))) (Qg (i+1,(⟨(⟨bt.town.clerk,bt.town.owners++[((JF x1 x2 x3).1)],bt.town.polls,bt.town.net⟩:QU),bt.reach,bt.fates,bt.events⟩:JC),abt0,cbt0,abt1,cbt1,abt2,cbt2,a10,c10,r2,abt4,cbt4,rbt8,abt5,cbt5,abt6,cbt6,rbt12,abt7,cbt7,rbt13,G3) ⟨(Jt.le_trans hle hl3),(by omega),(hbt1.mono hl3),(hbt5.mono hl3),(hbt6.mono hl3),hr2,(hbt8.mono hl3),(hbt10.mono hl3),(hbt12.mono hl3),(hbt13.mono hl3),‹_›,‹_›,‹_›,‹_›,‹_›,‹_›,(by (try dsimp only);exact Jdi hB ‹_› ‹_› ‹_›),(by (try dsimp only);exact Jhy hN ‹_› ‹_› ‹_›)⟩ (by (try dsimp only);omega))))))))))
 try simp only [BB] at h4
 refine K0 (J2 (Kf (JU (Ja (Je (Jb (Jd [0,14,0,14,0,14] [(1,Pt b1 0),(6,Pt b3 0),(95,I s.least),(97,I s.top),(99,I s.lost)] (Ji 100 (.tuple #[(WO (KL s.least s.top s.lost).1),I ((KL s.least s.top s.lost).2)]) (Jhp g s.least w4 s.top w5 s.lost w6) (Jd [0,0,0] [(1,Pt b1 0),(6,Pt b3 0),(101,(WO (KL s.least s.top s.lost).1)),(102,I ((KL s.least s.top s.lost).2))] (Ju 11 #[I 0,I 0,I 0,I 0,I 0,I 0] 56 (fun b11=>Kd [3,0] [(1,Pt b1 0),(5,I ((KL s.least s.top s.lost).2)),(6,Pt b3 0),(11,Pt b11 0)] [[Sg b11 0 (ZE (KL s.least s.top s.lost).1)],rbt13,rbt12,rbt8,rbt7,[Sg b3 0 (JT bt abt0 cbt0 abt1 cbt1 abt2 cbt2 abt3 cbt3 abt4 cbt4 abt5 cbt5 abt6 cbt6 abt7 cbt7)],[Sg b2 0 (Kn (JN s.most s.batch s.every).1 a3 c3 a4 c4 a5 c5)],[Sg b1 0 (W4 s a1 c1 a2 c2)]] (Jc (Ja (Je (Jz (Jg [0,0,0] [(1,Pt b1 0),(5,I ((KL s.least s.top s.lost).2)),(6,Pt b3 0),(11,Pt b11 0),(103,Bo (!decide ((KL s.least s.top s.lost).2=0)))] (Jo (!decide ((KL s.least s.top s.lost).2=0)) (fun h7=>?_) (fun h7=>?_))))))))))))))))))
 try simp only [BB] at h7
 refine Jg [0,0,0] [(2,.pointer none),(3,I ((KL s.least s.top s.lost).2))] (Jk (Js (Jh ?_)))
 have hf6:Ql s=(KL s.least s.top s.lost).2∧¬ ((KL s.least s.top s.lost).2)=0:=by
  exact JhB ‹_› (by omega) (by omega) (Jeo hN (by omega)) ‹_›
 refine Jl [0,0] [.pointer none,I ((KL s.least s.top s.lost).2)] (JY [] (.cons _ (.cons _ (.cons _ (.cons _ (.cons _ (.cons _ (.cons _ (.cons _ .slnil)))))))) (Jt.le_trans hl1 hle) ?_)
 rw [← hf6.1];exact .inl ⟨by rw [hf6.1];exact hf6.2,rfl,rfl⟩
 try simp only [BB] at h7
 refine Je (Jb (Jd [0,16,0,0] [(1,Pt b1 0),(6,Pt b3 0),(11,Pt b11 0),(111,Bo (decide (s.reach<1)))] (KD (decide (s.reach<1)) (fun bb=>[(1,Pt b1 0),(6,Pt b3 0),(11,Pt b11 0),(111,Bo bb)]) [1,1,1,0] [0,16,0,0] (fun bb=>[(6,Pt b3 0),(11,Pt b11 0),(115,Bo (bb || (decide (s.reach > 40))))]) (Jd [0] [(6,Pt b3 0),(11,Pt b11 0),(107,Bo ((decide (s.reach<1)) || (decide (s.reach > 40))))] (Jc (Ja (Jo ((decide (s.reach<1)) || (decide (s.reach > 40))) (fun h8=>?_) (fun h8=>?_))))))))
 try simp only [BB] at h8
 refine Jg [0,0] [(2,.pointer none),(3,I 4)] (Jk (Js (Jh ?_)))
 have hf7:Ql s=4∧¬ (4:Int)=0:=by
  exact Jgm ‹_› (by omega) (by omega) (Jeo hN (by omega)) ‹_› (by omega)
 refine Jl [0,0] [.pointer none,I 4] (JY [] (.cons _ (.cons _ (.cons _ (.cons _ (.cons _ (.cons _ (.cons _ (.cons _ .slnil)))))))) (Jt.le_trans hl1 hle) ?_)
 rw [← hf7.1];exact .inl ⟨by rw [hf7.1];exact hf7.2,rfl,rfl⟩
 try simp only [BB] at h8
 refine Jm (JM (Ja (Je (KB [2,9,13] (Wr [(0,Pt b3 0),(1,(WO (KL s.least s.top s.lost).1)),(3,Pt b3 0),(4,Pt b3 0),(5,Pt b3 0),(6,Pt b3 7),(7,Sl abt3 bt.town.owners.length cbt3),(8,I (bt.town.owners.length:Int))] (J1 [] [(0,0),(1,2),(3,0),(4,0),(5,0),(6,0),(7,12),(8,0)] [] [2] (List.forall_mem_nil _) (List.forall_mem_cons.2 ⟨?_,List.forall_mem_nil _⟩)))))))
 refine JS 2 [(117,(WO (KL s.least s.top s.lost).1))] (fun X=>?_)
 refine KH 118 1 #[I (((KL s.least s.top s.lost).1).least),I (((KL s.least s.top s.lost).1).most),I (((KL s.least s.top s.lost).1).lost),I (((KL s.least s.top s.lost).1).gap),I (((KL s.least s.top s.lost).1).next),I (((KL s.least s.top s.lost).1).asked)] 56 (fun b12=>JW [(2,Sl (At b12 0) 1 1)] (J1 [1] [(0,0),(3,0),(4,0),(5,0),(6,0),(7,14),(8,0)] [] [9] (List.forall_mem_nil _) (List.forall_mem_cons.2 ⟨?_,List.forall_mem_nil _⟩)))
 refine JS 9 [(118,Sl (At b12 0) 1 1),(124,I (bt.town.owners.length:Int))] (fun X=>?_)
 refine QQ (b:=b12) (o:=0) (cs:=(ZE (KL s.least s.top s.lost).1)) 0 (fun G4 hl4 hz1=>?_)
 have hs9:RS Ws G4 (At b12 0) 1 [((KL s.least s.top s.lost).1)]:=RS.lit [(ZE (KL s.least s.top s.lost).1)] [((KL s.least s.top s.lost).1)] ⟨⟨rfl,(Jfs _ _ _).least,(Jfs _ _ _).most,(Jfs _ _ _).lost,(Jfs _ _ _).gap,(Jfs _ _ _).next,(Jfs _ _ _).asked⟩,trivial⟩ hz1 (Nat.le_of_ble_eq_true rfl) (Nat.le_of_ble_eq_true rfl)
 refine JQ 125 (Jhx G4 (At b12 0) 1 ((KL s.least s.top s.lost).1) hs9 bt.town.owners.length (by (have q_:=VQ hB;omega))) (fun v G5 L1 hl5 hp=>?_)
 obtain ⟨a11,c11,r3,rfl,hr3,rfl⟩:=hp
 refine JW [(9,Sl a11 ((List.replicate bt.town.owners.length ((KL s.least s.top s.lost).1)).length) c11),(10,Pt b3 0),(11,Pt b3 0),(12,Pt b3 8)] (J1 [1,3,4,5,6,7,8] [(0,0),(10,0),(11,0),(12,0)] [] [13] (List.forall_mem_nil _) (List.forall_mem_cons.2 ⟨?_,List.forall_mem_nil _⟩))
 refine JS 13 [(125,Sl a11 ((List.replicate bt.town.owners.length ((KL s.least s.top s.lost).1)).length) c11),(128,Pt b3 8)] (fun X=>?_)
 refine K2 7 [r3,[],[Sg b11 0 (ZE (KL s.least s.top s.lost).1)],rbt13,rbt12,rbt8,rbt7,[Sg b3 0 (JT (⟨(⟨bt.town.clerk,bt.town.owners,(List.replicate bt.town.owners.length ((KL s.least s.top s.lost).1)),bt.town.net⟩:QU),bt.reach,bt.fates,bt.events⟩:JC) abt0 cbt0 abt1 cbt1 abt2 cbt2 abt3 cbt3 a11 c11 abt5 cbt5 abt6 cbt6 abt7 cbt7)],[Sg b2 0 (Kn (JN s.most s.batch s.every).1 a3 c3 a4 c4 a5 c5)],[Sg b1 0 (W4 s a1 c1 a2 c2)]] (Kp [] (KA [0,1,3,4,5,6,7,8,10,11,12] [] [] [(6,Pt b3 0)] (List.forall_mem_nil _) (Ja (Jg [0,0,0] [(2,Pt b3 0),(3,I 0)] (Jk (Jj 3 (Jj 4 (Jj 2 (Jj 6 (Jj 7 ?_))))))))))
 have hok:=Jkp ‹_› (by omega) (by omega) (Jeo hN (by omega)) ‹_› (by omega)
 have hbt:=Jkq hB (by omega)
 refine Jl [0,0] [Pt b3 0,I 0] (JY [[Sg b3 0 (JT (⟨(⟨bt.town.clerk,bt.town.owners,(List.replicate bt.town.owners.length ((KL s.least s.top s.lost).1)),bt.town.net⟩:QU),bt.reach,bt.fates,bt.events⟩:JC) abt0 cbt0 abt1 cbt1 abt2 cbt2 abt3 cbt3 a11 c11 abt5 cbt5 abt6 cbt6 abt7 cbt7)],rbt7,r3,rbt12,rbt13] (.cons_cons _ (.cons_cons _ (.cons_cons _ (.cons_cons _ (.cons_cons _ (.cons _ (.cons _ (.cons _ (.cons _ (.cons _ .slnil)))))))))) (Jt.le_trans (Jt.le_trans (Jt.le_trans hl1 hle) hl4) hl5) ?_)
 rw [hbt];refine .inr ⟨hok,?_⟩;try dsimp only
 exact ⟨b3,abt0,cbt0,abt1,cbt1,abt2,cbt2,abt3,cbt3,a11,c11,abt5,cbt5,abt6,cbt6,abt7,cbt7,rbt7,r3,rbt12,rbt13,rfl,hbt0,(hbt1.mono (Jt.le_trans hl4 hl5)),hbt2,hbt3,hbt4,(hbt5.mono (Jt.le_trans hl4 hl5)),(hbt6.mono (Jt.le_trans hl4 hl5)),(hbt7.mono (Jt.le_trans hl4 hl5)),hr3,hbt9,(hbt10.mono (Jt.le_trans hl4 hl5)),hbt11,(hbt12.mono (Jt.le_trans hl4 hl5)),(hbt13.mono (Jt.le_trans hl4 hl5)),rfl⟩
end Go.Proofs.YtnnlpbjdignhaaaGreatDoor
