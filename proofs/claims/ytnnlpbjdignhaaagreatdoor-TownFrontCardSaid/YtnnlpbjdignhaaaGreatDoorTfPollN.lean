import Derived.Test.YtnnlpbjdignhaaaGreatDoorTfTy
namespace Go.Proofs.YtnnlpbjdignhaaaGreatDoor
open Go.Tx
set_option linter.unusedVariables false
set_option linter.unusedSimpArgs false
def Yp (p:QL):Prop:=1≤p.least∧p.least≤p.most∧p.most≤1000∧1≤p.lost∧p.lost≤100∧p.least≤p.gap∧p.gap≤p.most∧0≤p.next∧p.next≤1000000000∧0≤p.asked∧p.asked≤1000000
instance (p:QL):Decidable (Yp p):=inferInstanceAs (Decidable (_∧_))
def Kk (p:QL):Int:=if Yp p then 0 else 4
theorem W0 (p:QL):Kk p=0 ↔ Yp p:=by unfold Kk;split <;> simp_all
theorem JfA (p:QL):Kk p=0∨Kk p=4:=by unfold Kk;split <;> simp
theorem Jac {p:QL} (h:Yp p):Kk p=0:=if_pos h
theorem Ja5 {p:QL} (h:¬ Yp p):Kk p=4:=if_neg h
def Ks (p:QL) (now:Int):Int:=if Kk p=0∧(now<0∨1000000000<now) then 4 else Kk p
theorem Jbn (p:QL) (now:Int):Ks p now=0 ↔ (Yp p∧0≤now∧now≤1000000000):=by
 rw [← W0];unfold Ks;have:=JfA p;split <;> omega
theorem JaC {p:QL} {now:Int} (h:Ks p now=0):1≤p.least∧p.least≤p.most∧p.most≤1000∧1≤p.lost∧p.lost≤100∧p.least≤p.gap∧p.gap≤p.most∧0≤p.next∧p.next≤1000000000∧0≤p.asked∧p.asked≤1000000∧0≤now∧now≤1000000000:=by
 have:=(Jbn p now).1 h;unfold Yp at this;omega
def KT (now n:Int):Int:=if 1000000000<now+n then 1000000000 else now+n
def YH:QL:=⟨0,0,0,0,0,0⟩
def Kp (p:QL) (now:Int):QL×Int :=
 if Ks p now ≠ 0 then (YH,Ks p now) else if now<p.next then (YH,9) else if p.asked=1000000 then (YH,7) else
 (⟨p.least,p.most,p.lost,if p.most<2*p.gap then p.most else 2*p.gap,KT now p.gap,p.asked+1⟩,0)
def KE (least top lost:Int):QL×Int:=if Yp ⟨least,top,lost,least,0,0⟩ then (⟨least,top,lost,least,0,0⟩,0) else (YH,4)
def QK (p:QL) (now:Int):QL×Int :=
 if Ks p now ≠ 0 then (YH,Ks p now) else
 (⟨p.least,p.most,p.lost,p.least,if KT now p.least<p.next then KT now p.least else p.next,0⟩,0)
theorem JcI {p:QL} {now:Int} (h:(Kp p now).2=0) :
  1≤p.least∧p.least≤p.most∧p.most≤1000∧1≤p.lost∧p.lost≤100∧p.least≤p.gap∧p.gap≤p.most∧0≤p.next∧p.next≤1000000000∧0≤p.asked∧p.asked<1000000∧0≤now∧now≤1000000000∧p.next≤now ∧
  Kk (Kp p now).1=0∧(Kp p now).1.least=p.least∧(Kp p now).1.most=p.most∧(Kp p now).1.lost=p.lost∧(Kp p now).1.asked=p.asked+1 ∧
  (p.most<2*p.gap∧(Kp p now).1.gap=p.most∨2*p.gap≤p.most∧(Kp p now).1.gap=2*p.gap) ∧
  (1000000000<now+p.gap∧(Kp p now).1.next=1000000000∨now+p.gap≤1000000000∧(Kp p now).1.next=now+p.gap):=by
 unfold Kp at h ⊢
 split at h
 ·
  contradiction
 split at h
 ·
  cases h
 split at h
 ·
  cases h
 rename_i h1 h2 h3
 have hb:=JaC (p:=p) (now:=now) (by omega)
 rw [if_neg h1,if_neg h2,if_neg h3]
 dsimp only
 refine ⟨by omega,by omega,by omega,by omega,by omega,by omega,by omega,by omega,by omega,by omega,by omega,by omega,by omega,by omega,Jac ?_,rfl,rfl,rfl,rfl,?_,?_⟩
 ·
  unfold Yp KT;simp only;(repeat' split) <;> omega
 ·
  split <;> omega
 ·
  unfold KT;split <;> omega
theorem JfB {p:QL} {now:Int} (h:(Kp p now).2 ≠ 0):(Kp p now).1=YH:=by
 revert h;unfold Kp;(repeat' split) <;> simp
theorem JfC {p:QL} {now:Int} (h:(QK p now).2=0):Ks p now=0∧QK p now=(⟨p.least,p.most,p.lost,p.least,if KT now p.least<p.next then KT now p.least else p.next,0⟩,0):=by
 revert h;unfold QK;split
 ·
  intro h;exact absurd h ‹_›
 ·
  intro _;exact ⟨by omega,rfl⟩
theorem JdO {a b c:Int} (h:(KE a b c).2=0):Yp ⟨a,b,c,a,0,0⟩∧KE a b c=(⟨a,b,c,a,0,0⟩,0):=by
 revert h;unfold KE;split
 ·
  rename_i h1;intro _;exact ⟨h1,rfl⟩
 ·
  simp
theorem JgF {a b c:Int} (h:(KE a b c).2 ≠ 0):(KE a b c).1=YH:=by
 revert h;unfold KE;split <;> simp
def VT (p:QL):Bool:=decide (Kk p=0) && decide (p.asked ≥ p.lost)
def WT (p:QL) (now:Int):Bool×Int:=(decide (Ks p now=0) && decide (now ≥ p.next),Ks p now)
def W1 (p:QL):Bool×Int:=(VT p,Kk p)
theorem VL (G:Jt) (vs_p:List Value) (p:QL) (h_p:Wi.R G vs_p p) :QE Tryz.prog 14 #[.agg vs_p.toArray] G [] (fun u G' L'=>u=I (Kk p)):=by
 obtain ⟨rfl,_,_,_,_,_,_⟩:=h_p
 refine JL Tryz.func14 62 [(0,.agg #[I p.least,I p.most,I p.lost,I p.gap,I p.next,I p.asked])] rfl (fun w0 G0=>?_)
 refine Je (Jb ?_)
 refine Ju 1 #[I p.least,I p.most,I p.lost,I p.gap,I p.next,I p.asked] 56 (fun b1=>?_)
 refine Jc [0] [(1,Pt b1 0)] (Jd (Ja (Je (Je (Jb ?_)))))
 refine Jc [0,2,0,0] [(1,Pt b1 0),(6,Bo (decide (p.least<1)))] ?_
 refine Ky (decide (p.least<1)) (fun bb=>[(1,Pt b1 0),(6,Bo bb)]) [1,1,1,1,1,0] [0,2,0,2,0,0] (fun bb=>[(1,Pt b1 0),(12,Bo (bb || (decide (p.least > p.most))))]) ?_
 refine Jc [0] [(1,Pt b1 0),(13,Bo ((decide (p.least<1)) || (decide (p.least > p.most))))] ?_
 refine Ky ((decide (p.least<1)) || (decide (p.least > p.most))) (fun bb=>[(1,Pt b1 0),(13,Bo bb)]) [1,1,1,0] [0,2,0,0] (fun bb=>[(1,Pt b1 0),(17,Bo (bb || (decide (p.most > 1000))))]) ?_
 refine Jc [0] [(1,Pt b1 0),(18,Bo (((decide (p.least<1)) || (decide (p.least > p.most))) || (decide (p.most > 1000))))] ?_
 refine Ky (((decide (p.least<1)) || (decide (p.least > p.most))) || (decide (p.most > 1000))) (fun bb=>[(1,Pt b1 0),(18,Bo bb)]) [1,1,1,0] [0,2,0,0] (fun bb=>[(1,Pt b1 0),(22,Bo (bb || (decide (p.lost<1))))]) ?_
 refine Jc [0] [(1,Pt b1 0),(23,Bo ((((decide (p.least<1)) || (decide (p.least > p.most))) || (decide (p.most > 1000))) || (decide (p.lost<1))))] ?_
 refine Ky ((((decide (p.least<1)) || (decide (p.least > p.most))) || (decide (p.most > 1000))) || (decide (p.lost<1))) (fun bb=>[(1,Pt b1 0),(23,Bo bb)]) [1,1,1,0] [0,2,0,0] (fun bb=>[(1,Pt b1 0),(27,Bo (bb || (decide (p.lost > 100))))]) ?_
 refine Jc [0] [(1,Pt b1 0),(28,Bo (((((decide (p.least<1)) || (decide (p.least > p.most))) || (decide (p.most > 1000))) || (decide (p.lost<1))) || (decide (p.lost > 100))))] ?_
 refine Ky (((((decide (p.least<1)) || (decide (p.least > p.most))) || (decide (p.most > 1000))) || (decide (p.lost<1))) || (decide (p.lost > 100))) (fun bb=>[(1,Pt b1 0),(28,Bo bb)]) [1,1,1,1,1,0] [0,2,0,2,0,0] (fun bb=>[(1,Pt b1 0),(34,Bo (bb || (decide (p.gap<p.least))))]) ?_
 refine Jc [0] [(1,Pt b1 0),(35,Bo ((((((decide (p.least<1)) || (decide (p.least > p.most))) || (decide (p.most > 1000))) || (decide (p.lost<1))) || (decide (p.lost > 100))) || (decide (p.gap<p.least))))] ?_
 refine Ky ((((((decide (p.least<1)) || (decide (p.least > p.most))) || (decide (p.most > 1000))) || (decide (p.lost<1))) || (decide (p.lost > 100))) || (decide (p.gap<p.least))) (fun bb=>[(1,Pt b1 0),(35,Bo bb)]) [1,1,1,1,1,0] [0,2,0,2,0,0] (fun bb=>[(1,Pt b1 0),(41,Bo (bb || (decide (p.gap > p.most))))]) ?_
 refine Jc [0] [(1,Pt b1 0),(42,Bo (((((((decide (p.least<1)) || (decide (p.least > p.most))) || (decide (p.most > 1000))) || (decide (p.lost<1))) || (decide (p.lost > 100))) || (decide (p.gap<p.least))) || (decide (p.gap > p.most))))] ?_
 refine Ky (((((((decide (p.least<1)) || (decide (p.least > p.most))) || (decide (p.most > 1000))) || (decide (p.lost<1))) || (decide (p.lost > 100))) || (decide (p.gap<p.least))) || (decide (p.gap > p.most))) (fun bb=>[(1,Pt b1 0),(42,Bo bb)]) [1,1,1,0] [0,2,0,0] (fun bb=>[(1,Pt b1 0),(46,Bo (bb || (decide (p.next<0))))]) ?_
 refine Jc [0] [(1,Pt b1 0),(47,Bo ((((((((decide (p.least<1)) || (decide (p.least > p.most))) || (decide (p.most > 1000))) || (decide (p.lost<1))) || (decide (p.lost > 100))) || (decide (p.gap<p.least))) || (decide (p.gap > p.most))) || (decide (p.next<0))))] ?_
 refine Ky ((((((((decide (p.least<1)) || (decide (p.least > p.most))) || (decide (p.most > 1000))) || (decide (p.lost<1))) || (decide (p.lost > 100))) || (decide (p.gap<p.least))) || (decide (p.gap > p.most))) || (decide (p.next<0))) (fun bb=>[(1,Pt b1 0),(47,Bo bb)]) [1,1,1,0] [0,2,0,0] (fun bb=>[(1,Pt b1 0),(51,Bo (bb || (decide (p.next > 1000000000))))]) ?_
 refine Jc [0] [(1,Pt b1 0),(52,Bo (((((((((decide (p.least<1)) || (decide (p.least > p.most))) || (decide (p.most > 1000))) || (decide (p.lost<1))) || (decide (p.lost > 100))) || (decide (p.gap<p.least))) || (decide (p.gap > p.most))) || (decide (p.next<0))) || (decide (p.next > 1000000000))))] ?_
 refine Ky (((((((((decide (p.least<1)) || (decide (p.least > p.most))) || (decide (p.most > 1000))) || (decide (p.lost<1))) || (decide (p.lost > 100))) || (decide (p.gap<p.least))) || (decide (p.gap > p.most))) || (decide (p.next<0))) || (decide (p.next > 1000000000))) (fun bb=>[(1,Pt b1 0),(52,Bo bb)]) [1,1,1,0] [0,2,0,0] (fun bb=>[(1,Pt b1 0),(56,Bo (bb || (decide (p.asked<0))))]) ?_
 refine Jc [0] [(1,Pt b1 0),(57,Bo ((((((((((decide (p.least<1)) || (decide (p.least > p.most))) || (decide (p.most > 1000))) || (decide (p.lost<1))) || (decide (p.lost > 100))) || (decide (p.gap<p.least))) || (decide (p.gap > p.most))) || (decide (p.next<0))) || (decide (p.next > 1000000000))) || (decide (p.asked<0))))] ?_
 refine Ky ((((((((((decide (p.least<1)) || (decide (p.least > p.most))) || (decide (p.most > 1000))) || (decide (p.lost<1))) || (decide (p.lost > 100))) || (decide (p.gap<p.least))) || (decide (p.gap > p.most))) || (decide (p.next<0))) || (decide (p.next > 1000000000))) || (decide (p.asked<0))) (fun bb=>[(1,Pt b1 0),(57,Bo bb)]) [1,1,1,0] [0,2,0,0] (fun bb=>[(61,Bo (bb || (decide (p.asked > 1000000))))]) ?_
 refine Jd (Ja ?_)
 refine Jo (((((((((((decide (p.least<1)) || (decide (p.least > p.most))) || (decide (p.most > 1000))) || (decide (p.lost<1))) || (decide (p.lost > 100))) || (decide (p.gap<p.least))) || (decide (p.gap > p.most))) || (decide (p.next<0))) || (decide (p.next > 1000000000))) || (decide (p.asked<0))) || (decide (p.asked > 1000000))) (fun h1=>?_) (fun h1=>?_)
 try simp only [BB] at h1
 refine Jg [0] [(2,I 4)] (Jk (Jh ?_))
 refine Jl [0] [I 4] (Jv (Jt.le_refl _) ?_)
 have hf_:(Kk p)=4:=by
  exact Ja5 (by unfold Yp;omega)
 · (try rw [hf_]);(simp only [JM];done)
 try simp only [BB] at h1
 refine Jm (Ja ?_)
 refine Jg [0] [(2,I 0)] (Jk ?_)
 refine Jl [0] [I 0] (Jv (Jt.le_refl _) ?_)
 have hf_:(Kk p)=0:=by
  exact Jac (by unfold Yp;omega)
 · (try rw [hf_]);(simp only [JM];done)
theorem Jai (G:Jt) (vs_p:List Value) (p:QL) (h_p:Wi.R G vs_p p) (now:Int) :QE Tryz.prog 181 #[.agg vs_p.toArray,I now] G [] (fun u G' L'=>u=I (Ks p now)):=by
 obtain ⟨rfl,w1,w2,w3,w4,w5,w6⟩:=h_p
 refine JL Tryz.func181 19 [(0,.agg #[I p.least,I p.most,I p.lost,I p.gap,I p.next,I p.asked]),(1,I now)] rfl (fun w0 G0=>?_)
 refine Je (Jb ?_)
 refine Ju 2 #[I p.least,I p.most,I p.lost,I p.gap,I p.next,I p.asked] 56 (fun b1=>?_)
 refine Jc [0] [(1,I now),(2,Pt b1 0)] (Jd (Ja (Je (Jb ?_))))
 refine Jc [2] [(1,I now),(6,.agg #[I p.least,I p.most,I p.lost,I p.gap,I p.next,I p.asked])] ?_
 refine Ji 7 (I (Kk p)) (VL G [I p.least,I p.most,I p.lost,I p.gap,I p.next,I p.asked] p (⟨rfl,w1,w2,w3,w4,w5,w6⟩)) ?_
 refine Jc [0] [(1,I now),(5,I (Kk p))] (Jd (Ja (Je (Je (Jb ?_)))))
 refine Jc [0,0,0] [(1,I now),(5,I (Kk p)),(10,Bo (decide (Kk p=0)))] ?_
 refine QZ (fun bb=>[(1,I now),(5,I (Kk p)),(10,Bo bb)]) (decide (Kk p=0)) (fun h1=>?_) (fun h1=>?_)
 try simp only [BB] at h1
 refine Jc [0,0,0] [(1,I now),(5,I (Kk p)),(10,Bo true),(13,Bo (decide (now<0)))] ?_
 refine Ky (decide (now<0)) (fun bb=>[(1,I now),(5,I (Kk p)),(10,Bo true),(13,Bo bb)]) [1,1,0] [0,0,0] (fun bb=>[(5,I (Kk p)),(10,Bo true),(16,Bo (bb || (decide (now > 1000000000))))]) ?_
 refine Jc [0] [(5,I (Kk p)),(17,Bo ((decide (now<0)) || (decide (now > 1000000000))))] (Jd (Ja ?_))
 refine Jo ((decide (now<0)) || (decide (now > 1000000000))) (fun h2=>?_) (fun h2=>?_)
 try simp only [BB] at h2
 refine Jb ?_
 refine Jc [0] [(5,I 4)] (Jd (Ja ?_))
 refine Jg [0,0] [(4,I 4)] (Jk ?_)
 refine Jl [0] [I 4] (Jv (Jt.le_refl _) ?_)
 have hf_:(Ks p now)=4:=by
  unfold Ks;split <;> omega
 · (try rw [hf_]);(simp only [JM];done)
 try simp only [BB] at h2
 refine Jm (Ja ?_)
 refine Jg [0,0] [(4,I (Kk p))] (Jk ?_)
 refine Jl [0] [I (Kk p)] (Jv (Jt.le_refl _) ?_)
 have hf_:(Ks p now)=(Kk p):=by
  unfold Ks;split <;> omega
 · (try rw [hf_]);(simp only [JM];done)
 try simp only [BB] at h1
 refine Jc [1,1,1,1,1,1,0] [(5,I (Kk p)),(17,Bo false)] (Jd (Ja ?_))
 refine Qm ?_
 refine Jm (Ja ?_)
 refine Jg [0,0] [(4,I (Kk p))] (Jk ?_)
 refine Jl [0] [I (Kk p)] (Jv (Jt.le_refl _) ?_)
 have hf_:(Ks p now)=(Kk p):=by
  unfold Ks;split <;> omega
 · (try rw [hf_]);(simp only [JM];done)
theorem JgG (G:Jt) (vs_p:List Value) (p:QL) (h_p:Wi.R G vs_p p) (now:Int) :QE Tryz.prog 183 #[.agg vs_p.toArray,I now] G [] (fun u G' L'=>u=.tuple #[Bo ((WT p now).1),I ((WT p now).2)]):=by
 obtain ⟨rfl,w1,w2,w3,w4,w5,w6⟩:=h_p
 refine JL Tryz.func183 19 [(0,.agg #[I p.least,I p.most,I p.lost,I p.gap,I p.next,I p.asked]),(1,I now)] rfl (fun w0 G0=>?_)
 refine Je (Jb ?_)
 refine Ju 2 #[I p.least,I p.most,I p.lost,I p.gap,I p.next,I p.asked] 56 (fun b1=>?_)
 refine Jc [0,0] [(1,I now),(2,Pt b1 0)] (Jd (Ja (Je (Jb ?_))))
 refine Jc [2,0] [(1,I now),(2,Pt b1 0),(7,.agg #[I p.least,I p.most,I p.lost,I p.gap,I p.next,I p.asked]),(8,I now)] ?_
 refine Ji 9 (I (Ks p now)) (Jai G [I p.least,I p.most,I p.lost,I p.gap,I p.next,I p.asked] p (⟨rfl,w1,w2,w3,w4,w5,w6⟩) now) ?_
 refine Jc [0] [(1,I now),(2,Pt b1 0),(6,I (Ks p now))] (Jd (Ja (Je (Jb ?_))))
 refine Jc [0,0,0] [(1,I now),(2,Pt b1 0),(6,I (Ks p now)),(12,Bo (decide (Ks p now=0)))] ?_
 refine Ky (decide (Ks p now=0)) (fun bb=>[(1,I now),(2,Pt b1 0),(6,I (Ks p now)),(12,Bo bb)]) [0,0,2,0,0] [1,1,1,1,0] (fun bb=>[(6,I (Ks p now)),(17,Bo (bb && (decide (now ≥ p.next))))]) ?_
 refine Jc [0,0,0] [(4,Bo ((decide (Ks p now=0)) && (decide (now ≥ p.next)))),(5,I (Ks p now))] (Jd (Ja (Jk ?_)))
 refine Jl [0,0] [Bo ((decide (Ks p now=0)) && (decide (now ≥ p.next))),I (Ks p now)] (Jv (Jt.le_refl _) ?_)
 have hf_:(WT p now)=(((decide (Ks p now=0)) && (decide (now ≥ p.next))),(Ks p now)):=by
  rfl
 · (try rw [hf_]);(simp only [JM];done)
theorem Ja6 (G:Jt) (now:Int) (n:Int) (hn:-9000000000000000000≤now+n∧now+n≤9000000000000000000):QE Tryz.prog 182 #[I now,I n] G [] (fun u G' L'=>u=I (KT now n)):=by
 refine JL Tryz.func182 9 [(0,I now),(1,I n)] rfl (fun w0 G0=>?_)
 refine Jg [0] [(0,I now),(1,I n)] ?_
 refine Jg [0,0,0,0,0] [(4,I (if 1000000000<(IntKind.i64.wrap (now+n)) then 1000000000 else (IntKind.i64.wrap (now+n))))] ?_
 have e1:IntKind.i64.wrap (now+n)=now+n:=IntWalk.i64_in _ (by omega)
 refine KJ (fr':=[(4,I (if 1000000000<(now+n) then 1000000000 else (now+n)))]) (L':=[]) (by simp only [e1]) (by rfl) ?_
 clear e1
 refine Jk ?_
 refine Jl [0] [I (if 1000000000<(now+n) then 1000000000 else (now+n))] (Jv (Jt.le_refl _) ?_)
 have hf_:(KT now n)=(if 1000000000<(now+n) then 1000000000 else (now+n)):=by
  unfold KT;split <;> rfl
 · (try rw [hf_]);(simp only [JM];done)
theorem JbN (G:Jt) (vs_p:List Value) (p:QL) (h_p:Wi.R G vs_p p) (now:Int) :QE Tryz.prog 154 #[.agg vs_p.toArray,I now] G [] (fun u G' L'=>u=.tuple #[.agg #[I (((Kp p now).1).least),I (((Kp p now).1).most),I (((Kp p now).1).lost),I (((Kp p now).1).gap),I (((Kp p now).1).next),I (((Kp p now).1).asked)],I ((Kp p now).2)]):=by
 obtain ⟨rfl,w1,w2,w3,w4,w5,w6⟩:=h_p
 refine JL Tryz.func154 45 [(0,.agg #[I p.least,I p.most,I p.lost,I p.gap,I p.next,I p.asked]),(1,I now)] rfl (fun w0 G0=>?_)
 refine Je (Jb ?_)
 refine Ju 2 #[I p.least,I p.most,I p.lost,I p.gap,I p.next,I p.asked] 56 (fun b1=>?_)
 refine Ju 4 #[I 0,I 0,I 0,I 0,I 0,I 0] 56 (fun b2=>?_)
 refine Jc [0] [(1,I now),(2,Pt b1 0),(4,Pt b2 0)] (Jd (Ja (Je (Jb ?_))))
 refine Jc [4,0] [(1,I now),(2,Pt b1 0),(4,Pt b2 0),(9,.agg #[I p.least,I p.most,I p.lost,I p.gap,I p.next,I p.asked]),(10,I now)] ?_
 refine Ji 11 (.tuple #[Bo ((WT p now).1),I ((WT p now).2)]) (JgG G [I p.least,I p.most,I p.lost,I p.gap,I p.next,I p.asked] p (⟨rfl,w1,w2,w3,w4,w5,w6⟩) now) ?_
 refine Jc [0,0,0,0,0] [(1,I now),(2,Pt b1 0),(4,Pt b2 0),(6,Bo ((WT p now).1)),(7,I ((WT p now).2))] (Jd (Ja (Je (Jy ?_))))
 refine Jg [0,0,0] [(1,I now),(2,Pt b1 0),(4,Pt b2 0),(6,Bo ((WT p now).1)),(7,I ((WT p now).2)),(14,Bo (!decide ((WT p now).2=0)))] ?_
 refine Jo (!decide ((WT p now).2=0)) (fun h1=>?_) (fun h1=>?_)
 try simp only [BB] at h1
 refine Jg [0,0,3,0] [(4,Pt b2 0),(5,I ((WT p now).2))] (Jk (Js (Jh ?_)))
 refine Jl [0,0] [.agg #[I 0,I 0,I 0,I 0,I 0,I 0],I ((WT p now).2)] (Jv (Jt.le_refl _) ?_)
 have hf_:(Kp p now)=((⟨0,0,0,0,0,0⟩:QL),((WT p now).2)):=by
  unfold Kp YH;(try unfold WT at *);(repeat' split) <;> rfl
 · (try rw [hf_]);(simp only [JM];done)
 try simp only [BB] at h1
 refine Jg [0,0,0] [(1,I now),(2,Pt b1 0),(4,Pt b2 0),(19,Bo (!((WT p now).1)))] ?_
 refine Jo (!((WT p now).1)) (fun h2=>?_) (fun h2=>?_)
 try simp only [BB] at h2
 refine Jg [0,3,0] [(4,Pt b2 0),(5,I 9)] (Jk (Js (Jh ?_)))
 refine Jl [0,0] [.agg #[I 0,I 0,I 0,I 0,I 0,I 0],I 9] (Jv (Jt.le_refl _) ?_)
 have hf_:(Kp p now)=((⟨0,0,0,0,0,0⟩:QL),9):=by
  unfold Kp YH;(try unfold WT at *);(repeat' split) <;> first | rfl | (exfalso;omega) | (simp_all;done)
 · (try rw [hf_]);(simp only [JM];done)
 try simp only [BB] at h2
 refine Jg [0,4,0,0] [(1,I now),(2,Pt b1 0),(4,Pt b2 0),(23,Bo (decide (p.asked=1000000)))] ?_
 refine Jo (decide (p.asked=1000000)) (fun h3=>?_) (fun h3=>?_)
 try simp only [BB] at h3
 refine Jg [0,3,0] [(4,Pt b2 0),(5,I 7)] (Jk (Js (Jh ?_)))
 refine Jl [0,0] [.agg #[I 0,I 0,I 0,I 0,I 0,I 0],I 7] (Jv (Jt.le_refl _) ?_)
 have hf_:(Kp p now)=((⟨0,0,0,0,0,0⟩:QL),7):=by
  unfold Kp YH;(try unfold WT at *);(repeat' split) <;> first | rfl | (exfalso;omega) | (exfalso;simp_all;omega)
 · (try rw [hf_]);(simp only [JM];done)
 try simp only [BB] at h3
 refine Jm (JK (Ja ?_))
 refine WC [0,4,0,0,5] [(1,I now),(2,Pt b1 0),(4,Pt b2 0)] [[Sg b2 0 [I 0,I 0,I 0,I 0,I 0,I 0]],[Sg b1 0 [I p.least,I p.most,I p.lost,I p.gap,I p.next,I (IntKind.i64.wrap (p.asked+1))]]] ?_
 have e1:IntKind.i64.wrap (p.asked+1)=p.asked+1:=IntWalk.i64_in _ (by (have q_:=JaC (p:=p) (now:=now) ‹_›;omega))
 refine KJ (fr':=[(1,I now),(2,Pt b1 0),(4,Pt b2 0)]) (L':=[[Sg b2 0 [I 0,I 0,I 0,I 0,I 0,I 0]],[Sg b1 0 [I p.least,I p.most,I p.lost,I p.gap,I p.next,I (p.asked+1)]]]) (by rfl) (by simp only [e1]) ?_
 clear e1
 refine Je (Jb ?_)
 refine Jc [0,0,4] [(2,Pt b1 0),(4,Pt b2 0),(32,I now),(34,I p.gap)] ?_
 refine Ji 35 (I (KT now p.gap)) (Ja6 G now p.gap (by (have q_:=JaC (p:=p) (now:=now) ‹_›;omega))) ?_
 refine Kb [0,5] [(2,Pt b1 0),(4,Pt b2 0)] [[Sg b2 0 [I 0,I 0,I 0,I 0,I 0,I 0]],[Sg b1 0 [I p.least,I p.most,I p.lost,I p.gap,I (KT now p.gap),I (p.asked+1)]]] (Jd (Ja ?_))
 refine WC [0,4,0,0,4,0,0,5] [(2,Pt b1 0),(4,Pt b2 0)] [[Sg b2 0 [I 0,I 0,I 0,I 0,I 0,I 0]],[Sg b1 0 [I p.least,I p.most,I p.lost,I (if p.most<(IntKind.i64.wrap (2*p.gap)) then p.most else (IntKind.i64.wrap (2*p.gap))),I (KT now p.gap),I (p.asked+1)]]] ?_
 have e2:IntKind.i64.wrap (2*p.gap)=2*p.gap:=IntWalk.i64_in _ (by (have q_:=JaC (p:=p) (now:=now) ‹_›;omega))
 refine KJ (fr':=[(2,Pt b1 0),(4,Pt b2 0)]) (L':=[[Sg b2 0 [I 0,I 0,I 0,I 0,I 0,I 0]],[Sg b1 0 [I p.least,I p.most,I p.lost,I (if p.most<(2*p.gap) then p.most else (2*p.gap)),I (KT now p.gap),I (p.asked+1)]]]) (by rfl) (by simp only [e2]) ?_
 clear e2
 refine WC [4,3,0] [(4,Pt b2 0),(5,I 0)] [[Sg b2 0 [I p.least,I p.most,I p.lost,I (if p.most<(2*p.gap) then p.most else (2*p.gap)),I (KT now p.gap),I (p.asked+1)]],[Sg b1 0 [I p.least,I p.most,I p.lost,I (if p.most<(2*p.gap) then p.most else (2*p.gap)),I (KT now p.gap),I (p.asked+1)]]] ?_
 refine Jk ?_
 refine Jl [0,0] [.agg #[I p.least,I p.most,I p.lost,I (if p.most<(2*p.gap) then p.most else (2*p.gap)),I (KT now p.gap),I (p.asked+1)],I 0] (Jv (Jt.le_refl _) ?_)
 have hf_:(Kp p now)=((⟨p.least,p.most,p.lost,if p.most<(2*p.gap) then p.most else (2*p.gap),KT now p.gap,p.asked+1⟩:QL),0):=by
  unfold Kp YH;(try unfold WT at *);(repeat' split) <;> first | rfl | (exfalso;omega) | (exfalso;simp_all;omega)
 · (try rw [hf_]);(simp only [JM];done)
theorem JgH (G:Jt) (a:Int) (hw_a:rI a) (b:Int) (hw_b:rI b) (c:Int) (hw_c:rI c) :QE Tryz.prog 69 #[I a,I b,I c] G [] (fun u G' L'=>u=.tuple #[.agg #[I (((KE a b c).1).least),I (((KE a b c).1).most),I (((KE a b c).1).lost),I (((KE a b c).1).gap),I (((KE a b c).1).next),I (((KE a b c).1).asked)],I ((KE a b c).2)]):=by
 refine JL Tryz.func69 22 [(0,I a),(1,I b),(2,I c)] rfl (fun w0 G0=>?_)
 refine Je (Jb ?_)
 refine Ju 6 #[I 0,I 0,I 0,I 0,I 0,I 0] 56 (fun b1=>?_)
 refine Jc [0] [(0,I a),(1,I b),(2,I c),(6,Pt b1 0)] (Jd (Ja (Je (Jb ?_))))
 refine Jc [0,0,0,0,0] [(6,Pt b1 0),(14,.agg #[I a,I b,I c,I a,I 0,I 0])] ?_
 refine Ju 8 #[I 0,I 0,I 0,I 0,I 0,I 0] 56 (fun b2=>?_)
 refine Kb [3] [(6,Pt b1 0),(8,Pt b2 0)] [[Sg b2 0 [I a,I b,I c,I a,I 0,I 0]],[Sg b1 0 [I 0,I 0,I 0,I 0,I 0,I 0]]] (Jd (Ja (Je (Je (Jb ?_)))))
 refine Jc [2] [(6,Pt b1 0),(8,Pt b2 0),(15,.agg #[I a,I b,I c,I a,I 0,I 0])] ?_
 refine Ji 16 (I (Kk (⟨a,b,c,a,0,0⟩:QL))) (VL G [I a,I b,I c,I a,I 0,I 0] (⟨a,b,c,a,0,0⟩:QL) (⟨rfl,hw_a,hw_b,hw_c,hw_a,(by (simp;done)),(by (simp;done))⟩)) ?_
 refine Jc [0] [(6,Pt b1 0),(8,Pt b2 0),(9,I (Kk (⟨a,b,c,a,0,0⟩:QL)))] (Jd (Ja ?_))
 refine Jg [0,0] [(6,Pt b1 0),(8,Pt b2 0),(9,I (Kk (⟨a,b,c,a,0,0⟩:QL))),(18,Bo (!decide (Kk (⟨a,b,c,a,0,0⟩:QL)=0)))] ?_
 refine Jo (!decide (Kk (⟨a,b,c,a,0,0⟩:QL)=0)) (fun h1=>?_) (fun h1=>?_)
 try simp only [BB] at h1
 refine Jg [0,0,5,0] [(6,Pt b1 0),(7,I (Kk (⟨a,b,c,a,0,0⟩:QL)))] (Jk (Jh ?_))
 refine Jl [1,0] [.agg #[I 0,I 0,I 0,I 0,I 0,I 0],I (Kk (⟨a,b,c,a,0,0⟩:QL))] (Jv (Jt.le_refl _) ?_)
 have hf_:(KE a b c)=((⟨0,0,0,0,0,0⟩:QL),(Kk (⟨a,b,c,a,0,0⟩:QL))):=by
  rw [W0] at *;unfold KE YH;split <;> first | (rename_i hx;rw [Ja5 hx];done) | contradiction
 · (try rw [hf_]);(simp only [JM];done)
 try simp only [BB] at h1
 refine Jm (Ja ?_)
 refine WC [2,5,0] [(6,Pt b1 0),(7,I 0)] [[Sg b2 0 [I a,I b,I c,I a,I 0,I 0]],[Sg b1 0 [I a,I b,I c,I a,I 0,I 0]]] ?_
 refine Jk ?_
 refine Jl [1,0] [.agg #[I a,I b,I c,I a,I 0,I 0],I 0] (Jv (Jt.le_refl _) ?_)
 have hf_:(KE a b c)=((⟨a,b,c,a,0,0⟩:QL),0):=by
  rw [W0] at *;unfold KE YH;split <;> rfl
 · (try rw [hf_]);(simp only [JM];done)
theorem Jej (G:Jt) (vs_p:List Value) (p:QL) (h_p:Wi.R G vs_p p) (now:Int) :QE Tryz.prog 153 #[.agg vs_p.toArray,I now] G [] (fun u G' L'=>u=.tuple #[.agg #[I (((QK p now).1).least),I (((QK p now).1).most),I (((QK p now).1).lost),I (((QK p now).1).gap),I (((QK p now).1).next),I (((QK p now).1).asked)],I ((QK p now).2)]):=by
 obtain ⟨rfl,w1,w2,w3,w4,w5,w6⟩:=h_p
 refine JL Tryz.func153 27 [(0,.agg #[I p.least,I p.most,I p.lost,I p.gap,I p.next,I p.asked]),(1,I now)] rfl (fun w0 G0=>?_)
 refine Je (Jb ?_)
 refine Ju 2 #[I p.least,I p.most,I p.lost,I p.gap,I p.next,I p.asked] 56 (fun b1=>?_)
 refine Ju 4 #[I 0,I 0,I 0,I 0,I 0,I 0] 56 (fun b2=>?_)
 refine Jc [0] [(1,I now),(2,Pt b1 0),(4,Pt b2 0)] (Jd (Ja (Je (Je (Jb ?_)))))
 refine Jc [4,0] [(1,I now),(2,Pt b1 0),(4,Pt b2 0),(7,.agg #[I p.least,I p.most,I p.lost,I p.gap,I p.next,I p.asked]),(8,I now)] ?_
 refine Ji 9 (I (Ks p now)) (Jai G [I p.least,I p.most,I p.lost,I p.gap,I p.next,I p.asked] p (⟨rfl,w1,w2,w3,w4,w5,w6⟩) now) ?_
 refine Jc [0] [(1,I now),(2,Pt b1 0),(4,Pt b2 0),(6,I (Ks p now))] (Jd (Ja ?_))
 refine Jg [0,0] [(1,I now),(2,Pt b1 0),(4,Pt b2 0),(6,I (Ks p now)),(11,Bo (!decide (Ks p now=0)))] ?_
 refine Jo (!decide (Ks p now=0)) (fun h1=>?_) (fun h1=>?_)
 try simp only [BB] at h1
 refine Jg [0,0,3,0] [(4,Pt b2 0),(5,I (Ks p now))] (Jk (Jh ?_))
 refine Jl [0,0] [.agg #[I 0,I 0,I 0,I 0,I 0,I 0],I (Ks p now)] (Jv (Jt.le_refl _) ?_)
 have hf_:(QK p now)=((⟨0,0,0,0,0,0⟩:QL),(Ks p now)):=by
  unfold QK YH;(repeat' split) <;> rfl
 · (try rw [hf_]);(simp only [JM];done)
 try simp only [BB] at h1
 refine Jm (Ja ?_)
 refine WC [0,4,0,5,0,5] [(1,I now),(2,Pt b1 0),(4,Pt b2 0)] [[Sg b2 0 [I 0,I 0,I 0,I 0,I 0,I 0]],[Sg b1 0 [I p.least,I p.most,I p.lost,I p.least,I p.next,I 0]]] ?_
 refine Je ?_
 refine Kw [8] ?_
 refine Wa [(0,Pt b1 4),(1,I p.next),(2,I now),(3,Pt b1 0),(4,I p.least),(5,I (KT now p.least)),(6,I (if (KT now p.least)<p.next then (KT now p.least) else p.next)),(7,Pt b1 4)] ?_
 refine JZ [] [(0,0),(1,4),(2,0),(3,0),(4,4),(6,0),(7,0)] [5] [8] (List.forall_mem_cons.2 ⟨?_,List.forall_mem_nil _⟩) (List.forall_mem_cons.2 ⟨?_,List.forall_mem_nil _⟩)
 refine Jq 5 23 (I (KT now p.least)) [(20,I now),(22,I p.least)] (fun X=>?_)
 exact Ji 23 (I (KT now p.least)) (Ja6 G now p.least (by (have q_:=JaC (p:=p) (now:=now) ‹_›;omega))) Jn
 refine JO 8 [(24,I (if (KT now p.least)<p.next then (KT now p.least) else p.next)),(25,Pt b1 4)] (fun X=>?_)
 refine KQ 1 [[Sg b2 0 [I 0,I 0,I 0,I 0,I 0,I 0]],[Sg b1 0 [I p.least,I p.most,I p.lost,I p.least,I (if (KT now p.least)<p.next then (KT now p.least) else p.next),I 0]]] ?_
 refine Kj [] ?_
 refine Kv [0,1,2,3,4,5,6,7] [] [] [(2,Pt b1 0),(4,Pt b2 0)] (List.forall_mem_nil _) ?_
 refine Ja ?_
 refine WC [4,3,0] [(4,Pt b2 0),(5,I 0)] [[Sg b2 0 [I p.least,I p.most,I p.lost,I p.least,I (if (KT now p.least)<p.next then (KT now p.least) else p.next),I 0]],[Sg b1 0 [I p.least,I p.most,I p.lost,I p.least,I (if (KT now p.least)<p.next then (KT now p.least) else p.next),I 0]]] ?_
 refine Jk ?_
 refine Jl [0,0] [.agg #[I p.least,I p.most,I p.lost,I p.least,I (if (KT now p.least)<p.next then (KT now p.least) else p.next),I 0],I 0] (Jv (Jt.le_refl _) ?_)
 have hf_:(QK p now)=((⟨p.least,p.most,p.lost,p.least,if (KT now p.least)<p.next then (KT now p.least) else p.next,0⟩:QL),0):=by
  unfold QK YH;(repeat' split) <;> first | rfl | (exfalso;omega)
 · (try rw [hf_]);(simp only [JM];done)
theorem Ja7 (G:Jt) (vs_p:List Value) (p:QL) (h_p:Wi.R G vs_p p) :QE Tryz.prog 155 #[.agg vs_p.toArray] G [] (fun u G' L'=>u=.tuple #[Bo ((W1 p).1),I ((W1 p).2)]):=by
 obtain ⟨rfl,w1,w2,w3,w4,w5,w6⟩:=h_p
 refine JL Tryz.func155 17 [(0,.agg #[I p.least,I p.most,I p.lost,I p.gap,I p.next,I p.asked])] rfl (fun w0 G0=>?_)
 refine Je (Jb ?_)
 refine Ju 1 #[I p.least,I p.most,I p.lost,I p.gap,I p.next,I p.asked] 56 (fun b1=>?_)
 refine Jc [0,0] [(1,Pt b1 0)] (Jd (Ja (Je (Jb ?_))))
 refine Jc [2] [(1,Pt b1 0),(5,.agg #[I p.least,I p.most,I p.lost,I p.gap,I p.next,I p.asked])] ?_
 refine Ji 6 (I (Kk p)) (VL G [I p.least,I p.most,I p.lost,I p.gap,I p.next,I p.asked] p (⟨rfl,w1,w2,w3,w4,w5,w6⟩)) ?_
 refine Jc [0] [(1,Pt b1 0),(4,I (Kk p))] (Jd (Ja (Je (Jb ?_))))
 refine Jc [0,0,0] [(1,Pt b1 0),(4,I (Kk p)),(9,Bo (decide (Kk p=0)))] ?_
 refine Ky (decide (Kk p=0)) (fun bb=>[(1,Pt b1 0),(4,I (Kk p)),(9,Bo bb)]) [0,2,0,2,0,0] [1,1,1,1,1,0] (fun bb=>[(4,I (Kk p)),(15,Bo (bb && (decide (p.asked ≥ p.lost))))]) ?_
 refine Jc [0,0,0] [(2,Bo ((decide (Kk p=0)) && (decide (p.asked ≥ p.lost)))),(3,I (Kk p))] (Jd (Ja (Jk ?_)))
 refine Jl [0,0] [Bo ((decide (Kk p=0)) && (decide (p.asked ≥ p.lost))),I (Kk p)] (Jv (Jt.le_refl _) ?_)
 have hf_:(W1 p)=(((decide (Kk p=0)) && (decide (p.asked ≥ p.lost))),(Kk p)):=by
  rfl
 · (try rw [hf_]);(simp only [JM];done)
end Go.Proofs.YtnnlpbjdignhaaaGreatDoor
