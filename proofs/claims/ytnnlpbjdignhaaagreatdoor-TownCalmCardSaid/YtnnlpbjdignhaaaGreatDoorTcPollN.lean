import Derived.Test.YtnnlpbjdignhaaaGreatDoorTcTy
namespace Go.Proofs.YtnnlpbjdignhaaaGreatDoor
open Go.Tx
set_option linter.unusedVariables false
set_option linter.unusedSimpArgs false
def YA (p:QT):Prop:=1≤p.least∧p.least≤p.most∧p.most≤1000∧1≤p.lost∧p.lost≤100∧p.least≤p.gap∧p.gap≤p.most∧0≤p.next∧p.next≤1000000000∧0≤p.asked∧p.asked≤1000000
instance (p:QT):Decidable (YA p):=inferInstanceAs (Decidable (_∧_))
def Km (p:QT):Int:=if YA p then 0 else 4
theorem W8 (p:QT):Km p=0 ↔ YA p:=by unfold Km;split <;> simp_all
theorem Jge (p:QT):Km p=0∨Km p=4:=by unfold Km;split <;> simp
theorem JaD {p:QT} (h:YA p):Km p=0:=if_pos h
theorem Jbv {p:QT} (h:¬ YA p):Km p=4:=if_neg h
def Ku (p:QT) (now:Int):Int:=if Km p=0∧(now<0∨1000000000<now) then 4 else Km p
theorem JbN (p:QT) (now:Int):Ku p now=0 ↔ (YA p∧0≤now∧now≤1000000000):=by
 rw [← W8];unfold Ku;have:=Jge p;split <;> omega
theorem Ja4 {p:QT} {now:Int} (h:Ku p now=0):1≤p.least∧p.least≤p.most∧p.most≤1000∧1≤p.lost∧p.lost≤100∧p.least≤p.gap∧p.gap≤p.most∧0≤p.next∧p.next≤1000000000∧0≤p.asked∧p.asked≤1000000∧0≤now∧now≤1000000000:=by
 have:=(JbN p now).1 h;unfold YA at this;omega
def K1 (now n:Int):Int:=if 1000000000<now+n then 1000000000 else now+n
def YV:QT:=⟨0,0,0,0,0,0⟩
def Kr (p:QT) (now:Int):QT×Int :=
 if Ku p now ≠ 0 then (YV,Ku p now) else if now<p.next then (YV,9) else if p.asked=1000000 then (YV,7) else
 (⟨p.least,p.most,p.lost,if p.most<2*p.gap then p.most else 2*p.gap,K1 now p.gap,p.asked+1⟩,0)
def KL (least top lost:Int):QT×Int:=if YA ⟨least,top,lost,least,0,0⟩ then (⟨least,top,lost,least,0,0⟩,0) else (YV,4)
def QS (p:QT) (now:Int):QT×Int :=
 if Ku p now ≠ 0 then (YV,Ku p now) else
 (⟨p.least,p.most,p.lost,p.least,if K1 now p.least<p.next then K1 now p.least else p.next,0⟩,0)
theorem Jc9 {p:QT} {now:Int} (h:(Kr p now).2=0) :
  1≤p.least∧p.least≤p.most∧p.most≤1000∧1≤p.lost∧p.lost≤100∧p.least≤p.gap∧p.gap≤p.most∧0≤p.next∧p.next≤1000000000∧0≤p.asked∧p.asked<1000000∧0≤now∧now≤1000000000∧p.next≤now ∧
  Km (Kr p now).1=0∧(Kr p now).1.least=p.least∧(Kr p now).1.most=p.most∧(Kr p now).1.lost=p.lost∧(Kr p now).1.asked=p.asked+1 ∧
  (p.most<2*p.gap∧(Kr p now).1.gap=p.most∨2*p.gap≤p.most∧(Kr p now).1.gap=2*p.gap) ∧
  (1000000000<now+p.gap∧(Kr p now).1.next=1000000000∨now+p.gap≤1000000000∧(Kr p now).1.next=now+p.gap):=by
 unfold Kr at h ⊢
 split at h
 ·
  contradiction
 split at h
 ·
  cases h
 split at h
 ·
  cases h
 rename_i h1 h2 h3
 have hb:=Ja4 (p:=p) (now:=now) (by omega)
 rw [if_neg h1,if_neg h2,if_neg h3]
 dsimp only
 refine ⟨by omega,by omega,by omega,by omega,by omega,by omega,by omega,by omega,by omega,by omega,by omega,by omega,by omega,by omega,JaD ?_,rfl,rfl,rfl,rfl,?_,?_⟩
 ·
  unfold YA K1;simp only;(repeat' split) <;> omega
 ·
  split <;> omega
 ·
  unfold K1;split <;> omega
theorem Jgf {p:QT} {now:Int} (h:(Kr p now).2 ≠ 0):(Kr p now).1=YV:=by
 revert h;unfold Kr;(repeat' split) <;> simp
theorem Jgg {p:QT} {now:Int} (h:(QS p now).2=0):Ku p now=0∧QS p now=(⟨p.least,p.most,p.lost,p.least,if K1 now p.least<p.next then K1 now p.least else p.next,0⟩,0):=by
 revert h;unfold QS;split
 ·
  intro h;exact absurd h ‹_›
 ·
  intro _;exact ⟨by omega,rfl⟩
theorem Jei {a b c:Int} (h:(KL a b c).2=0):YA ⟨a,b,c,a,0,0⟩∧KL a b c=(⟨a,b,c,a,0,0⟩,0):=by
 revert h;unfold KL;split
 ·
  rename_i h1;intro _;exact ⟨h1,rfl⟩
 ·
  simp
theorem Jhn {a b c:Int} (h:(KL a b c).2 ≠ 0):(KL a b c).1=YV:=by
 revert h;unfold KL;split <;> simp
def Jai (p:QT):Bool:=decide (Km p=0) && decide (p.asked ≥ p.lost)
def WZ (p:QT) (now:Int):Bool×Int:=(decide (Ku p now=0) && decide (now ≥ p.next),Ku p now)
def W9 (p:QT):Bool×Int:=(Jai p,Km p)
theorem V9 (G:Jt) (vs_p:List Value) (p:QT) (h_p:Ws.R G vs_p p) :QF Tryz.prog 14 #[.agg vs_p.toArray] G [] (fun u G' L'=>u=I (Km p)):=by
 obtain ⟨rfl,_,_,_,_,_,_⟩:=h_p
 refine JJ Tryz.func14 62 [(0,.agg #[I p.least,I p.most,I p.lost,I p.gap,I p.next,I p.asked])] rfl (fun w0 G0=>?_)
 refine Je (Jb (Ju 1 #[I p.least,I p.most,I p.lost,I p.gap,I p.next,I p.asked] 56 (fun b1=>Jd [0] [(1,Pt b1 0)] (Jc (Ja (Je (Je (Jb (Jd [0,2,0,0] [(1,Pt b1 0),(6,Bo (decide (p.least<1)))] (KD (decide (p.least<1)) (fun bb=>[(1,Pt b1 0),(6,Bo bb)]) [1,1,1,1,1,0] [0,2,0,2,0,0] (fun bb=>[(1,Pt b1 0),(12,Bo (bb || (decide (p.least > p.most))))]) (Jd [0] [(1,Pt b1 0),(13,Bo ((decide (p.least<1)) || (decide (p.least > p.most))))] (KD ((decide (p.least<1)) || (decide (p.least > p.most))) (fun bb=>[(1,Pt b1 0),(13,Bo bb)]) [1,1,1,0] [0,2,0,0] (fun bb=>[(1,Pt b1 0),(17,Bo (bb || (decide (p.most > 1000))))]) (Jd [0] [(1,Pt b1 0),(18,Bo (((decide (p.least<1)) || (decide (p.least > p.most))) || (decide (p.most > 1000))))] (KD (((decide (p.least<1)) || (decide (p.least > p.most))) || (decide (p.most > 1000))) (fun bb=>[(1,Pt b1 0),(18,Bo bb)]) [1,1,1,0] [0,2,0,0] (fun bb=>[(1,Pt b1 0),(22,Bo (bb || (decide (p.lost<1))))]) (Jd [0] [(1,Pt b1 0),(23,Bo ((((decide (p.least<1)) || (decide (p.least > p.most))) || (decide (p.most > 1000))) || (decide (p.lost<1))))] (KD ((((decide (p.least<1)) || (decide (p.least > p.most))) || (decide (p.most > 1000))) || (decide (p.lost<1))) (fun bb=>[(1,Pt b1 0),(23,Bo bb)]) [1,1,1,0] [0,2,0,0] (fun bb=>[(1,Pt b1 0),(27,Bo (bb || (decide (p.lost > 100))))]) ?_))))))))))))))))
 refine Jd [0] [(1,Pt b1 0),(28,Bo (((((decide (p.least<1)) || (decide (p.least > p.most))) || (decide (p.most > 1000))) || (decide (p.lost<1))) || (decide (p.lost > 100))))] (KD (((((decide (p.least<1)) || (decide (p.least > p.most))) || (decide (p.most > 1000))) || (decide (p.lost<1))) || (decide (p.lost > 100))) (fun bb=>[(1,Pt b1 0),(28,Bo bb)]) [1,1,1,1,1,0] [0,2,0,2,0,0] (fun bb=>[(1,Pt b1 0),(34,Bo (bb || (decide (p.gap<p.least))))]) (Jd [0] [(1,Pt b1 0),(35,Bo ((((((decide (p.least<1)) || (decide (p.least > p.most))) || (decide (p.most > 1000))) || (decide (p.lost<1))) || (decide (p.lost > 100))) || (decide (p.gap<p.least))))] (KD ((((((decide (p.least<1)) || (decide (p.least > p.most))) || (decide (p.most > 1000))) || (decide (p.lost<1))) || (decide (p.lost > 100))) || (decide (p.gap<p.least))) (fun bb=>[(1,Pt b1 0),(35,Bo bb)]) [1,1,1,1,1,0] [0,2,0,2,0,0] (fun bb=>[(1,Pt b1 0),(41,Bo (bb || (decide (p.gap > p.most))))]) (Jd [0] [(1,Pt b1 0),(42,Bo (((((((decide (p.least<1)) || (decide (p.least > p.most))) || (decide (p.most > 1000))) || (decide (p.lost<1))) || (decide (p.lost > 100))) || (decide (p.gap<p.least))) || (decide (p.gap > p.most))))] (KD (((((((decide (p.least<1)) || (decide (p.least > p.most))) || (decide (p.most > 1000))) || (decide (p.lost<1))) || (decide (p.lost > 100))) || (decide (p.gap<p.least))) || (decide (p.gap > p.most))) (fun bb=>[(1,Pt b1 0),(42,Bo bb)]) [1,1,1,0] [0,2,0,0] (fun bb=>[(1,Pt b1 0),(46,Bo (bb || (decide (p.next<0))))]) (Jd [0] [(1,Pt b1 0),(47,Bo ((((((((decide (p.least<1)) || (decide (p.least > p.most))) || (decide (p.most > 1000))) || (decide (p.lost<1))) || (decide (p.lost > 100))) || (decide (p.gap<p.least))) || (decide (p.gap > p.most))) || (decide (p.next<0))))] (KD ((((((((decide (p.least<1)) || (decide (p.least > p.most))) || (decide (p.most > 1000))) || (decide (p.lost<1))) || (decide (p.lost > 100))) || (decide (p.gap<p.least))) || (decide (p.gap > p.most))) || (decide (p.next<0))) (fun bb=>[(1,Pt b1 0),(47,Bo bb)]) [1,1,1,0] [0,2,0,0] (fun bb=>[(1,Pt b1 0),(51,Bo (bb || (decide (p.next > 1000000000))))]) (Jd [0] [(1,Pt b1 0),(52,Bo (((((((((decide (p.least<1)) || (decide (p.least > p.most))) || (decide (p.most > 1000))) || (decide (p.lost<1))) || (decide (p.lost > 100))) || (decide (p.gap<p.least))) || (decide (p.gap > p.most))) || (decide (p.next<0))) || (decide (p.next > 1000000000))))] (KD (((((((((decide (p.least<1)) || (decide (p.least > p.most))) || (decide (p.most > 1000))) || (decide (p.lost<1))) || (decide (p.lost > 100))) || (decide (p.gap<p.least))) || (decide (p.gap > p.most))) || (decide (p.next<0))) || (decide (p.next > 1000000000))) (fun bb=>[(1,Pt b1 0),(52,Bo bb)]) [1,1,1,0] [0,2,0,0] (fun bb=>[(1,Pt b1 0),(56,Bo (bb || (decide (p.asked<0))))]) (Jd [0] [(1,Pt b1 0),(57,Bo ((((((((((decide (p.least<1)) || (decide (p.least > p.most))) || (decide (p.most > 1000))) || (decide (p.lost<1))) || (decide (p.lost > 100))) || (decide (p.gap<p.least))) || (decide (p.gap > p.most))) || (decide (p.next<0))) || (decide (p.next > 1000000000))) || (decide (p.asked<0))))] ?_))))))))))
 refine KD ((((((((((decide (p.least<1)) || (decide (p.least > p.most))) || (decide (p.most > 1000))) || (decide (p.lost<1))) || (decide (p.lost > 100))) || (decide (p.gap<p.least))) || (decide (p.gap > p.most))) || (decide (p.next<0))) || (decide (p.next > 1000000000))) || (decide (p.asked<0))) (fun bb=>[(1,Pt b1 0),(57,Bo bb)]) [1,1,1,0] [0,2,0,0] (fun bb=>[(61,Bo (bb || (decide (p.asked > 1000000))))]) (Jc (Ja (Jo (((((((((((decide (p.least<1)) || (decide (p.least > p.most))) || (decide (p.most > 1000))) || (decide (p.lost<1))) || (decide (p.lost > 100))) || (decide (p.gap<p.least))) || (decide (p.gap > p.most))) || (decide (p.next<0))) || (decide (p.next > 1000000000))) || (decide (p.asked<0))) || (decide (p.asked > 1000000))) (fun h1=>?_) (fun h1=>?_))))
 try simp only [BB] at h1
 refine Jg [0] [(2,I 4)] (Jk (Jh (Jl [0] [I 4] (Jv (Jt.le_refl _) ?_))))
 have hf_:(Km p)=4:=by
  exact Jbv (by unfold YA;omega)
 · (try rw [hf_]);(simp only [JL];done)
 try simp only [BB] at h1
 refine Jm (Ja (Jg [0] [(2,I 0)] (Jk (Jl [0] [I 0] (Jv (Jt.le_refl _) ?_)))))
 have hf_:(Km p)=0:=by
  exact JaD (by unfold YA;omega)
 · (try rw [hf_]);(simp only [JL];done)
theorem JaJ (G:Jt) (vs_p:List Value) (p:QT) (h_p:Ws.R G vs_p p) (now:Int) :QF Tryz.prog 181 #[.agg vs_p.toArray,I now] G [] (fun u G' L'=>u=I (Ku p now)):=by
 obtain ⟨rfl,w1,w2,w3,w4,w5,w6⟩:=h_p
 refine JJ Tryz.func181 19 [(0,.agg #[I p.least,I p.most,I p.lost,I p.gap,I p.next,I p.asked]),(1,I now)] rfl (fun w0 G0=>?_)
 refine Je (Jb (Ju 2 #[I p.least,I p.most,I p.lost,I p.gap,I p.next,I p.asked] 56 (fun b1=>Jd [0] [(1,I now),(2,Pt b1 0)] (Jc (Ja (Je (Jb (Jd [2] [(1,I now),(6,.agg #[I p.least,I p.most,I p.lost,I p.gap,I p.next,I p.asked])] (Ji 7 (I (Km p)) (V9 G [I p.least,I p.most,I p.lost,I p.gap,I p.next,I p.asked] p (⟨rfl,w1,w2,w3,w4,w5,w6⟩)) (Jd [0] [(1,I now),(5,I (Km p))] (Jc (Ja (Je (Je (Jb (Jd [0,0,0] [(1,I now),(5,I (Km p)),(10,Bo (decide (Km p=0)))] (Wd (fun bb=>[(1,I now),(5,I (Km p)),(10,Bo bb)]) (decide (Km p=0)) (fun h1=>?_) (fun h1=>?_))))))))))))))))))
 try simp only [BB] at h1
 refine Jd [0,0,0] [(1,I now),(5,I (Km p)),(10,Bo true),(13,Bo (decide (now<0)))] (KD (decide (now<0)) (fun bb=>[(1,I now),(5,I (Km p)),(10,Bo true),(13,Bo bb)]) [1,1,0] [0,0,0] (fun bb=>[(5,I (Km p)),(10,Bo true),(16,Bo (bb || (decide (now > 1000000000))))]) (Jd [0] [(5,I (Km p)),(17,Bo ((decide (now<0)) || (decide (now > 1000000000))))] (Jc (Ja (Jo ((decide (now<0)) || (decide (now > 1000000000))) (fun h2=>?_) (fun h2=>?_))))))
 try simp only [BB] at h2
 refine Jb (Jd [0] [(5,I 4)] (Jc (Ja (Jg [0,0] [(4,I 4)] (Jk (Jl [0] [I 4] (Jv (Jt.le_refl _) ?_)))))))
 have hf_:(Ku p now)=4:=by
  unfold Ku;split <;> omega
 · (try rw [hf_]);(simp only [JL];done)
 try simp only [BB] at h2
 refine Jm (Ja (Jg [0,0] [(4,I (Km p))] (Jk (Jl [0] [I (Km p)] (Jv (Jt.le_refl _) ?_)))))
 have hf_:(Ku p now)=(Km p):=by
  unfold Ku;split <;> omega
 · (try rw [hf_]);(simp only [JL];done)
 try simp only [BB] at h1
 refine Jd [1,1,1,1,1,1,0] [(5,I (Km p)),(17,Bo false)] (Jc (Ja (Qv (Jm (Ja (Jg [0,0] [(4,I (Km p))] (Jk (Jl [0] [I (Km p)] (Jv (Jt.le_refl _) ?_)))))))))
 have hf_:(Ku p now)=(Km p):=by
  unfold Ku;split <;> omega
 · (try rw [hf_]);(simp only [JL];done)
theorem Jho (G:Jt) (vs_p:List Value) (p:QT) (h_p:Ws.R G vs_p p) (now:Int) :QF Tryz.prog 183 #[.agg vs_p.toArray,I now] G [] (fun u G' L'=>u=.tuple #[Bo ((WZ p now).1),I ((WZ p now).2)]):=by
 obtain ⟨rfl,w1,w2,w3,w4,w5,w6⟩:=h_p
 refine JJ Tryz.func183 19 [(0,.agg #[I p.least,I p.most,I p.lost,I p.gap,I p.next,I p.asked]),(1,I now)] rfl (fun w0 G0=>?_)
 refine Je (Jb (Ju 2 #[I p.least,I p.most,I p.lost,I p.gap,I p.next,I p.asked] 56 (fun b1=>Jd [0,0] [(1,I now),(2,Pt b1 0)] (Jc (Ja (Je (Jb (Jd [2,0] [(1,I now),(2,Pt b1 0),(7,.agg #[I p.least,I p.most,I p.lost,I p.gap,I p.next,I p.asked]),(8,I now)] (Ji 9 (I (Ku p now)) (JaJ G [I p.least,I p.most,I p.lost,I p.gap,I p.next,I p.asked] p (⟨rfl,w1,w2,w3,w4,w5,w6⟩) now) (Jd [0] [(1,I now),(2,Pt b1 0),(6,I (Ku p now))] (Jc (Ja (Je (Jb (Jd [0,0,0] [(1,I now),(2,Pt b1 0),(6,I (Ku p now)),(12,Bo (decide (Ku p now=0)))] (KD (decide (Ku p now=0)) (fun bb=>[(1,I now),(2,Pt b1 0),(6,I (Ku p now)),(12,Bo bb)]) [0,0,2,0,0] [1,1,1,1,0] (fun bb=>[(6,I (Ku p now)),(17,Bo (bb && (decide (now ≥ p.next))))]) (Jd [0,0,0] [(4,Bo ((decide (Ku p now=0)) && (decide (now ≥ p.next)))),(5,I (Ku p now))] (Jc (Ja (Jk (Jl [0,0] [Bo ((decide (Ku p now=0)) && (decide (now ≥ p.next))),I (Ku p now)] (Jv (Jt.le_refl _) ?_))))))))))))))))))))))
 have hf_:(WZ p now)=(((decide (Ku p now=0)) && (decide (now ≥ p.next))),(Ku p now)):=by
  rfl
 · (try rw [hf_]);(simp only [JL];done)
theorem Jbw (G:Jt) (now:Int) (n:Int) (hn:-9000000000000000000≤now+n∧now+n≤9000000000000000000):QF Tryz.prog 182 #[I now,I n] G [] (fun u G' L'=>u=I (K1 now n)):=by
 refine JJ Tryz.func182 9 [(0,I now),(1,I n)] rfl (fun w0 G0=>?_)
 refine Jg [0] [(0,I now),(1,I n)] (Jg [0,0,0,0,0] [(4,I (if 1000000000<(IntKind.i64.wrap (now+n)) then 1000000000 else (IntKind.i64.wrap (now+n))))] ?_)
 have e1:IntKind.i64.wrap (now+n)=now+n:=IntWalk.i64_in _ (by omega)
 refine KQ (fr':=[(4,I (if 1000000000<(now+n) then 1000000000 else (now+n)))]) (L':=[]) (by simp only [e1]) (by rfl) ?_
 clear e1
 refine Jk (Jl [0] [I (if 1000000000<(now+n) then 1000000000 else (now+n))] (Jv (Jt.le_refl _) ?_))
 have hf_:(K1 now n)=(if 1000000000<(now+n) then 1000000000 else (now+n)):=by
  unfold K1;split <;> rfl
 · (try rw [hf_]);(simp only [JL];done)
theorem Jcb (G:Jt) (vs_p:List Value) (p:QT) (h_p:Ws.R G vs_p p) (now:Int) :QF Tryz.prog 154 #[.agg vs_p.toArray,I now] G [] (fun u G' L'=>u=.tuple #[.agg #[I (((Kr p now).1).least),I (((Kr p now).1).most),I (((Kr p now).1).lost),I (((Kr p now).1).gap),I (((Kr p now).1).next),I (((Kr p now).1).asked)],I ((Kr p now).2)]):=by
 obtain ⟨rfl,w1,w2,w3,w4,w5,w6⟩:=h_p
 refine JJ Tryz.func154 45 [(0,.agg #[I p.least,I p.most,I p.lost,I p.gap,I p.next,I p.asked]),(1,I now)] rfl (fun w0 G0=>?_)
 refine Je (Jb (Ju 2 #[I p.least,I p.most,I p.lost,I p.gap,I p.next,I p.asked] 56 (fun b1=>Ju 4 #[I 0,I 0,I 0,I 0,I 0,I 0] 56 (fun b2=>Jd [0] [(1,I now),(2,Pt b1 0),(4,Pt b2 0)] (Jc (Ja (Je (Jb (Jd [4,0] [(1,I now),(2,Pt b1 0),(4,Pt b2 0),(9,.agg #[I p.least,I p.most,I p.lost,I p.gap,I p.next,I p.asked]),(10,I now)] (Ji 11 (.tuple #[Bo ((WZ p now).1),I ((WZ p now).2)]) (Jho G [I p.least,I p.most,I p.lost,I p.gap,I p.next,I p.asked] p (⟨rfl,w1,w2,w3,w4,w5,w6⟩) now) (Jd [0,0,0,0,0] [(1,I now),(2,Pt b1 0),(4,Pt b2 0),(6,Bo ((WZ p now).1)),(7,I ((WZ p now).2))] (Jc (Ja (Je (Jz (Jg [0,0,0] [(1,I now),(2,Pt b1 0),(4,Pt b2 0),(6,Bo ((WZ p now).1)),(7,I ((WZ p now).2)),(14,Bo (!decide ((WZ p now).2=0)))] (Jo (!decide ((WZ p now).2=0)) (fun h1=>?_) (fun h1=>?_))))))))))))))))))
 try simp only [BB] at h1
 refine Jg [0,0,3,0] [(4,Pt b2 0),(5,I ((WZ p now).2))] (Jk (Js (Jh (Jl [0,0] [.agg #[I 0,I 0,I 0,I 0,I 0,I 0],I ((WZ p now).2)] (Jv (Jt.le_refl _) ?_)))))
 have hf_:(Kr p now)=((⟨0,0,0,0,0,0⟩:QT),((WZ p now).2)):=by
  unfold Kr YV;(try unfold WZ at *);(repeat' split) <;> rfl
 · (try rw [hf_]);(simp only [JL];done)
 try simp only [BB] at h1
 refine Jg [0,0,0] [(1,I now),(2,Pt b1 0),(4,Pt b2 0),(19,Bo (!((WZ p now).1)))] (Jo (!((WZ p now).1)) (fun h2=>?_) (fun h2=>?_))
 try simp only [BB] at h2
 refine Jg [0,3,0] [(4,Pt b2 0),(5,I 9)] (Jk (Js (Jh (Jl [0,0] [.agg #[I 0,I 0,I 0,I 0,I 0,I 0],I 9] (Jv (Jt.le_refl _) ?_)))))
 have hf_:(Kr p now)=((⟨0,0,0,0,0,0⟩:QT),9):=by
  unfold Kr YV;(try unfold WZ at *);(repeat' split) <;> first | rfl | (exfalso;omega) | (simp_all;done)
 · (try rw [hf_]);(simp only [JL];done)
 try simp only [BB] at h2
 refine Jg [0,4,0,0] [(1,I now),(2,Pt b1 0),(4,Pt b2 0),(23,Bo (decide (p.asked=1000000)))] (Jo (decide (p.asked=1000000)) (fun h3=>?_) (fun h3=>?_))
 try simp only [BB] at h3
 refine Jg [0,3,0] [(4,Pt b2 0),(5,I 7)] (Jk (Js (Jh (Jl [0,0] [.agg #[I 0,I 0,I 0,I 0,I 0,I 0],I 7] (Jv (Jt.le_refl _) ?_)))))
 have hf_:(Kr p now)=((⟨0,0,0,0,0,0⟩:QT),7):=by
  unfold Kr YV;(try unfold WZ at *);(repeat' split) <;> first | rfl | (exfalso;omega) | (exfalso;simp_all;omega)
 · (try rw [hf_]);(simp only [JL];done)
 try simp only [BB] at h3
 refine Jm (JM (Ja (WM [0,4,0,0,5] [(1,I now),(2,Pt b1 0),(4,Pt b2 0)] [[Sg b2 0 [I 0,I 0,I 0,I 0,I 0,I 0]],[Sg b1 0 [I p.least,I p.most,I p.lost,I p.gap,I p.next,I (IntKind.i64.wrap (p.asked+1))]]] ?_)))
 have e1:IntKind.i64.wrap (p.asked+1)=p.asked+1:=IntWalk.i64_in _ (by (have q_:=Ja4 (p:=p) (now:=now) ‹_›;omega))
 refine KQ (fr':=[(1,I now),(2,Pt b1 0),(4,Pt b2 0)]) (L':=[[Sg b2 0 [I 0,I 0,I 0,I 0,I 0,I 0]],[Sg b1 0 [I p.least,I p.most,I p.lost,I p.gap,I p.next,I (p.asked+1)]]]) (by rfl) (by simp only [e1]) ?_
 clear e1
 refine Je (Jb (Jd [0,0,4] [(2,Pt b1 0),(4,Pt b2 0),(32,I now),(34,I p.gap)] (Ji 35 (I (K1 now p.gap)) (Jbw G now p.gap (by (have q_:=Ja4 (p:=p) (now:=now) ‹_›;omega))) (Kd [0,5] [(2,Pt b1 0),(4,Pt b2 0)] [[Sg b2 0 [I 0,I 0,I 0,I 0,I 0,I 0]],[Sg b1 0 [I p.least,I p.most,I p.lost,I p.gap,I (K1 now p.gap),I (p.asked+1)]]] (Jc (Ja (WM [0,4,0,0,4,0,0,5] [(2,Pt b1 0),(4,Pt b2 0)] [[Sg b2 0 [I 0,I 0,I 0,I 0,I 0,I 0]],[Sg b1 0 [I p.least,I p.most,I p.lost,I (if p.most<(IntKind.i64.wrap (2*p.gap)) then p.most else (IntKind.i64.wrap (2*p.gap))),I (K1 now p.gap),I (p.asked+1)]]] ?_)))))))
 have e2:IntKind.i64.wrap (2*p.gap)=2*p.gap:=IntWalk.i64_in _ (by (have q_:=Ja4 (p:=p) (now:=now) ‹_›;omega))
 refine KQ (fr':=[(2,Pt b1 0),(4,Pt b2 0)]) (L':=[[Sg b2 0 [I 0,I 0,I 0,I 0,I 0,I 0]],[Sg b1 0 [I p.least,I p.most,I p.lost,I (if p.most<(2*p.gap) then p.most else (2*p.gap)),I (K1 now p.gap),I (p.asked+1)]]]) (by rfl) (by simp only [e2]) ?_
 clear e2
 refine WM [4,3,0] [(4,Pt b2 0),(5,I 0)] [[Sg b2 0 [I p.least,I p.most,I p.lost,I (if p.most<(2*p.gap) then p.most else (2*p.gap)),I (K1 now p.gap),I (p.asked+1)]],[Sg b1 0 [I p.least,I p.most,I p.lost,I (if p.most<(2*p.gap) then p.most else (2*p.gap)),I (K1 now p.gap),I (p.asked+1)]]] (Jk (Jl [0,0] [.agg #[I p.least,I p.most,I p.lost,I (if p.most<(2*p.gap) then p.most else (2*p.gap)),I (K1 now p.gap),I (p.asked+1)],I 0] (Jv (Jt.le_refl _) ?_)))
 have hf_:(Kr p now)=((⟨p.least,p.most,p.lost,if p.most<(2*p.gap) then p.most else (2*p.gap),K1 now p.gap,p.asked+1⟩:QT),0):=by
  unfold Kr YV;(try unfold WZ at *);(repeat' split) <;> first | rfl | (exfalso;omega) | (exfalso;simp_all;omega)
 · (try rw [hf_]);(simp only [JL];done)
theorem Jhp (G:Jt) (a:Int) (hw_a:rI a) (b:Int) (hw_b:rI b) (c:Int) (hw_c:rI c) :QF Tryz.prog 69 #[I a,I b,I c] G [] (fun u G' L'=>u=.tuple #[.agg #[I (((KL a b c).1).least),I (((KL a b c).1).most),I (((KL a b c).1).lost),I (((KL a b c).1).gap),I (((KL a b c).1).next),I (((KL a b c).1).asked)],I ((KL a b c).2)]):=by
 refine JJ Tryz.func69 22 [(0,I a),(1,I b),(2,I c)] rfl (fun w0 G0=>?_)
 refine Je (Jb (Ju 6 #[I 0,I 0,I 0,I 0,I 0,I 0] 56 (fun b1=>Jd [0] [(0,I a),(1,I b),(2,I c),(6,Pt b1 0)] (Jc (Ja (Je (Jb (Jd [0,0,0,0,0] [(6,Pt b1 0),(14,.agg #[I a,I b,I c,I a,I 0,I 0])] (Ju 8 #[I 0,I 0,I 0,I 0,I 0,I 0] 56 (fun b2=>Kd [3] [(6,Pt b1 0),(8,Pt b2 0)] [[Sg b2 0 [I a,I b,I c,I a,I 0,I 0]],[Sg b1 0 [I 0,I 0,I 0,I 0,I 0,I 0]]] (Jc (Ja (Je (Je (Jb (Jd [2] [(6,Pt b1 0),(8,Pt b2 0),(15,.agg #[I a,I b,I c,I a,I 0,I 0])] (Ji 16 (I (Km (⟨a,b,c,a,0,0⟩:QT))) (V9 G [I a,I b,I c,I a,I 0,I 0] (⟨a,b,c,a,0,0⟩:QT) (⟨rfl,hw_a,hw_b,hw_c,hw_a,(by (simp;done)),(by (simp;done))⟩)) (Jd [0] [(6,Pt b1 0),(8,Pt b2 0),(9,I (Km (⟨a,b,c,a,0,0⟩:QT)))] (Jc (Ja (Jg [0,0] [(6,Pt b1 0),(8,Pt b2 0),(9,I (Km (⟨a,b,c,a,0,0⟩:QT))),(18,Bo (!decide (Km (⟨a,b,c,a,0,0⟩:QT)=0)))] (Jo (!decide (Km (⟨a,b,c,a,0,0⟩:QT)=0)) (fun h1=>?_) (fun h1=>?_)))))))))))))))))))))))
 try simp only [BB] at h1
 refine Jg [0,0,5,0] [(6,Pt b1 0),(7,I (Km (⟨a,b,c,a,0,0⟩:QT)))] (Jk (Jh (Jl [1,0] [.agg #[I 0,I 0,I 0,I 0,I 0,I 0],I (Km (⟨a,b,c,a,0,0⟩:QT))] (Jv (Jt.le_refl _) ?_))))
 have hf_:(KL a b c)=((⟨0,0,0,0,0,0⟩:QT),(Km (⟨a,b,c,a,0,0⟩:QT))):=by
  rw [W8] at *;unfold KL YV;split <;> first | (rename_i hx;rw [Jbv hx];done) | contradiction
 · (try rw [hf_]);(simp only [JL];done)
 try simp only [BB] at h1
 refine Jm (Ja (WM [2,5,0] [(6,Pt b1 0),(7,I 0)] [[Sg b2 0 [I a,I b,I c,I a,I 0,I 0]],[Sg b1 0 [I a,I b,I c,I a,I 0,I 0]]] (Jk (Jl [1,0] [.agg #[I a,I b,I c,I a,I 0,I 0],I 0] (Jv (Jt.le_refl _) ?_)))))
 have hf_:(KL a b c)=((⟨a,b,c,a,0,0⟩:QT),0):=by
  rw [W8] at *;unfold KL YV;split <;> rfl
 · (try rw [hf_]);(simp only [JL];done)
theorem JeO (G:Jt) (vs_p:List Value) (p:QT) (h_p:Ws.R G vs_p p) (now:Int) :QF Tryz.prog 153 #[.agg vs_p.toArray,I now] G [] (fun u G' L'=>u=.tuple #[.agg #[I (((QS p now).1).least),I (((QS p now).1).most),I (((QS p now).1).lost),I (((QS p now).1).gap),I (((QS p now).1).next),I (((QS p now).1).asked)],I ((QS p now).2)]):=by
 obtain ⟨rfl,w1,w2,w3,w4,w5,w6⟩:=h_p
 refine JJ Tryz.func153 27 [(0,.agg #[I p.least,I p.most,I p.lost,I p.gap,I p.next,I p.asked]),(1,I now)] rfl (fun w0 G0=>?_)
 refine Je (Jb (Ju 2 #[I p.least,I p.most,I p.lost,I p.gap,I p.next,I p.asked] 56 (fun b1=>Ju 4 #[I 0,I 0,I 0,I 0,I 0,I 0] 56 (fun b2=>Jd [0] [(1,I now),(2,Pt b1 0),(4,Pt b2 0)] (Jc (Ja (Je (Je (Jb (Jd [4,0] [(1,I now),(2,Pt b1 0),(4,Pt b2 0),(7,.agg #[I p.least,I p.most,I p.lost,I p.gap,I p.next,I p.asked]),(8,I now)] (Ji 9 (I (Ku p now)) (JaJ G [I p.least,I p.most,I p.lost,I p.gap,I p.next,I p.asked] p (⟨rfl,w1,w2,w3,w4,w5,w6⟩) now) (Jd [0] [(1,I now),(2,Pt b1 0),(4,Pt b2 0),(6,I (Ku p now))] (Jc (Ja (Jg [0,0] [(1,I now),(2,Pt b1 0),(4,Pt b2 0),(6,I (Ku p now)),(11,Bo (!decide (Ku p now=0)))] (Jo (!decide (Ku p now=0)) (fun h1=>?_) (fun h1=>?_)))))))))))))))))
 try simp only [BB] at h1
 refine Jg [0,0,3,0] [(4,Pt b2 0),(5,I (Ku p now))] (Jk (Jh (Jl [0,0] [.agg #[I 0,I 0,I 0,I 0,I 0,I 0],I (Ku p now)] (Jv (Jt.le_refl _) ?_))))
 have hf_:(QS p now)=((⟨0,0,0,0,0,0⟩:QT),(Ku p now)):=by
  unfold QS YV;(repeat' split) <;> rfl
 · (try rw [hf_]);(simp only [JL];done)
 try simp only [BB] at h1
 refine Jm (Ja (WM [0,4,0,5,0,5] [(1,I now),(2,Pt b1 0),(4,Pt b2 0)] [[Sg b2 0 [I 0,I 0,I 0,I 0,I 0,I 0]],[Sg b1 0 [I p.least,I p.most,I p.lost,I p.least,I p.next,I 0]]] (Je (KB [8] (Wr [(0,Pt b1 4),(1,I p.next),(2,I now),(3,Pt b1 0),(4,I p.least),(5,I (K1 now p.least)),(6,I (if (K1 now p.least)<p.next then (K1 now p.least) else p.next)),(7,Pt b1 4)] (J1 [] [(0,0),(1,4),(2,0),(3,0),(4,4),(6,0),(7,0)] [5] [8] (List.forall_mem_cons.2 ⟨?_,List.forall_mem_nil _⟩) (List.forall_mem_cons.2 ⟨?_,List.forall_mem_nil _⟩)))))))
 refine Jr 5 23 (I (K1 now p.least)) [(20,I now),(22,I p.least)] (fun X=>?_)
 exact Ji 23 (I (K1 now p.least)) (Jbw G now p.least (by (have q_:=Ja4 (p:=p) (now:=now) ‹_›;omega))) Jp
 refine JS 8 [(24,I (if (K1 now p.least)<p.next then (K1 now p.least) else p.next)),(25,Pt b1 4)] (fun X=>?_)
 refine K2 1 [[Sg b2 0 [I 0,I 0,I 0,I 0,I 0,I 0]],[Sg b1 0 [I p.least,I p.most,I p.lost,I p.least,I (if (K1 now p.least)<p.next then (K1 now p.least) else p.next),I 0]]] (Kp [] (KA [0,1,2,3,4,5,6,7] [] [] [(2,Pt b1 0),(4,Pt b2 0)] (List.forall_mem_nil _) (Ja (WM [4,3,0] [(4,Pt b2 0),(5,I 0)] [[Sg b2 0 [I p.least,I p.most,I p.lost,I p.least,I (if (K1 now p.least)<p.next then (K1 now p.least) else p.next),I 0]],[Sg b1 0 [I p.least,I p.most,I p.lost,I p.least,I (if (K1 now p.least)<p.next then (K1 now p.least) else p.next),I 0]]] (Jk (Jl [0,0] [.agg #[I p.least,I p.most,I p.lost,I p.least,I (if (K1 now p.least)<p.next then (K1 now p.least) else p.next),I 0],I 0] (Jv (Jt.le_refl _) ?_)))))))
 have hf_:(QS p now)=((⟨p.least,p.most,p.lost,p.least,if (K1 now p.least)<p.next then (K1 now p.least) else p.next,0⟩:QT),0):=by
  unfold QS YV;(repeat' split) <;> first | rfl | (exfalso;omega)
 · (try rw [hf_]);(simp only [JL];done)
theorem Jbx (G:Jt) (vs_p:List Value) (p:QT) (h_p:Ws.R G vs_p p) :QF Tryz.prog 155 #[.agg vs_p.toArray] G [] (fun u G' L'=>u=.tuple #[Bo ((W9 p).1),I ((W9 p).2)]):=by
 obtain ⟨rfl,w1,w2,w3,w4,w5,w6⟩:=h_p
 refine JJ Tryz.func155 17 [(0,.agg #[I p.least,I p.most,I p.lost,I p.gap,I p.next,I p.asked])] rfl (fun w0 G0=>?_)
 refine Je (Jb (Ju 1 #[I p.least,I p.most,I p.lost,I p.gap,I p.next,I p.asked] 56 (fun b1=>Jd [0,0] [(1,Pt b1 0)] (Jc (Ja (Je (Jb (Jd [2] [(1,Pt b1 0),(5,.agg #[I p.least,I p.most,I p.lost,I p.gap,I p.next,I p.asked])] (Ji 6 (I (Km p)) (V9 G [I p.least,I p.most,I p.lost,I p.gap,I p.next,I p.asked] p (⟨rfl,w1,w2,w3,w4,w5,w6⟩)) (Jd [0] [(1,Pt b1 0),(4,I (Km p))] (Jc (Ja (Je (Jb (Jd [0,0,0] [(1,Pt b1 0),(4,I (Km p)),(9,Bo (decide (Km p=0)))] (KD (decide (Km p=0)) (fun bb=>[(1,Pt b1 0),(4,I (Km p)),(9,Bo bb)]) [0,2,0,2,0,0] [1,1,1,1,1,0] (fun bb=>[(4,I (Km p)),(15,Bo (bb && (decide (p.asked ≥ p.lost))))]) (Jd [0,0,0] [(2,Bo ((decide (Km p=0)) && (decide (p.asked ≥ p.lost)))),(3,I (Km p))] (Jc (Ja (Jk (Jl [0,0] [Bo ((decide (Km p=0)) && (decide (p.asked ≥ p.lost))),I (Km p)] (Jv (Jt.le_refl _) ?_))))))))))))))))))))))
 have hf_:(W9 p)=(((decide (Km p=0)) && (decide (p.asked ≥ p.lost))),(Km p)):=by
  rfl
 · (try rw [hf_]);(simp only [JL];done)
end Go.Proofs.YtnnlpbjdignhaaaGreatDoor
