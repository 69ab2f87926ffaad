import Derived.Test.YtnnlpbjdignhaaaGreatDoorTgTy
namespace Go.Proofs.YtnnlpbjdignhaaaGreatDoor
open Go.Tx
set_option linter.unusedVariables false
set_option linter.unusedSimpArgs false
def Yf (p:QF):Prop:=1≤p.least∧p.least≤p.most∧p.most≤1000∧1≤p.lost∧p.lost≤100∧p.least≤p.gap∧p.gap≤p.most∧0≤p.next∧p.next≤1000000000∧0≤p.asked∧p.asked≤1000000
instance (p:QF):Decidable (Yf p):=inferInstanceAs (Decidable (_∧_))
def Km (p:QF):Int:=if Yf p then 0 else 4
theorem Wu (p:QF):Km p=0 ↔ Yf p:=by unfold Km;split <;> simp_all
theorem Jgn (p:QF):Km p=0∨Km p=4:=by unfold Km;split <;> simp
theorem JaL {p:QF} (h:Yf p):Km p=0:=if_pos h
theorem JbC {p:QF} (h:¬ Yf p):Km p=4:=if_neg h
def Ku (p:QF) (now:Int):Int:=if Km p=0∧(now<0∨1000000000<now) then 4 else Km p
theorem JaM (p:QF) (now:Int):Ku p now=0 ↔ (Yf p∧0≤now∧now≤1000000000):=by
 rw [← Wu];unfold Ku;have:=Jgn p;split <;> omega
theorem Jbb {p:QF} {now:Int} (h:Ku p now=0):1≤p.least∧p.least≤p.most∧p.most≤1000∧1≤p.lost∧p.lost≤100∧p.least≤p.gap∧p.gap≤p.most∧0≤p.next∧p.next≤1000000000∧0≤p.asked∧p.asked≤1000000∧0≤now∧now≤1000000000:=by
 have:=(JaM p now).1 h;unfold Yf at this;omega
def KV (now n:Int):Int:=if 1000000000<now+n then 1000000000 else now+n
def Y1:QF:=⟨0,0,0,0,0,0⟩
def Kn (p:QF) (now:Int):QF×Int :=
 if Ku p now ≠ 0 then (Y1,Ku p now) else if now<p.next then (Y1,9) else if p.asked=1000000 then (Y1,7) else
 (⟨p.least,p.most,p.lost,if p.most<2*p.gap then p.most else 2*p.gap,KV now p.gap,p.asked+1⟩,0)
def KH (least top lost:Int):QF×Int:=if Yf ⟨least,top,lost,least,0,0⟩ then (⟨least,top,lost,least,0,0⟩,0) else (Y1,4)
def Qn (p:QF) (now:Int):QF×Int :=
 if Ku p now ≠ 0 then (Y1,Ku p now) else
 (⟨p.least,p.most,p.lost,p.least,if KV now p.least<p.next then KV now p.least else p.next,0⟩,0)
theorem Jbc {p:QF} {now:Int} (h:(Kn p now).2=0) :
  1≤p.least∧p.least≤p.most∧p.most≤1000∧1≤p.lost∧p.lost≤100∧p.least≤p.gap∧p.gap≤p.most∧0≤p.next∧p.next≤1000000000∧0≤p.asked∧p.asked<1000000∧0≤now∧now≤1000000000∧p.next≤now ∧
  Km (Kn p now).1=0∧(Kn p now).1.least=p.least∧(Kn p now).1.most=p.most∧(Kn p now).1.lost=p.lost∧(Kn p now).1.asked=p.asked+1 ∧
  (p.most<2*p.gap∧(Kn p now).1.gap=p.most∨2*p.gap≤p.most∧(Kn p now).1.gap=2*p.gap) ∧
  (1000000000<now+p.gap∧(Kn p now).1.next=1000000000∨now+p.gap≤1000000000∧(Kn p now).1.next=now+p.gap):=by
 unfold Kn at h ⊢
 split at h
 ·
  contradiction
 split at h
 ·
  cases h
 split at h
 ·
  cases h
 rename_i h1 h2 h3
 have hb:=Jbb (p:=p) (now:=now) (by omega)
 rw [if_neg h1,if_neg h2,if_neg h3]
 dsimp only
 refine ⟨by omega,by omega,by omega,by omega,by omega,by omega,by omega,by omega,by omega,by omega,by omega,by omega,by omega,by omega,JaL ?_,rfl,rfl,rfl,rfl,?_,?_⟩
 ·
  unfold Yf KV;simp only;(repeat' split) <;> omega
 ·
  split <;> omega
 ·
  unfold KV;split <;> omega
theorem Jgo {p:QF} {now:Int} (h:(Kn p now).2 ≠ 0):(Kn p now).1=Y1:=by
 revert h;unfold Kn;(repeat' split) <;> simp
theorem Jgp {p:QF} {now:Int} (h:(Qn p now).2=0):Ku p now=0∧Qn p now=(⟨p.least,p.most,p.lost,p.least,if KV now p.least<p.next then KV now p.least else p.next,0⟩,0):=by
 revert h;unfold Qn;split
 ·
  intro h;exact absurd h ‹_›
 ·
  intro _;exact ⟨by omega,rfl⟩
theorem JbU {a b c:Int} (h:(KH a b c).2=0):Yf ⟨a,b,c,a,0,0⟩∧KH a b c=(⟨a,b,c,a,0,0⟩,0):=by
 revert h;unfold KH;split
 ·
  rename_i h1;intro _;exact ⟨h1,rfl⟩
 ·
  simp
theorem Jhw {a b c:Int} (h:(KH a b c).2 ≠ 0):(KH a b c).1=Y1:=by
 revert h;unfold KH;split <;> simp
def Vh (p:QF):Bool:=decide (Km p=0) && decide (p.asked ≥ p.lost)
theorem Jgq (p:QF):Vh p=true ↔ Km p=0∧p.lost≤p.asked:=by simp [Vh]
def W1 (p:QF) (now:Int):Bool×Int:=(decide (Ku p now=0) && decide (now ≥ p.next),Ku p now)
def Zb (p:QF):Bool×Int:=(Vh p,Km p)
theorem Jag (G:Jt) (vs_p:List Value) (p:QF) (h_p:Wt.R G vs_p p) :QI Tryz.prog 14 #[.agg vs_p.toArray] G [] (fun u G' L'=>u=I (Km p)):=by
 obtain ⟨rfl,_,_,_,_,_,_⟩:=h_p
 refine JK Tryz.func14 62 [(0,.agg #[I p.least,I p.most,I p.lost,I p.gap,I p.next,I p.asked])] rfl (fun w0 G0=>?_)
 refine Je (Jb (Ju 1 #[I p.least,I p.most,I p.lost,I p.gap,I p.next,I p.asked] 56 (fun b1=>Jd [0] [(1,Pt b1 0)] (Jc (Ja (Je (Je (Jb (Jd [0,2,0,0] [(1,Pt b1 0),(6,Bo (decide (p.least<1)))] (KD (decide (p.least<1)) (fun bb=>[(1,Pt b1 0),(6,Bo bb)]) [1,1,1,1,1,0] [0,2,0,2,0,0] (fun bb=>[(1,Pt b1 0),(12,Bo (bb || (decide (p.least > p.most))))]) (Jd [0] [(1,Pt b1 0),(13,Bo ((decide (p.least<1)) || (decide (p.least > p.most))))] (KD ((decide (p.least<1)) || (decide (p.least > p.most))) (fun bb=>[(1,Pt b1 0),(13,Bo bb)]) [1,1,1,0] [0,2,0,0] (fun bb=>[(1,Pt b1 0),(17,Bo (bb || (decide (p.most > 1000))))]) (Jd [0] [(1,Pt b1 0),(18,Bo (((decide (p.least<1)) || (decide (p.least > p.most))) || (decide (p.most > 1000))))] (KD (((decide (p.least<1)) || (decide (p.least > p.most))) || (decide (p.most > 1000))) (fun bb=>[(1,Pt b1 0),(18,Bo bb)]) [1,1,1,0] [0,2,0,0] (fun bb=>[(1,Pt b1 0),(22,Bo (bb || (decide (p.lost<1))))]) (Jd [0] [(1,Pt b1 0),(23,Bo ((((decide (p.least<1)) || (decide (p.least > p.most))) || (decide (p.most > 1000))) || (decide (p.lost<1))))] (KD ((((decide (p.least<1)) || (decide (p.least > p.most))) || (decide (p.most > 1000))) || (decide (p.lost<1))) (fun bb=>[(1,Pt b1 0),(23,Bo bb)]) [1,1,1,0] [0,2,0,0] (fun bb=>[(1,Pt b1 0),(27,Bo (bb || (decide (p.lost > 100))))]) ?_))))))))))))))))
 refine Jd [0] [(1,Pt b1 0),(28,Bo (((((decide (p.least<1)) || (decide (p.least > p.most))) || (decide (p.most > 1000))) || (decide (p.lost<1))) || (decide (p.lost > 100))))] (KD (((((decide (p.least<1)) || (decide (p.least > p.most))) || (decide (p.most > 1000))) || (decide (p.lost<1))) || (decide (p.lost > 100))) (fun bb=>[(1,Pt b1 0),(28,Bo bb)]) [1,1,1,1,1,0] [0,2,0,2,0,0] (fun bb=>[(1,Pt b1 0),(34,Bo (bb || (decide (p.gap<p.least))))]) (Jd [0] [(1,Pt b1 0),(35,Bo ((((((decide (p.least<1)) || (decide (p.least > p.most))) || (decide (p.most > 1000))) || (decide (p.lost<1))) || (decide (p.lost > 100))) || (decide (p.gap<p.least))))] (KD ((((((decide (p.least<1)) || (decide (p.least > p.most))) || (decide (p.most > 1000))) || (decide (p.lost<1))) || (decide (p.lost > 100))) || (decide (p.gap<p.least))) (fun bb=>[(1,Pt b1 0),(35,Bo bb)]) [1,1,1,1,1,0] [0,2,0,2,0,0] (fun bb=>[(1,Pt b1 0),(41,Bo (bb || (decide (p.gap > p.most))))]) (Jd [0] [(1,Pt b1 0),(42,Bo (((((((decide (p.least<1)) || (decide (p.least > p.most))) || (decide (p.most > 1000))) || (decide (p.lost<1))) || (decide (p.lost > 100))) || (decide (p.gap<p.least))) || (decide (p.gap > p.most))))] (KD (((((((decide (p.least<1)) || (decide (p.least > p.most))) || (decide (p.most > 1000))) || (decide (p.lost<1))) || (decide (p.lost > 100))) || (decide (p.gap<p.least))) || (decide (p.gap > p.most))) (fun bb=>[(1,Pt b1 0),(42,Bo bb)]) [1,1,1,0] [0,2,0,0] (fun bb=>[(1,Pt b1 0),(46,Bo (bb || (decide (p.next<0))))]) (Jd [0] [(1,Pt b1 0),(47,Bo ((((((((decide (p.least<1)) || (decide (p.least > p.most))) || (decide (p.most > 1000))) || (decide (p.lost<1))) || (decide (p.lost > 100))) || (decide (p.gap<p.least))) || (decide (p.gap > p.most))) || (decide (p.next<0))))] (KD ((((((((decide (p.least<1)) || (decide (p.least > p.most))) || (decide (p.most > 1000))) || (decide (p.lost<1))) || (decide (p.lost > 100))) || (decide (p.gap<p.least))) || (decide (p.gap > p.most))) || (decide (p.next<0))) (fun bb=>[(1,Pt b1 0),(47,Bo bb)]) [1,1,1,0] [0,2,0,0] (fun bb=>[(1,Pt b1 0),(51,Bo (bb || (decide (p.next > 1000000000))))]) (Jd [0] [(1,Pt b1 0),(52,Bo (((((((((decide (p.least<1)) || (decide (p.least > p.most))) || (decide (p.most > 1000))) || (decide (p.lost<1))) || (decide (p.lost > 100))) || (decide (p.gap<p.least))) || (decide (p.gap > p.most))) || (decide (p.next<0))) || (decide (p.next > 1000000000))))] (KD (((((((((decide (p.least<1)) || (decide (p.least > p.most))) || (decide (p.most > 1000))) || (decide (p.lost<1))) || (decide (p.lost > 100))) || (decide (p.gap<p.least))) || (decide (p.gap > p.most))) || (decide (p.next<0))) || (decide (p.next > 1000000000))) (fun bb=>[(1,Pt b1 0),(52,Bo bb)]) [1,1,1,0] [0,2,0,0] (fun bb=>[(1,Pt b1 0),(56,Bo (bb || (decide (p.asked<0))))]) (Jd [0] [(1,Pt b1 0),(57,Bo ((((((((((decide (p.least<1)) || (decide (p.least > p.most))) || (decide (p.most > 1000))) || (decide (p.lost<1))) || (decide (p.lost > 100))) || (decide (p.gap<p.least))) || (decide (p.gap > p.most))) || (decide (p.next<0))) || (decide (p.next > 1000000000))) || (decide (p.asked<0))))] ?_))))))))))
 refine KD ((((((((((decide (p.least<1)) || (decide (p.least > p.most))) || (decide (p.most > 1000))) || (decide (p.lost<1))) || (decide (p.lost > 100))) || (decide (p.gap<p.least))) || (decide (p.gap > p.most))) || (decide (p.next<0))) || (decide (p.next > 1000000000))) || (decide (p.asked<0))) (fun bb=>[(1,Pt b1 0),(57,Bo bb)]) [1,1,1,0] [0,2,0,0] (fun bb=>[(61,Bo (bb || (decide (p.asked > 1000000))))]) (Jc (Ja (Jo (((((((((((decide (p.least<1)) || (decide (p.least > p.most))) || (decide (p.most > 1000))) || (decide (p.lost<1))) || (decide (p.lost > 100))) || (decide (p.gap<p.least))) || (decide (p.gap > p.most))) || (decide (p.next<0))) || (decide (p.next > 1000000000))) || (decide (p.asked<0))) || (decide (p.asked > 1000000))) (fun h1=>?_) (fun h1=>?_))))
 try simp only [BB] at h1
 refine Jg [0] [(2,I 4)] (Jk (Jh (Jl [0] [I 4] (Jv (Jt.le_refl _) ?_))))
 have hf_:(Km p)=4:=by
  exact JbC (by unfold Yf;omega)
 · (try rw [hf_]);(simp only [JM];done)
 try simp only [BB] at h1
 refine Jn (Ja (Jg [0] [(2,I 0)] (Jk (Jl [0] [I 0] (Jv (Jt.le_refl _) ?_)))))
 have hf_:(Km p)=0:=by
  exact JaL (by unfold Yf;omega)
 · (try rw [hf_]);(simp only [JM];done)
theorem JaR (G:Jt) (vs_p:List Value) (p:QF) (h_p:Wt.R G vs_p p) (now:Int) :QI Tryz.prog 181 #[.agg vs_p.toArray,I now] G [] (fun u G' L'=>u=I (Ku p now)):=by
 obtain ⟨rfl,w1,w2,w3,w4,w5,w6⟩:=h_p
 refine JK Tryz.func181 19 [(0,.agg #[I p.least,I p.most,I p.lost,I p.gap,I p.next,I p.asked]),(1,I now)] rfl (fun w0 G0=>?_)
 refine Je (Jb (Ju 2 #[I p.least,I p.most,I p.lost,I p.gap,I p.next,I p.asked] 56 (fun b1=>Jd [0] [(1,I now),(2,Pt b1 0)] (Jc (Ja (Je (Jb (Jd [2] [(1,I now),(6,.agg #[I p.least,I p.most,I p.lost,I p.gap,I p.next,I p.asked])] (Ji 7 (I (Km p)) (Jag G [I p.least,I p.most,I p.lost,I p.gap,I p.next,I p.asked] p (⟨rfl,w1,w2,w3,w4,w5,w6⟩)) (Jd [0] [(1,I now),(5,I (Km p))] (Jc (Ja (Je (Je (Jb (Jd [0,0,0] [(1,I now),(5,I (Km p)),(10,Bo (decide (Km p=0)))] (We (fun bb=>[(1,I now),(5,I (Km p)),(10,Bo bb)]) (decide (Km p=0)) (fun h1=>?_) (fun h1=>?_))))))))))))))))))
 try simp only [BB] at h1
 refine Jd [0,0,0] [(1,I now),(5,I (Km p)),(10,Bo true),(13,Bo (decide (now<0)))] (KD (decide (now<0)) (fun bb=>[(1,I now),(5,I (Km p)),(10,Bo true),(13,Bo bb)]) [1,1,0] [0,0,0] (fun bb=>[(5,I (Km p)),(10,Bo true),(16,Bo (bb || (decide (now > 1000000000))))]) (Jd [0] [(5,I (Km p)),(17,Bo ((decide (now<0)) || (decide (now > 1000000000))))] (Jc (Ja (Jo ((decide (now<0)) || (decide (now > 1000000000))) (fun h2=>?_) (fun h2=>?_))))))
 try simp only [BB] at h2
 refine Jb (Jd [0] [(5,I 4)] (Jc (Ja (Jg [0,0] [(4,I 4)] (Jk (Jl [0] [I 4] (Jv (Jt.le_refl _) ?_)))))))
 have hf_:(Ku p now)=4:=by
  unfold Ku;split <;> omega
 · (try rw [hf_]);(simp only [JM];done)
 try simp only [BB] at h2
 refine Jn (Ja (Jg [0,0] [(4,I (Km p))] (Jk (Jl [0] [I (Km p)] (Jv (Jt.le_refl _) ?_)))))
 have hf_:(Ku p now)=(Km p):=by
  unfold Ku;split <;> omega
 · (try rw [hf_]);(simp only [JM];done)
 try simp only [BB] at h1
 refine Jd [1,1,1,1,1,1,0] [(5,I (Km p)),(17,Bo false)] (Jc (Ja (Qw (Jn (Ja (Jg [0,0] [(4,I (Km p))] (Jk (Jl [0] [I (Km p)] (Jv (Jt.le_refl _) ?_)))))))))
 have hf_:(Ku p now)=(Km p):=by
  unfold Ku;split <;> omega
 · (try rw [hf_]);(simp only [JM];done)
theorem Jhx (G:Jt) (vs_p:List Value) (p:QF) (h_p:Wt.R G vs_p p) (now:Int) :QI Tryz.prog 183 #[.agg vs_p.toArray,I now] G [] (fun u G' L'=>u=.tuple #[Bo ((W1 p now).1),I ((W1 p now).2)]):=by
 obtain ⟨rfl,w1,w2,w3,w4,w5,w6⟩:=h_p
 refine JK Tryz.func183 19 [(0,.agg #[I p.least,I p.most,I p.lost,I p.gap,I p.next,I p.asked]),(1,I now)] rfl (fun w0 G0=>?_)
 refine Je (Jb (Ju 2 #[I p.least,I p.most,I p.lost,I p.gap,I p.next,I p.asked] 56 (fun b1=>Jd [0,0] [(1,I now),(2,Pt b1 0)] (Jc (Ja (Je (Jb (Jd [2,0] [(1,I now),(2,Pt b1 0),(7,.agg #[I p.least,I p.most,I p.lost,I p.gap,I p.next,I p.asked]),(8,I now)] (Ji 9 (I (Ku p now)) (JaR G [I p.least,I p.most,I p.lost,I p.gap,I p.next,I p.asked] p (⟨rfl,w1,w2,w3,w4,w5,w6⟩) now) (Jd [0] [(1,I now),(2,Pt b1 0),(6,I (Ku p now))] (Jc (Ja (Je (Jb (Jd [0,0,0] [(1,I now),(2,Pt b1 0),(6,I (Ku p now)),(12,Bo (decide (Ku p now=0)))] (KD (decide (Ku p now=0)) (fun bb=>[(1,I now),(2,Pt b1 0),(6,I (Ku p now)),(12,Bo bb)]) [0,0,2,0,0] [1,1,1,1,0] (fun bb=>[(6,I (Ku p now)),(17,Bo (bb && (decide (now ≥ p.next))))]) (Jd [0,0,0] [(4,Bo ((decide (Ku p now=0)) && (decide (now ≥ p.next)))),(5,I (Ku p now))] (Jc (Ja (Jk (Jl [0,0] [Bo ((decide (Ku p now=0)) && (decide (now ≥ p.next))),I (Ku p now)] (Jv (Jt.le_refl _) ?_))))))))))))))))))))))
 have hf_:(W1 p now)=(((decide (Ku p now=0)) && (decide (now ≥ p.next))),(Ku p now)):=by
  rfl
 · (try rw [hf_]);(simp only [JM];done)
theorem JbD (G:Jt) (now:Int) (n:Int) (hn:-9000000000000000000≤now+n∧now+n≤9000000000000000000):QI Tryz.prog 182 #[I now,I n] G [] (fun u G' L'=>u=I (KV now n)):=by
 refine JK Tryz.func182 9 [(0,I now),(1,I n)] rfl (fun w0 G0=>?_)
 refine Jg [0] [(0,I now),(1,I n)] (Jg [0,0,0,0,0] [(4,I (if 1000000000<(IntKind.i64.wrap (now+n)) then 1000000000 else (IntKind.i64.wrap (now+n))))] ?_)
 have e1:IntKind.i64.wrap (now+n)=now+n:=IntWalk.i64_in _ (by omega)
 refine KP (fr':=[(4,I (if 1000000000<(now+n) then 1000000000 else (now+n)))]) (L':=[]) (by simp only [e1]) (by rfl) ?_
 clear e1
 refine Jk (Jl [0] [I (if 1000000000<(now+n) then 1000000000 else (now+n))] (Jv (Jt.le_refl _) ?_))
 have hf_:(KV now n)=(if 1000000000<(now+n) then 1000000000 else (now+n)):=by
  unfold KV;split <;> rfl
 · (try rw [hf_]);(simp only [JM];done)
theorem Jcj (G:Jt) (vs_p:List Value) (p:QF) (h_p:Wt.R G vs_p p) (now:Int) :QI Tryz.prog 154 #[.agg vs_p.toArray,I now] G [] (fun u G' L'=>u=.tuple #[.agg #[I (((Kn p now).1).least),I (((Kn p now).1).most),I (((Kn p now).1).lost),I (((Kn p now).1).gap),I (((Kn p now).1).next),I (((Kn p now).1).asked)],I ((Kn p now).2)]):=by
 obtain ⟨rfl,w1,w2,w3,w4,w5,w6⟩:=h_p
 refine JK Tryz.func154 45 [(0,.agg #[I p.least,I p.most,I p.lost,I p.gap,I p.next,I p.asked]),(1,I now)] rfl (fun w0 G0=>?_)
 refine Je (Jb (Ju 2 #[I p.least,I p.most,I p.lost,I p.gap,I p.next,I p.asked] 56 (fun b1=>Ju 4 #[I 0,I 0,I 0,I 0,I 0,I 0] 56 (fun b2=>Jd [0] [(1,I now),(2,Pt b1 0),(4,Pt b2 0)] (Jc (Ja (Je (Jb (Jd [4,0] [(1,I now),(2,Pt b1 0),(4,Pt b2 0),(9,.agg #[I p.least,I p.most,I p.lost,I p.gap,I p.next,I p.asked]),(10,I now)] (Ji 11 (.tuple #[Bo ((W1 p now).1),I ((W1 p now).2)]) (Jhx G [I p.least,I p.most,I p.lost,I p.gap,I p.next,I p.asked] p (⟨rfl,w1,w2,w3,w4,w5,w6⟩) now) (Jd [0,0,0,0,0] [(1,I now),(2,Pt b1 0),(4,Pt b2 0),(6,Bo ((W1 p now).1)),(7,I ((W1 p now).2))] (Jc (Ja (Je (Jz (Jg [0,0,0] [(1,I now),(2,Pt b1 0),(4,Pt b2 0),(6,Bo ((W1 p now).1)),(7,I ((W1 p now).2)),(14,Bo (!decide ((W1 p now).2=0)))] (Jo (!decide ((W1 p now).2=0)) (fun h1=>?_) (fun h1=>?_))))))))))))))))))
 try simp only [BB] at h1
 refine Jg [0,0,3,0] [(4,Pt b2 0),(5,I ((W1 p now).2))] (Jk (Js (Jh (Jl [0,0] [.agg #[I 0,I 0,I 0,I 0,I 0,I 0],I ((W1 p now).2)] (Jv (Jt.le_refl _) ?_)))))
 have hf_:(Kn p now)=((⟨0,0,0,0,0,0⟩:QF),((W1 p now).2)):=by
  unfold Kn Y1;(try unfold W1 at *);(repeat' split) <;> rfl
 · (try rw [hf_]);(simp only [JM];done)
 try simp only [BB] at h1
 refine Jg [0,0,0] [(1,I now),(2,Pt b1 0),(4,Pt b2 0),(19,Bo (!((W1 p now).1)))] (Jo (!((W1 p now).1)) (fun h2=>?_) (fun h2=>?_))
 try simp only [BB] at h2
 refine Jg [0,3,0] [(4,Pt b2 0),(5,I 9)] (Jk (Js (Jh (Jl [0,0] [.agg #[I 0,I 0,I 0,I 0,I 0,I 0],I 9] (Jv (Jt.le_refl _) ?_)))))
 have hf_:(Kn p now)=((⟨0,0,0,0,0,0⟩:QF),9):=by
  unfold Kn Y1;(try unfold W1 at *);(repeat' split) <;> first | rfl | (exfalso;omega) | (simp_all;done)
 · (try rw [hf_]);(simp only [JM];done)
 try simp only [BB] at h2
 refine Jg [0,4,0,0] [(1,I now),(2,Pt b1 0),(4,Pt b2 0),(23,Bo (decide (p.asked=1000000)))] (Jo (decide (p.asked=1000000)) (fun h3=>?_) (fun h3=>?_))
 try simp only [BB] at h3
 refine Jg [0,3,0] [(4,Pt b2 0),(5,I 7)] (Jk (Js (Jh (Jl [0,0] [.agg #[I 0,I 0,I 0,I 0,I 0,I 0],I 7] (Jv (Jt.le_refl _) ?_)))))
 have hf_:(Kn p now)=((⟨0,0,0,0,0,0⟩:QF),7):=by
  unfold Kn Y1;(try unfold W1 at *);(repeat' split) <;> first | rfl | (exfalso;omega) | (exfalso;simp_all;omega)
 · (try rw [hf_]);(simp only [JM];done)
 try simp only [BB] at h3
 refine Jn (JN (Ja (WO [0,4,0,0,5] [(1,I now),(2,Pt b1 0),(4,Pt b2 0)] [[Sg b2 0 [I 0,I 0,I 0,I 0,I 0,I 0]],[Sg b1 0 [I p.least,I p.most,I p.lost,I p.gap,I p.next,I (IntKind.i64.wrap (p.asked+1))]]] ?_)))
 have e1:IntKind.i64.wrap (p.asked+1)=p.asked+1:=IntWalk.i64_in _ (by (have q_:=Jbb (p:=p) (now:=now) ‹_›;omega))
 refine KP (fr':=[(1,I now),(2,Pt b1 0),(4,Pt b2 0)]) (L':=[[Sg b2 0 [I 0,I 0,I 0,I 0,I 0,I 0]],[Sg b1 0 [I p.least,I p.most,I p.lost,I p.gap,I p.next,I (p.asked+1)]]]) (by rfl) (by simp only [e1]) ?_
 clear e1
 refine Je (Jb (Jd [0,0,4] [(2,Pt b1 0),(4,Pt b2 0),(32,I now),(34,I p.gap)] (Ji 35 (I (KV now p.gap)) (JbD G now p.gap (by (have q_:=Jbb (p:=p) (now:=now) ‹_›;omega))) (Kd [0,5] [(2,Pt b1 0),(4,Pt b2 0)] [[Sg b2 0 [I 0,I 0,I 0,I 0,I 0,I 0]],[Sg b1 0 [I p.least,I p.most,I p.lost,I p.gap,I (KV now p.gap),I (p.asked+1)]]] (Jc (Ja (WO [0,4,0,0,4,0,0,5] [(2,Pt b1 0),(4,Pt b2 0)] [[Sg b2 0 [I 0,I 0,I 0,I 0,I 0,I 0]],[Sg b1 0 [I p.least,I p.most,I p.lost,I (if p.most<(IntKind.i64.wrap (2*p.gap)) then p.most else (IntKind.i64.wrap (2*p.gap))),I (KV now p.gap),I (p.asked+1)]]] ?_)))))))
 have e2:IntKind.i64.wrap (2*p.gap)=2*p.gap:=IntWalk.i64_in _ (by (have q_:=Jbb (p:=p) (now:=now) ‹_›;omega))
 refine KP (fr':=[(2,Pt b1 0),(4,Pt b2 0)]) (L':=[[Sg b2 0 [I 0,I 0,I 0,I 0,I 0,I 0]],[Sg b1 0 [I p.least,I p.most,I p.lost,I (if p.most<(2*p.gap) then p.most else (2*p.gap)),I (KV now p.gap),I (p.asked+1)]]]) (by rfl) (by simp only [e2]) ?_
 clear e2
 refine WO [4,3,0] [(4,Pt b2 0),(5,I 0)] [[Sg b2 0 [I p.least,I p.most,I p.lost,I (if p.most<(2*p.gap) then p.most else (2*p.gap)),I (KV now p.gap),I (p.asked+1)]],[Sg b1 0 [I p.least,I p.most,I p.lost,I (if p.most<(2*p.gap) then p.most else (2*p.gap)),I (KV now p.gap),I (p.asked+1)]]] (Jk (Jl [0,0] [.agg #[I p.least,I p.most,I p.lost,I (if p.most<(2*p.gap) then p.most else (2*p.gap)),I (KV now p.gap),I (p.asked+1)],I 0] (Jv (Jt.le_refl _) ?_)))
 have hf_:(Kn p now)=((⟨p.least,p.most,p.lost,if p.most<(2*p.gap) then p.most else (2*p.gap),KV now p.gap,p.asked+1⟩:QF),0):=by
  unfold Kn Y1;(try unfold W1 at *);(repeat' split) <;> first | rfl | (exfalso;omega) | (exfalso;simp_all;omega)
 · (try rw [hf_]);(simp only [JM];done)
theorem Jhy (G:Jt) (a:Int) (hw_a:rI a) (b:Int) (hw_b:rI b) (c:Int) (hw_c:rI c) :QI Tryz.prog 69 #[I a,I b,I c] G [] (fun u G' L'=>u=.tuple #[.agg #[I (((KH a b c).1).least),I (((KH a b c).1).most),I (((KH a b c).1).lost),I (((KH a b c).1).gap),I (((KH a b c).1).next),I (((KH a b c).1).asked)],I ((KH a b c).2)]):=by
 refine JK Tryz.func69 22 [(0,I a),(1,I b),(2,I c)] rfl (fun w0 G0=>?_)
 refine Je (Jb (Ju 6 #[I 0,I 0,I 0,I 0,I 0,I 0] 56 (fun b1=>Jd [0] [(0,I a),(1,I b),(2,I c),(6,Pt b1 0)] (Jc (Ja (Je (Jb (Jd [0,0,0,0,0] [(6,Pt b1 0),(14,.agg #[I a,I b,I c,I a,I 0,I 0])] (Ju 8 #[I 0,I 0,I 0,I 0,I 0,I 0] 56 (fun b2=>Kd [3] [(6,Pt b1 0),(8,Pt b2 0)] [[Sg b2 0 [I a,I b,I c,I a,I 0,I 0]],[Sg b1 0 [I 0,I 0,I 0,I 0,I 0,I 0]]] (Jc (Ja (Je (Je (Jb (Jd [2] [(6,Pt b1 0),(8,Pt b2 0),(15,.agg #[I a,I b,I c,I a,I 0,I 0])] (Ji 16 (I (Km (⟨a,b,c,a,0,0⟩:QF))) (Jag G [I a,I b,I c,I a,I 0,I 0] (⟨a,b,c,a,0,0⟩:QF) (⟨rfl,hw_a,hw_b,hw_c,hw_a,(by (simp;done)),(by (simp;done))⟩)) (Jd [0] [(6,Pt b1 0),(8,Pt b2 0),(9,I (Km (⟨a,b,c,a,0,0⟩:QF)))] (Jc (Ja (Jg [0,0] [(6,Pt b1 0),(8,Pt b2 0),(9,I (Km (⟨a,b,c,a,0,0⟩:QF))),(18,Bo (!decide (Km (⟨a,b,c,a,0,0⟩:QF)=0)))] (Jo (!decide (Km (⟨a,b,c,a,0,0⟩:QF)=0)) (fun h1=>?_) (fun h1=>?_)))))))))))))))))))))))
 try simp only [BB] at h1
 refine Jg [0,0,5,0] [(6,Pt b1 0),(7,I (Km (⟨a,b,c,a,0,0⟩:QF)))] (Jk (Jh (Jl [1,0] [.agg #[I 0,I 0,I 0,I 0,I 0,I 0],I (Km (⟨a,b,c,a,0,0⟩:QF))] (Jv (Jt.le_refl _) ?_))))
 have hf_:(KH a b c)=((⟨0,0,0,0,0,0⟩:QF),(Km (⟨a,b,c,a,0,0⟩:QF))):=by
  rw [Wu] at *;unfold KH Y1;split <;> first | (rename_i hx;rw [JbC hx];done) | contradiction
 · (try rw [hf_]);(simp only [JM];done)
 try simp only [BB] at h1
 refine Jn (Ja (WO [2,5,0] [(6,Pt b1 0),(7,I 0)] [[Sg b2 0 [I a,I b,I c,I a,I 0,I 0]],[Sg b1 0 [I a,I b,I c,I a,I 0,I 0]]] (Jk (Jl [1,0] [.agg #[I a,I b,I c,I a,I 0,I 0],I 0] (Jv (Jt.le_refl _) ?_)))))
 have hf_:(KH a b c)=((⟨a,b,c,a,0,0⟩:QF),0):=by
  rw [Wu] at *;unfold KH Y1;split <;> rfl
 · (try rw [hf_]);(simp only [JM];done)
theorem JeX (G:Jt) (vs_p:List Value) (p:QF) (h_p:Wt.R G vs_p p) (now:Int) :QI Tryz.prog 153 #[.agg vs_p.toArray,I now] G [] (fun u G' L'=>u=.tuple #[.agg #[I (((Qn p now).1).least),I (((Qn p now).1).most),I (((Qn p now).1).lost),I (((Qn p now).1).gap),I (((Qn p now).1).next),I (((Qn p now).1).asked)],I ((Qn p now).2)]):=by
 obtain ⟨rfl,w1,w2,w3,w4,w5,w6⟩:=h_p
 refine JK Tryz.func153 27 [(0,.agg #[I p.least,I p.most,I p.lost,I p.gap,I p.next,I p.asked]),(1,I now)] rfl (fun w0 G0=>?_)
 refine Je (Jb (Ju 2 #[I p.least,I p.most,I p.lost,I p.gap,I p.next,I p.asked] 56 (fun b1=>Ju 4 #[I 0,I 0,I 0,I 0,I 0,I 0] 56 (fun b2=>Jd [0] [(1,I now),(2,Pt b1 0),(4,Pt b2 0)] (Jc (Ja (Je (Je (Jb (Jd [4,0] [(1,I now),(2,Pt b1 0),(4,Pt b2 0),(7,.agg #[I p.least,I p.most,I p.lost,I p.gap,I p.next,I p.asked]),(8,I now)] (Ji 9 (I (Ku p now)) (JaR G [I p.least,I p.most,I p.lost,I p.gap,I p.next,I p.asked] p (⟨rfl,w1,w2,w3,w4,w5,w6⟩) now) (Jd [0] [(1,I now),(2,Pt b1 0),(4,Pt b2 0),(6,I (Ku p now))] (Jc (Ja (Jg [0,0] [(1,I now),(2,Pt b1 0),(4,Pt b2 0),(6,I (Ku p now)),(11,Bo (!decide (Ku p now=0)))] (Jo (!decide (Ku p now=0)) (fun h1=>?_) (fun h1=>?_)))))))))))))))))
 try simp only [BB] at h1
 refine Jg [0,0,3,0] [(4,Pt b2 0),(5,I (Ku p now))] (Jk (Jh (Jl [0,0] [.agg #[I 0,I 0,I 0,I 0,I 0,I 0],I (Ku p now)] (Jv (Jt.le_refl _) ?_))))
 have hf_:(Qn p now)=((⟨0,0,0,0,0,0⟩:QF),(Ku p now)):=by
  unfold Qn Y1;(repeat' split) <;> rfl
 · (try rw [hf_]);(simp only [JM];done)
 try simp only [BB] at h1
 refine Jn (Ja (WO [0,4,0,5,0,5] [(1,I now),(2,Pt b1 0),(4,Pt b2 0)] [[Sg b2 0 [I 0,I 0,I 0,I 0,I 0,I 0]],[Sg b1 0 [I p.least,I p.most,I p.lost,I p.least,I p.next,I 0]]] (Je (KA [8] (Ws [(0,Pt b1 4),(1,I p.next),(2,I now),(3,Pt b1 0),(4,I p.least),(5,I (KV now p.least)),(6,I (if (KV now p.least)<p.next then (KV now p.least) else p.next)),(7,Pt b1 4)] (J2 [] [(0,0),(1,4),(2,0),(3,0),(4,4),(6,0),(7,0)] [5] [8] (List.forall_mem_cons.2 ⟨?_,List.forall_mem_nil _⟩) (List.forall_mem_cons.2 ⟨?_,List.forall_mem_nil _⟩)))))))
 refine Jr 5 23 (I (KV now p.least)) [(20,I now),(22,I p.least)] (fun X=>?_)
 exact Ji 23 (I (KV now p.least)) (JbD G now p.least (by (have q_:=Jbb (p:=p) (now:=now) ‹_›;omega))) Jp
 refine JT 8 [(24,I (if (KV now p.least)<p.next then (KV now p.least) else p.next)),(25,Pt b1 4)] (fun X=>?_)
 refine K3 1 [[Sg b2 0 [I 0,I 0,I 0,I 0,I 0,I 0]],[Sg b1 0 [I p.least,I p.most,I p.lost,I p.least,I (if (KV now p.least)<p.next then (KV now p.least) else p.next),I 0]]] (Kq [] (Kz [0,1,2,3,4,5,6,7] [] [] [(2,Pt b1 0),(4,Pt b2 0)] (List.forall_mem_nil _) (Ja (WO [4,3,0] [(4,Pt b2 0),(5,I 0)] [[Sg b2 0 [I p.least,I p.most,I p.lost,I p.least,I (if (KV now p.least)<p.next then (KV now p.least) else p.next),I 0]],[Sg b1 0 [I p.least,I p.most,I p.lost,I p.least,I (if (KV now p.least)<p.next then (KV now p.least) else p.next),I 0]]] (Jk (Jl [0,0] [.agg #[I p.least,I p.most,I p.lost,I p.least,I (if (KV now p.least)<p.next then (KV now p.least) else p.next),I 0],I 0] (Jv (Jt.le_refl _) ?_)))))))
 have hf_:(Qn p now)=((⟨p.least,p.most,p.lost,p.least,if (KV now p.least)<p.next then (KV now p.least) else p.next,0⟩:QF),0):=by
  unfold Qn Y1;(repeat' split) <;> first | rfl | (exfalso;omega)
 · (try rw [hf_]);(simp only [JM];done)
theorem JbE (G:Jt) (vs_p:List Value) (p:QF) (h_p:Wt.R G vs_p p) :QI Tryz.prog 155 #[.agg vs_p.toArray] G [] (fun u G' L'=>u=.tuple #[Bo ((Zb p).1),I ((Zb p).2)]):=by
 obtain ⟨rfl,w1,w2,w3,w4,w5,w6⟩:=h_p
 refine JK Tryz.func155 17 [(0,.agg #[I p.least,I p.most,I p.lost,I p.gap,I p.next,I p.asked])] rfl (fun w0 G0=>?_)
 refine Je (Jb (Ju 1 #[I p.least,I p.most,I p.lost,I p.gap,I p.next,I p.asked] 56 (fun b1=>Jd [0,0] [(1,Pt b1 0)] (Jc (Ja (Je (Jb (Jd [2] [(1,Pt b1 0),(5,.agg #[I p.least,I p.most,I p.lost,I p.gap,I p.next,I p.asked])] (Ji 6 (I (Km p)) (Jag G [I p.least,I p.most,I p.lost,I p.gap,I p.next,I p.asked] p (⟨rfl,w1,w2,w3,w4,w5,w6⟩)) (Jd [0] [(1,Pt b1 0),(4,I (Km p))] (Jc (Ja (Je (Jb (Jd [0,0,0] [(1,Pt b1 0),(4,I (Km p)),(9,Bo (decide (Km p=0)))] (KD (decide (Km p=0)) (fun bb=>[(1,Pt b1 0),(4,I (Km p)),(9,Bo bb)]) [0,2,0,2,0,0] [1,1,1,1,1,0] (fun bb=>[(4,I (Km p)),(15,Bo (bb && (decide (p.asked ≥ p.lost))))]) (Jd [0,0,0] [(2,Bo ((decide (Km p=0)) && (decide (p.asked ≥ p.lost)))),(3,I (Km p))] (Jc (Ja (Jk (Jl [0,0] [Bo ((decide (Km p=0)) && (decide (p.asked ≥ p.lost))),I (Km p)] (Jv (Jt.le_refl _) ?_))))))))))))))))))))))
 have hf_:(Zb p)=(((decide (Km p=0)) && (decide (p.asked ≥ p.lost))),(Km p)):=by
  rfl
 · (try rw [hf_]);(simp only [JM];done)
end Go.Proofs.YtnnlpbjdignhaaaGreatDoor
