import Derived.Test.YtnnlpbjdignhaaaGreatDoorTgStr
import Derived.Test.YtnnlpbjdignhaaaGreatDoorTgSl
namespace Go.Proofs.YtnnlpbjdignhaaaGreatDoor
open Go.Tx
set_option linter.unusedVariables false
set_option linter.unusedSimpArgs false
def Qi (name value:List UInt8):Int:=if Kt name=false then 3 else if 20<value.length then 2 else 0
def Kr (a:WU):Int:=Qi a.name a.value
theorem JdE {a b:Int} (h:0≤a∧a≤30) (hb:1≤b∧b≤30):0≤a.tdiv b∧a.tdiv b≤30:=by
 rw [Int.tdiv_eq_ediv_of_nonneg h.1]
 exact ⟨Int.ediv_nonneg h.1 (by omega),Int.le_trans (Int.ediv_le_self _ h.1) h.2⟩
theorem Ji1 {a b:Int} (h:0≤a∧a≤31) (hb:1≤b∧b≤1000):0≤a*b∧a*b≤31000:=by
 refine ⟨Int.mul_nonneg h.1 (by omega),?_⟩
 have h1:a*b≤31*b:=Int.mul_le_mul_of_nonneg_right h.2 (by omega)
 omega
def ZX:List WU→Int
 | []=>0
 | a::l=>if Kr a=0 then ZX l else Kr a
def J7 (q:QN):Int:=if q.most<1∨30<q.most then 4 else if q.most<q.wait.length then 7 else ZX q.wait
def YV:QN:=⟨0,[]⟩
def ZJ (q:QN) (a:WU):Int:=if J7 q ≠ 0 then J7 q else if Kr a ≠ 0 then Kr a else if (q.wait.length:Int)=q.most then 7 else 0
def JC (q:QN) (a:WU):QN×Int×Int:=if ZJ q a ≠ 0 then (YV,0,ZJ q a) else (⟨q.most,q.wait++[a]⟩,q.wait.length,0)
def QB (n:Int) (l:List WU):Nat:=if (l.length:Int)<n then l.length else n.toNat
def JL (q:QN) (n:Int):QN×List WU×Int:=if J7 q ≠ 0 then (YV,[],J7 q) else if n<0 then (YV,[],4) else (⟨q.most,q.wait.drop (QB n q.wait)⟩,q.wait.take (QB n q.wait),0)
def Qa (ahead batch every:Int):Int×Int:=if ahead<0∨30<ahead∨batch<1∨30<batch∨every<1∨1000<every then (0,4) else ((ahead.tdiv batch+1)*every,0)
theorem Jd4 {l:List WU} {i:Nat} {x:WU} (h:l[i]? = some x) (h0:Kr x=0):ZX (l.drop i)=ZX (l.drop (i+1)):=by
 obtain ⟨hi,rfl⟩:=List.getElem?_eq_some_iff.1 h
 rw [List.drop_eq_getElem_cons hi]
 show (if Kr l[i]=0 then _ else _)=_
 rw [if_pos h0]
theorem JfZ {l:List WU} {i:Nat} {x:WU} (h:l[i]? = some x) (h0:¬ Kr x=0):ZX (l.drop i)=Kr x:=by
 obtain ⟨hi,rfl⟩:=List.getElem?_eq_some_iff.1 h
 rw [List.drop_eq_getElem_cons hi]
 show (if Kr l[i]=0 then _ else _)=_
 rw [if_neg h0]
theorem Jby:∀ {l:List WU},ZX l=0 ↔ ∀ a∈l,Kr a=0
 | []=>by simp [ZX]
 | a::l=>by
  unfold ZX
  split
  ·
   rename_i h;simp [Jby (l:=l),h]
  ·
   rename_i h;simp [h]
theorem K5 {q:QN}:J7 q=0 ↔ 1≤q.most∧q.most≤30∧(q.wait.length:Int)≤q.most∧∀ a∈q.wait,Kr a=0:=by
 unfold J7
 rw [← Jby]
 (repeat' split) <;> omega
theorem V0 {q:QN} {a:WU} (h:(JC q a).2.2=0):J7 q=0∧Kr a=0∧(q.wait.length:Int)<q.most∧JC q a=((⟨q.most,q.wait++[a]⟩:QN),(q.wait.length:Int),(0:Int)):=by
 unfold JC at h ⊢
 split at h
 ·
  contradiction
 ·
  rename_i h1
  rw [if_neg h1]
  unfold ZJ at h1
  have:=@K5 q
  by_cases e1:J7 q=0
  ·
   rw [if_neg (by omega)] at h1
   by_cases e2:Kr a=0
   ·
    rw [if_neg (by omega)] at h1
    by_cases e3:(q.wait.length:Int)=q.most
    ·
     rw [if_pos e3] at h1;omega
    ·
     exact ⟨e1,e2,by have:=this.1 e1;omega,rfl⟩
   ·
    rw [if_pos e2] at h1;omega
  ·
   rw [if_pos e1] at h1;omega
theorem Jd5 {q:QN} {a:WU} (h:(JC q a).2.2=0):J7 (JC q a).1=0:=by
 obtain ⟨h1,h2,h3,h4⟩:=V0 h
 rw [h4]
 rw [K5] at h1 ⊢
 refine ⟨h1.1,h1.2.1,by simp;omega,fun b hb=>?_⟩
 rcases List.mem_append.1 hb with hb | hb
 ·
  exact h1.2.2.2 b hb
 ·
  rw [List.mem_singleton.1 hb];exact h2
theorem Jf0 {q:QN} {n:Int} (h:(JL q n).2.2=0):J7 q=0∧0≤n∧JL q n=((⟨q.most,q.wait.drop (QB n q.wait)⟩:QN),q.wait.take (QB n q.wait),(0:Int)):=by
 unfold JL at h ⊢
 split at h
 ·
  contradiction
 split at h
 ·
  cases h
 ·
  rename_i h1 h2
  rw [if_neg h1,if_neg h2]
  exact ⟨by omega,by omega,rfl⟩
theorem Jdt {q:QN} {n:Int} (h:(JL q n).2.2=0):J7 (JL q n).1=0:=by
 obtain ⟨h1,h2,h3⟩:=Jf0 h
 rw [h3]
 rw [K5] at h1 ⊢
 exact ⟨h1.1,h1.2.1,by simp;omega,fun b hb=>h1.2.2.2 b (List.mem_of_mem_drop hb)⟩
theorem JjT {n:Int} {l:List WU} (h:0≤n):(if (((l.length:Nat):Int))<n then (((l.length:Nat):Int)) else n)=((QB n l:Nat):Int):=by unfold QB;split <;> omega
theorem Jbo {n:Int} {l:List WU}:QB n l≤l.length:=by unfold QB;split <;> omega
theorem Ja2 (G:Jt) (vs_a:List Value) (a:WU) (h_a:QV.R G vs_a a) :QI Tryz.prog 76 #[.agg vs_a.toArray] G [] (fun u G' L'=>u=I (Kr a)):=by
 obtain ⟨rfl,_,_,_,_⟩:=h_a
 refine JK Tryz.func76 13 [(0,.agg #[Sr a.name,Sr a.value,U a.n,U a.tag])] rfl (fun w0 G0=>?_)
 refine Je (Jb (Ju 1 #[Sr a.name,Sr a.value,U a.n,U a.tag] 83 (fun b1=>Jd [0] [(1,Pt b1 0)] (Jc (Ja (Je (Jz (Je (Jb (Jd [0,2] [(1,Pt b1 0),(5,Sr a.name)] (Ji 6 (Bo (Kt a.name)) (Zm G a.name) (Jd [0,0] [(1,Pt b1 0),(3,Bo (!(Kt a.name)))] (Jc (Ja (Jo (!(Kt a.name)) (fun h1=>?_) (fun h1=>?_))))))))))))))))
 try simp only [BB] at h1
 refine Jg [0] [(2,I 3)] (Jk (Js (Jh (Jl [0] [I 3] (Jv (Jt.le_refl _) ?_)))))
 have hf_:(Kr a)=3:=by
  unfold Kr Qi;simp_all;try omega
 · (try rw [hf_]);(simp only [JM];done)
 try simp only [BB] at h1
 refine Jg [0,2,0,0,0] [(8,Bo (decide (((a.value).length:Int) > 20)))] (Jo (decide (((a.value).length:Int) > 20)) (fun h2=>?_) (fun h2=>?_))
 try simp only [BB] at h2
 refine Jg [0] [(2,I 2)] (Jk (Js (Jh (Jl [0] [I 2] (Jv (Jt.le_refl _) ?_)))))
 have hf_:(Kr a)=2:=by
  unfold Kr Qi;simp_all;try omega
 · (try rw [hf_]);(simp only [JM];done)
 try simp only [BB] at h2
 refine Jn (JN (Ja (Jg [0] [(2,I 0)] (Jk (Jl [0] [I 0] (Jv (Jt.le_refl _) ?_))))))
 have hf_:(Kr a)=0:=by
  unfold Kr Qi;simp_all;try omega
 · (try rw [hf_]);(simp only [JM];done)
theorem VK (G:Jt) (vs_q:List Value) (q:QN) (h_q:JhV.R G vs_q q) :QI Tryz.prog 34 #[.agg vs_q.toArray] G [] (fun u G' L'=>u=I (J7 q)):=by
 obtain ⟨a1,c1,rfl,_,hs1⟩:=h_q
 refine JK Tryz.func34 35 [(0,.agg #[I q.most,Sl a1 q.wait.length c1])] rfl (fun w0 G0=>?_)
 refine Je (Jb (Ju 1 #[I q.most,Sl a1 q.wait.length c1] 30 (fun b1=>Jd [0] [(1,Pt b1 0)] (Jc (Ja (Je (Jz (Je (Jb (Jd [0,2,0,0] [(1,Pt b1 0),(10,Bo (decide (q.most<1)))] (KD (decide (q.most<1)) (fun bb=>[(1,Pt b1 0),(10,Bo bb)]) [1,1,1,0] [0,2,0,0] (fun bb=>[(1,Pt b1 0),(14,Bo (bb || (decide (q.most > 30))))]) (Jd [0] [(1,Pt b1 0),(6,Bo ((decide (q.most<1)) || (decide (q.most > 30))))] (Jc (Ja (Jo ((decide (q.most<1)) || (decide (q.most > 30))) (fun h1=>?_) (fun h1=>?_))))))))))))))))
 try simp only [BB] at h1
 refine Jg [0] [(2,I 4)] (Jk (Js (Jh (Jl [0] [I 4] (Jv (Jt.le_refl _) ?_)))))
 have hf_:(J7 q)=4:=by
  unfold J7;(rw [if_pos (by omega)];done)
 · (try rw [hf_]);(simp only [JM];done)
 try simp only [BB] at h1
 refine Jg [0,2,0,0,2,0,0] [(1,Pt b1 0),(15,Bo (decide ((q.wait.length:Int) > q.most)))] (Jo (decide ((q.wait.length:Int) > q.most)) (fun h2=>?_) (fun h2=>?_))
 try simp only [BB] at h2
 refine Jg [0] [(2,I 7)] (Jk (Js (Jh (Jl [0] [I 7] (Jv (Jt.le_refl _) ?_)))))
 have hf_:(J7 q)=7:=by
  unfold J7;(rw [if_neg (by omega),if_pos (by omega)];done)
 · (try rw [hf_]);(simp only [JM];done)
 try simp only [BB] at h2
 refine Jn (JN (Ja (Je (Jg [0,2,0,0] [(23,Sl a1 q.wait.length c1),(24,I (q.wait.length:Int)),(25,I 0)] (Jz ?_)))))
 have hlm_hs1:q.wait.length≤9223372036854775807:=Nat.le_trans (hs1).le (hs1).max
 refine Qe (σ:=Nat) (fun q_=>(q_≤q.wait.length)∧(ZX q.wait=ZX (q.wait.drop q_))) (fun q_=>[(23,Sl a1 q.wait.length c1),(24,I (q.wait.length:Int)),(25,I (q_:Int))]) (fun q_=>G) (fun q_=>[[Sg b1 0 [I q.most,Sl a1 q.wait.length c1]]]) (fun q_=>q.wait.length-q_) 0 ⟨(by (try dsimp only);exact Nat.zero_le _),rfl⟩ (fun q_ hs=>?_)
 revert hs;revert q_;intro i hs
 obtain ⟨hi,hn⟩:=hs
 refine KP (fr':=[(23,Sl a1 q.wait.length c1),(24,I (q.wait.length:Int)),(25,I (i:Int))]) (L':=[[Sg b1 0 [I q.most,Sl a1 q.wait.length c1]]]) rfl rfl (Jg [0] [(23,Sl a1 q.wait.length c1),(24,I (q.wait.length:Int)),(25,I (i:Int)),(26,Bo (decide ((i:Int)<(q.wait.length:Int))))] (Je (Jo (decide ((i:Int)<(q.wait.length:Int))) (fun h3=>?_) (fun h3=>?_))))
 try simp only [BB] at h3
 refine Jn (Ja (Je (Jz (Je (Jb ?_)))))
 obtain ⟨b2,o1,rfl⟩:=RS.addr hs1 (k:=i) (by omega)
 obtain ⟨x1,hx1⟩:=Wj (l:=q.wait) (k:=i) (by omega)
 obtain ⟨_,⟨rfl,w2,w3,w4,w5⟩,hc1⟩:=RS.get hs1 hx1
 refine Ki (b:=b2) (off:=o1) (len:=q.wait.length) (cap:=c1) (ik:=.i64) 27 83 4 i (by omega) (Ka 28 83 (cs:=[Sr x1.name,Sr x1.value,U x1.n,U x1.tag]) 0 (.agg #[Sr x1.name,Sr x1.value,U x1.n,U x1.tag]) hc1 (Ju 4 #[Sr ([]),Sr ([]),U 0,U 0] 83 (fun b3=>Kd [3] [(4,Pt b3 0),(23,Sl (At b2 o1) q.wait.length c1),(24,I (q.wait.length:Int)),(25,I (i:Int))] [[Sg b3 0 [Sr x1.name,Sr x1.value,U x1.n,U x1.tag]],[Sg b1 0 [I q.most,Sl (At b2 o1) q.wait.length c1]]] (Jc (Ja (Je (Jb (Jd [2] [(23,Sl (At b2 o1) q.wait.length c1),(24,I (q.wait.length:Int)),(25,I (i:Int)),(29,.agg #[Sr x1.name,Sr x1.value,U x1.n,U x1.tag])] (Ji 30 (I (Kr x1)) (Ja2 G [Sr x1.name,Sr x1.value,U x1.n,U x1.tag] x1 (⟨rfl,w2,w3,w4,w5⟩)) (Jd [0] [(5,I (Kr x1)),(23,Sl (At b2 o1) q.wait.length c1),(24,I (q.wait.length:Int)),(25,I (i:Int))] (Jc (Ja (Jg [0,0] [(5,I (Kr x1)),(23,Sl (At b2 o1) q.wait.length c1),(24,I (q.wait.length:Int)),(25,I (i:Int)),(32,Bo (!decide (Kr x1=0)))] (Jo (!decide (Kr x1=0)) (fun h4=>?_) (fun h4=>?_)))))))))))))))
 try simp only [BB] at h4
 refine Jg [0,0] [(2,I (Kr x1))] (Jk (Js (Jh (QD (Js (Jh (Jl [0] [I (Kr x1)] (Jv (Jt.le_refl _) ?_))))))))
 have hf_:(J7 q)=(Kr x1):=by
  unfold J7;(rw [if_neg (by omega),if_neg (by omega),hn];exact JfZ hx1 h4)
 · (try rw [hf_]);(simp only [JM];done)
 try simp only [BB] at h4
 refine Jn (JN (Ja (Jb (Jd [0,0] [(23,Sl (At b2 o1) q.wait.length c1),(24,I (q.wait.length:Int)),(25,I (IntKind.i64.wrap ((i:Int)+1)))] ?_))))
 have e1:IntKind.i64.wrap ((i:Int)+1)=(i:Int)+1:=IntWalk.i64_in _ (by omega)
 refine J4 (fr':=[(23,Sl (At b2 o1) q.wait.length c1),(24,I (q.wait.length:Int)),(25,I ((i:Int)+1))]) (L':=[[Sg b3 0 [Sr x1.name,Sr x1.value,U x1.n,U x1.tag]],[Sg b1 0 [I q.most,Sl (At b2 o1) q.wait.length c1]]]) (by simp only [e1]) (by rfl) ?_
 clear e1
 exact Jc (Q4 [[Sg b1 0 [I q.most,Sl (At b2 o1) q.wait.length c1]]] (.cons _ (.cons_cons _ .slnil)) (Qh (i+1) ⟨(by omega),(by rw [hn];exact Jd4 hx1 h4)⟩ (by (try dsimp only);omega)))
 try simp only [BB] at h3
 refine K2 (J3 (Kf (JV (Ja (Jg [0] [(2,I 0)] (Jk (Jl [0] [I 0] (Jv (Jt.le_refl _) ?_))))))))
 have hf_:(J7 q)=0:=by
  unfold J7;(rw [if_neg (by omega),if_neg (by omega),hn];(rw [List.drop_eq_nil_of_le (by omega)];rfl))
 · (try rw [hf_]);(simp only [JM];done)
set_option maxRecDepth 20000 in
theorem Jf1 (G:Jt) (vs_q:List Value) (q:QN) (h_q:JhV.R G vs_q q) (vs_a:List Value) (a:WU) (h_a:QV.R G vs_a a) :QI Tryz.prog 54 #[.agg vs_q.toArray,.agg vs_a.toArray] G [] (fun u G' L'=>∃ (a1:Option Addr) (c2:Nat),u=.tuple #[.agg #[I (((JC q a).1).most),Sl a1 ((((JC q a).1).wait).length) c2],I ((JC q a).2.1),I ((JC q a).2.2)]∧(rI (((JC q a).1).most))∧(RS QV G' a1 c2 (((JC q a).1).wait))∧L'=[]):=by
 obtain ⟨a1,c1,rfl,w1,hs1⟩:=h_q
 obtain ⟨rfl,w2,w3,w4,w5⟩:=h_a
 refine JK Tryz.func54 42 [(0,.agg #[I q.most,Sl a1 q.wait.length c1]),(1,.agg #[Sr a.name,Sr a.value,U a.n,U a.tag])] rfl (fun w0 G0=>?_)
 refine Je (Jb (Ju 2 #[I q.most,Sl a1 q.wait.length c1] 30 (fun b1=>Ju 3 #[Sr a.name,Sr a.value,U a.n,U a.tag] 83 (fun b2=>Ju 4 #[I 0,Sl none 0 0] 30 (fun b3=>Jd [0,0] [(2,Pt b1 0),(3,Pt b2 0),(4,Pt b3 0)] (Jc (Ja (Je (Jb (Jd [6] [(2,Pt b1 0),(3,Pt b2 0),(4,Pt b3 0),(9,.agg #[I q.most,Sl a1 q.wait.length c1])] (Ji 10 (I (J7 q)) (VK G [I q.most,Sl a1 q.wait.length c1] q (⟨a1,c1,rfl,w1,hs1⟩)) (Jd [0] [(2,Pt b1 0),(3,Pt b2 0),(4,Pt b3 0),(7,I (J7 q))] (Jc (Ja (Je (Jg [0,0] [(2,Pt b1 0),(3,Pt b2 0),(4,Pt b3 0),(7,I (J7 q)),(12,Bo (decide (J7 q=0)))] (Jo (decide (J7 q=0)) (fun h1=>?_) (fun h1=>?_))))))))))))))))))
 try simp only [BB] at h1
 refine Jb (Jd [4] [(2,Pt b1 0),(3,Pt b2 0),(4,Pt b3 0),(7,I (J7 q)),(13,.agg #[Sr a.name,Sr a.value,U a.n,U a.tag])] (Ji 14 (I (Kr a)) (Ja2 G [Sr a.name,Sr a.value,U a.n,U a.tag] a (⟨rfl,w2,w3,w4,w5⟩)) (Jd [0] [(2,Pt b1 0),(3,Pt b2 0),(4,Pt b3 0),(7,I (Kr a))] (Jc (Ja (Je (Je (Jb (Jd [0,0,0] [(2,Pt b1 0),(3,Pt b2 0),(4,Pt b3 0),(7,I (Kr a)),(17,Bo (decide (Kr a=0)))] (KD (decide (Kr a=0)) (fun bb=>[(2,Pt b1 0),(3,Pt b2 0),(4,Pt b3 0),(7,I (Kr a)),(17,Bo bb)]) [0,6,0,0,6,0,0] [1,1,1,1,1,1,0] (fun bb=>[(2,Pt b1 0),(3,Pt b2 0),(4,Pt b3 0),(7,I (Kr a)),(24,Bo (bb && (decide ((q.wait.length:Int)=q.most))))]) (Jc (Ja (Jo ((decide (Kr a=0)) && (decide ((q.wait.length:Int)=q.most))) (fun h2=>?_) (fun h2=>?_))))))))))))))
 try simp only [BB] at h2
 refine Jb (Jd [0] [(2,Pt b1 0),(3,Pt b2 0),(4,Pt b3 0),(7,I 7)] (Jc (Ja (Je (Jg [0,0] [(2,Pt b1 0),(3,Pt b2 0),(4,Pt b3 0),(7,I 7),(26,Bo true)] (JZ (Jg [0,0,3,0,0] [(4,Pt b3 0),(5,I 0),(6,I 7)] (Jk (Jh ?_)))))))))
 have hf1:JC q a=((⟨0,[]⟩:QN),0,7):=by
  unfold JC ZJ YV;simp_all;try omega
 refine Jl [0,0,0] [.agg #[I 0,Sl none 0 0],I 0,I 7] (JY [] (.cons _ (.cons _ (.cons _ .slnil))) (Jt.le_refl _) ?_)
 rw [hf1]
 try dsimp only
 exact ⟨none,0,rfl,(by omega),(RS.nil' QV G),rfl⟩
 try simp only [BB] at h2
 refine Jn (Ja (Je (Jg [0,0] [(2,Pt b1 0),(3,Pt b2 0),(4,Pt b3 0),(7,I (Kr a)),(26,Bo (!decide (Kr a=0)))] (Jo (!decide (Kr a=0)) (fun h3=>?_) (fun h3=>?_)))))
 try simp only [BB] at h3
 refine Jg [0,0,3,0,0] [(4,Pt b3 0),(5,I 0),(6,I (Kr a))] (Jk (Jh ?_))
 have hf2:JC q a=((⟨0,[]⟩:QN),0,Kr a):=by
  unfold JC ZJ YV;simp_all;try omega
 refine Jl [0,0,0] [.agg #[I 0,Sl none 0 0],I 0,I (Kr a)] (JY [] (.cons _ (.cons _ (.cons _ .slnil))) (Jt.le_refl _) ?_)
 rw [hf2]
 try dsimp only
 exact ⟨none,0,rfl,(by omega),(RS.nil' QV G),rfl⟩
 try simp only [BB] at h3
 refine Jn (Ja (Jg [0,6,0,0] [(2,Pt b1 0),(3,Pt b2 0),(4,Pt b3 0),(8,I (q.wait.length:Int))] (Je (KA [4,6,7,10] (Ws [(0,Pt b1 0),(1,I q.most),(2,Pt b1 1),(3,Sl a1 q.wait.length c1),(5,.agg #[Sr a.name,Sr a.value,U a.n,U a.tag]),(9,I (q.wait.length:Int))] (J2 [] [(0,0),(1,6),(2,0),(3,6),(5,4),(9,0)] [] [4,6] (List.forall_mem_nil _) (List.forall_mem_cons.2 ⟨?_,(List.forall_mem_cons.2 ⟨?_,List.forall_mem_nil _⟩)⟩)))))))
 refine JT 4 [(35,Sl a1 q.wait.length c1)] (fun X=>?_)
 refine JQ 36 (Z8 G a1 c1 q.wait hs1) (fun v G1 L1 hl1 hp=>?_)
 obtain ⟨a2,c2,_,rfl,hr1,rfl⟩:=hp
 refine JX [(4,Sl a2 q.wait.length c2)] (J2 [2,3] [(0,0),(1,8),(5,6),(9,0)] [] [6] (List.forall_mem_nil _) (List.forall_mem_cons.2 ⟨?_,List.forall_mem_nil _⟩))
 refine JT 6 [(37,.agg #[Sr a.name,Sr a.value,U a.n,U a.tag])] (fun X=>?_)
 refine KG 38 1 #[Sr a.name,Sr a.value,U a.n,U a.tag] 83 (fun b4=>JX [(6,Sl (At b4 0) 1 1)] (J2 [2,3,5] [(0,0),(1,10),(9,0)] [] [7] (List.forall_mem_nil _) (List.forall_mem_cons.2 ⟨?_,List.forall_mem_nil _⟩)))
 refine JT 7 [(36,Sl a2 q.wait.length c2),(38,Sl (At b4 0) 1 1)] (fun X=>?_)
 refine QM (b:=b4) (cs:=[Sr a.name,Sr a.value,U a.n,U a.tag]) 39 83 1 0 (E:=QV) a hr1 ⟨rfl,w2,w3,w4,w5⟩ (by have hq_:=K5.1 ‹_›;(try simp only [QV,List.length_append,List.length_cons,List.length_nil]);omega) (by have hq_:=K5.1 ‹_›;(try simp only [QV,List.length_append,List.length_cons,List.length_nil]);omega) (fun a3 c3 r2 hr2=>JX [(7,Sl a3 ((q.wait++[a]).length) c3),(8,.agg #[I q.most,Sl a3 ((q.wait++[a]).length) c3])] (J2 [2,3,5] [(0,0),(1,10),(8,0),(9,0)] [] [10] (List.forall_mem_nil _) (List.forall_mem_cons.2 ⟨?_,List.forall_mem_nil _⟩)))
 refine JT 10 [(4,Pt b3 0),(40,.agg #[I q.most,Sl a3 ((q.wait++[a]).length) c3])] (fun X=>?_)
 refine K3 2 [[Sg b4 0 [Sr a.name,Sr a.value,U a.n,U a.tag]],r2,[Sg b3 0 [I q.most,Sl a3 ((q.wait++[a]).length) c3]],[Sg b2 0 [Sr a.name,Sr a.value,U a.n,U a.tag]],[Sg b1 0 [I q.most,Sl a1 q.wait.length c1]]] (Kq [(11,I (q.wait.length:Int)),(12,I 0)] (Kz [0,1,2,3,5,8] [(9,0),(11,0),(12,0)] [] [(4,Pt b3 0),(5,I (q.wait.length:Int)),(6,I 0)] (List.forall_mem_nil _) (Ja (Jk (Wn (E:=QV) 1 hr2 (by have hq_:=K5.1 ‹_›;(try simp only [QV,List.length_append,List.length_cons,List.length_nil]);omega) (fun G2 hl2 hs2=>?_))))))
 have hf3:JC q a=((⟨q.most,q.wait++[a]⟩:QN),(q.wait.length:Int),0):=by
  unfold JC ZJ YV;simp_all;try omega
 refine Jl [2,0,0] [.agg #[I q.most,Sl a3 ((q.wait++[a]).length) c3],I (q.wait.length:Int),I 0] (JY [] (.cons _ (.cons _ (.cons _ (.cons _ (.cons _ .slnil))))) (Jt.le_trans hl1 hl2) ?_)
 rw [hf3]
 try dsimp only
 exact ⟨a3,c3,rfl,w1,hs2,rfl⟩
 refine JT 6 [(37,.agg #[Sr a.name,Sr a.value,U a.n,U a.tag])] (fun X=>?_)
 refine KG 38 1 #[Sr a.name,Sr a.value,U a.n,U a.tag] 83 (fun b5=>JX [(6,Sl (At b5 0) 1 1)] (J2 [5] [(0,0),(1,8),(2,0),(3,8),(9,0)] [] [4] (List.forall_mem_nil _) (List.forall_mem_cons.2 ⟨?_,List.forall_mem_nil _⟩)))
 refine JT 4 [(35,Sl a1 q.wait.length c1)] (fun X=>?_)
 refine JQ 36 (Z8 G a1 c1 q.wait hs1) (fun v G3 L1 hl3 hp=>?_)
 obtain ⟨a4,c4,_,rfl,hr3,rfl⟩:=hp
 refine JX [(4,Sl a4 q.wait.length c4)] (J2 [2,3,5] [(0,0),(1,10),(9,0)] [] [7] (List.forall_mem_nil _) (List.forall_mem_cons.2 ⟨?_,List.forall_mem_nil _⟩))
 refine JT 7 [(36,Sl a4 q.wait.length c4),(38,Sl (At b5 0) 1 1)] (fun X=>?_)
 refine QM (b:=b5) (cs:=[Sr a.name,Sr a.value,U a.n,U a.tag]) 39 83 0 1 (E:=QV) a hr3 ⟨rfl,w2,w3,w4,w5⟩ (by have hq_:=K5.1 ‹_›;(try simp only [QV,List.length_append,List.length_cons,List.length_nil]);omega) (by have hq_:=K5.1 ‹_›;(try simp only [QV,List.length_append,List.length_cons,List.length_nil]);omega) (fun a5 c5 r4 hr4=>JX [(7,Sl a5 ((q.wait++[a]).length) c5),(8,.agg #[I q.most,Sl a5 ((q.wait++[a]).length) c5])] (J2 [2,3,5] [(0,0),(1,10),(8,0),(9,0)] [] [10] (List.forall_mem_nil _) (List.forall_mem_cons.2 ⟨?_,List.forall_mem_nil _⟩)))
 refine JT 10 [(4,Pt b3 0),(40,.agg #[I q.most,Sl a5 ((q.wait++[a]).length) c5])] (fun X=>?_)
 refine K3 2 [r4,[Sg b5 0 [Sr a.name,Sr a.value,U a.n,U a.tag]],[Sg b3 0 [I q.most,Sl a5 ((q.wait++[a]).length) c5]],[Sg b2 0 [Sr a.name,Sr a.value,U a.n,U a.tag]],[Sg b1 0 [I q.most,Sl a1 q.wait.length c1]]] (Kq [(11,I (q.wait.length:Int)),(12,I 0)] (Kz [0,1,2,3,5,8] [(9,0),(11,0),(12,0)] [] [(4,Pt b3 0),(5,I (q.wait.length:Int)),(6,I 0)] (List.forall_mem_nil _) (Ja (Jk (Wn (E:=QV) 0 hr4 (by have hq_:=K5.1 ‹_›;(try simp only [QV,List.length_append,List.length_cons,List.length_nil]);omega) (fun G4 hl4 hs3=>?_))))))
 have hf4:JC q a=((⟨q.most,q.wait++[a]⟩:QN),(q.wait.length:Int),0):=by
  unfold JC ZJ YV;simp_all;try omega
 refine Jl [2,0,0] [.agg #[I q.most,Sl a5 ((q.wait++[a]).length) c5],I (q.wait.length:Int),I 0] (JY [] (.cons _ (.cons _ (.cons _ (.cons _ (.cons _ .slnil))))) (Jt.le_trans hl3 hl4) ?_)
 rw [hf4]
 try dsimp only
 exact ⟨a5,c5,rfl,w1,hs3,rfl⟩
 try simp only [BB] at h1
 refine Jn (Ja (Je (Je (Jb (Jd [0,0,0] [(2,Pt b1 0),(3,Pt b2 0),(4,Pt b3 0),(7,I (J7 q)),(17,Bo (decide (J7 q=0)))] (KD (decide (J7 q=0)) (fun bb=>[(2,Pt b1 0),(3,Pt b2 0),(4,Pt b3 0),(7,I (J7 q)),(17,Bo bb)]) [0,6,0,0,6,0,0] [1,1,1,1,1,1,0] (fun bb=>[(2,Pt b1 0),(3,Pt b2 0),(4,Pt b3 0),(7,I (J7 q)),(24,Bo (bb && (decide ((q.wait.length:Int)=q.most))))]) (Jc (Ja (Jo ((decide (J7 q=0)) && (decide ((q.wait.length:Int)=q.most))) (fun h4=>?_) (fun h4=>?_))))))))))
 try simp only [BB] at h4
 refine Jb (Jd [0] [(2,Pt b1 0),(3,Pt b2 0),(4,Pt b3 0),(7,I 7)] (Jc (Ja (Je (Jg [0,0] [(2,Pt b1 0),(3,Pt b2 0),(4,Pt b3 0),(7,I 7),(26,Bo true)] (JZ (Jg [0,0,3,0,0] [(4,Pt b3 0),(5,I 0),(6,I 7)] (Jk (Jh ?_)))))))))
 have hf5:JC q a=((⟨0,[]⟩:QN),0,7):=by
  unfold JC ZJ YV;simp_all;try omega
 refine Jl [0,0,0] [.agg #[I 0,Sl none 0 0],I 0,I 7] (JY [] (.cons _ (.cons _ (.cons _ .slnil))) (Jt.le_refl _) ?_)
 rw [hf5]
 try dsimp only
 exact ⟨none,0,rfl,(by omega),(RS.nil' QV G),rfl⟩
 try simp only [BB] at h4
 refine Jn (Ja (Je (Jg [0,0] [(2,Pt b1 0),(3,Pt b2 0),(4,Pt b3 0),(7,I (J7 q)),(26,Bo (!decide (J7 q=0)))] (Jo (!decide (J7 q=0)) (fun h5=>?_) (fun h5=>?_)))))
 try simp only [BB] at h5
 refine Jg [0,0,3,0,0] [(4,Pt b3 0),(5,I 0),(6,I (J7 q))] (Jk (Jh ?_))
 have hf6:JC q a=((⟨0,[]⟩:QN),0,J7 q):=by
  unfold JC ZJ YV;simp_all;try omega
 refine Jl [0,0,0] [.agg #[I 0,Sl none 0 0],I 0,I (J7 q)] (JY [] (.cons _ (.cons _ (.cons _ .slnil))) (Jt.le_refl _) ?_)
 rw [hf6]
 try dsimp only
 exact ⟨none,0,rfl,(by omega),(RS.nil' QV G),rfl⟩
 try simp only [BB] at h5
 refine Jn (Ja (Jg [0,6,0,0] [(2,Pt b1 0),(3,Pt b2 0),(4,Pt b3 0),(8,I (q.wait.length:Int))] (Je (KA [4,6,7,10] (Ws [(0,Pt b1 0),(1,I q.most),(2,Pt b1 1),(3,Sl a1 q.wait.length c1),(5,.agg #[Sr a.name,Sr a.value,U a.n,U a.tag]),(9,I (q.wait.length:Int))] (J2 [] [(0,0),(1,6),(2,0),(3,6),(5,4),(9,0)] [] [4,6] (List.forall_mem_nil _) (List.forall_mem_cons.2 ⟨?_,(List.forall_mem_cons.2 ⟨?_,List.forall_mem_nil _⟩)⟩)))))))
 refine JT 4 [(35,Sl a1 q.wait.length c1)] (fun X=>?_)
 refine JQ 36 (Z8 G a1 c1 q.wait hs1) (fun v G5 L1 hl5 hp=>?_)
 obtain ⟨a6,c6,_,rfl,hr5,rfl⟩:=hp
 refine JX [(4,Sl a6 q.wait.length c6)] (J2 [2,3] [(0,0),(1,8),(5,6),(9,0)] [] [6] (List.forall_mem_nil _) (List.forall_mem_cons.2 ⟨?_,List.forall_mem_nil _⟩))
 refine JT 6 [(37,.agg #[Sr a.name,Sr a.value,U a.n,U a.tag])] (fun X=>?_)
 refine KG 38 1 #[Sr a.name,Sr a.value,U a.n,U a.tag] 83 (fun b6=>JX [(6,Sl (At b6 0) 1 1)] (J2 [2,3,5] [(0,0),(1,10),(9,0)] [] [7] (List.forall_mem_nil _) (List.forall_mem_cons.2 ⟨?_,List.forall_mem_nil _⟩)))
 refine JT 7 [(36,Sl a6 q.wait.length c6),(38,Sl (At b6 0) 1 1)] (fun X=>?_)
 refine QM (b:=b6) (cs:=[Sr a.name,Sr a.value,U a.n,U a.tag]) 39 83 1 0 (E:=QV) a hr5 ⟨rfl,w2,w3,w4,w5⟩ (by have hq_:=K5.1 ‹_›;(try simp only [QV,List.length_append,List.length_cons,List.length_nil]);omega) (by have hq_:=K5.1 ‹_›;(try simp only [QV,List.length_append,List.length_cons,List.length_nil]);omega) (fun a7 c7 r6 hr6=>JX [(7,Sl a7 ((q.wait++[a]).length) c7),(8,.agg #[I q.most,Sl a7 ((q.wait++[a]).length) c7])] (J2 [2,3,5] [(0,0),(1,10),(8,0),(9,0)] [] [10] (List.forall_mem_nil _) (List.forall_mem_cons.2 ⟨?_,List.forall_mem_nil _⟩)))
 refine JT 10 [(4,Pt b3 0),(40,.agg #[I q.most,Sl a7 ((q.wait++[a]).length) c7])] (fun X=>?_)
 refine K3 2 [[Sg b6 0 [Sr a.name,Sr a.value,U a.n,U a.tag]],r6,[Sg b3 0 [I q.most,Sl a7 ((q.wait++[a]).length) c7]],[Sg b2 0 [Sr a.name,Sr a.value,U a.n,U a.tag]],[Sg b1 0 [I q.most,Sl a1 q.wait.length c1]]] (Kq [(11,I (q.wait.length:Int)),(12,I 0)] (Kz [0,1,2,3,5,8] [(9,0),(11,0),(12,0)] [] [(4,Pt b3 0),(5,I (q.wait.length:Int)),(6,I 0)] (List.forall_mem_nil _) (Ja (Jk (Wn (E:=QV) 1 hr6 (by have hq_:=K5.1 ‹_›;(try simp only [QV,List.length_append,List.length_cons,List.length_nil]);omega) (fun G6 hl6 hs4=>?_))))))
 have hf7:JC q a=((⟨q.most,q.wait++[a]⟩:QN),(q.wait.length:Int),0):=by
  unfold JC ZJ YV;simp_all;try omega
 refine Jl [2,0,0] [.agg #[I q.most,Sl a7 ((q.wait++[a]).length) c7],I (q.wait.length:Int),I 0] (JY [] (.cons _ (.cons _ (.cons _ (.cons _ (.cons _ .slnil))))) (Jt.le_trans hl5 hl6) ?_)
 rw [hf7]
 try dsimp only
 exact ⟨a7,c7,rfl,w1,hs4,rfl⟩
 refine JT 6 [(37,.agg #[Sr a.name,Sr a.value,U a.n,U a.tag])] (fun X=>?_)
 refine KG 38 1 #[Sr a.name,Sr a.value,U a.n,U a.tag] 83 (fun b7=>JX [(6,Sl (At b7 0) 1 1)] (J2 [5] [(0,0),(1,8),(2,0),(3,8),(9,0)] [] [4] (List.forall_mem_nil _) (List.forall_mem_cons.2 ⟨?_,List.forall_mem_nil _⟩)))
 refine JT 4 [(35,Sl a1 q.wait.length c1)] (fun X=>?_)
 refine JQ 36 (Z8 G a1 c1 q.wait hs1) (fun v G7 L1 hl7 hp=>?_)
 obtain ⟨a8,c8,_,rfl,hr7,rfl⟩:=hp
 refine JX [(4,Sl a8 q.wait.length c8)] (J2 [2,3,5] [(0,0),(1,10),(9,0)] [] [7] (List.forall_mem_nil _) (List.forall_mem_cons.2 ⟨?_,List.forall_mem_nil _⟩))
 refine JT 7 [(36,Sl a8 q.wait.length c8),(38,Sl (At b7 0) 1 1)] (fun X=>?_)
 refine QM (b:=b7) (cs:=[Sr a.name,Sr a.value,U a.n,U a.tag]) 39 83 0 1 (E:=QV) a hr7 ⟨rfl,w2,w3,w4,w5⟩ (by have hq_:=K5.1 ‹_›;(try simp only [QV,List.length_append,List.length_cons,List.length_nil]);omega) (by have hq_:=K5.1 ‹_›;(try simp only [QV,List.length_append,List.length_cons,List.length_nil]);omega) (fun a9 c9 r8 hr8=>JX [(7,Sl a9 ((q.wait++[a]).length) c9),(8,.agg #[I q.most,Sl a9 ((q.wait++[a]).length) c9])] (J2 [2,3,5] [(0,0),(1,10),(8,0),(9,0)] [] [10] (List.forall_mem_nil _) (List.forall_mem_cons.2 ⟨?_,List.forall_mem_nil _⟩)))
 refine JT 10 [(4,Pt b3 0),(40,.agg #[I q.most,Sl a9 ((q.wait++[a]).length) c9])] (fun X=>?_)
 refine K3 2 [r8,[Sg b7 0 [Sr a.name,Sr a.value,U a.n,U a.tag]],[Sg b3 0 [I q.most,Sl a9 ((q.wait++[a]).length) c9]],[Sg b2 0 [Sr a.name,Sr a.value,U a.n,U a.tag]],[Sg b1 0 [I q.most,Sl a1 q.wait.length c1]]] (Kq [(11,I (q.wait.length:Int)),(12,I 0)] (Kz [0,1,2,3,5,8] [(9,0),(11,0),(12,0)] [] [(4,Pt b3 0),(5,I (q.wait.length:Int)),(6,I 0)] (List.forall_mem_nil _) (Ja (Jk (Wn (E:=QV) 0 hr8 (by have hq_:=K5.1 ‹_›;(try simp only [QV,List.length_append,List.length_cons,List.length_nil]);omega) (fun G8 hl8 hs5=>?_))))))
 have hf8:JC q a=((⟨q.most,q.wait++[a]⟩:QN),(q.wait.length:Int),0):=by
  unfold JC ZJ YV;simp_all;try omega
 refine Jl [2,0,0] [.agg #[I q.most,Sl a9 ((q.wait++[a]).length) c9],I (q.wait.length:Int),I 0] (JY [] (.cons _ (.cons _ (.cons _ (.cons _ (.cons _ .slnil))))) (Jt.le_trans hl7 hl8) ?_)
 rw [hf8]
 try dsimp only
 exact ⟨a9,c9,rfl,w1,hs5,rfl⟩
theorem JeD (G:Jt) (vs_q:List Value) (q:QN) (h_q:JhV.R G vs_q q) (n:Int) :QI Tryz.prog 58 #[.agg vs_q.toArray,I n] G [] (fun u G' L'=>∃ (a1:Option Addr) (c2:Nat) (a3:Option Addr) (c4:Nat),u=.tuple #[.agg #[I (((JL q n).1).most),Sl a1 ((((JL q n).1).wait).length) c2],Sl a3 (((JL q n).2.1).length) c4,I ((JL q n).2.2)]∧(rI (((JL q n).1).most))∧(RS QV G' a1 c2 (((JL q n).1).wait))∧(RS QV G' a3 c4 ((JL q n).2.1))∧L'=[]):=by
 obtain ⟨a1,c1,rfl,w1,hs1⟩:=h_q
 refine JK Tryz.func58 35 [(0,.agg #[I q.most,Sl a1 q.wait.length c1]),(1,I n)] rfl (fun w0 G0=>?_)
 refine Je (Jb (Ju 2 #[I q.most,Sl a1 q.wait.length c1] 30 (fun b1=>Ju 4 #[I 0,Sl none 0 0] 30 (fun b2=>Jd [0,0] [(1,I n),(2,Pt b1 0),(4,Pt b2 0)] (Jc (Ja (Je (Je (Jb (Jd [4] [(1,I n),(2,Pt b1 0),(4,Pt b2 0),(8,.agg #[I q.most,Sl a1 q.wait.length c1])] (Ji 9 (I (J7 q)) (VK G [I q.most,Sl a1 q.wait.length c1] q (⟨a1,c1,rfl,w1,hs1⟩)) (Jd [0] [(1,I n),(2,Pt b1 0),(4,Pt b2 0),(7,I (J7 q))] (Jc (Ja (Jg [0,0] [(1,I n),(2,Pt b1 0),(4,Pt b2 0),(7,I (J7 q)),(11,Bo (!decide (J7 q=0)))] (Jo (!decide (J7 q=0)) (fun h1=>?_) (fun h1=>?_)))))))))))))))))
 try simp only [BB] at h1
 refine Jg [0,0,3,0,0] [(4,Pt b2 0),(5,Sl none 0 0),(6,I (J7 q))] (Jk (Jh ?_))
 have hf1:JL q n=((⟨0,[]⟩:QN),[],J7 q):=by
  unfold JL YV;simp_all;try omega
 refine Jl [0,0,0] [.agg #[I 0,Sl none 0 0],Sl none 0 0,I (J7 q)] (JY [] (.cons _ (.cons _ .slnil)) (Jt.le_refl _) ?_)
 rw [hf1]
 try dsimp only
 exact ⟨none,0,none,0,rfl,(by omega),(RS.nil' QV G),(RS.nil' QV G),rfl⟩
 try simp only [BB] at h1
 refine Jn (Ja (Je (Jg [0,0] [(1,I n),(2,Pt b1 0),(4,Pt b2 0),(15,Bo (decide (n<0)))] (Jo (decide (n<0)) (fun h2=>?_) (fun h2=>?_)))))
 try simp only [BB] at h2
 refine Jg [0,3,0,0] [(4,Pt b2 0),(5,Sl none 0 0),(6,I 4)] (Jk (Jh ?_))
 have hf2:JL q n=((⟨0,[]⟩:QN),[],4):=by
  unfold JL YV;simp_all;try omega
 refine Jl [0,0,0] [.agg #[I 0,Sl none 0 0],Sl none 0 0,I 4] (JY [] (.cons _ (.cons _ .slnil)) (Jt.le_refl _) ?_)
 rw [hf2]
 try dsimp only
 exact ⟨none,0,none,0,rfl,(by omega),(RS.nil' QV G),(RS.nil' QV G),rfl⟩
 try simp only [BB] at h2
 refine Jn (Ja (Jg [0,0,4,0,0,0] [(1,I (if (q.wait.length:Int)<n then (q.wait.length:Int) else n)),(2,Pt b1 0),(4,Pt b2 0)] ?_))
 have e1:(if (q.wait.length:Int)<n then (q.wait.length:Int) else n)=((QB n q.wait:Nat):Int):=JjT (by omega)
 refine KP (fr':=[(1,I ((QB n q.wait:Nat):Int)),(2,Pt b1 0),(4,Pt b2 0)]) (L':=[[Sg b2 0 [I 0,Sl none 0 0]],[Sg b1 0 [I q.most,Sl a1 q.wait.length c1]]]) (by simp only [e1]) (by rfl) ?_
 clear e1
 refine Je ?_
 obtain ⟨a2,c2,ea1,ec1,en1,eh1,hs2⟩:=RS.reslXD hs1 (QB n q.wait) (by have:=@Jbo n q.wait;omega)
 obtain ⟨a3,c3,ea2,ec2,en2,eh2,hs3⟩:=RS.reslXT hs1 (QB n q.wait) (by have:=@Jbo n q.wait;omega)
 refine KA [6,12,13] (Ws [(0,Pt b1 0),(1,I q.most),(2,Pt b1 1),(3,Sl a1 q.wait.length c1),(4,I ((QB n q.wait:Nat):Int)),(5,Sl a2 ((q.wait.drop (QB n q.wait)).length) c2),(8,Pt b1 1),(9,Sl a1 q.wait.length c1),(10,I ((QB n q.wait:Nat):Int)),(11,Sl a3 ((q.wait.take (QB n q.wait)).length) c3)] (J2 [] [(0,0),(1,4),(2,0),(3,4),(4,0),(8,0),(9,4),(10,0)] [5,11] [6] (List.forall_mem_cons.2 ⟨?_,(List.forall_mem_cons.2 ⟨?_,List.forall_mem_nil _⟩)⟩) (List.forall_mem_cons.2 ⟨?_,List.forall_mem_nil _⟩)))
 refine Jr 5 27 (Sl a2 ((q.wait.drop (QB n q.wait)).length) c2) [(25,Sl a1 q.wait.length c1),(26,I ((QB n q.wait:Nat):Int))] (fun X=>?_)
 exact W5 (a:=a1) (len:=q.wait.length) (cap:=c1) 27 4 (some (I ((QB n q.wait:Nat):Int))) none (QB n q.wait) q.wait.length (.inr ⟨_,rfl⟩) (.inl ⟨rfl,rfl⟩) (by have:=@Jbo n q.wait;omega) ea1 ec1 en1 eh1 Jp
 refine Jr 11 33 (Sl a3 ((q.wait.take (QB n q.wait)).length) c3) [(31,Sl a1 q.wait.length c1),(32,I ((QB n q.wait:Nat):Int))] (fun X=>?_)
 exact W5 (a:=a1) (len:=q.wait.length) (cap:=c1) 33 4 none (some (I ((QB n q.wait:Nat):Int))) 0 (QB n q.wait) (.inl ⟨rfl,rfl⟩) (.inr ⟨_,rfl⟩) (by exact Nat.zero_le _) ea2 ec2 en2 eh2 Jp
 refine JT 6 [(27,Sl a2 ((q.wait.drop (QB n q.wait)).length) c2)] (fun X=>?_)
 refine JQ 28 (Z8 G a2 c2 (q.wait.drop (QB n q.wait)) hs2) (fun v G1 L1 hl1 hp=>?_)
 obtain ⟨a4,c4,r1,rfl,hr1,rfl⟩:=hp
 refine JX [(6,Sl a4 ((q.wait.drop (QB n q.wait)).length) c4),(7,.agg #[I q.most,Sl a4 ((q.wait.drop (QB n q.wait)).length) c4])] (J2 [2,3,4,5] [(0,0),(1,6),(7,0),(8,0),(9,6),(10,0)] [11] [12] (List.forall_mem_cons.2 ⟨?_,List.forall_mem_nil _⟩) (List.forall_mem_cons.2 ⟨?_,List.forall_mem_nil _⟩))
 refine Jr 11 33 (Sl a3 ((q.wait.take (QB n q.wait)).length) c3) [(31,Sl a1 q.wait.length c1),(32,I ((QB n q.wait:Nat):Int))] (fun X=>?_)
 exact W5 (a:=a1) (len:=q.wait.length) (cap:=c1) 33 4 none (some (I ((QB n q.wait:Nat):Int))) 0 (QB n q.wait) (.inl ⟨rfl,rfl⟩) (.inr ⟨_,rfl⟩) (by exact Nat.zero_le _) ea2 ec2 en2 eh2 Jp
 refine JT 12 [(33,Sl a3 ((q.wait.take (QB n q.wait)).length) c3)] (fun X=>?_)
 refine JQ 34 (Z8 G1 a3 c3 (q.wait.take (QB n q.wait)) (hs3.mono hl1)) (fun v G2 L1 hl2 hp=>?_)
 obtain ⟨a6,c6,r2,rfl,hr2,rfl⟩:=hp
 refine JX [(12,Sl a6 ((q.wait.take (QB n q.wait)).length) c6)] (J2 [2,3,4,5,8,9,10,11] [(0,0),(1,8),(7,0)] [] [13] (List.forall_mem_nil _) (List.forall_mem_cons.2 ⟨?_,List.forall_mem_nil _⟩))
 refine JT 13 [(4,Pt b2 0),(29,.agg #[I q.most,Sl a4 ((q.wait.drop (QB n q.wait)).length) c4])] (fun X=>?_)
 refine K3 2 [r2,r1,[Sg b2 0 [I q.most,Sl a4 ((q.wait.drop (QB n q.wait)).length) c4]],[Sg b1 0 [I q.most,Sl a1 q.wait.length c1]]] (Kq [(14,Sl a6 ((q.wait.take (QB n q.wait)).length) c6),(15,I 0)] (Kz [0,1,2,3,4,5,7,8,9,10,11] [(14,0),(15,0)] [] [(4,Pt b2 0),(5,Sl a6 ((q.wait.take (QB n q.wait)).length) c6),(6,I 0)] (List.forall_mem_nil _) (Ja (Jk (Wn (E:=QV) 1 (hr1.mono hl2) (by exact (hs2).fit) (fun G3 hl3 hs5=>Wn (E:=QV) 0 (hr2.mono hl3) (by exact (hs3.mono hl1).fit) (fun G4 hl4 hs6=>?_)))))))
 have hf3:JL q n=((⟨q.most,q.wait.drop (QB n q.wait)⟩:QN),q.wait.take (QB n q.wait),0):=by
  unfold JL YV;simp_all;try omega
 refine Jl [2,0,0] [.agg #[I q.most,Sl a4 ((q.wait.drop (QB n q.wait)).length) c4],Sl a6 ((q.wait.take (QB n q.wait)).length) c6,I 0] (JY [] (.cons _ (.cons _ (.cons _ (.cons _ .slnil)))) (Jt.le_trans (Jt.le_trans (Jt.le_trans hl1 hl2) hl3) hl4) ?_)
 rw [hf3]
 try dsimp only
 exact ⟨a4,c4,a6,c6,rfl,‹_›,(hs5.mono hl4),hs6,rfl⟩
theorem JeE (G:Jt) (a:Int) (b:Int) (e:Int) :QI Tryz.prog 57 #[I a,I b,I e] G [] (fun u G' L'=>u=.tuple #[I ((Qa a b e).1),I ((Qa a b e).2)]):=by
 refine JK Tryz.func57 36 [(0,I a),(1,I b),(2,I e)] rfl (fun w0 G0=>?_)
 refine Jg [0,0] [(0,I a),(1,I b),(2,I e)] (Je (Je (Jb (Jd [0,0,0] [(0,I a),(1,I b),(2,I e),(10,Bo (decide (a<0)))] (KD (decide (a<0)) (fun bb=>[(0,I a),(1,I b),(2,I e),(10,Bo bb)]) [1,1,0] [0,0,0] (fun bb=>[(0,I a),(1,I b),(2,I e),(13,Bo (bb || (decide (a > 30))))]) (Jd [0] [(0,I a),(1,I b),(2,I e),(14,Bo ((decide (a<0)) || (decide (a > 30))))] (KD ((decide (a<0)) || (decide (a > 30))) (fun bb=>[(0,I a),(1,I b),(2,I e),(14,Bo bb)]) [1,1,0] [0,0,0] (fun bb=>[(0,I a),(1,I b),(2,I e),(17,Bo (bb || (decide (b<1))))]) (Jd [0] [(0,I a),(1,I b),(2,I e),(18,Bo (((decide (a<0)) || (decide (a > 30))) || (decide (b<1))))] (KD (((decide (a<0)) || (decide (a > 30))) || (decide (b<1))) (fun bb=>[(0,I a),(1,I b),(2,I e),(18,Bo bb)]) [1,1,0] [0,0,0] (fun bb=>[(0,I a),(1,I b),(2,I e),(21,Bo (bb || (decide (b > 30))))]) (Jd [0] [(0,I a),(1,I b),(2,I e),(22,Bo ((((decide (a<0)) || (decide (a > 30))) || (decide (b<1))) || (decide (b > 30))))] (KD ((((decide (a<0)) || (decide (a > 30))) || (decide (b<1))) || (decide (b > 30))) (fun bb=>[(0,I a),(1,I b),(2,I e),(22,Bo bb)]) [1,1,0] [0,0,0] (fun bb=>[(0,I a),(1,I b),(2,I e),(25,Bo (bb || (decide (e<1))))]) (Jd [0] [(0,I a),(1,I b),(2,I e),(26,Bo (((((decide (a<0)) || (decide (a > 30))) || (decide (b<1))) || (decide (b > 30))) || (decide (e<1))))] (KD (((((decide (a<0)) || (decide (a > 30))) || (decide (b<1))) || (decide (b > 30))) || (decide (e<1))) (fun bb=>[(0,I a),(1,I b),(2,I e),(26,Bo bb)]) [1,1,0] [0,0,0] (fun bb=>[(0,I a),(1,I b),(2,I e),(29,Bo (bb || (decide (e > 1000))))]) ?_)))))))))))))
 refine Jc (Ja (Jo ((((((decide (a<0)) || (decide (a > 30))) || (decide (b<1))) || (decide (b > 30))) || (decide (e<1))) || (decide (e > 1000))) (fun h1=>?_) (fun h1=>?_)))
 try simp only [BB] at h1
 refine Jg [0,0] [(6,I 0),(7,I 4)] (Jk (Jh (Jl [0,0] [I 0,I 4] (Jv (Jt.le_refl _) ?_))))
 have hf_:(Qa a b e)=(0,4):=by
  unfold Qa;(rw [if_pos (by omega)];done)
 · (try rw [hf_]);(simp only [JM];done)
 try simp only [BB] at h1
 refine Jn (Ja (Je (Jb (Jd [0,0] [(2,I e),(30,I a),(31,I b)] (Jb0 (k:=.i64) (x:=a) (y:=b) 32 true ((a).tdiv b) (by omega) (by simp only [cond_true];exact IntWalk.i64_in _ (by (have:=JdE (a:=a) (b:=b) (by omega) (by omega);omega))) (Jd [0,0,0,0,0] [(6,I (IntKind.i64.wrap ((IntKind.i64.wrap (((a).tdiv b)+1))*e))),(7,I 0)] ?_))))))
 have e1:IntKind.i64.wrap (((a).tdiv b)+1)=((a).tdiv b)+1:=IntWalk.i64_in _ (by (have:=JdE (a:=a) (b:=b) (by omega) (by omega);omega))
 have e2:IntKind.i64.wrap ((((a).tdiv b)+1)*e)=(((a).tdiv b)+1)*e:=IntWalk.i64_in _ (by (have:=JdE (a:=a) (b:=b) (by omega) (by omega);(have:=Ji1 (a:=a.tdiv b+1) (b:=e) (by omega) (by omega);omega)))
 refine J4 (fr':=[(6,I ((((a).tdiv b)+1)*e)),(7,I 0)]) (L':=[]) (by simp only [e1,e2]) (by rfl) ?_
 clear e2 e1
 refine Jc (Ja (Jk (Jl [0,0] [I ((((a).tdiv b)+1)*e),I 0] (Jv (Jt.le_refl _) ?_))))
 have hf_:(Qa a b e)=(((((a).tdiv b)+1)*e),0):=by
  unfold Qa;(rw [if_neg (by omega)];done)
 · (try rw [hf_]);(simp only [JM];done)
end Go.Proofs.YtnnlpbjdignhaaaGreatDoor
