import Derived.Test.YtnnlpbjdignhaaaGreatDoorTfStr
import Derived.Test.YtnnlpbjdignhaaaGreatDoorTfSl
namespace Go.Proofs.YtnnlpbjdignhaaaGreatDoor
open Go.Tx
set_option linter.unusedVariables false
set_option linter.unusedSimpArgs false
def K9 (name value:List UInt8):Int:=if KD name=false then 3 else if 20<value.length then 2 else 0
def Kr (a:W6):Int:=K9 a.name a.value
theorem Jc3 {a b:Int} (h:0≤a∧a≤30) (hb:1≤b∧b≤30):0≤a.tdiv b∧a.tdiv b≤30:=by
 rw [Int.tdiv_eq_ediv_of_nonneg h.1]
 exact ⟨Int.ediv_nonneg h.1 (by omega),Int.le_trans (Int.ediv_le_self _ h.1) h.2⟩
theorem Jh8 {a b:Int} (h:0≤a∧a≤31) (hb:1≤b∧b≤1000):0≤a*b∧a*b≤31000:=by
 refine ⟨Int.mul_nonneg h.1 (by omega),?_⟩
 have h1:a*b≤31*b:=Int.mul_le_mul_of_nonneg_right h.2 (by omega)
 omega
def ZN:List W6→Int
 | []=>0
 | a::l=>if Kr a=0 then ZN l else Kr a
def J6 (q:QF):Int:=if q.most<1∨30<q.most then 4 else if q.most<q.wait.length then 7 else ZN q.wait
def YC:QF:=⟨0,[]⟩
def Zw (q:QF) (a:W6):Int:=if J6 q ≠ 0 then J6 q else if Kr a ≠ 0 then Kr a else if (q.wait.length:Int)=q.most then 7 else 0
def JB (q:QF) (a:W6):QF×Int×Int:=if Zw q a ≠ 0 then (YC,0,Zw q a) else (⟨q.most,q.wait++[a]⟩,q.wait.length,0)
def Qz (n:Int) (l:List W6):Nat:=if (l.length:Int)<n then l.length else n.toNat
def JH (q:QF) (n:Int):QF×List W6×Int:=if J6 q ≠ 0 then (YC,[],J6 q) else if n<0 then (YC,[],4) else (⟨q.most,q.wait.drop (Qz n q.wait)⟩,q.wait.take (Qz n q.wait),0)
def K6 (ahead batch every:Int):Int×Int:=if ahead<0∨30<ahead∨batch<1∨30<batch∨every<1∨1000<every then (0,4) else ((ahead.tdiv batch+1)*every,0)
theorem Jdu {l:List W6} {i:Nat} {x:W6} (h:l[i]? = some x) (h0:Kr x=0):ZN (l.drop i)=ZN (l.drop (i+1)):=by
 obtain ⟨hi,rfl⟩:=List.getElem?_eq_some_iff.1 h
 rw [List.drop_eq_getElem_cons hi]
 show (if Kr l[i]=0 then _ else _)=_
 rw [if_pos h0]
theorem Jfi {l:List W6} {i:Nat} {x:W6} (h:l[i]? = some x) (h0:¬ Kr x=0):ZN (l.drop i)=Kr x:=by
 obtain ⟨hi,rfl⟩:=List.getElem?_eq_some_iff.1 h
 rw [List.drop_eq_getElem_cons hi]
 show (if Kr l[i]=0 then _ else _)=_
 rw [if_neg h0]
theorem JaZ:∀ {l:List W6},ZN l=0 ↔ ∀ a∈l,Kr a=0
 | []=>by simp [ZN]
 | a::l=>by
  unfold ZN
  split
  ·
   rename_i h;simp [JaZ (l:=l),h]
  ·
   rename_i h;simp [h]
theorem K0 {q:QF}:J6 q=0 ↔ 1≤q.most∧q.most≤30∧(q.wait.length:Int)≤q.most∧∀ a∈q.wait,Kr a=0:=by
 unfold J6
 rw [← JaZ]
 (repeat' split) <;> omega
theorem Jcy {q:QF} {a:W6} (h:(JB q a).2.2=0):J6 q=0∧Kr a=0∧(q.wait.length:Int)<q.most∧JB q a=((⟨q.most,q.wait++[a]⟩:QF),(q.wait.length:Int),(0:Int)):=by
 unfold JB at h ⊢
 split at h
 ·
  contradiction
 ·
  rename_i h1
  rw [if_neg h1]
  unfold Zw at h1
  have:=@K0 q
  by_cases e1:J6 q=0
  ·
   rw [if_neg (by omega)] at h1
   by_cases e2:Kr a=0
   ·
    rw [if_neg (by omega)] at h1
    by_cases e3:(q.wait.length:Int)=q.most
    ·
     rw [if_pos e3] at h1;omega
    ·
     exact ⟨e1,e2,by have:=this.1 e1;omega,rfl⟩
   ·
    rw [if_pos e2] at h1;omega
  ·
   rw [if_pos e1] at h1;omega
theorem Jdv {q:QF} {a:W6} (h:(JB q a).2.2=0):J6 (JB q a).1=0:=by
 obtain ⟨h1,h2,h3,h4⟩:=Jcy h
 rw [h4]
 rw [K0] at h1 ⊢
 refine ⟨h1.1,h1.2.1,by simp;omega,fun b hb=>?_⟩
 rcases List.mem_append.1 hb with hb | hb
 ·
  exact h1.2.2.2 b hb
 ·
  rw [List.mem_singleton.1 hb];exact h2
theorem Jfj {q:QF} {n:Int} (h:(JH q n).2.2=0):J6 q=0∧0≤n∧JH q n=((⟨q.most,q.wait.drop (Qz n q.wait)⟩:QF),q.wait.take (Qz n q.wait),(0:Int)):=by
 unfold JH at h ⊢
 split at h
 ·
  contradiction
 split at h
 ·
  cases h
 ·
  rename_i h1 h2
  rw [if_neg h1,if_neg h2]
  exact ⟨by omega,by omega,rfl⟩
theorem JcT {q:QF} {n:Int} (h:(JH q n).2.2=0):J6 (JH q n).1=0:=by
 obtain ⟨h1,h2,h3⟩:=Jfj h
 rw [h3]
 rw [K0] at h1 ⊢
 exact ⟨h1.1,h1.2.1,by simp;omega,fun b hb=>h1.2.2.2 b (List.mem_of_mem_drop hb)⟩
theorem JiX {n:Int} {l:List W6} (h:0≤n):(if (((l.length:Nat):Int))<n then (((l.length:Nat):Int)) else n)=((Qz n l:Nat):Int):=by unfold Qz;split <;> omega
theorem Jb5 {n:Int} {l:List W6}:Qz n l≤l.length:=by unfold Qz;split <;> omega
theorem Jav (G:Jt) (vs_a:List Value) (a:W6) (h_a:QO.R G vs_a a) :QE Tryz.prog 76 #[.agg vs_a.toArray] G [] (fun u G' L'=>u=I (Kr a)):=by
 obtain ⟨rfl,_,_,_,_⟩:=h_a
 refine JL Tryz.func76 13 [(0,.agg #[Sr a.name,Sr a.value,U a.n,U a.tag])] rfl (fun w0 G0=>?_)
 refine Je (Jb ?_)
 refine Ju 1 #[Sr a.name,Sr a.value,U a.n,U a.tag] 83 (fun b1=>?_)
 refine Jc [0] [(1,Pt b1 0)] (Jd (Ja (Je (Jy (Je (Jb ?_))))))
 refine Jc [0,2] [(1,Pt b1 0),(5,Sr a.name)] ?_
 refine Ji 6 (Bo (KD a.name)) (Zd G a.name) ?_
 refine Jc [0,0] [(1,Pt b1 0),(3,Bo (!(KD a.name)))] (Jd (Ja ?_))
 refine Jo (!(KD a.name)) (fun h1=>?_) (fun h1=>?_)
 try simp only [BB] at h1
 refine Jg [0] [(2,I 3)] (Jk (Js (Jh ?_)))
 refine Jl [0] [I 3] (Jv (Jt.le_refl _) ?_)
 have hf_:(Kr a)=3:=by
  unfold Kr K9;simp_all;try omega
 · (try rw [hf_]);(simp only [JM];done)
 try simp only [BB] at h1
 refine Jg [0,2,0,0,0] [(8,Bo (decide (((a.value).length:Int) > 20)))] ?_
 refine Jo (decide (((a.value).length:Int) > 20)) (fun h2=>?_) (fun h2=>?_)
 try simp only [BB] at h2
 refine Jg [0] [(2,I 2)] (Jk (Js (Jh ?_)))
 refine Jl [0] [I 2] (Jv (Jt.le_refl _) ?_)
 have hf_:(Kr a)=2:=by
  unfold Kr K9;simp_all;try omega
 · (try rw [hf_]);(simp only [JM];done)
 try simp only [BB] at h2
 refine Jm (JK (Ja ?_))
 refine Jg [0] [(2,I 0)] (Jk ?_)
 refine Jl [0] [I 0] (Jv (Jt.le_refl _) ?_)
 have hf_:(Kr a)=0:=by
  unfold Kr K9;simp_all;try omega
 · (try rw [hf_]);(simp only [JM];done)
theorem Vq (G:Jt) (vs_q:List Value) (q:QF) (h_q:Jg8.R G vs_q q) :QE Tryz.prog 34 #[.agg vs_q.toArray] G [] (fun u G' L'=>u=I (J6 q)):=by
 obtain ⟨a1,c1,rfl,_,hs1⟩:=h_q
 refine JL Tryz.func34 35 [(0,.agg #[I q.most,Sl a1 q.wait.length c1])] rfl (fun w0 G0=>?_)
 refine Je (Jb ?_)
 refine Ju 1 #[I q.most,Sl a1 q.wait.length c1] 30 (fun b1=>?_)
 refine Jc [0] [(1,Pt b1 0)] (Jd (Ja (Je (Jy (Je (Jb ?_))))))
 refine Jc [0,2,0,0] [(1,Pt b1 0),(10,Bo (decide (q.most<1)))] ?_
 refine Ky (decide (q.most<1)) (fun bb=>[(1,Pt b1 0),(10,Bo bb)]) [1,1,1,0] [0,2,0,0] (fun bb=>[(1,Pt b1 0),(14,Bo (bb || (decide (q.most > 30))))]) ?_
 refine Jc [0] [(1,Pt b1 0),(6,Bo ((decide (q.most<1)) || (decide (q.most > 30))))] (Jd (Ja ?_))
 refine Jo ((decide (q.most<1)) || (decide (q.most > 30))) (fun h1=>?_) (fun h1=>?_)
 try simp only [BB] at h1
 refine Jg [0] [(2,I 4)] (Jk (Js (Jh ?_)))
 refine Jl [0] [I 4] (Jv (Jt.le_refl _) ?_)
 have hf_:(J6 q)=4:=by
  unfold J6;(rw [if_pos (by omega)];done)
 · (try rw [hf_]);(simp only [JM];done)
 try simp only [BB] at h1
 refine Jg [0,2,0,0,2,0,0] [(1,Pt b1 0),(15,Bo (decide ((q.wait.length:Int) > q.most)))] ?_
 refine Jo (decide ((q.wait.length:Int) > q.most)) (fun h2=>?_) (fun h2=>?_)
 try simp only [BB] at h2
 refine Jg [0] [(2,I 7)] (Jk (Js (Jh ?_)))
 refine Jl [0] [I 7] (Jv (Jt.le_refl _) ?_)
 have hf_:(J6 q)=7:=by
  unfold J6;(rw [if_neg (by omega),if_pos (by omega)];done)
 · (try rw [hf_]);(simp only [JM];done)
 try simp only [BB] at h2
 refine Jm (JK (Ja (Je ?_)))
 refine Jg [0,2,0,0] [(23,Sl a1 q.wait.length c1),(24,I (q.wait.length:Int)),(25,I 0)] (Jy ?_)
 have hlm_hs1:q.wait.length≤9223372036854775807:=Nat.le_trans (hs1).le (hs1).max
 refine Qb (σ:=Nat) (fun q_=>(q_≤q.wait.length)∧(ZN q.wait=ZN (q.wait.drop q_))) (fun q_=>[(23,Sl a1 q.wait.length c1),(24,I (q.wait.length:Int)),(25,I (q_:Int))]) (fun q_=>G) (fun q_=>[[Sg b1 0 [I q.most,Sl a1 q.wait.length c1]]]) (fun q_=>q.wait.length-q_) 0 ⟨(by (try dsimp only);exact Nat.zero_le _),rfl⟩ (fun q_ hs=>?_)
 revert hs;revert q_;intro i hs
 obtain ⟨hi,hn⟩:=hs
 refine KJ (fr':=[(23,Sl a1 q.wait.length c1),(24,I (q.wait.length:Int)),(25,I (i:Int))]) (L':=[[Sg b1 0 [I q.most,Sl a1 q.wait.length c1]]]) rfl rfl ?_
 refine Jg [0] [(23,Sl a1 q.wait.length c1),(24,I (q.wait.length:Int)),(25,I (i:Int)),(26,Bo (decide ((i:Int)<(q.wait.length:Int))))] (Je ?_)
 refine Jo (decide ((i:Int)<(q.wait.length:Int))) (fun h3=>?_) (fun h3=>?_)
 try simp only [BB] at h3
 refine Jm (Ja (Je (Jy (Je (Jb ?_)))))
 obtain ⟨b2,o1,rfl⟩:=RS.addr hs1 (k:=i) (by omega)
 obtain ⟨x1,hx1⟩:=Q8 (l:=q.wait) (k:=i) (by omega)
 obtain ⟨_,⟨rfl,w2,w3,w4,w5⟩,hc1⟩:=RS.get hs1 hx1
 refine Kh (b:=b2) (off:=o1) (len:=q.wait.length) (cap:=c1) (ik:=.i64) 27 83 4 i (by omega) ?_
 refine J9 28 83 (cs:=[Sr x1.name,Sr x1.value,U x1.n,U x1.tag]) 0 (.agg #[Sr x1.name,Sr x1.value,U x1.n,U x1.tag]) hc1 ?_
 refine Ju 4 #[Sr ([]),Sr ([]),U 0,U 0] 83 (fun b3=>?_)
 refine Kb [3] [(4,Pt b3 0),(23,Sl (At b2 o1) q.wait.length c1),(24,I (q.wait.length:Int)),(25,I (i:Int))] [[Sg b3 0 [Sr x1.name,Sr x1.value,U x1.n,U x1.tag]],[Sg b1 0 [I q.most,Sl (At b2 o1) q.wait.length c1]]] (Jd (Ja (Je (Jb ?_))))
 refine Jc [2] [(23,Sl (At b2 o1) q.wait.length c1),(24,I (q.wait.length:Int)),(25,I (i:Int)),(29,.agg #[Sr x1.name,Sr x1.value,U x1.n,U x1.tag])] ?_
 refine Ji 30 (I (Kr x1)) (Jav G [Sr x1.name,Sr x1.value,U x1.n,U x1.tag] x1 (⟨rfl,w2,w3,w4,w5⟩)) ?_
 refine Jc [0] [(5,I (Kr x1)),(23,Sl (At b2 o1) q.wait.length c1),(24,I (q.wait.length:Int)),(25,I (i:Int))] (Jd (Ja ?_))
 refine Jg [0,0] [(5,I (Kr x1)),(23,Sl (At b2 o1) q.wait.length c1),(24,I (q.wait.length:Int)),(25,I (i:Int)),(32,Bo (!decide (Kr x1=0)))] ?_
 refine Jo (!decide (Kr x1=0)) (fun h4=>?_) (fun h4=>?_)
 try simp only [BB] at h4
 refine Jg [0,0] [(2,I (Kr x1))] (Jk (Js (Jh (QB (Js (Jh ?_))))))
 refine Jl [0] [I (Kr x1)] (Jv (Jt.le_refl _) ?_)
 have hf_:(J6 q)=(Kr x1):=by
  unfold J6;(rw [if_neg (by omega),if_neg (by omega),hn];exact Jfi hx1 h4)
 · (try rw [hf_]);(simp only [JM];done)
 try simp only [BB] at h4
 refine Jm (JK (Ja (Jb ?_)))
 refine Jc [0,0] [(23,Sl (At b2 o1) q.wait.length c1),(24,I (q.wait.length:Int)),(25,I (IntKind.i64.wrap ((i:Int)+1)))] ?_
 have e1:IntKind.i64.wrap ((i:Int)+1)=(i:Int)+1:=IntWalk.i64_in _ (by omega)
 refine J2 (fr':=[(23,Sl (At b2 o1) q.wait.length c1),(24,I (q.wait.length:Int)),(25,I ((i:Int)+1))]) (L':=[[Sg b3 0 [Sr x1.name,Sr x1.value,U x1.n,U x1.tag]],[Sg b1 0 [I q.most,Sl (At b2 o1) q.wait.length c1]]]) (by simp only [e1]) (by rfl) ?_
 clear e1
 refine Jd ?_
 refine QY [[Sg b1 0 [I q.most,Sl (At b2 o1) q.wait.length c1]]] (.cons _ (.cons_cons _ .slnil)) ?_
 exact Qd (i+1) ⟨(by omega),(by rw [hn];exact Jdu hx1 h4)⟩ (by (try dsimp only);omega)
 try simp only [BB] at h3
 refine KU (J3 (Ke (JW (Ja ?_))))
 refine Jg [0] [(2,I 0)] (Jk ?_)
 refine Jl [0] [I 0] (Jv (Jt.le_refl _) ?_)
 have hf_:(J6 q)=0:=by
  unfold J6;(rw [if_neg (by omega),if_neg (by omega),hn];(rw [List.drop_eq_nil_of_le (by omega)];rfl))
 · (try rw [hf_]);(simp only [JM];done)
set_option maxRecDepth 20000 in
theorem Jfk (G:Jt) (vs_q:List Value) (q:QF) (h_q:Jg8.R G vs_q q) (vs_a:List Value) (a:W6) (h_a:QO.R G vs_a a) :QE Tryz.prog 54 #[.agg vs_q.toArray,.agg vs_a.toArray] G [] (fun u G' L'=>∃ (a1:Option Addr) (c2:Nat),u=.tuple #[.agg #[I (((JB q a).1).most),Sl a1 ((((JB q a).1).wait).length) c2],I ((JB q a).2.1),I ((JB q a).2.2)]∧(rI (((JB q a).1).most))∧(RS QO G' a1 c2 (((JB q a).1).wait))∧L'=[]):=by
 obtain ⟨a1,c1,rfl,w1,hs1⟩:=h_q
 obtain ⟨rfl,w2,w3,w4,w5⟩:=h_a
 refine JL Tryz.func54 42 [(0,.agg #[I q.most,Sl a1 q.wait.length c1]),(1,.agg #[Sr a.name,Sr a.value,U a.n,U a.tag])] rfl (fun w0 G0=>?_)
 refine Je (Jb ?_)
 refine Ju 2 #[I q.most,Sl a1 q.wait.length c1] 30 (fun b1=>?_)
 refine Ju 3 #[Sr a.name,Sr a.value,U a.n,U a.tag] 83 (fun b2=>?_)
 refine Ju 4 #[I 0,Sl none 0 0] 30 (fun b3=>?_)
 refine Jc [0,0] [(2,Pt b1 0),(3,Pt b2 0),(4,Pt b3 0)] (Jd (Ja (Je (Jb ?_))))
 refine Jc [6] [(2,Pt b1 0),(3,Pt b2 0),(4,Pt b3 0),(9,.agg #[I q.most,Sl a1 q.wait.length c1])] ?_
 refine Ji 10 (I (J6 q)) (Vq G [I q.most,Sl a1 q.wait.length c1] q (⟨a1,c1,rfl,w1,hs1⟩)) ?_
 refine Jc [0] [(2,Pt b1 0),(3,Pt b2 0),(4,Pt b3 0),(7,I (J6 q))] (Jd (Ja (Je ?_)))
 refine Jg [0,0] [(2,Pt b1 0),(3,Pt b2 0),(4,Pt b3 0),(7,I (J6 q)),(12,Bo (decide (J6 q=0)))] ?_
 refine Jo (decide (J6 q=0)) (fun h1=>?_) (fun h1=>?_)
 try simp only [BB] at h1
 refine Jb ?_
 refine Jc [4] [(2,Pt b1 0),(3,Pt b2 0),(4,Pt b3 0),(7,I (J6 q)),(13,.agg #[Sr a.name,Sr a.value,U a.n,U a.tag])] ?_
 refine Ji 14 (I (Kr a)) (Jav G [Sr a.name,Sr a.value,U a.n,U a.tag] a (⟨rfl,w2,w3,w4,w5⟩)) ?_
 refine Jc [0] [(2,Pt b1 0),(3,Pt b2 0),(4,Pt b3 0),(7,I (Kr a))] (Jd (Ja (Je (Je (Jb ?_)))))
 refine Jc [0,0,0] [(2,Pt b1 0),(3,Pt b2 0),(4,Pt b3 0),(7,I (Kr a)),(17,Bo (decide (Kr a=0)))] ?_
 refine Ky (decide (Kr a=0)) (fun bb=>[(2,Pt b1 0),(3,Pt b2 0),(4,Pt b3 0),(7,I (Kr a)),(17,Bo bb)]) [0,6,0,0,6,0,0] [1,1,1,1,1,1,0] (fun bb=>[(2,Pt b1 0),(3,Pt b2 0),(4,Pt b3 0),(7,I (Kr a)),(24,Bo (bb && (decide ((q.wait.length:Int)=q.most))))]) ?_
 refine Jd (Ja ?_)
 refine Jo ((decide (Kr a=0)) && (decide ((q.wait.length:Int)=q.most))) (fun h2=>?_) (fun h2=>?_)
 try simp only [BB] at h2
 refine Jb ?_
 refine Jc [0] [(2,Pt b1 0),(3,Pt b2 0),(4,Pt b3 0),(7,I 7)] (Jd (Ja (Je ?_)))
 refine Jg [0,0] [(2,Pt b1 0),(3,Pt b2 0),(4,Pt b3 0),(7,I 7),(26,Bo true)] ?_
 refine J0 ?_
 refine Jg [0,0,3,0,0] [(4,Pt b3 0),(5,I 0),(6,I 7)] (Jk (Jh ?_))
 have hf1:JB q a=((⟨0,[]⟩:QF),0,7):=by
  unfold JB Zw YC;simp_all;try omega
 refine Jl [0,0,0] [.agg #[I 0,Sl none 0 0],I 0,I 7] (JY [] (.cons _ (.cons _ (.cons _ .slnil))) (Jt.le_refl _) ?_)
 rw [hf1]
 try dsimp only
 exact ⟨none,0,rfl,(by omega),(RS.nil' QO G),rfl⟩
 try simp only [BB] at h2
 refine Jm (Ja (Je ?_))
 refine Jg [0,0] [(2,Pt b1 0),(3,Pt b2 0),(4,Pt b3 0),(7,I (Kr a)),(26,Bo (!decide (Kr a=0)))] ?_
 refine Jo (!decide (Kr a=0)) (fun h3=>?_) (fun h3=>?_)
 try simp only [BB] at h3
 refine Jg [0,0,3,0,0] [(4,Pt b3 0),(5,I 0),(6,I (Kr a))] (Jk (Jh ?_))
 have hf2:JB q a=((⟨0,[]⟩:QF),0,Kr a):=by
  unfold JB Zw YC;simp_all;try omega
 refine Jl [0,0,0] [.agg #[I 0,Sl none 0 0],I 0,I (Kr a)] (JY [] (.cons _ (.cons _ (.cons _ .slnil))) (Jt.le_refl _) ?_)
 rw [hf2]
 try dsimp only
 exact ⟨none,0,rfl,(by omega),(RS.nil' QO G),rfl⟩
 try simp only [BB] at h3
 refine Jm (Ja ?_)
 refine Jg [0,6,0,0] [(2,Pt b1 0),(3,Pt b2 0),(4,Pt b3 0),(8,I (q.wait.length:Int))] (Je ?_)
 refine Kw [4,6,7,10] ?_
 refine Wa [(0,Pt b1 0),(1,I q.most),(2,Pt b1 1),(3,Sl a1 q.wait.length c1),(5,.agg #[Sr a.name,Sr a.value,U a.n,U a.tag]),(9,I (q.wait.length:Int))] ?_
 refine JZ [] [(0,0),(1,6),(2,0),(3,6),(5,4),(9,0)] [] [4,6] (List.forall_mem_nil _) (List.forall_mem_cons.2 ⟨?_,(List.forall_mem_cons.2 ⟨?_,List.forall_mem_nil _⟩)⟩)
 refine JO 4 [(35,Sl a1 q.wait.length c1)] (fun X=>?_)
 refine JN 36 (ZW G a1 c1 q.wait hs1) (fun v G1 L1 hl1 hp=>?_)
 obtain ⟨a2,c2,_,rfl,hr1,rfl⟩:=hp
 refine JS [(4,Sl a2 q.wait.length c2)] ?_
 refine JZ [2,3] [(0,0),(1,8),(5,6),(9,0)] [] [6] (List.forall_mem_nil _) (List.forall_mem_cons.2 ⟨?_,List.forall_mem_nil _⟩)
 refine JO 6 [(37,.agg #[Sr a.name,Sr a.value,U a.n,U a.tag])] (fun X=>?_)
 refine KC 38 1 #[Sr a.name,Sr a.value,U a.n,U a.tag] 83 (fun b4=>?_)
 refine JS [(6,Sl (At b4 0) 1 1)] ?_
 refine JZ [2,3,5] [(0,0),(1,10),(9,0)] [] [7] (List.forall_mem_nil _) (List.forall_mem_cons.2 ⟨?_,List.forall_mem_nil _⟩)
 refine JO 7 [(36,Sl a2 q.wait.length c2),(38,Sl (At b4 0) 1 1)] (fun X=>?_)
 refine QC (b:=b4) (cs:=[Sr a.name,Sr a.value,U a.n,U a.tag]) 39 83 1 0 (E:=QO) a hr1 ⟨rfl,w2,w3,w4,w5⟩ (by have hq_:=K0.1 ‹_›;(try simp only [QO,List.length_append,List.length_cons,List.length_nil]);omega) (by have hq_:=K0.1 ‹_›;(try simp only [QO,List.length_append,List.length_cons,List.length_nil]);omega) (fun a3 c3 r2 hr2=>?_)
 refine JS [(7,Sl a3 ((q.wait++[a]).length) c3),(8,.agg #[I q.most,Sl a3 ((q.wait++[a]).length) c3])] ?_
 refine JZ [2,3,5] [(0,0),(1,10),(8,0),(9,0)] [] [10] (List.forall_mem_nil _) (List.forall_mem_cons.2 ⟨?_,List.forall_mem_nil _⟩)
 refine JO 10 [(4,Pt b3 0),(40,.agg #[I q.most,Sl a3 ((q.wait++[a]).length) c3])] (fun X=>?_)
 refine KQ 2 [[Sg b4 0 [Sr a.name,Sr a.value,U a.n,U a.tag]],r2,[Sg b3 0 [I q.most,Sl a3 ((q.wait++[a]).length) c3]],[Sg b2 0 [Sr a.name,Sr a.value,U a.n,U a.tag]],[Sg b1 0 [I q.most,Sl a1 q.wait.length c1]]] ?_
 refine Kj [(11,I (q.wait.length:Int)),(12,I 0)] ?_
 refine Kv [0,1,2,3,5,8] [(9,0),(11,0),(12,0)] [] [(4,Pt b3 0),(5,I (q.wait.length:Int)),(6,I 0)] (List.forall_mem_nil _) ?_
 refine Ja (Jk ?_)
 refine We (E:=QO) 1 hr2 (by have hq_:=K0.1 ‹_›;(try simp only [QO,List.length_append,List.length_cons,List.length_nil]);omega) (fun G2 hl2 hs2=>?_)
 have hf3:JB q a=((⟨q.most,q.wait++[a]⟩:QF),(q.wait.length:Int),0):=by
  unfold JB Zw YC;simp_all;try omega
 refine Jl [2,0,0] [.agg #[I q.most,Sl a3 ((q.wait++[a]).length) c3],I (q.wait.length:Int),I 0] (JY [] (.cons _ (.cons _ (.cons _ (.cons _ (.cons _ .slnil))))) (Jt.le_trans hl1 hl2) ?_)
 rw [hf3]
 try dsimp only
 exact ⟨a3,c3,rfl,w1,hs2,rfl⟩
 refine JO 6 [(37,.agg #[Sr a.name,Sr a.value,U a.n,U a.tag])] (fun X=>?_)
 refine KC 38 1 #[Sr a.name,Sr a.value,U a.n,U a.tag] 83 (fun b5=>?_)
 refine JS [(6,Sl (At b5 0) 1 1)] ?_
 refine JZ [5] [(0,0),(1,8),(2,0),(3,8),(9,0)] [] [4] (List.forall_mem_nil _) (List.forall_mem_cons.2 ⟨?_,List.forall_mem_nil _⟩)
 refine JO 4 [(35,Sl a1 q.wait.length c1)] (fun X=>?_)
 refine JN 36 (ZW G a1 c1 q.wait hs1) (fun v G3 L1 hl3 hp=>?_)
 obtain ⟨a4,c4,_,rfl,hr3,rfl⟩:=hp
 refine JS [(4,Sl a4 q.wait.length c4)] ?_
 refine JZ [2,3,5] [(0,0),(1,10),(9,0)] [] [7] (List.forall_mem_nil _) (List.forall_mem_cons.2 ⟨?_,List.forall_mem_nil _⟩)
 refine JO 7 [(36,Sl a4 q.wait.length c4),(38,Sl (At b5 0) 1 1)] (fun X=>?_)
 refine QC (b:=b5) (cs:=[Sr a.name,Sr a.value,U a.n,U a.tag]) 39 83 0 1 (E:=QO) a hr3 ⟨rfl,w2,w3,w4,w5⟩ (by have hq_:=K0.1 ‹_›;(try simp only [QO,List.length_append,List.length_cons,List.length_nil]);omega) (by have hq_:=K0.1 ‹_›;(try simp only [QO,List.length_append,List.length_cons,List.length_nil]);omega) (fun a5 c5 r4 hr4=>?_)
 refine JS [(7,Sl a5 ((q.wait++[a]).length) c5),(8,.agg #[I q.most,Sl a5 ((q.wait++[a]).length) c5])] ?_
 refine JZ [2,3,5] [(0,0),(1,10),(8,0),(9,0)] [] [10] (List.forall_mem_nil _) (List.forall_mem_cons.2 ⟨?_,List.forall_mem_nil _⟩)
 refine JO 10 [(4,Pt b3 0),(40,.agg #[I q.most,Sl a5 ((q.wait++[a]).length) c5])] (fun X=>?_)
 refine KQ 2 [r4,[Sg b5 0 [Sr a.name,Sr a.value,U a.n,U a.tag]],[Sg b3 0 [I q.most,Sl a5 ((q.wait++[a]).length) c5]],[Sg b2 0 [Sr a.name,Sr a.value,U a.n,U a.tag]],[Sg b1 0 [I q.most,Sl a1 q.wait.length c1]]] ?_
 refine Kj [(11,I (q.wait.length:Int)),(12,I 0)] ?_
 refine Kv [0,1,2,3,5,8] [(9,0),(11,0),(12,0)] [] [(4,Pt b3 0),(5,I (q.wait.length:Int)),(6,I 0)] (List.forall_mem_nil _) ?_
 refine Ja (Jk ?_)
 refine We (E:=QO) 0 hr4 (by have hq_:=K0.1 ‹_›;(try simp only [QO,List.length_append,List.length_cons,List.length_nil]);omega) (fun G4 hl4 hs3=>?_)
 have hf4:JB q a=((⟨q.most,q.wait++[a]⟩:QF),(q.wait.length:Int),0):=by
  unfold JB Zw YC;simp_all;try omega
 refine Jl [2,0,0] [.agg #[I q.most,Sl a5 ((q.wait++[a]).length) c5],I (q.wait.length:Int),I 0] (JY [] (.cons _ (.cons _ (.cons _ (.cons _ (.cons _ .slnil))))) (Jt.le_trans hl3 hl4) ?_)
 rw [hf4]
 try dsimp only
 exact ⟨a5,c5,rfl,w1,hs3,rfl⟩
 try simp only [BB] at h1
 refine Jm (Ja (Je (Je (Jb ?_))))
 refine Jc [0,0,0] [(2,Pt b1 0),(3,Pt b2 0),(4,Pt b3 0),(7,I (J6 q)),(17,Bo (decide (J6 q=0)))] ?_
 refine Ky (decide (J6 q=0)) (fun bb=>[(2,Pt b1 0),(3,Pt b2 0),(4,Pt b3 0),(7,I (J6 q)),(17,Bo bb)]) [0,6,0,0,6,0,0] [1,1,1,1,1,1,0] (fun bb=>[(2,Pt b1 0),(3,Pt b2 0),(4,Pt b3 0),(7,I (J6 q)),(24,Bo (bb && (decide ((q.wait.length:Int)=q.most))))]) ?_
 refine Jd (Ja ?_)
 refine Jo ((decide (J6 q=0)) && (decide ((q.wait.length:Int)=q.most))) (fun h4=>?_) (fun h4=>?_)
 try simp only [BB] at h4
 refine Jb ?_
 refine Jc [0] [(2,Pt b1 0),(3,Pt b2 0),(4,Pt b3 0),(7,I 7)] (Jd (Ja (Je ?_)))
 refine Jg [0,0] [(2,Pt b1 0),(3,Pt b2 0),(4,Pt b3 0),(7,I 7),(26,Bo true)] ?_
 refine J0 ?_
 refine Jg [0,0,3,0,0] [(4,Pt b3 0),(5,I 0),(6,I 7)] (Jk (Jh ?_))
 have hf5:JB q a=((⟨0,[]⟩:QF),0,7):=by
  unfold JB Zw YC;simp_all;try omega
 refine Jl [0,0,0] [.agg #[I 0,Sl none 0 0],I 0,I 7] (JY [] (.cons _ (.cons _ (.cons _ .slnil))) (Jt.le_refl _) ?_)
 rw [hf5]
 try dsimp only
 exact ⟨none,0,rfl,(by omega),(RS.nil' QO G),rfl⟩
 try simp only [BB] at h4
 refine Jm (Ja (Je ?_))
 refine Jg [0,0] [(2,Pt b1 0),(3,Pt b2 0),(4,Pt b3 0),(7,I (J6 q)),(26,Bo (!decide (J6 q=0)))] ?_
 refine Jo (!decide (J6 q=0)) (fun h5=>?_) (fun h5=>?_)
 try simp only [BB] at h5
 refine Jg [0,0,3,0,0] [(4,Pt b3 0),(5,I 0),(6,I (J6 q))] (Jk (Jh ?_))
 have hf6:JB q a=((⟨0,[]⟩:QF),0,J6 q):=by
  unfold JB Zw YC;simp_all;try omega
 refine Jl [0,0,0] [.agg #[I 0,Sl none 0 0],I 0,I (J6 q)] (JY [] (.cons _ (.cons _ (.cons _ .slnil))) (Jt.le_refl _) ?_)
 rw [hf6]
 try dsimp only
 exact ⟨none,0,rfl,(by omega),(RS.nil' QO G),rfl⟩
 try simp only [BB] at h5
 refine Jm (Ja ?_)
 refine Jg [0,6,0,0] [(2,Pt b1 0),(3,Pt b2 0),(4,Pt b3 0),(8,I (q.wait.length:Int))] (Je ?_)
 refine Kw [4,6,7,10] ?_
 refine Wa [(0,Pt b1 0),(1,I q.most),(2,Pt b1 1),(3,Sl a1 q.wait.length c1),(5,.agg #[Sr a.name,Sr a.value,U a.n,U a.tag]),(9,I (q.wait.length:Int))] ?_
 refine JZ [] [(0,0),(1,6),(2,0),(3,6),(5,4),(9,0)] [] [4,6] (List.forall_mem_nil _) (List.forall_mem_cons.2 ⟨?_,(List.forall_mem_cons.2 ⟨?_,List.forall_mem_nil _⟩)⟩)
 refine JO 4 [(35,Sl a1 q.wait.length c1)] (fun X=>?_)
 refine JN 36 (ZW G a1 c1 q.wait hs1) (fun v G5 L1 hl5 hp=>?_)
 obtain ⟨a6,c6,_,rfl,hr5,rfl⟩:=hp
 refine JS [(4,Sl a6 q.wait.length c6)] ?_
 refine JZ [2,3] [(0,0),(1,8),(5,6),(9,0)] [] [6] (List.forall_mem_nil _) (List.forall_mem_cons.2 ⟨?_,List.forall_mem_nil _⟩)
 refine JO 6 [(37,.agg #[Sr a.name,Sr a.value,U a.n,U a.tag])] (fun X=>?_)
 refine KC 38 1 #[Sr a.name,Sr a.value,U a.n,U a.tag] 83 (fun b6=>?_)
 refine JS [(6,Sl (At b6 0) 1 1)] ?_
 refine JZ [2,3,5] [(0,0),(1,10),(9,0)] [] [7] (List.forall_mem_nil _) (List.forall_mem_cons.2 ⟨?_,List.forall_mem_nil _⟩)
 refine JO 7 [(36,Sl a6 q.wait.length c6),(38,Sl (At b6 0) 1 1)] (fun X=>?_)
 refine QC (b:=b6) (cs:=[Sr a.name,Sr a.value,U a.n,U a.tag]) 39 83 1 0 (E:=QO) a hr5 ⟨rfl,w2,w3,w4,w5⟩ (by have hq_:=K0.1 ‹_›;(try simp only [QO,List.length_append,List.length_cons,List.length_nil]);omega) (by have hq_:=K0.1 ‹_›;(try simp only [QO,List.length_append,List.length_cons,List.length_nil]);omega) (fun a7 c7 r6 hr6=>?_)
 refine JS [(7,Sl a7 ((q.wait++[a]).length) c7),(8,.agg #[I q.most,Sl a7 ((q.wait++[a]).length) c7])] ?_
 refine JZ [2,3,5] [(0,0),(1,10),(8,0),(9,0)] [] [10] (List.forall_mem_nil _) (List.forall_mem_cons.2 ⟨?_,List.forall_mem_nil _⟩)
 refine JO 10 [(4,Pt b3 0),(40,.agg #[I q.most,Sl a7 ((q.wait++[a]).length) c7])] (fun X=>?_)
 refine KQ 2 [[Sg b6 0 [Sr a.name,Sr a.value,U a.n,U a.tag]],r6,[Sg b3 0 [I q.most,Sl a7 ((q.wait++[a]).length) c7]],[Sg b2 0 [Sr a.name,Sr a.value,U a.n,U a.tag]],[Sg b1 0 [I q.most,Sl a1 q.wait.length c1]]] ?_
 refine Kj [(11,I (q.wait.length:Int)),(12,I 0)] ?_
 refine Kv [0,1,2,3,5,8] [(9,0),(11,0),(12,0)] [] [(4,Pt b3 0),(5,I (q.wait.length:Int)),(6,I 0)] (List.forall_mem_nil _) ?_
 refine Ja (Jk ?_)
 refine We (E:=QO) 1 hr6 (by have hq_:=K0.1 ‹_›;(try simp only [QO,List.length_append,List.length_cons,List.length_nil]);omega) (fun G6 hl6 hs4=>?_)
 have hf7:JB q a=((⟨q.most,q.wait++[a]⟩:QF),(q.wait.length:Int),0):=by
  unfold JB Zw YC;simp_all;try omega
 refine Jl [2,0,0] [.agg #[I q.most,Sl a7 ((q.wait++[a]).length) c7],I (q.wait.length:Int),I 0] (JY [] (.cons _ (.cons _ (.cons _ (.cons _ (.cons _ .slnil))))) (Jt.le_trans hl5 hl6) ?_)
 rw [hf7]
 try dsimp only
 exact ⟨a7,c7,rfl,w1,hs4,rfl⟩
 refine JO 6 [(37,.agg #[Sr a.name,Sr a.value,U a.n,U a.tag])] (fun X=>?_)
 refine KC 38 1 #[Sr a.name,Sr a.value,U a.n,U a.tag] 83 (fun b7=>?_)
 refine JS [(6,Sl (At b7 0) 1 1)] ?_
 refine JZ [5] [(0,0),(1,8),(2,0),(3,8),(9,0)] [] [4] (List.forall_mem_nil _) (List.forall_mem_cons.2 ⟨?_,List.forall_mem_nil _⟩)
 refine JO 4 [(35,Sl a1 q.wait.length c1)] (fun X=>?_)
 refine JN 36 (ZW G a1 c1 q.wait hs1) (fun v G7 L1 hl7 hp=>?_)
 obtain ⟨a8,c8,_,rfl,hr7,rfl⟩:=hp
 refine JS [(4,Sl a8 q.wait.length c8)] ?_
 refine JZ [2,3,5] [(0,0),(1,10),(9,0)] [] [7] (List.forall_mem_nil _) (List.forall_mem_cons.2 ⟨?_,List.forall_mem_nil _⟩)
 refine JO 7 [(36,Sl a8 q.wait.length c8),(38,Sl (At b7 0) 1 1)] (fun X=>?_)
 refine QC (b:=b7) (cs:=[Sr a.name,Sr a.value,U a.n,U a.tag]) 39 83 0 1 (E:=QO) a hr7 ⟨rfl,w2,w3,w4,w5⟩ (by have hq_:=K0.1 ‹_›;(try simp only [QO,List.length_append,List.length_cons,List.length_nil]);omega) (by have hq_:=K0.1 ‹_›;(try simp only [QO,List.length_append,List.length_cons,List.length_nil]);omega) (fun a9 c9 r8 hr8=>?_)
 refine JS [(7,Sl a9 ((q.wait++[a]).length) c9),(8,.agg #[I q.most,Sl a9 ((q.wait++[a]).length) c9])] ?_
 refine JZ [2,3,5] [(0,0),(1,10),(8,0),(9,0)] [] [10] (List.forall_mem_nil _) (List.forall_mem_cons.2 ⟨?_,List.forall_mem_nil _⟩)
 refine JO 10 [(4,Pt b3 0),(40,.agg #[I q.most,Sl a9 ((q.wait++[a]).length) c9])] (fun X=>?_)
 refine KQ 2 [r8,[Sg b7 0 [Sr a.name,Sr a.value,U a.n,U a.tag]],[Sg b3 0 [I q.most,Sl a9 ((q.wait++[a]).length) c9]],[Sg b2 0 [Sr a.name,Sr a.value,U a.n,U a.tag]],[Sg b1 0 [I q.most,Sl a1 q.wait.length c1]]] ?_
 refine Kj [(11,I (q.wait.length:Int)),(12,I 0)] ?_
 refine Kv [0,1,2,3,5,8] [(9,0),(11,0),(12,0)] [] [(4,Pt b3 0),(5,I (q.wait.length:Int)),(6,I 0)] (List.forall_mem_nil _) ?_
 refine Ja (Jk ?_)
 refine We (E:=QO) 0 hr8 (by have hq_:=K0.1 ‹_›;(try simp only [QO,List.length_append,List.length_cons,List.length_nil]);omega) (fun G8 hl8 hs5=>?_)
 have hf8:JB q a=((⟨q.most,q.wait++[a]⟩:QF),(q.wait.length:Int),0):=by
  unfold JB Zw YC;simp_all;try omega
 refine Jl [2,0,0] [.agg #[I q.most,Sl a9 ((q.wait++[a]).length) c9],I (q.wait.length:Int),I 0] (JY [] (.cons _ (.cons _ (.cons _ (.cons _ (.cons _ .slnil))))) (Jt.le_trans hl7 hl8) ?_)
 rw [hf8]
 try dsimp only
 exact ⟨a9,c9,rfl,w1,hs5,rfl⟩
theorem Jd0 (G:Jt) (vs_q:List Value) (q:QF) (h_q:Jg8.R G vs_q q) (n:Int) :QE Tryz.prog 58 #[.agg vs_q.toArray,I n] G [] (fun u G' L'=>∃ (a1:Option Addr) (c2:Nat) (a3:Option Addr) (c4:Nat),u=.tuple #[.agg #[I (((JH q n).1).most),Sl a1 ((((JH q n).1).wait).length) c2],Sl a3 (((JH q n).2.1).length) c4,I ((JH q n).2.2)]∧(rI (((JH q n).1).most))∧(RS QO G' a1 c2 (((JH q n).1).wait))∧(RS QO G' a3 c4 ((JH q n).2.1))∧L'=[]):=by
 obtain ⟨a1,c1,rfl,w1,hs1⟩:=h_q
 refine JL Tryz.func58 35 [(0,.agg #[I q.most,Sl a1 q.wait.length c1]),(1,I n)] rfl (fun w0 G0=>?_)
 refine Je (Jb ?_)
 refine Ju 2 #[I q.most,Sl a1 q.wait.length c1] 30 (fun b1=>?_)
 refine Ju 4 #[I 0,Sl none 0 0] 30 (fun b2=>?_)
 refine Jc [0,0] [(1,I n),(2,Pt b1 0),(4,Pt b2 0)] (Jd (Ja (Je (Je (Jb ?_)))))
 refine Jc [4] [(1,I n),(2,Pt b1 0),(4,Pt b2 0),(8,.agg #[I q.most,Sl a1 q.wait.length c1])] ?_
 refine Ji 9 (I (J6 q)) (Vq G [I q.most,Sl a1 q.wait.length c1] q (⟨a1,c1,rfl,w1,hs1⟩)) ?_
 refine Jc [0] [(1,I n),(2,Pt b1 0),(4,Pt b2 0),(7,I (J6 q))] (Jd (Ja ?_))
 refine Jg [0,0] [(1,I n),(2,Pt b1 0),(4,Pt b2 0),(7,I (J6 q)),(11,Bo (!decide (J6 q=0)))] ?_
 refine Jo (!decide (J6 q=0)) (fun h1=>?_) (fun h1=>?_)
 try simp only [BB] at h1
 refine Jg [0,0,3,0,0] [(4,Pt b2 0),(5,Sl none 0 0),(6,I (J6 q))] (Jk (Jh ?_))
 have hf1:JH q n=((⟨0,[]⟩:QF),[],J6 q):=by
  unfold JH YC;simp_all;try omega
 refine Jl [0,0,0] [.agg #[I 0,Sl none 0 0],Sl none 0 0,I (J6 q)] (JY [] (.cons _ (.cons _ .slnil)) (Jt.le_refl _) ?_)
 rw [hf1]
 try dsimp only
 exact ⟨none,0,none,0,rfl,(by omega),(RS.nil' QO G),(RS.nil' QO G),rfl⟩
 try simp only [BB] at h1
 refine Jm (Ja (Je ?_))
 refine Jg [0,0] [(1,I n),(2,Pt b1 0),(4,Pt b2 0),(15,Bo (decide (n<0)))] ?_
 refine Jo (decide (n<0)) (fun h2=>?_) (fun h2=>?_)
 try simp only [BB] at h2
 refine Jg [0,3,0,0] [(4,Pt b2 0),(5,Sl none 0 0),(6,I 4)] (Jk (Jh ?_))
 have hf2:JH q n=((⟨0,[]⟩:QF),[],4):=by
  unfold JH YC;simp_all;try omega
 refine Jl [0,0,0] [.agg #[I 0,Sl none 0 0],Sl none 0 0,I 4] (JY [] (.cons _ (.cons _ .slnil)) (Jt.le_refl _) ?_)
 rw [hf2]
 try dsimp only
 exact ⟨none,0,none,0,rfl,(by omega),(RS.nil' QO G),(RS.nil' QO G),rfl⟩
 try simp only [BB] at h2
 refine Jm (Ja ?_)
 refine Jg [0,0,4,0,0,0] [(1,I (if (q.wait.length:Int)<n then (q.wait.length:Int) else n)),(2,Pt b1 0),(4,Pt b2 0)] ?_
 have e1:(if (q.wait.length:Int)<n then (q.wait.length:Int) else n)=((Qz n q.wait:Nat):Int):=JiX (by omega)
 refine KJ (fr':=[(1,I ((Qz n q.wait:Nat):Int)),(2,Pt b1 0),(4,Pt b2 0)]) (L':=[[Sg b2 0 [I 0,Sl none 0 0]],[Sg b1 0 [I q.most,Sl a1 q.wait.length c1]]]) (by simp only [e1]) (by rfl) ?_
 clear e1
 refine Je ?_
 obtain ⟨a2,c2,ea1,ec1,en1,eh1,hs2⟩:=RS.reslXD hs1 (Qz n q.wait) (by have:=@Jb5 n q.wait;omega)
 obtain ⟨a3,c3,ea2,ec2,en2,eh2,hs3⟩:=RS.reslXT hs1 (Qz n q.wait) (by have:=@Jb5 n q.wait;omega)
 refine Kw [6,12,13] ?_
 refine Wa [(0,Pt b1 0),(1,I q.most),(2,Pt b1 1),(3,Sl a1 q.wait.length c1),(4,I ((Qz n q.wait:Nat):Int)),(5,Sl a2 ((q.wait.drop (Qz n q.wait)).length) c2),(8,Pt b1 1),(9,Sl a1 q.wait.length c1),(10,I ((Qz n q.wait:Nat):Int)),(11,Sl a3 ((q.wait.take (Qz n q.wait)).length) c3)] ?_
 refine JZ [] [(0,0),(1,4),(2,0),(3,4),(4,0),(8,0),(9,4),(10,0)] [5,11] [6] (List.forall_mem_cons.2 ⟨?_,(List.forall_mem_cons.2 ⟨?_,List.forall_mem_nil _⟩)⟩) (List.forall_mem_cons.2 ⟨?_,List.forall_mem_nil _⟩)
 refine Jq 5 27 (Sl a2 ((q.wait.drop (Qz n q.wait)).length) c2) [(25,Sl a1 q.wait.length c1),(26,I ((Qz n q.wait:Nat):Int))] (fun X=>?_)
 exact Wb (a:=a1) (len:=q.wait.length) (cap:=c1) 27 4 (some (I ((Qz n q.wait:Nat):Int))) none (Qz n q.wait) q.wait.length (.inr ⟨_,rfl⟩) (.inl ⟨rfl,rfl⟩) (by have:=@Jb5 n q.wait;omega) ea1 ec1 en1 eh1 Jn
 refine Jq 11 33 (Sl a3 ((q.wait.take (Qz n q.wait)).length) c3) [(31,Sl a1 q.wait.length c1),(32,I ((Qz n q.wait:Nat):Int))] (fun X=>?_)
 exact Wb (a:=a1) (len:=q.wait.length) (cap:=c1) 33 4 none (some (I ((Qz n q.wait:Nat):Int))) 0 (Qz n q.wait) (.inl ⟨rfl,rfl⟩) (.inr ⟨_,rfl⟩) (by exact Nat.zero_le _) ea2 ec2 en2 eh2 Jn
 refine JO 6 [(27,Sl a2 ((q.wait.drop (Qz n q.wait)).length) c2)] (fun X=>?_)
 refine JN 28 (ZW G a2 c2 (q.wait.drop (Qz n q.wait)) hs2) (fun v G1 L1 hl1 hp=>?_)
 obtain ⟨a4,c4,r1,rfl,hr1,rfl⟩:=hp
 refine JS [(6,Sl a4 ((q.wait.drop (Qz n q.wait)).length) c4),(7,.agg #[I q.most,Sl a4 ((q.wait.drop (Qz n q.wait)).length) c4])] ?_
 refine JZ [2,3,4,5] [(0,0),(1,6),(7,0),(8,0),(9,6),(10,0)] [11] [12] (List.forall_mem_cons.2 ⟨?_,List.forall_mem_nil _⟩) (List.forall_mem_cons.2 ⟨?_,List.forall_mem_nil _⟩)
 refine Jq 11 33 (Sl a3 ((q.wait.take (Qz n q.wait)).length) c3) [(31,Sl a1 q.wait.length c1),(32,I ((Qz n q.wait:Nat):Int))] (fun X=>?_)
 exact Wb (a:=a1) (len:=q.wait.length) (cap:=c1) 33 4 none (some (I ((Qz n q.wait:Nat):Int))) 0 (Qz n q.wait) (.inl ⟨rfl,rfl⟩) (.inr ⟨_,rfl⟩) (by exact Nat.zero_le _) ea2 ec2 en2 eh2 Jn
 refine JO 12 [(33,Sl a3 ((q.wait.take (Qz n q.wait)).length) c3)] (fun X=>?_)
 refine JN 34 (ZW G1 a3 c3 (q.wait.take (Qz n q.wait)) (hs3.mono hl1)) (fun v G2 L1 hl2 hp=>?_)
 obtain ⟨a6,c6,r2,rfl,hr2,rfl⟩:=hp
 refine JS [(12,Sl a6 ((q.wait.take (Qz n q.wait)).length) c6)] ?_
 refine JZ [2,3,4,5,8,9,10,11] [(0,0),(1,8),(7,0)] [] [13] (List.forall_mem_nil _) (List.forall_mem_cons.2 ⟨?_,List.forall_mem_nil _⟩)
 refine JO 13 [(4,Pt b2 0),(29,.agg #[I q.most,Sl a4 ((q.wait.drop (Qz n q.wait)).length) c4])] (fun X=>?_)
 refine KQ 2 [r2,r1,[Sg b2 0 [I q.most,Sl a4 ((q.wait.drop (Qz n q.wait)).length) c4]],[Sg b1 0 [I q.most,Sl a1 q.wait.length c1]]] ?_
 refine Kj [(14,Sl a6 ((q.wait.take (Qz n q.wait)).length) c6),(15,I 0)] ?_
 refine Kv [0,1,2,3,4,5,7,8,9,10,11] [(14,0),(15,0)] [] [(4,Pt b2 0),(5,Sl a6 ((q.wait.take (Qz n q.wait)).length) c6),(6,I 0)] (List.forall_mem_nil _) ?_
 refine Ja (Jk ?_)
 refine We (E:=QO) 1 (hr1.mono hl2) (by exact (hs2).fit) (fun G3 hl3 hs5=>?_)
 refine We (E:=QO) 0 (hr2.mono hl3) (by exact (hs3.mono hl1).fit) (fun G4 hl4 hs6=>?_)
 have hf3:JH q n=((⟨q.most,q.wait.drop (Qz n q.wait)⟩:QF),q.wait.take (Qz n q.wait),0):=by
  unfold JH YC;simp_all;try omega
 refine Jl [2,0,0] [.agg #[I q.most,Sl a4 ((q.wait.drop (Qz n q.wait)).length) c4],Sl a6 ((q.wait.take (Qz n q.wait)).length) c6,I 0] (JY [] (.cons _ (.cons _ (.cons _ (.cons _ .slnil)))) (Jt.le_trans (Jt.le_trans (Jt.le_trans hl1 hl2) hl3) hl4) ?_)
 rw [hf3]
 try dsimp only
 exact ⟨a4,c4,a6,c6,rfl,‹_›,(hs5.mono hl4),hs6,rfl⟩
theorem Jd1 (G:Jt) (a:Int) (b:Int) (e:Int) :QE Tryz.prog 57 #[I a,I b,I e] G [] (fun u G' L'=>u=.tuple #[I ((K6 a b e).1),I ((K6 a b e).2)]):=by
 refine JL Tryz.func57 36 [(0,I a),(1,I b),(2,I e)] rfl (fun w0 G0=>?_)
 refine Jg [0,0] [(0,I a),(1,I b),(2,I e)] (Je (Je (Jb ?_)))
 refine Jc [0,0,0] [(0,I a),(1,I b),(2,I e),(10,Bo (decide (a<0)))] ?_
 refine Ky (decide (a<0)) (fun bb=>[(0,I a),(1,I b),(2,I e),(10,Bo bb)]) [1,1,0] [0,0,0] (fun bb=>[(0,I a),(1,I b),(2,I e),(13,Bo (bb || (decide (a > 30))))]) ?_
 refine Jc [0] [(0,I a),(1,I b),(2,I e),(14,Bo ((decide (a<0)) || (decide (a > 30))))] ?_
 refine Ky ((decide (a<0)) || (decide (a > 30))) (fun bb=>[(0,I a),(1,I b),(2,I e),(14,Bo bb)]) [1,1,0] [0,0,0] (fun bb=>[(0,I a),(1,I b),(2,I e),(17,Bo (bb || (decide (b<1))))]) ?_
 refine Jc [0] [(0,I a),(1,I b),(2,I e),(18,Bo (((decide (a<0)) || (decide (a > 30))) || (decide (b<1))))] ?_
 refine Ky (((decide (a<0)) || (decide (a > 30))) || (decide (b<1))) (fun bb=>[(0,I a),(1,I b),(2,I e),(18,Bo bb)]) [1,1,0] [0,0,0] (fun bb=>[(0,I a),(1,I b),(2,I e),(21,Bo (bb || (decide (b > 30))))]) ?_
 refine Jc [0] [(0,I a),(1,I b),(2,I e),(22,Bo ((((decide (a<0)) || (decide (a > 30))) || (decide (b<1))) || (decide (b > 30))))] ?_
 refine Ky ((((decide (a<0)) || (decide (a > 30))) || (decide (b<1))) || (decide (b > 30))) (fun bb=>[(0,I a),(1,I b),(2,I e),(22,Bo bb)]) [1,1,0] [0,0,0] (fun bb=>[(0,I a),(1,I b),(2,I e),(25,Bo (bb || (decide (e<1))))]) ?_
 refine Jc [0] [(0,I a),(1,I b),(2,I e),(26,Bo (((((decide (a<0)) || (decide (a > 30))) || (decide (b<1))) || (decide (b > 30))) || (decide (e<1))))] ?_
 refine Ky (((((decide (a<0)) || (decide (a > 30))) || (decide (b<1))) || (decide (b > 30))) || (decide (e<1))) (fun bb=>[(0,I a),(1,I b),(2,I e),(26,Bo bb)]) [1,1,0] [0,0,0] (fun bb=>[(0,I a),(1,I b),(2,I e),(29,Bo (bb || (decide (e > 1000))))]) ?_
 refine Jd (Ja ?_)
 refine Jo ((((((decide (a<0)) || (decide (a > 30))) || (decide (b<1))) || (decide (b > 30))) || (decide (e<1))) || (decide (e > 1000))) (fun h1=>?_) (fun h1=>?_)
 try simp only [BB] at h1
 refine Jg [0,0] [(6,I 0),(7,I 4)] (Jk (Jh ?_))
 refine Jl [0,0] [I 0,I 4] (Jv (Jt.le_refl _) ?_)
 have hf_:(K6 a b e)=(0,4):=by
  unfold K6;(rw [if_pos (by omega)];done)
 · (try rw [hf_]);(simp only [JM];done)
 try simp only [BB] at h1
 refine Jm (Ja (Je (Jb ?_)))
 refine Jc [0,0] [(2,I e),(30,I a),(31,I b)] ?_
 refine Jbr (k:=.i64) (x:=a) (y:=b) 32 true ((a).tdiv b) (by omega) (by simp only [cond_true];exact IntWalk.i64_in _ (by (have:=Jc3 (a:=a) (b:=b) (by omega) (by omega);omega))) ?_
 refine Jc [0,0,0,0,0] [(6,I (IntKind.i64.wrap ((IntKind.i64.wrap (((a).tdiv b)+1))*e))),(7,I 0)] ?_
 have e1:IntKind.i64.wrap (((a).tdiv b)+1)=((a).tdiv b)+1:=IntWalk.i64_in _ (by (have:=Jc3 (a:=a) (b:=b) (by omega) (by omega);omega))
 have e2:IntKind.i64.wrap ((((a).tdiv b)+1)*e)=(((a).tdiv b)+1)*e:=IntWalk.i64_in _ (by (have:=Jc3 (a:=a) (b:=b) (by omega) (by omega);(have:=Jh8 (a:=a.tdiv b+1) (b:=e) (by omega) (by omega);omega)))
 refine J2 (fr':=[(6,I ((((a).tdiv b)+1)*e)),(7,I 0)]) (L':=[]) (by simp only [e1,e2]) (by rfl) ?_
 clear e2 e1
 refine Jd (Ja (Jk ?_))
 refine Jl [0,0] [I ((((a).tdiv b)+1)*e),I 0] (Jv (Jt.le_refl _) ?_)
 have hf_:(K6 a b e)=(((((a).tdiv b)+1)*e),0):=by
  unfold K6;(rw [if_neg (by omega)];done)
 · (try rw [hf_]);(simp only [JM];done)
end Go.Proofs.YtnnlpbjdignhaaaGreatDoor
